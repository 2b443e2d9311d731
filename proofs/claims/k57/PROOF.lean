import PyProof.Rows.All
import Wide.All
import OpenK.AllK
import Wide.FinOn
import PyProof.EqAt
import PyProof.EqKinds
import PyProof.TupleCall
import HandS.Base
import HandS.Call
import HandS.List
import HandS.Comp
import HandS.Exc
import HandS.Lambda
import HandS.Words
import HandS.Text
import HandS.TupAny
import HandS.IsInst
import HandS.Wide
import HandS.Dict
import HandS.WordsDict
import HandS.Deep
import HandS.Flow
import HandS.Defaults
import HandS.ExcInit
import HandS.Property
import HandS.WordsExc
import HandS.FStr
import HandS.Iter
import HandS.Zip
import KE.KExcInit
import HandS.MakeKw
import HandS.ClsMeth
import HandS.Head0
import HandS.Head1
import HandS.Head2
import HandS.HeadEnd
import HandS.HeadHook1
import HandS.HeadHook2
import HandS.HeadWalk
import HandS.EndTab
import HandS.MakeKwOnly
import PyProof.ExcBaseAll.LookupError
import PyProof.ExcBaseAll.IndexError
import HandS.Style
import HandS.More
import HandS.StrMore
import HandS.RaiseMore
import KE.DataMinMax
import HandS.OwnEq
import HandS.TryMany
import HandS.ExcField
import HandS.HotCalls
import KE.KTryMore
import HandS.NestedK
import PyProof.StrLawsFirst
import PyProof.ListStr
import PyProof.StrLawsTight
import PyProof.FitsReplace
import HandS.TryOnly
import KE.KDictDisplayH
import HandS.Replace
import HandS.Finally
import HandS.Star
import PyProof.LongRange
import KE.KUnpackStar
import HandS.Conv
import KE.KDictPairs
import KE.IntTextLaws
import HandS.SuiteRaise
import HandS.RaiseFrom
import HandS.ExcInitHot
import PySem.Challenge.RW_turnmill_k57_whole_tables_of_programs
set_option Elab.async false
set_option linter.all false
set_option maxRecDepth 100000
set_option maxHeartbeats 4000000
namespace Z
open PySem PySem.Spec PyProof.Rows L2

inductive D where
  | non | bl (b : Bool) | int (i : Int) | str (x : Str) | ty (n : String) | ref (a : Addr)
  | tup (l : List D) | lst (l : List D) | dic (l : List (D × D)) | obj (C : Addr) (fs : List (Str × D)) | lk (l : List D)
  | fn (Q : L2.Hp → Addr → Prop)
  | tpl (l : List D)
  | dlk (l : List (D × D))
inductive Cell where
  | lst (l : List D) | dic (l : List (D × D)) | ins (C : Addr) (fs : List (Str × D))
  | tab (q : Str)
  | dit (l : List (D × D))
abbrev Sto := Addr → Option Cell
abbrev En := List (Option D)

def keyD : D → Option Key
  | .int i => some (.inl i)
  | .str x => some (.inr x)
  | _ => none
def keysD : List D → Option (List Key)
  | [] => some []
  | d :: r => match keyD d, keysD r with
    | some k, some ks => some (k :: ks)
    | _, _ => none
def keyT : D → Option (List Key)
  | .tup l => keysD l
  | _ => none

def Sub (G G' : Hp) : Prop := ∀ a o, G a = some o → G' a = some o
theorem Sub.rfl' {G : Hp} : Sub G G := fun _ _ h => h
theorem Sub.tr {G G1 G2 : Hp} (a : Sub G G1) (b : Sub G1 G2) : Sub G G2 := fun c o h => b c o (a c o h)
theorem Sub.rd {G G' : Hp} {a : Addr} {u : HO} (s : Sub G G') (h : Rd G a u) : Rd G' a u := h.imp (s _ _) fun ⟨o, h⟩ => ⟨o, s _ _ h⟩
theorem Sub.sqL {K : PySem.W.Frag} {G G' : Hp} {a : Addr} {xs : List V} (s : Sub G G') (h : SqL K G a xs) : SqL K G' a xs := by
  rcases h with (h | ⟨o, h⟩) | h
  · exact .inl (.inl (s _ _ h))
  · exact .inl (.inr ⟨o, s _ _ h⟩)
  · exact .inr h
theorem Sub.sqT {K : PySem.W.Frag} {G G' : Hp} {a : Addr} {xs : List V} (s : Sub G G') (h : SqT K G a xs) : SqT K G' a xs := by
  rcases h with (h | ⟨o, h⟩) | h
  · exact .inl (.inl (s _ _ h))
  · exact .inl (.inr ⟨o, s _ _ h⟩)
  · exact .inr h

mutual
inductive Rep (K : PySem.W.Frag) (G : Hp) : D → V → Prop
  | non : Rep K G .non .non
  | bl {b : Bool} : Rep K G (.bl b) (.bl b)
  | int {i : Int} : Rep K G (.int i) (.int i)
  | str {x : Str} : Rep K G (.str x) (.str x)
  | ty {n : String} : Rep K G (.ty n) (.ty n)
  | ref {a : Addr} : Rep K G (.ref a) (.ref a)
  | tup {l : List D} {a : Addr} {vs : List V} : SqT K G a vs → RepL K G l vs → Rep K G (.tup l) (.ref a)
  | tpl {l : List D} {a : Addr} {vs : List V} : G a = some (.tup vs) → RepL K G l vs → Rep K G (.tpl l) (.ref a)
  | fn {Q : Hp → Addr → Prop} {a : Addr} {G0 : Hp} : Sub G0 G → Q G0 a → Rep K G (.fn Q) (.ref a)
  | lst {l : List D} {a : Addr} {vs : List V} : Rd G a (.lst vs) → RepL K G l vs → Rep K G (.lst l) (.ref a)
  | lk {l : List D} {a : Addr} {vs : List V} : SqL K G a vs → RepL K G l vs → Rep K G (.lk l) (.ref a)
  | dic {l : List (D × D)} {a : Addr} {kvs : List (Key × V)} : G a = some (.dK kvs) → RepD K G l kvs → Rep K G (.dic l) (.ref a)
  | dit {l : List (D × D)} {a : Addr} {kvs : List (List Key × V)} : G a = some (.dT kvs) → RepT K G l kvs → Rep K G (.dic l) (.ref a)
  | dlk {l : List (D × D)} {a : Addr} {o : Obj} {kvs : List (Key × V)} : G a = some (.frz o (.dK kvs)) → RepD K G l kvs → Rep K G (.dlk l) (.ref a)
  | obj {C : Addr} {fs : List (Str × D)} {a dx : Addr} {fvs : List (Str × V)} : G a = some (.ins C dx fvs) → RepF K G fs fvs → Rep K G (.obj C fs) (.ref a)
inductive RepL (K : PySem.W.Frag) (G : Hp) : List D → List V → Prop
  | nil : RepL K G [] []
  | cons {d : D} {ds : List D} {v : V} {vs : List V} : Rep K G d v → RepL K G ds vs → RepL K G (d :: ds) (v :: vs)
inductive RepF (K : PySem.W.Frag) (G : Hp) : List (Str × D) → List (Str × V) → Prop
  | nil : RepF K G [] []
  | cons {f : Str} {d : D} {ds : List (Str × D)} {v : V} {vs : List (Str × V)} : Rep K G d v → RepF K G ds vs → RepF K G ((f, d) :: ds) ((f, v) :: vs)
inductive RepD (K : PySem.W.Frag) (G : Hp) : List (D × D) → List (Key × V) → Prop
  | nil : RepD K G [] []
  | cons {c d : D} {k : Key} {ds : List (D × D)} {v : V} {vs : List (Key × V)} : keyD c = some k → Rep K G d v → RepD K G ds vs → RepD K G ((c, d) :: ds) ((k, v) :: vs)
inductive RepT (K : PySem.W.Frag) (G : Hp) : List (D × D) → List (List Key × V) → Prop
  | nil : RepT K G [] []
  | cons {c d : D} {k : List Key} {ds : List (D × D)} {v : V} {vs : List (List Key × V)} : keyT c = some k → Rep K G d v → RepT K G ds vs → RepT K G ((c, d) :: ds) ((k, v) :: vs)
end

section
variable {K : PySem.W.Frag} {G G' : Hp}
mutual
theorem Rep.mono (s : Sub G G') : ∀ {d : D} {v : V}, Rep K G d v → Rep K G' d v
  | _, _, .non => .non
  | _, _, .bl => .bl
  | _, _, .int => .int
  | _, _, .str => .str
  | _, _, .ty => .ty
  | _, _, .ref => .ref
  | _, _, .tup h r => .tup (s.sqT h) (r.mono s)
  | _, _, .tpl h r => .tpl (s _ _ h) (r.mono s)
  | _, _, .fn h q => .fn (h.tr s) q
  | _, _, .lst h r => .lst (s.rd h) (r.mono s)
  | _, _, .lk h r => .lk (s.sqL h) (r.mono s)
  | _, _, .dic h r => .dic (s _ _ h) (r.mono s)
  | _, _, .dlk h r => .dlk (s _ _ h) (r.mono s)
  | _, _, .dit h r => .dit (s _ _ h) (r.mono s)
  | _, _, .obj h r => .obj (s _ _ h) (r.mono s)
theorem RepL.mono (s : Sub G G') : ∀ {d : List D} {v : List V}, RepL K G d v → RepL K G' d v
  | _, _, .nil => .nil
  | _, _, .cons h r => .cons (h.mono s) (r.mono s)
theorem RepF.mono (s : Sub G G') : ∀ {d : List (Str × D)} {v : List (Str × V)}, RepF K G d v → RepF K G' d v
  | _, _, .nil => .nil
  | _, _, .cons h r => .cons (h.mono s) (r.mono s)
theorem RepD.mono (s : Sub G G') : ∀ {d : List (D × D)} {v : List (Key × V)}, RepD K G d v → RepD K G' d v
  | _, _, .nil => .nil
  | _, _, .cons e h r => .cons e (h.mono s) (r.mono s)
theorem RepT.mono (s : Sub G G') : ∀ {d : List (D × D)} {v : List (List Key × V)}, RepT K G d v → RepT K G' d v
  | _, _, .nil => .nil
  | _, _, .cons e h r => .cons e (h.mono s) (r.mono s)
end
theorem RepL.length : ∀ {ds : List D} {vs : List V}, RepL K G ds vs → ds.length = vs.length
  | _, _, .nil => rfl
  | _, _, .cons _ r => congrArg (· + 1) r.length
theorem RepL.get : ∀ {ds : List D} {vs : List V} {i : Nat} {d : D}, RepL K G ds vs → ds[i]? = some d → ∃ v, vs[i]? = some v ∧ Rep K G d v
  | _, _, _, _, .nil, e => by simp at e
  | _, _, 0, _, .cons r _, e => by simp at e; subst e; exact ⟨_, rfl, r⟩
  | _, _, i + 1, d, .cons _ t, e => by
    obtain ⟨u, h1, h2⟩ := t.get (i := i) (d := d) (by simpa using e)
    exact ⟨u, by simpa using h1, h2⟩
theorem RepL.app : ∀ {xs ys : List D} {us ws : List V}, RepL K G xs us → RepL K G ys ws → RepL K G (xs ++ ys) (us ++ ws)
  | _, _, _, _, .nil, s => s
  | _, _, _, _, .cons r t, s => .cons r (t.app s)
theorem RepL.set {x : D} {u : V} (r : Rep K G x u) : ∀ {xs : List D} {us : List V} (i : Nat), RepL K G xs us → RepL K G (xs.set i x) (us.set i u)
  | _, _, _, .nil => .nil
  | _, _, 0, .cons _ t => .cons r t
  | _, _, i + 1, .cons q t => .cons q (RepL.set r i t)
theorem RepL.take : ∀ {xs : List D} {us : List V} (n : Nat), RepL K G xs us → RepL K G (xs.take n) (us.take n)
  | _, _, 0, _ => .nil
  | _, _, _ + 1, .nil => .nil
  | _, _, n + 1, .cons r t => .cons r (t.take n)
theorem RepL.drop : ∀ {xs : List D} {us : List V} (n : Nat), RepL K G xs us → RepL K G (xs.drop n) (us.drop n)
  | _, _, 0, r => r
  | _, _, _ + 1, .nil => .nil
  | _, _, n + 1, .cons _ t => t.drop n
theorem RepF.length : ∀ {ds : List (Str × D)} {vs : List (Str × V)}, RepF K G ds vs → ds.length = vs.length
  | _, _, .nil => rfl
  | _, _, .cons _ r => congrArg (· + 1) r.length
theorem RepF.look {f : Str} : ∀ {ds : List (Str × D)} {vs : List (Str × V)} {d : D}, RepF K G ds vs → ds.lookup f = some d → ∃ v, vs.lookup f = some v ∧ Rep K G d v
  | _, _, _, .nil, e => by cases e
  | _, _, d, .cons (f := g) r t, e => by
    rw [List.lookup_cons] at e ⊢
    cases q : f == g with
    | true => rw [q] at e; cases e; exact ⟨_, rfl, r⟩
    | false => rw [q] at e; exact t.look e
theorem RepF.none {f : Str} : ∀ {ds : List (Str × D)} {vs : List (Str × V)}, RepF K G ds vs → ds.lookup f = none → vs.lookup f = none
  | _, _, .nil, _ => rfl
  | _, _, .cons (f := g) r t, e => by
    rw [List.lookup_cons] at e ⊢
    cases q : f == g with
    | true => rw [q] at e; cases e
    | false => rw [q] at e; exact t.none e
end

def putD (f : Str) (d : D) : List (Str × D) → List (Str × D)
  | [] => [(f, d)]
  | (g, x) :: r => if g = f then (g, d) :: r else (g, x) :: putD f d r
end Z
namespace Z
open PySem PySem.Spec PyProof.Rows L2

def CellAt (K : PySem.W.Frag) (G H : Hp) (a : Addr) : Cell → Prop
  | .lst l => ∃ vs, H a = some (.lst vs) ∧ RepL K G l vs
  | .dic l => ∃ kvs, H a = some (.dK kvs) ∧ RepD K G l kvs
  | .dit l => ∃ kvs, H a = some (.dT kvs) ∧ RepT K G l kvs
  | .ins C fs => ∃ dx fvs, H a = some (.ins C dx fvs) ∧ RepF K G fs fvs
  | .tab q => ∃ ps : Array Value, H a = some (.tbl ps) ∧ TriplesOk ps.toList ∧ ∀ (pos : Pos) (cv : Value), codeAmong pos ps.toList = some cv → ∃ c, cv = .ref c ∧ G c = some (LamX.CodeO c q)
theorem CellAt.there {K : PySem.W.Frag} {G H : Hp} {a : Addr} {c : Cell} (h : CellAt K G H a c) : H a ≠ none := by
  cases c with
  | lst l => obtain ⟨_, e, _⟩ := h; rw [e]; simp
  | dic l => obtain ⟨_, e, _⟩ := h; rw [e]; simp
  | dit l => obtain ⟨_, e, _⟩ := h; rw [e]; simp
  | ins C fs => obtain ⟨_, _, e, _⟩ := h; rw [e]; simp
  | tab q => obtain ⟨_, e, _⟩ := h; rw [e]; simp
theorem CellAt.move {K : PySem.W.Frag} {G G' H H' : Hp} {a : Addr} {c : Cell} (s : Sub G G') (e : ∀ o, H a = some o → H' a = some o) (h : CellAt K G H a c) : CellAt K G' H' a c := by
  cases c with
  | lst l => obtain ⟨_, h, r⟩ := h; exact ⟨_, e _ h, r.mono s⟩
  | dic l => obtain ⟨_, h, r⟩ := h; exact ⟨_, e _ h, r.mono s⟩
  | dit l => obtain ⟨_, h, r⟩ := h; exact ⟨_, e _ h, r.mono s⟩
  | ins C fs => obtain ⟨_, _, h, r⟩ := h; exact ⟨_, _, e _ h, r.mono s⟩
  | tab q => obtain ⟨_, h, t, r⟩ := h; exact ⟨_, e _ h, t, fun pos cv hc => let ⟨c, e1, e2⟩ := r pos cv hc; ⟨c, e1, s _ _ e2⟩⟩

structure Wd (K : PySem.W.Frag) (M : Sto) (H G : Hp) : Prop where
  sub : Sub G H
  cells : ∀ a c, M a = some c → G a = none ∧ CellAt K G H a c
structure Bs where
  H : Hp
  G : Hp
  M : Sto
structure Since (H0 G0 : Hp) (M0 : Sto) (M : Sto) (H G : Hp) : Prop where
  keep : ∀ a o, H0 a = some o → M0 a = none → H a = some o
  stay : ∀ a, H0 a ≠ none → H a ≠ none
  gsub : Sub G0 G
  gnew : ∀ a, G a ≠ none → G0 a = none → H0 a = none
  mnew : ∀ a, M a ≠ none → M0 a = none → H0 a = none
structure Rel (K : PySem.W.Frag) (B : Bs) (r : En) (M : Sto) (σ : L2.St) (H G : Hp) : Prop where
  wd : Wd K M H G
  len : r.length = σ.length
  slots : ∀ (i : Nat) d, r[i]? = some (some d) → ∃ v, σ[i]? = some (some v) ∧ Rep K G d v
  sin : Since B.H B.G B.M M H G

theorem Since.refl {H G : Hp} {M : Sto} : Since H G M M H G := ⟨fun _ _ h _ => h, fun _ h => h, Sub.rfl', fun _ h e => absurd e h, fun _ h e => absurd e h⟩
theorem Since.trans {K : PySem.W.Frag} {H0 G0 H1 G1 H2 G2 : Hp} {M0 M1 M2 : Sto} (w1 : Wd K M1 H1 G1) (a : Since H0 G0 M0 M1 H1 G1) (b : Since H1 G1 M1 M2 H2 G2) : Since H0 G0 M0 M2 H2 G2 where
  keep := fun c o h n => b.keep c o (a.keep c o h n) (by
    cases q : M1 c with
    | none => rfl
    | some x => have := a.mnew c (by rw [q]; simp) n; rw [this] at h; cases h)
  stay := fun c h => b.stay c (a.stay c h)
  gsub := a.gsub.tr b.gsub
  gnew := fun c h n => by
    cases q : G1 c with
    | some x => exact a.gnew c (by rw [q]; simp) n
    | none =>
      have h1 := b.gnew c h q
      cases z : H0 c with
      | none => rfl
      | some o => exact absurd h1 (a.stay c (by rw [z]; simp))
  mnew := fun c h n => by
    cases q : M1 c with
    | some x => exact a.mnew c (by rw [q]; simp) n
    | none =>
      have h1 := b.mnew c h q
      cases z : H0 c with
      | none => rfl
      | some o => exact absurd h1 (a.stay c (by rw [z]; simp))
theorem Rel.go {K : PySem.W.Frag} {B : Bs} {r : En} {M M' : Sto} {σ : L2.St} {H G H' G' : Hp} (R : Rel K B r M σ H G) (w : Wd K M' H' G') (s : Since H G M M' H' G') : Rel K B r M' σ H' G' :=
  ⟨w, R.len, fun i d e => let ⟨v, h1, h2⟩ := R.slots i d e; ⟨v, h1, h2.mono s.gsub⟩, Since.trans R.wd R.sin s⟩
structure Grow (H G H' G' : Hp) : Prop where
  same : ∀ a o, H a = some o → H' a = some o
  gsub : Sub G G'
  sub : Sub G' H'
  gnew : ∀ a, G' a ≠ none → G a = none → H a = none
theorem Grow.refl {H G : Hp} (s : Sub G H) : Grow H G H G := ⟨fun _ _ h => h, Sub.rfl', s, fun _ h e => absurd e h⟩
theorem Grow.since {K : PySem.W.Frag} {M : Sto} {H G H' G' : Hp} (w : Wd K M H G) (g : Grow H G H' G') : Since H G M M H' G' :=
  ⟨fun a o h _ => g.same a o h, fun a h => by
    cases q : H a with
    | none => exact absurd q h
    | some o => rw [g.same a o q]; simp, g.gsub, g.gnew, fun a h e => absurd e h⟩
theorem Grow.wd {K : PySem.W.Frag} {M : Sto} {H G H' G' : Hp} (w : Wd K M H G) (g : Grow H G H' G') : Wd K M H' G' :=
  ⟨g.sub, fun a c e => by
    obtain ⟨h1, h2⟩ := w.cells a c e
    refine ⟨?_, h2.move g.gsub (g.same a)⟩
    cases q : G' a with
    | none => rfl
    | some o => exact absurd (g.gnew a (by rw [q]; simp) h1) h2.there⟩
theorem Rel.grow {K : PySem.W.Frag} {B : Bs} {r : En} {M : Sto} {σ : L2.St} {H G H' G' : Hp} (R : Rel K B r M σ H G) (g : Grow H G H' G') : Rel K B r M σ H' G' := R.go (g.wd R.wd) (g.since R.wd)
theorem Grow.trans {H G H1 G1 H2 G2 : Hp} (a : Grow H G H1 G1) (b : Grow H1 G1 H2 G2) : Grow H G H2 G2 :=
  ⟨fun c o h => b.same c o (a.same c o h), a.gsub.tr b.gsub, b.sub, fun c h n => by
    cases q : G1 c with
    | some x => exact a.gnew c (by rw [q]; simp) n
    | none =>
      have h1 := b.gnew c h q
      cases z : H c with
      | none => rfl
      | some o => rw [a.same c o z] at h1; cases h1⟩
theorem grow_upd {H G : Hp} {p : Addr} {o : HO} (s : Sub G H) (hp : H p = none) : Grow H G (upd H p o) (upd G p o) where
  same := fun a u h => by rw [upd_ne (ne_of_none h hp)]; exact h
  gsub := fun a u h => by rw [upd_ne (ne_of_none (s _ _ h) hp)]; exact h
  sub := fun a u h => by
    by_cases e : a = p
    · subst e; rw [upd_same] at h ⊢; exact h
    · rw [upd_ne e] at h ⊢; exact s _ _ h
  gnew := fun a h n => by
    by_cases e : a = p
    · subst e; exact hp
    · rw [upd_ne e] at h; exact absurd n h

abbrev PD := D → Sto → Prop
abbrev DTE := En → Sto → PD → Prop
abbrev DTT := En → Sto → (Bool → Sto → Prop) → Prop
abbrev DTA := En → Sto → (List D → Sto → Prop) → Prop
structure Ek where
  nx : En → Sto → Prop
  rt : D → Sto → Prop
  bk : En → Sto → Prop := fun _ _ => False
  ct : En → Sto → Prop := fun _ _ => False
abbrev DTS := Ek → En → Sto → Prop
abbrev DTG := D → En → Sto → (En → Sto → Prop) → Prop

def lift (K : PySem.W.Frag) (B : Bs) (f : DTE) : TE := fun σ H Q => ∃ r M G Ψ, Rel K B r M σ H G ∧ f r M Ψ ∧ ∀ d M' v H' G', Ψ d M' → Rel K B r M' σ H' G' → Sub G G' → Rep K G' d v → Q v H'
def liftT (K : PySem.W.Frag) (B : Bs) (f : DTT) : TT := fun σ H Q => ∃ r M G Ψ, Rel K B r M σ H G ∧ f r M Ψ ∧ ∀ b M' H' G', Ψ b M' → Rel K B r M' σ H' G' → Sub G G' → Q b H'
def liftA (K : PySem.W.Frag) (B : Bs) (f : DTA) : TA := fun σ H Q => ∃ r M G Ψ, Rel K B r M σ H G ∧ f r M Ψ ∧ ∀ ds M' vs H' G', Ψ ds M' → Rel K B r M' σ H' G' → Sub G G' → RepL K G' ds vs → Q vs H'
structure EkOk (K : PySem.W.Frag) (B : Bs) (G : Hp) (E : Ek) (D' : Ends) : Prop where
  nx : ∀ r' M' σ' H' G', E.nx r' M' → Rel K B r' M' σ' H' G' → Sub G G' → D'.nx σ' H'
  rt : ∀ d r' M' v σ' H' G', E.rt d M' → Rel K B r' M' σ' H' G' → Rep K G' d v → D'.rt v H'
  bk : ∀ r' M' σ' H' G', E.bk r' M' → Rel K B r' M' σ' H' G' → Sub G G' → D'.bk σ' H'
  ct : ∀ r' M' σ' H' G', E.ct r' M' → Rel K B r' M' σ' H' G' → Sub G G' → D'.ct σ' H'
theorem EkOk.mono {K : PySem.W.Frag} {B : Bs} {G G1 : Hp} {E : Ek} {D' : Ends} (k : EkOk K B G E D') (s : Sub G G1) : EkOk K B G1 E D' :=
  ⟨fun r' M' σ' H' G' q R t => k.nx r' M' σ' H' G' q R (s.tr t), k.rt, fun r' M' σ' H' G' q R t => k.bk r' M' σ' H' G' q R (s.tr t), fun r' M' σ' H' G' q R t => k.ct r' M' σ' H' G' q R (s.tr t)⟩
def liftS (K : PySem.W.Frag) (B : Bs) (f : DTS) : TS := fun D σ H => ∃ r M G E, Rel K B r M σ H G ∧ f E r M ∧ EkOk K B G E D
def liftG (K : PySem.W.Frag) (B : Bs) (f : DTG) : TG := fun v σ H Q => ∃ d r M G Ψ, Rel K B r M σ H G ∧ Rep K G d v ∧ f d r M Ψ ∧ ∀ r' M' σ' H' G', Ψ r' M' → Rel K B r' M' σ' H' G' → Sub G G' → Q σ' H'

theorem PE_imp {X : Cx} {e : Expr} {t t' : TE} (h : PE X e t) (i : ∀ σ H Q, t' σ H Q → t σ H Q) : PE X e t' := ⟨fun pins s σ H Q I q => h.run pins s σ H Q I (i _ _ _ q)⟩
theorem PT_imp {X : Cx} {e : Expr} {t t' : TT} (h : PT X e t) (i : ∀ σ H Q, t' σ H Q → t σ H Q) : PT X e t' := ⟨fun pins s σ H Q I q => h.run pins s σ H Q I (i _ _ _ q)⟩
theorem PW_imp {X : Cx} {e : Expr} {t t' : TT} (h : PW X e t) (i : ∀ σ H Q, t' σ H Q → t σ H Q) : PW X e t' := ⟨fun wh pins s σ H Q I q => h.run wh pins s σ H Q I (i _ _ _ q)⟩
theorem PA_imp {X : Cx} {e : List Expr} {t t' : TA} (h : PA X e t) (i : ∀ σ H Q, t' σ H Q → t σ H Q) : PA X e t' := ⟨fun pos pins s σ H Q I q => h.run pos pins s σ H Q I (i _ _ _ q)⟩
theorem PS_imp {X : Cx} {e : Stmt} {t t' : TS} (h : PS X e t) (i : ∀ D σ H, t' D σ H → t D σ H) : PS X e t' := ⟨fun pins s σ H D I q => h.run pins s σ H D I (i _ _ _ q)⟩
theorem PSs_imp {X : Cx} {e : List Stmt} {t t' : TS} (h : PSs X e t) (i : ∀ D σ H, t' D σ H → t D σ H) : PSs X e t' := ⟨fun pins s σ H D I q => h.run pins s σ H D I (i _ _ _ q)⟩
theorem PG_imp {X : Cx} {e : Expr} {t t' : TG} (h : PG X e t) (i : ∀ v σ H Q, t' v σ H Q → t v σ H Q) : PG X e t' := ⟨fun pins s σ H x v Q I r q => h.run pins s σ H x v Q I r (i _ _ _ _ q)⟩
abbrev DE (X : Cx) (B : Bs) (e : Expr) (f : DTE) : Prop := PE X e (lift X.K B f)
abbrev DT (X : Cx) (B : Bs) (e : Expr) (f : DTT) : Prop := PT X e (liftT X.K B f)
abbrev DW (X : Cx) (B : Bs) (e : Expr) (f : DTT) : Prop := PW X e (liftT X.K B f)
abbrev DA (X : Cx) (B : Bs) (e : List Expr) (f : DTA) : Prop := PA X e (liftA X.K B f)
abbrev DS (X : Cx) (B : Bs) (e : Stmt) (f : DTS) : Prop := PS X e (liftS X.K B f)
abbrev DSs (X : Cx) (B : Bs) (e : List Stmt) (f : DTS) : Prop := PSs X e (liftS X.K B f)
abbrev DG (X : Cx) (B : Bs) (e : Expr) (f : DTG) : Prop := PG X e (liftG X.K B f)

section
variable {X : Cx} {B : Bs} {pos : Pos} {a b e : Expr} {es : List Expr} {fa fb : DTE} {ga : DTA}
def getS (r : En) (i : Nat) (k : D → Prop) : Prop := match r[i]? with
  | some (some d) => k d
  | _ => False
theorem getS_some {r : En} {i : Nat} {k : D → Prop} (h : getS r i k) : ∃ d, r[i]? = some (some d) ∧ k d := by
  unfold getS at h
  split at h
  · rename_i d e
    exact ⟨d, e, h⟩
  · exact h.elim
theorem de_var {i : Nat} {x : Str} (hN : X.N[i]? = some x := by rfl) (hv : Vis X.env.scope x := by first | exact Or.inl rfl | exact Or.inr (Or.inl rfl) | exact Or.inr (Or.inr rfl)) (hd : (x == ("__debug__" : Str)) = false := by decide)
    (hcd : (x == ("__classdict__" : Str)) = false := by decide) : DE X B (.Name x pos) (fun r M Ψ => getS r i fun d => Ψ d M) := by
  refine PE_imp (pe_var hN hv hd hcd) fun σ H Q ⟨r, M, G, Ψ, R, h, k⟩ => ?_
  obtain ⟨d, e, h⟩ := getS_some h
  obtain ⟨v, h1, h2⟩ := R.slots _ _ e
  exact ⟨v, h1, k d M v H G h R Sub.rfl' h2⟩
theorem de_c {v : V} (h : PE X e (tC v)) {d : D} (hr : ∀ G, Rep X.K G d v) : DE X B e (fun _ M Ψ => Ψ d M) :=
  PE_imp h fun σ H Q ⟨r, M, G, Ψ, R, h, k⟩ => k _ _ _ _ _ h R Sub.rfl' (hr G)
theorem de_int {i j} : DE X B (.Constant (.int i) j pos) (fun _ M Ψ => Ψ (.int i) M) := de_c pe_int fun _ => .int
theorem de_bl {b j} : DE X B (.Constant (.bool b) j pos) (fun _ M Ψ => Ψ (.bl b) M) := de_c pe_bl fun _ => .bl
theorem de_non {j} : DE X B (.Constant .none j pos) (fun _ M Ψ => Ψ .non M) := de_c pe_non fun _ => .non
theorem de_str {x j} : DE X B (.Constant (.str x) j pos) (fun _ M Ψ => Ψ (.str x) M) := de_c pe_str fun _ => .str
theorem de_glob {x : Str} {v : V} {u : Value} {d : D} (hm : X.mg x = some u) (r : RelV v u) (hr : ∀ G, Rep X.K G d v) (hg : Gl X x := by rfl) (hd : (x == ("__debug__" : Str)) = false := by decide) : DE X B (.Name x pos) (fun _ M Ψ => Ψ d M) := de_c (pe_glob hg hm r hd) hr

theorem da_nil : DA X B [] (fun _ M Ψ => Ψ [] M) := PA_imp pa_nil fun σ H Q ⟨r, M, G, Ψ, R, h, k⟩ => k [] M [] H G h R Sub.rfl' .nil
theorem da_cons {fs : DTA} (ha : DE X B e fa) (hr : DA X B es fs) (hs : starEach (e :: es) X.env = (false, eval e X.env) :: starEach es X.env := by rfl) :
    DA X B (e :: es) (fun r M Ψ => fa r M fun d M1 => fs r M1 fun ds M2 => Ψ (d :: ds) M2) := by
  refine PA_imp (pa_cons ha hr hs) fun σ H Q ⟨r, M, G, Ψ, R, h, k⟩ => ?_
  refine ⟨r, M, G, _, R, h, fun d M1 v H1 G1 q1 R1 s1 p1 => ?_⟩
  exact ⟨r, M1, G1, _, R1, q1, fun ds M2 vs H2 G2 q2 R2 s2 p2 => k _ _ _ _ _ q2 R2 (s1.tr s2) (.cons (p1.mono s2) p2)⟩
theorem de_tup {x1} (h : DA X B es ga) : DE X B (.Tuple es x1 pos) (fun r M Ψ => ga r M fun ds M1 => ds.length ≤ sizeLine ∧ Ψ (.tup ds) M1) := by
  refine PE_imp (pe_tup h) fun σ H Q ⟨r, M, G, Ψ, R, h, k⟩ => ?_
  refine ⟨r, M, G, _, R, h, fun ds M1 vs H1 G1 ⟨z, q⟩ R1 s1 p1 => ⟨by rw [← p1.length]; exact z, fun p hp => ?_⟩⟩
  have g : Grow H1 G1 (upd H1 p (.tup vs)) (upd G1 p (.tup vs)) := grow_upd R1.wd.sub hp
  exact k _ _ _ _ _ q (R1.grow g) (s1.tr g.gsub) (.tup (SqT.of upd_same) (p1.mono g.gsub))
theorem de_lst (h : DA X B es ga) : DE X B (.List es pos) (fun r M Ψ => ga r M fun ds M1 => ds.length ≤ sizeLine ∧ Ψ (.lst ds) M1) := by
  refine PE_imp (pe_lst h) fun σ H Q ⟨r, M, G, Ψ, R, h, k⟩ => ?_
  refine ⟨r, M, G, _, R, h, fun ds M1 vs H1 G1 ⟨z, q⟩ R1 s1 p1 => ⟨by rw [← p1.length]; exact z, fun p hp => ?_⟩⟩
  have g : Grow H1 G1 (upd H1 p (.lst vs)) (upd G1 p (.lst vs)) := grow_upd R1.wd.sub hp
  exact k _ _ _ _ _ q (R1.grow g) (s1.tr g.gsub) (.lst (.inl upd_same) (p1.mono g.gsub))
def updM (M : Sto) (p : Addr) (c : Cell) : Sto := fun a => if a = p then some c else M a
theorem updM_same {M : Sto} {p : Addr} {c : Cell} : updM M p c p = some c := if_pos rfl
theorem updM_ne {M : Sto} {p a : Addr} {c : Cell} (h : a ≠ p) : updM M p c a = M a := if_neg h
theorem updM_updM {M : Sto} {p : Addr} {c c' : Cell} : updM (updM M p c) p c' = updM M p c' := by
  funext a; unfold updM; split <;> rfl
theorem updM_comm {M : Sto} {p q : Addr} {c c' : Cell} (h : p ≠ q) : updM (updM M p c) q c' = updM (updM M q c') p c := by
  funext a; unfold updM; split <;> split <;> simp_all
theorem cell_new {K : PySem.W.Frag} {M : Sto} {H G : Hp} {p : Addr} {o : HO} {c : Cell} (w : Wd K M H G) (hp : H p = none) (hc : CellAt K G (upd H p o) p c) : Wd K (updM M p c) (upd H p o) G ∧ Since H G M (updM M p c) (upd H p o) G := by
  have gp : G p = none := by
    cases q : G p with
    | none => rfl
    | some u => rw [w.sub _ _ q] at hp; cases hp
  refine ⟨⟨fun a u h => ?_, fun a u h => ?_⟩, ⟨fun a u h n => ?_, fun a h => ?_, Sub.rfl', fun a h n => absurd n h, fun a h n => ?_⟩⟩
  · rw [upd_ne (ne_of_none (w.sub _ _ h) hp)]; exact w.sub _ _ h
  · by_cases e : a = p
    · subst e; rw [updM_same] at h; cases h; exact ⟨gp, hc⟩
    · rw [updM_ne e] at h
      obtain ⟨h1, h2⟩ := w.cells a u h
      exact ⟨h1, h2.move Sub.rfl' fun o z => by rw [upd_ne e]; exact z⟩
  · rw [upd_ne (ne_of_none h hp)]; exact h
  · by_cases e : a = p
    · subst e; rw [upd_same]; simp
    · rw [upd_ne e]; exact h
  · by_cases e : a = p
    · subst e; exact hp
    · rw [updM_ne e] at h; exact absurd n h
theorem cell_put {K : PySem.W.Frag} {M : Sto} {H G : Hp} {p : Addr} {o : HO} {c c0 : Cell} (w : Wd K M H G) (hp : M p = some c0) (hc : CellAt K G (upd H p o) p c) : Wd K (updM M p c) (upd H p o) G ∧ Since H G M (updM M p c) (upd H p o) G := by
  obtain ⟨gp, hat⟩ := w.cells p c0 hp
  refine ⟨⟨fun a u h => ?_, fun a u h => ?_⟩, ⟨fun a u h n => ?_, fun a h => ?_, Sub.rfl', fun a h n => absurd n h, fun a h n => ?_⟩⟩
  · rw [upd_ne (ne_of_none h gp)]; exact w.sub _ _ h
  · by_cases e : a = p
    · subst e; rw [updM_same] at h; cases h; exact ⟨gp, hc⟩
    · rw [updM_ne e] at h
      obtain ⟨h1, h2⟩ := w.cells a u h
      exact ⟨h1, h2.move Sub.rfl' fun o z => by rw [upd_ne e]; exact z⟩
  · have e : a ≠ p := fun z => by subst z; rw [hp] at n; cases n
    rw [upd_ne e]; exact h
  · by_cases e : a = p
    · subst e; rw [upd_same]; simp
    · rw [upd_ne e]; exact h
  · by_cases e : a = p
    · subst e; rw [hp] at n; cases n
    · rw [updM_ne e] at h; exact absurd n h
theorem Wd.nomem {K : PySem.W.Frag} {M : Sto} {H G : Hp} {p : Addr} (w : Wd K M H G) (hp : H p = none) : M p = none := by
  cases q : M p with
  | none => rfl
  | some c => exact absurd hp (w.cells p c q).2.there
theorem de_lstM (h : DA X B es ga) : DE X B (.List es pos) (fun r M Ψ => ga r M fun ds M1 => ds.length ≤ sizeLine ∧ ∀ p, M1 p = none → Ψ (.ref p) (updM M1 p (.lst ds))) := by
  refine PE_imp (pe_lst h) fun σ H Q ⟨r, M, G, Ψ, R, h, k⟩ => ?_
  refine ⟨r, M, G, _, R, h, fun ds M1 vs H1 G1 ⟨z, q⟩ R1 s1 p1 => ⟨by rw [← p1.length]; exact z, fun p hp => ?_⟩⟩
  obtain ⟨w, s⟩ := cell_new (c := .lst ds) (o := .lst vs) R1.wd hp ⟨vs, upd_same, p1⟩
  exact k _ _ _ _ _ (q p (R1.wd.nomem hp)) (R1.go w s) s1 .ref

def Ok2 (K : PySem.W.Frag) (r : R2) (g : Sto → D → D → (D → Prop) → Prop) : Prop := ∀ (M : Sto) (H G : Hp) (x y : D) (v u : V) (φ : D → Prop) (Q : VK), Wd K M H G → Rep K G x v → Rep K G y u → g M x y φ →
  (∀ d w H' G', φ d → Grow H G H' G' → Rep K G' d w → Q w H') → r v u H Q
theorem tOp_ok {r : R2} {g : Sto → D → D → (D → Prop) → Prop} (ok : Ok2 X.K r g) {σ : L2.St} {H : Hp} {Q : VK} (h : lift X.K B (fun r M Ψ => fa r M fun x M1 => fb r M1 fun y M2 => g M2 x y fun z => Ψ z M2) σ H Q) : tOp r (lift X.K B fa) (lift X.K B fb) σ H Q := by
  obtain ⟨r, M, G, Ψ, R, h, k⟩ := h
  refine ⟨r, M, G, _, R, h, fun d M1 v H1 G1 q1 R1 s1 p1 => ?_⟩
  refine ⟨r, M1, G1, _, R1, q1, fun y M2 u H2 G2 q2 R2 s2 p2 => ?_⟩
  exact ok M2 H2 G2 _ _ _ _ _ _ R2.wd (p1.mono s2) p2 q2 fun d w H' G' f g p => k _ _ _ _ _ f (R2.grow g) ((s1.tr s2).tr g.gsub) p
theorem de_op {op : Operator} {r : R2} {g : Sto → D → D → (D → Prop) → Prop} (ho : OpR X (binaryOp op) r) (ok : Ok2 X.K r g) (ha : DE X B a fa) (hb : DE X B b fb) :
    DE X B (.BinOp a op b pos) (fun r M Ψ => fa r M fun x M1 => fb r M1 fun y M2 => g M2 x y fun z => Ψ z M2) := PE_imp (pe_op ho ha hb) fun σ H Q h => tOp_ok ok h
theorem de_cmp {op : CmpOp} {r : R2} {g : Sto → D → D → (D → Prop) → Prop} (ho : OpR X (compareOp op) r) (ok : Ok2 X.K r g) (hm : behindInMarks op b = false) (ha : DE X B a fa) (hb : DE X B b fb) :
    DE X B (.Compare a [op] [b] pos) (fun r M Ψ => fa r M fun x M1 => fb r M1 fun y M2 => g M2 x y fun z => Ψ z M2) := PE_imp (pe_cmpR ho ha hb hm) fun σ H Q h => tOp_ok ok h
end
end Z
namespace Z
open PySem PySem.Spec PyProof.Rows L2

def lstOf (M : Sto) : D → Option (List D)
  | .lst l => some l
  | .ref p => match M p with
    | some (.lst l) => some l
    | _ => none
  | _ => none
def tupOf : D → Option (List D)
  | .tup l => some l
  | .tpl l => some l
  | _ => none
section
variable {K : PySem.W.Frag} {M : Sto} {H G : Hp} {d : D} {v : V} {l : List D}
theorem lstOf_ref {a : Addr} (e : lstOf M (.ref a) = some l) : M a = some (.lst l) := by
  have e' : (match M a with | some (.lst l) => some l | _ => none) = some l := e
  split at e'
  · rename_i l' q
    rw [q, Option.some.inj e']
  · cases e'
theorem lst_rep (w : Wd K M H G) (r : Rep K G d v) (e : lstOf M d = some l) : ∃ a vs, v = .ref a ∧ Rd H a (.lst vs) ∧ RepL K G l vs := by
  cases r with
  | lst h r => cases e; exact ⟨_, _, rfl, w.sub.rd h, r⟩
  | ref =>
    obtain ⟨_, vs, h, r⟩ := w.cells _ _ (lstOf_ref e)
    exact ⟨_, vs, rfl, .inl h, r⟩
  | _ => cases e
theorem lst_rep' (w : Wd K M H G) (r : Rep K G d v) (e : lstOf M d = some l) : ∃ a vs, v = .ref a ∧ SqL K H a vs ∧ RepL K G l vs :=
  let ⟨a, vs, h1, h2, h3⟩ := lst_rep w r e
  ⟨a, vs, h1, .inl h2, h3⟩
theorem tup_rep (w : Wd K M H G) (r : Rep K G d v) (e : tupOf d = some l) : ∃ a vs, v = .ref a ∧ SqT K H a vs ∧ RepL K G l vs := by
  cases r with
  | tup h r => cases e; exact ⟨_, _, rfl, w.sub.sqT h, r⟩
  | tpl h r => cases e; exact ⟨_, _, rfl, w.sub.sqT (SqT.of h), r⟩
  | _ => cases e
theorem repL_ints {ns : List Int} : ∀ {vs : List V}, RepL K G (ns.map D.int) vs → vs = ns.map V.int := by
  induction ns with
  | nil => intro vs r; cases r; rfl
  | cons n ns ih => intro vs r; cases r with | cons r1 r2 => cases r1; rw [ih r2]; rfl
theorem repL_bls {ns : List Bool} : ∀ {vs : List V}, RepL K G (ns.map D.bl) vs → vs = ns.map V.bl := by
  induction ns with
  | nil => intro vs r; cases r; rfl
  | cons n ns ih => intro vs r; cases r with | cons r1 r2 => cases r1; rw [ih r2]; rfl
end

def Dok (j : Int) : Prop := j ≠ 0 ∧ j.natAbs.log2 < 9000
theorem dok_of {j : Int} {n : Nat} (h0 : j ≠ 0) (h : j.natAbs < 2 ^ n) (hn : n ≤ 9000 := by decide) : Dok j := by
  refine ⟨h0, Nat.lt_of_lt_of_le ((Nat.log2_lt (by omega)).mpr h) hn⟩
theorem mok_of {i j : Int} {a b : Nat} (ha : i.natAbs < 2 ^ a) (hb : j.natAbs < 2 ^ b) (h0 : 0 < a := by decide) (h1 : 0 < b := by decide) (h : a + b ≤ 1000000 := by decide) : IntMulOk i j := CMulW.ok (wide_mul ha hb h0 h1 h)
def addD (M : Sto) (x y : D) (φ : D → Prop) : Prop := match x, y with
  | .int i, .int j => φ (.int (i + j))
  | .str a, .str b => a.length + b.length ≤ sizeLine ∧ φ (.str (a ++ b))
  | .tup a, .tup b => a.length + b.length ≤ sizeLine ∧ φ (.tup (a ++ b))
  | .int i, .bl b => φ (.int (i + b2i b))
  | x, y => ∃ a b, lstOf M x = some a ∧ lstOf M y = some b ∧ a.length + b.length ≤ sizeLine ∧ φ (.lst (a ++ b))
def subD (_ : Sto) (x y : D) (φ : D → Prop) : Prop := match x, y with
  | .int i, .int j => φ (.int (i - j))
  | _, _ => False
def mulD (_ : Sto) (x y : D) (φ : D → Prop) : Prop := match x, y with
  | .int i, .int j => IntMulOk i j ∧ φ (.int (i * j))
  | _, _ => False
def fdivD (_ : Sto) (x y : D) (φ : D → Prop) : Prop := match x, y with
  | .int i, .int j => Dok j ∧ φ (.int (i.fdiv j))
  | _, _ => False
def fmodD (_ : Sto) (x y : D) (φ : D → Prop) : Prop := match x, y with
  | .int i, .int j => j ≠ 0 ∧ φ (.int (i.fmod j))
  | _, _ => False
def powD (_ : Sto) (x y : D) (φ : D → Prop) : Prop := match x, y with
  | .int i, .int j => CPow i j ∧ φ (.int (i ^ j.toNat))
  | _, _ => False
section
variable {X : Cx}
theorem rd_lst {pins : List (Addr × Obj)} {σ : L2.St} {H : Hp} {s : Shared} {l : Addr} {xs : List V} (I : Inv X pins σ H s) (h : Rd H l (.lst xs)) : xs.length ≤ sizeLine ∧ ∃ (its : List Value) (n : Nat), Vals xs its ∧ xs.length = its.length ∧ s.heap.get? l = some { cls := .type "list", data := .seq its.toArray n } := by
  obtain ⟨z, its, n, r, e⟩ := h.ok I.hok
  exact ⟨z, its, n, r, r.length, e⟩
def rCatL : R2 := fun x y H Q => ∃ l b xs zs, x = .ref l ∧ y = .ref b ∧ Rd H l (.lst xs) ∧ Rd H b (.lst zs) ∧ xs.length + zs.length ≤ sizeLine ∧ ∀ p, H p = none → Q (.ref p) (upd H p (.lst (xs ++ zs)))
theorem op_catL : OpR X (binaryOp .Add) rCatL := by
  intro pins s σ H x y v u Q I rx ry h
  obtain ⟨l, b, xs, zs, rfl, rfl, hH, hB, hz, q⟩ := h
  cases rx
  cases ry
  obtain ⟨z, its, n, r, hl, e⟩ := rd_lst I hH
  obtain ⟨z2, its2, n2, r2, hl2, e2⟩ := rd_lst I hB
  refine PySem.P.add_list e e2 ?_ (by rw [List.size_toArray, List.size_toArray]; omega)
  have ea : its.toArray ++ its2.toArray = (its ++ its2).toArray := by simp
  rw [ea]
  exact ⟨.ref _, _, I.lnew (t' := s.toks) (r.append r2) (by rw [List.length_append]; omega), rfl, q _ I.fresh⟩
theorem op_fdivZ : OpR X (binaryOp .FloorDiv) (rI (fun _ j => Dok j) fun i j => .int (i.fdiv j)) := opI fun _ _ _ _ _ _ _ hc q => floordiv_int hc.1 q (.inl (PyProof.noPylong_of_log2 hc.2))
theorem op_mulZ : OpR X (binaryOp .Mult) (rI IntMulOk fun i j => .int (i * j)) := opI fun _ _ _ _ _ _ _ hc q => mul_int q hc

theorem ok_int (C : Int → Int → Prop) (g : Int → Int → V) (gd : Int → Int → D) (hg : ∀ K G i j, Rep K G (gd i j) (g i j)) (f : Sto → D → D → (D → Prop) → Prop) (hf : ∀ M x y φ, f M x y φ → ∃ i j, x = .int i ∧ y = .int j ∧ C i j ∧ φ (gd i j)) {K : PySem.W.Frag} : Ok2 K (rI C g) f := fun M H G x y v u φ Q w rx ry h k => by
  obtain ⟨i, j, rfl, rfl, c, q⟩ := hf _ _ _ _ h
  cases rx
  cases ry
  exact ⟨i, j, rfl, rfl, c, k _ _ _ _ q (Grow.refl w.sub) (hg _ _ _ _)⟩
theorem ok_sub {K : PySem.W.Frag} : Ok2 K (rI0 fun i j => .int (i - j)) subD := fun M H G x y v u φ Q w rx ry h k => by
  unfold subD at h
  split at h
  · cases rx; cases ry; exact ⟨_, _, rfl, rfl, k _ _ _ _ h (Grow.refl w.sub) .int⟩
  · exact h.elim
theorem ok_mul {K : PySem.W.Frag} : Ok2 K (rI IntMulOk fun i j => .int (i * j)) mulD := ok_int _ _ (fun i j => .int (i * j)) (fun _ _ _ _ => .int) _ fun M x y φ h => by
  unfold mulD at h
  split at h
  · exact ⟨_, _, rfl, rfl, h⟩
  · exact h.elim
theorem ok_fdiv {K : PySem.W.Frag} : Ok2 K (rI (fun _ j => Dok j) fun i j => .int (i.fdiv j)) fdivD := ok_int _ _ (fun i j => .int (i.fdiv j)) (fun _ _ _ _ => .int) _ fun M x y φ h => by
  unfold fdivD at h
  split at h
  · exact ⟨_, _, rfl, rfl, h⟩
  · exact h.elim
theorem ok_fmod {K : PySem.W.Frag} : Ok2 K (rI (fun _ j => j ≠ 0) fun i j => .int (i.fmod j)) fmodD := ok_int _ _ (fun i j => .int (i.fmod j)) (fun _ _ _ _ => .int) _ fun M x y φ h => by
  unfold fmodD at h
  split at h
  · exact ⟨_, _, rfl, rfl, h⟩
  · exact h.elim
theorem ok_pow {K : PySem.W.Frag} : Ok2 K (rI CPow fun i j => .int (i ^ j.toNat)) powD := ok_int _ _ (fun i j => .int (i ^ j.toNat)) (fun _ _ _ _ => .int) _ fun M x y φ h => by
  unfold powD at h
  split at h
  · exact ⟨_, _, rfl, rfl, h⟩
  · exact h.elim
def rAddA (K : PySem.W.Frag) : R2 := fun x y H Q => rI0 (fun i j => .int (i + j)) x y H Q ∨ (∃ i j, x = .str i ∧ y = .str j ∧ i.length + j.length ≤ sizeLine ∧ Q (.str (i ++ j)) H) ∨ rCatA K x y H Q ∨
  (∃ i k, x = .int i ∧ y = .bl k ∧ Q (.int (i + b2i k)) H) ∨ rCatL x y H Q
theorem op_addA : OpR X (binaryOp .Add) (rAddA X.K) := op_add.or (op_add_str.or (op_catA.or (op_add_ib.or op_catL)))
theorem ok_add {K : PySem.W.Frag} : Ok2 K (rAddA K) addD := fun M H G x y v u φ Q w rx ry h k => by
  unfold addD at h
  split at h
  · cases rx; cases ry; exact .inl ⟨_, _, rfl, rfl, k _ _ _ _ h (Grow.refl w.sub) .int⟩
  · cases rx; cases ry; exact .inr (.inl ⟨_, _, rfl, rfl, h.1, k _ _ _ _ h.2 (Grow.refl w.sub) .str⟩)
  · rename_i a b
    obtain ⟨p, vs, rfl, h1, r1⟩ := tup_rep w rx (l := a) rfl
    obtain ⟨q, us, rfl, h2, r2⟩ := tup_rep w ry (l := b) rfl
    refine .inr (.inr (.inl ⟨p, q, vs, us, rfl, rfl, h1, h2, by rw [← r1.length, ← r2.length]; exact h.1, fun e => ?_, fun _ e => ?_, fun _ _ p hp => ?_⟩))
    · subst e; cases r1
      exact k _ _ _ _ h.2 (Grow.refl w.sub) ry
    · subst e; cases r2
      rw [List.append_nil] at h
      exact k _ _ _ _ h.2 (Grow.refl w.sub) rx
    · have g : Grow H G (upd H p (.tup (vs ++ us))) (upd G p (.tup (vs ++ us))) := grow_upd w.sub hp
      exact k _ _ _ _ h.2 g (.tup (SqT.of upd_same) ((r1.app r2).mono g.gsub))
  · cases rx; cases ry; exact .inr (.inr (.inr (.inl ⟨_, _, rfl, rfl, k _ _ _ _ h (Grow.refl w.sub) .int⟩)))
  · obtain ⟨a, b, e1, e2, z, q⟩ := h
    obtain ⟨p, vs, rfl, h1, r1⟩ := lst_rep w rx e1
    obtain ⟨q', us, rfl, h2, r2⟩ := lst_rep w ry e2
    refine .inr (.inr (.inr (.inr ⟨p, q', vs, us, rfl, rfl, h1, h2, by rw [← r1.length, ← r2.length]; exact z, fun p hp => ?_⟩)))
    have g : Grow H G (upd H p (.lst (vs ++ us))) (upd G p (.lst (vs ++ us))) := grow_upd w.sub hp
    exact k _ _ _ _ q g (.lst (.inl upd_same) ((r1.app r2).mono g.gsub))
end
section
variable {X : Cx} {B : Bs} {pos : Pos} {a b e : Expr} {es : List Expr} {fa fb : DTE} {ga : DTA}
theorem de_add (ha : DE X B a fa) (hb : DE X B b fb) : DE X B (.BinOp a .Add b pos) (fun r M Ψ => fa r M fun x M1 => fb r M1 fun y M2 => addD M2 x y fun z => Ψ z M2) := de_op op_addA ok_add ha hb
theorem de_sub (ha : DE X B a fa) (hb : DE X B b fb) : DE X B (.BinOp a .Sub b pos) (fun r M Ψ => fa r M fun x M1 => fb r M1 fun y M2 => subD M2 x y fun z => Ψ z M2) := de_op op_sub ok_sub ha hb
theorem de_mul (ha : DE X B a fa) (hb : DE X B b fb) : DE X B (.BinOp a .Mult b pos) (fun r M Ψ => fa r M fun x M1 => fb r M1 fun y M2 => mulD M2 x y fun z => Ψ z M2) := de_op op_mulZ ok_mul ha hb
theorem de_fdiv (ha : DE X B a fa) (hb : DE X B b fb) : DE X B (.BinOp a .FloorDiv b pos) (fun r M Ψ => fa r M fun x M1 => fb r M1 fun y M2 => fdivD M2 x y fun z => Ψ z M2) := de_op op_fdivZ ok_fdiv ha hb
theorem de_fmod (ha : DE X B a fa) (hb : DE X B b fb) : DE X B (.BinOp a .Mod b pos) (fun r M Ψ => fa r M fun x M1 => fb r M1 fun y M2 => fmodD M2 x y fun z => Ψ z M2) := de_op op_modN ok_fmod ha hb
theorem de_pow (ha : DE X B a fa) (hb : DE X B b fb) : DE X B (.BinOp a .Pow b pos) (fun r M Ψ => fa r M fun x M1 => fb r M1 fun y M2 => powD M2 x y fun z => Ψ z M2) := de_op op_pow ok_pow ha hb
end
end Z
namespace Z
open PySem PySem.Spec PyProof.Rows L2

mutual
def pd : D → Option PyData
  | .non => some .none
  | .bl b => some (.bool b)
  | .int i => some (.int i)
  | .str x => some (.str x)
  | .tup l => (pdL l).map .tuple
  | .lst l => (pdL l).map .list
  | .tpl l => (pdL l).map .tuple
  | _ => none
def pdL : List D → Option (List PyData)
  | [] => some []
  | d :: r => match pd d, pdL r with
    | some x, some xs => some (x :: xs)
    | _, _ => none
end
def toPd (M : Sto) (d : D) : Option PyData := match lstOf M d with
  | some l => (pdL l).map .list
  | none => pd d
section
variable {K : PySem.W.Frag} {G H : Hp}
mutual
theorem dp_of (s : Sub G H) : ∀ (d : D) (v : V) (p : PyData), Rep K G d v → pd d = some p → Dp K H v p
  | .non, _, _, r, e => by cases r; cases e; exact .non
  | .bl b, _, _, r, e => by cases r; cases e; exact .bl b
  | .int i, _, _, r, e => by cases r; cases e; exact .int i
  | .str x, _, _, r, e => by cases r; cases e; exact .str x
  | .tup l, _, _, r, e => by
    cases r with
    | tup h r =>
      obtain ⟨q, e1, e2⟩ := Option.map_eq_some_iff.mp (show (pdL l).map PyData.tuple = some _ from e)
      subst e2
      exact .tup (s.sqT h) (dp_all s l _ _ r e1)
  | .lst l, _, _, r, e => by
    cases r with
    | lst h r =>
      obtain ⟨q, e1, e2⟩ := Option.map_eq_some_iff.mp (show (pdL l).map PyData.list = some _ from e)
      subst e2
      exact .lst (.inl (s.rd h)) (dp_all s l _ _ r e1)
  | .tpl l, _, _, r, e => by
    cases r with
    | tpl h r =>
      obtain ⟨q, e1, e2⟩ := Option.map_eq_some_iff.mp (show (pdL l).map PyData.tuple = some _ from e)
      subst e2
      exact .tup (s.sqT (SqT.of h)) (dp_all s l _ _ r e1)
  | .ty _, _, _, _, e => by cases e
  | .ref _, _, _, _, e => by cases e
  | .dic _, _, _, _, e => by cases e
  | .dlk _, _, _, _, e => by cases e
  | .fn _, _, _, _, e => by cases e
  | .obj _ _, _, _, _, e => by cases e
theorem dp_all (s : Sub G H) : ∀ (l : List D) (vs : List V) (ps : List PyData), RepL K G l vs → pdL l = some ps → DpAll K H vs ps
  | [], _, _, r, e => by cases r; cases e; exact .nil
  | d :: l, _, _, r, e => by
    cases r with
    | cons r1 r2 =>
      unfold pdL at e
      split at e
      · rename_i x xs e1 e2
        cases e
        exact .cons (dp_of s d _ _ r1 e1) (dp_all s l _ _ r2 e2)
      · cases e
end
theorem toPd_dp {M : Sto} {d : D} {v : V} {p : PyData} (w : Wd K M H G) (r : Rep K G d v) (e : toPd M d = some p) : Dp K H v p := by
  unfold toPd at e
  split at e
  · rename_i l q
    obtain ⟨a, vs, rfl, h, r2⟩ := lst_rep' w r q
    obtain ⟨ps, e1, e2⟩ := Option.map_eq_some_iff.mp e
    subst e2
    exact .lst h (dp_all w.sub l _ _ r2 e1)
  · exact dp_of w.sub d v p r e
end
def eqvD (M : Sto) (x y : D) (φ : Bool → Prop) : Prop := match x, y with
  | .int i, .int j => φ (decide (i = j))
  | .str a, .str b => φ (decide (a = b))
  | .bl a, .bl b => φ (decide (a = b))
  | x, y => ∃ p q, toPd M x = some p ∧ toPd M y = some q ∧ SeqAt.shaped p = true ∧ SeqAt.shaped q = true ∧ φ (PyData.eqv p q)
@[irreducible] def eqD (M : Sto) (x y : D) (φ : D → Prop) : Prop := eqvD M x y fun b => φ (.bl b)
@[irreducible] def neD (M : Sto) (x y : D) (φ : D → Prop) : Prop := eqvD M x y fun b => φ (.bl (!b))
def cmpD (p : Int → Int → Bool) (_ : Sto) (x y : D) (φ : D → Prop) : Prop := match x, y with
  | .int i, .int j => φ (.bl (p i j))
  | _, _ => False
abbrev ltD := cmpD fun i j => decide (i < j)
abbrev leD := cmpD fun i j => decide (i ≤ j)
abbrev gtD := cmpD fun i j => decide (j < i)
abbrev geD := cmpD fun i j => decide (j ≤ i)
def isN (d : D) : Bool := match d with
  | .non => true
  | _ => false
def isD (_ : Sto) (x y : D) (φ : D → Prop) : Prop := match y with
  | .non => φ (.bl (isN x))
  | _ => False
def isntD (_ : Sto) (x y : D) (φ : D → Prop) : Prop := match y with
  | .non => φ (.bl (!isN x))
  | _ => False
def flatD (d : D) : Bool := match d with
  | .non => true
  | .bl _ => true
  | .int _ => true
  | .str _ => true
  | _ => false
def inQ (M : Sto) (x y : D) (φ : Bool → Prop) : Prop := match y with
  | .str z => ∃ c, x = .str ⟨#[c]⟩ ∧ φ (decide (c ∈ z.cps.toList))
  | .tup l => ∃ p ps, pd x = some p ∧ pdL l = some ps ∧ l.all flatD = true ∧
      flatD x = true ∧ φ (ps.any fun z => PyData.eqv z p)
  | y => ∃ l p ps, lstOf M y = some l ∧ toPd M x = some p ∧ pdL l = some ps ∧ SeqAt.shaped p = true ∧ SeqAt.shaped (.list ps) = true ∧ φ (ps.any fun z => PyData.eqv z p)
def inD (M : Sto) (x y : D) (φ : D → Prop) : Prop := inQ M x y fun b => φ (.bl b)
section
variable {K : PySem.W.Frag} {M : Sto} {H G : Hp}
theorem repN {d : D} {v : V} (r : Rep K G d v) : decide (v = .non) = isN d := by
  cases r <;> simp [isN]
def rEqA (K : PySem.W.Frag) : R2 := fun x y H Q => rEq x y H Q ∨ rEqD K x y H Q
def rNeA (K : PySem.W.Frag) : R2 := fun x y H Q => rNe x y H Q ∨ rNeD K x y H Q
theorem ok_eq : Ok2 K (rEqA K) eqD := fun M H G x y v u φ Q w rx ry h k => by
  unfold eqD eqvD at h
  split at h
  · cases rx; cases ry
    exact .inl ⟨rfl, k _ _ _ _ h (Grow.refl w.sub) (by rw [show decide (V.int _ = V.int _) = _ from dec_int, Bool.beq_eq_decide_eq]; exact .bl)⟩
  · cases rx; cases ry
    exact .inl ⟨rfl, k _ _ _ _ h (Grow.refl w.sub) (by rw [show decide (V.str _ = V.str _) = _ from dec_str, Bool.beq_eq_decide_eq]; exact .bl)⟩
  · cases rx; cases ry
    exact .inl ⟨rfl, k _ _ _ _ h (Grow.refl w.sub) (by rw [show decide (V.bl _ = V.bl _) = _ from dec_bl, Bool.beq_eq_decide_eq]; exact .bl)⟩
  · obtain ⟨p, q, e1, e2, s1, s2, h⟩ := h
    exact .inr ⟨p, q, toPd_dp w rx e1, toPd_dp w ry e2, s1, s2, k _ _ _ _ h (Grow.refl w.sub) .bl⟩
theorem ok_ne : Ok2 K (rNeA K) neD := fun M H G x y v u φ Q w rx ry h k => by
  unfold neD eqvD at h
  split at h
  · cases rx; cases ry
    exact .inl ⟨rfl, k _ _ _ _ h (Grow.refl w.sub) (by rw [show decide (V.int _ = V.int _) = _ from dec_int, Bool.beq_eq_decide_eq]; exact .bl)⟩
  · cases rx; cases ry
    exact .inl ⟨rfl, k _ _ _ _ h (Grow.refl w.sub) (by rw [show decide (V.str _ = V.str _) = _ from dec_str, Bool.beq_eq_decide_eq]; exact .bl)⟩
  · cases rx; cases ry
    exact .inl ⟨rfl, k _ _ _ _ h (Grow.refl w.sub) (by rw [show decide (V.bl _ = V.bl _) = _ from dec_bl, Bool.beq_eq_decide_eq]; exact .bl)⟩
  · obtain ⟨p, q, e1, e2, s1, s2, h⟩ := h
    exact .inr ⟨p, q, toPd_dp w rx e1, toPd_dp w ry e2, s1, s2, k _ _ _ _ h (Grow.refl w.sub) .bl⟩
theorem ok_cmp (p : Int → Int → Bool) : Ok2 K (rI0 fun i j => .bl (p i j)) (cmpD p) := fun M H G x y v u φ Q w rx ry h k => by
  unfold cmpD at h
  split at h
  · cases rx; cases ry; exact ⟨_, _, rfl, rfl, k _ _ _ _ h (Grow.refl w.sub) .bl⟩
  · exact h.elim
theorem ok_is : Ok2 K (fun x y H Q => y = .non ∧ Q (.bl (decide (x = .non))) H) isD := fun M H G x y v u φ Q w rx ry h k => by
  unfold isD at h
  split at h
  · cases ry
    exact ⟨rfl, by rw [repN rx]; exact k _ _ _ _ h (Grow.refl w.sub) .bl⟩
  · exact h.elim
theorem ok_isnt : Ok2 K (fun x y H Q => y = .non ∧ Q (.bl (!decide (x = .non))) H) isntD := fun M H G x y v u φ Q w rx ry h k => by
  unfold isntD at h
  split at h
  · cases ry
    exact ⟨rfl, by rw [repN rx]; exact k _ _ _ _ h (Grow.refl w.sub) .bl⟩
  · exact h.elim
end
theorem pd_flat {K : PySem.W.Frag} {G : Hp} {d : D} {v : V} {p : PyData} (r : Rep K G d v) (e : pd d = some p) (f : flatD d = true) : flatV v = true := by
  cases r <;> first | rfl | exact absurd f Bool.false_ne_true
theorem eqv_flat {K : PySem.W.Frag} {G : Hp} {d c : D} {v u : V} {p q : PyData} (r : Rep K G d v) (r' : Rep K G c u) (e : pd d = some p) (e' : pd c = some q) (f : flatD d = true)
    (f' : flatD c = true) : eqV v u = PyData.eqv p q := by
  cases r <;> first | exact absurd f Bool.false_ne_true | (cases r' <;> first | exact absurd f' Bool.false_ne_true | (cases e; cases e'; simp [eqV, PyData.eqv]))
theorem any_flat {K : PySem.W.Frag} {G : Hp} {c : D} {u : V} {q : PyData} (r' : Rep K G c u) (e' : pd c = some q) (f' : flatD c = true) :
    ∀ {l : List D} {vs : List V} {ps : List PyData}, RepL K G l vs → pdL l = some ps → l.all flatD = true →
      vs.all flatV = true ∧ inV u vs = ps.any fun z => PyData.eqv z q
  | _, _, _, .nil, e, f => by cases e; exact ⟨rfl, rfl⟩
  | d :: l, v :: vs, ps, .cons r1 r2, e, f => by
    unfold pdL at e
    split at e
    · rename_i x xs e1 e2
      cases e
      rw [List.all_cons, Bool.and_eq_true] at f
      obtain ⟨h1, h2⟩ := any_flat r' e' f' r2 e2 f.2
      refine ⟨by rw [List.all_cons, Bool.and_eq_true]; exact ⟨pd_flat r1 e1 f.1, h1⟩, ?_⟩
      unfold inV at h2 ⊢
      rw [List.any_cons, List.any_cons, h2, eqv_flat r1 r' e1 e' f.1 f']
    · cases e
section
variable {X : Cx}
def rInA (K : PySem.W.Frag) : R2 := fun x y H Q => (∃ (c : Nat) (z : Str), x = .str ⟨#[c]⟩ ∧ y = .str z ∧ Q (.bl (decide (c ∈ z.cps.toList))) H) ∨ rIn K false x y H Q ∨ rInD K x y H Q
theorem ok_in {K : PySem.W.Frag} : Ok2 K (rInA K) inD := fun M H G x y v u φ Q w rx ry h k => by
  unfold inD inQ at h
  split at h
  · obtain ⟨c, rfl, h⟩ := h
    cases rx; cases ry
    exact .inl ⟨c, _, rfl, rfl, k _ _ _ _ h (Grow.refl w.sub) .bl⟩
  · rename_i l
    obtain ⟨p, ps, e1, e2, f, f', h⟩ := h
    obtain ⟨a, vs, rfl, h1, r1⟩ := tup_rep w ry (l := l) rfl
    obtain ⟨z1, z2⟩ := any_flat rx e1 f' r1 e2 f
    refine .inr (.inl ⟨a, vs, rfl, .inr h1, pd_flat rx e1 f', z1, ?_⟩)
    show Q (.bl (inV v vs)) H
    rw [z2]
    exact k _ _ _ _ h (Grow.refl w.sub) .bl
  · obtain ⟨l, p, ps, e0, e1, e2, s1, s2, h⟩ := h
    obtain ⟨a, vs, rfl, h1, r1⟩ := lst_rep' w ry e0
    exact .inr (.inr ⟨p, ps, toPd_dp w rx e1, .lst h1 (dp_all w.sub l _ _ r1 e2), s1, s2, k _ _ _ _ h (Grow.refl w.sub) .bl⟩)
theorem room65 {k : Nat} {A : Around} (r : Room k A) : A.units + 65 < cLine := by have := r.un; omega
end

section
variable {X : Cx} {B : Bs} {pos : Pos} {a b c e : Expr} {es : List Expr} {fa fb fc : DTE} {ga : DTA} {ta tb : DTT} {k : Nat}
abbrev bin2 (g : Sto → D → D → (D → Prop) → Prop) (fa fb : DTE) : DTE := fun r M Ψ => fa r M fun x M1 => fb r M1 fun y M2 => g M2 x y fun z => Ψ z M2
theorem de_eq (hr : Room k X.A) (ha : DE X B a fa) (hb : DE X B b fb) : DE X B (.Compare a [.Eq] [b] pos) (bin2 eqD fa fb) := de_cmp (op_eq.or (op_eqD hr.units)) ok_eq (nomark _) ha hb
theorem de_is (ha : DE X B a fa) (hb : DE X B b fb) : DE X B (.Compare a [.Is] [b] pos) (bin2 isD fa fb) := de_cmp op_isN ok_is (nomark _) ha hb
@[irreducible] def blD (k : Bool → Prop) (d : D) : Prop := match d with
  | .bl b => k b
  | _ => False
theorem tTest_ok (σ : L2.St) (H : Hp) (Q : Bool → Hp → Prop) (h : liftT X.K B (fun r M Ψ => fa r M fun x M1 => blD (fun b => Ψ b M1) x) σ H Q) : tTest (lift X.K B fa) σ H Q := by
  obtain ⟨r, M, G, Ψ, R, h, k⟩ := h
  refine ⟨r, M, G, _, R, h, fun d M1 v H1 G1 q1 R1 s1 p1 => ?_⟩
  unfold blD at q1
  cases p1 with
  | bl => exact ⟨_, rfl, k _ _ _ _ q1 R1 s1⟩
  | _ => exact q1.elim
theorem PE_test {t : TE} (h : PE X e t) (he : ∀ whole, isTrue e X.env whole = (do let v ← whole; standAt e.pos; holding [v] (truthy v)) := by intro _; rfl) : PT X e (tTest t) := by
  refine ⟨fun pins s σ H Q I hw => ?_⟩
  refine isTrue_plain (thn (h.run pins s σ H _ I hw) fun v s1 ⟨x, H1, I1, r1, q1⟩ => ?_) (he _)
  obtain ⟨d, rfl, q⟩ := q1
  cases r1
  exact wpAny_truthy_bool ⟨H1, I1, q⟩
theorem dt_val (h : DE X B e fa) (he : ∀ whole, isTrue e X.env whole = (do let v ← whole; standAt e.pos; holding [v] (truthy v)) := by intro _; rfl) : DT X B e (fun r M Ψ => fa r M fun x M1 => blD (fun b => Ψ b M1) x) :=
  PT_imp (PE_test h he) tTest_ok
theorem tOp_okT {r : R2} {g : Sto → D → D → (D → Prop) → Prop} (ok : Ok2 X.K r g) (σ : L2.St) (H : Hp) (Q : Bool → Hp → Prop) (h : liftT X.K B (fun r M Ψ => fa r M fun x M1 => fb r M1 fun y M2 => g M2 x y fun z => blD (fun b => Ψ b M2) z) σ H Q) :
    tTest (tOp r (lift X.K B fa) (lift X.K B fb)) σ H Q := by
  obtain ⟨r, M, G, Ψ, R, h, k⟩ := h
  refine ⟨r, M, G, _, R, h, fun d M1 v H1 G1 q1 R1 s1 p1 => ?_⟩
  refine ⟨r, M1, G1, _, R1, q1, fun y M2 u H2 G2 q2 R2 s2 p2 => ?_⟩
  refine ok M2 H2 G2 _ _ _ _ _ _ R2.wd (p1.mono s2) p2 q2 fun d w H' G' f g p => ?_
  unfold blD at f
  cases p with
  | bl => exact ⟨_, rfl, k _ _ _ _ f (R2.grow g) ((s1.tr s2).tr g.gsub)⟩
  | _ => exact f.elim
abbrev bin2T (g : Sto → D → D → (D → Prop) → Prop) (fa fb : DTE) : DTT := fun r M Ψ => fa r M fun x M1 => fb r M1 fun y M2 => g M2 x y fun z => blD (fun b => Ψ b M2) z
theorem dt_cmp {op : CmpOp} {r : R2} {g : Sto → D → D → (D → Prop) → Prop} (ho : OpR X (compareOp op) r) (ok : Ok2 X.K r g) (hm : behindInMarks op b = false) (ha : DE X B a fa) (hb : DE X B b fb) :
    DT X B (.Compare a [op] [b] pos) (bin2T g fa fb) := PT_imp (pt_cmpR ho ha hb hm) (tOp_okT ok)
theorem dt_eq (hr : Room k X.A) (ha : DE X B a fa) (hb : DE X B b fb) : DT X B (.Compare a [.Eq] [b] pos) (bin2T eqD fa fb) := dt_cmp (op_eq.or (op_eqD hr.units)) ok_eq (nomark _) ha hb
theorem dt_ne (hr : Room k X.A) (ha : DE X B a fa) (hb : DE X B b fb) : DT X B (.Compare a [.NotEq] [b] pos) (bin2T neD fa fb) := dt_cmp (op_ne.or (op_neD hr.units)) ok_ne (nomark _) ha hb
theorem dt_lt (ha : DE X B a fa) (hb : DE X B b fb) : DT X B (.Compare a [.Lt] [b] pos) (bin2T ltD fa fb) := dt_cmp op_lt (ok_cmp _) (nomark _) ha hb
theorem dt_le (ha : DE X B a fa) (hb : DE X B b fb) : DT X B (.Compare a [.LtE] [b] pos) (bin2T leD fa fb) := dt_cmp op_le (ok_cmp _) (nomark _) ha hb
theorem dt_gt (ha : DE X B a fa) (hb : DE X B b fb) : DT X B (.Compare a [.Gt] [b] pos) (bin2T gtD fa fb) := dt_cmp op_gt (ok_cmp _) (nomark _) ha hb
theorem dt_is (ha : DE X B a fa) (hb : DE X B b fb) : DT X B (.Compare a [.Is] [b] pos) (bin2T isD fa fb) := dt_cmp op_isN ok_is (nomark _) ha hb
theorem dt_isnt (ha : DE X B a fa) (hb : DE X B b fb) : DT X B (.Compare a [.IsNot] [b] pos) (bin2T isntD fa fb) := dt_cmp op_notN ok_isnt (nomark _) ha hb
theorem dt_not (ha : DT X B a ta) : DT X B (.UnaryOp .Not a pos) (fun r M Ψ => ta r M fun b M1 => Ψ (!b) M1) :=
  PT_imp (pt_not ha) fun σ H Q ⟨r, M, G, Ψ, R, h, k⟩ => ⟨r, M, G, _, R, h, fun b M' H' G' q R' s => k _ _ _ _ q R' s⟩
theorem dw_and1 (ha : DT X B a ta) : DW X B (.BoolOp .And [a] pos) ta := pw_and1 ha
theorem dw_or1 (ha : DT X B a ta) : DW X B (.BoolOp .Or [a] pos) ta := pw_or1 ha
theorem dw_and (ha : DT X B a ta) (hb : DW X B (.BoolOp .And (b :: es) pos) tb) : DW X B (.BoolOp .And (a :: b :: es) pos) (fun r M Ψ => ta r M fun c M1 => if c = true then tb r M1 Ψ else Ψ false M1) :=
  PW_imp (pw_and ha hb) fun σ H Q ⟨r, M, G, Ψ, R, h, k⟩ => by
    refine ⟨r, M, G, _, R, h, fun c M1 H1 G1 q R1 s1 => ?_⟩
    cases c with
    | true => exact ⟨r, M1, G1, Ψ, R1, q, fun b M' H' G' q R' s => k _ _ _ _ q R' (s1.tr s)⟩
    | false => exact k _ _ _ _ q R1 s1
theorem dw_or (ha : DT X B a ta) (hb : DW X B (.BoolOp .Or (b :: es) pos) tb) : DW X B (.BoolOp .Or (a :: b :: es) pos) (fun r M Ψ => ta r M fun c M1 => if c = true then Ψ true M1 else tb r M1 Ψ) :=
  PW_imp (pw_or ha hb) fun σ H Q ⟨r, M, G, Ψ, R, h, k⟩ => by
    refine ⟨r, M, G, _, R, h, fun c M1 H1 G1 q R1 s1 => ?_⟩
    cases c with
    | false => exact ⟨r, M1, G1, Ψ, R1, q, fun b M' H' G' q R' s => k _ _ _ _ q R' (s1.tr s)⟩
    | true => exact k _ _ _ _ q R1 s1
theorem de_and1 {op} (ha : DE X B a fa) : DE X B (.BoolOp op [a] pos) fa := pe_one ha
theorem de_and (ha : DE X B a fa) (hb : DE X B (.BoolOp .And (b :: es) pos) fb) : DE X B (.BoolOp .And (a :: b :: es) pos) (fun r M Ψ => fa r M fun x M1 => blD (fun c => if c = true then fb r M1 Ψ else Ψ (.bl false) M1) x) :=
  PE_imp (pe_and ha hb) fun σ H Q ⟨r, M, G, Ψ, R, h, k⟩ => by
    refine ⟨r, M, G, _, R, h, fun d M1 v H1 G1 q R1 s1 p1 => ?_⟩
    unfold blD at q
    cases p1 with
    | @bl c =>
      refine ⟨c, rfl, ?_⟩
      cases c with
      | true => exact ⟨r, M1, G1, Ψ, R1, q, fun d M' v H' G' q R' s p => k _ _ _ _ _ q R' (s1.tr s) p⟩
      | false => exact k _ _ _ _ _ q R1 s1 .bl
    | _ => exact q.elim
theorem de_not (ha : DE X B a fa) : DE X B (.UnaryOp .Not a pos) (fun r M Ψ => fa r M fun x M1 => blD (fun c => Ψ (.bl (!c)) M1) x) :=
  PE_imp (pe_not ha) fun σ H Q ⟨r, M, G, Ψ, R, h, k⟩ => by
    refine ⟨r, M, G, _, R, h, fun d M1 v H1 G1 q R1 s1 p1 => ?_⟩
    unfold blD at q
    cases p1 with
    | bl => exact ⟨_, rfl, k _ _ _ _ _ q R1 s1 .bl⟩
    | _ => exact q.elim
theorem de_if (hc : DT X B c ta) (ha : DE X B a fa) (hb : DE X B b fb) : DE X B (.IfExp c a b pos) (fun r M Ψ => ta r M fun t M1 => if t = true then fa r M1 Ψ else fb r M1 Ψ) :=
  PE_imp (pe_ifExp hc ha hb) fun σ H Q ⟨r, M, G, Ψ, R, h, k⟩ => by
    refine ⟨r, M, G, _, R, h, fun t M1 H1 G1 q R1 s1 => ?_⟩
    cases t with
    | true => exact ⟨r, M1, G1, Ψ, R1, q, fun d M' v H' G' q R' s p => k _ _ _ _ _ q R' (s1.tr s) p⟩
    | false => exact ⟨r, M1, G1, Ψ, R1, q, fun d M' v H' G' q R' s p => k _ _ _ _ _ q R' (s1.tr s) p⟩
end
end Z
namespace Z
open PySem PySem.Spec PyProof.Rows L2

theorem Rel.set {K : PySem.W.Frag} {B : Bs} {r : En} {M : Sto} {σ : L2.St} {H G : Hp} {d : D} {v : V} (R : Rel K B r M σ H G) (p : Rep K G d v) (i : Nat) : Rel K B (r.set i (some d)) M (σ.set i (some v)) H G where
  wd := R.wd
  len := by rw [List.length_set, List.length_set]; exact R.len
  slots := fun j e h => by
    by_cases hj : i = j
    · subst hj
      by_cases hi : i < r.length
      · rw [List.getElem?_set_self hi] at h
        cases h
        exact ⟨v, by rw [List.getElem?_set_self (by rw [← R.len]; exact hi)], p⟩
      · rw [List.getElem?_eq_none (by simpa using hi)] at h; cases h
    · rw [List.getElem?_set_ne hj] at h ⊢
      exact R.slots j e h
  sin := R.sin
theorem Rel.unset {K : PySem.W.Frag} {B : Bs} {r : En} {M : Sto} {σ : L2.St} {H G : Hp} (R : Rel K B r M σ H G) (i : Nat) (o : Option V) : Rel K B (r.set i none) M (σ.set i o) H G where
  wd := R.wd
  len := by rw [List.length_set, List.length_set]; exact R.len
  slots := fun j e h => by
    by_cases hj : i = j
    · subst hj
      by_cases hi : i < r.length
      · rw [List.getElem?_set_self hi] at h; cases h
      · rw [List.getElem?_eq_none (by simpa using hi)] at h; cases h
    · rw [List.getElem?_set_ne hj] at h ⊢
      exact R.slots j e h
  sin := R.sin

def Wk (M0 : Sto) (r : En) (M : Sto) (r' : En) (M' : Sto) : Prop := ∀ (K : PySem.W.Frag) (B : Bs) (σ : L2.St) (H G : Hp), B.M = M0 → Rel K B r M σ H G → ∃ G', Rel K B r' M' σ H G' ∧ Sub G G'
theorem Wk.refl {M0 : Sto} {r : En} {M : Sto} : Wk M0 r M r M := fun _ _ _ _ G _ R => ⟨G, R, Sub.rfl'⟩
theorem Wk.trans {M0 : Sto} {r r1 r2 : En} {M M1 M2 : Sto} (a : Wk M0 r M r1 M1) (b : Wk M0 r1 M1 r2 M2) : Wk M0 r M r2 M2 := fun K B σ H G e R => by
  obtain ⟨G1, R1, s1⟩ := a K B σ H G e R
  obtain ⟨G2, R2, s2⟩ := b K B σ H G1 e R1
  exact ⟨G2, R2, s1.tr s2⟩
theorem Wk.slots {M0 : Sto} {r r' : En} {M : Sto} (hl : r'.length = r.length) (h : ∀ (i : Nat) d, r'[i]? = some (some d) → r[i]? = some (some d)) : Wk M0 r M r' M := fun K B σ H G _ R =>
  ⟨G, ⟨R.wd, hl.trans R.len, fun i d e => R.slots i d (h i d e), R.sin⟩, Sub.rfl'⟩
def Cl (M0 : Sto) (P : En → Sto → Prop) (r : En) (M : Sto) : Prop := ∃ r' M', Wk M0 r M r' M' ∧ P r' M'
theorem Cl.of {M0 : Sto} {P : En → Sto → Prop} {r : En} {M : Sto} (h : P r M) : Cl M0 P r M := ⟨r, M, Wk.refl, h⟩

mutual
def sb (g : Addr → D) : D → D
  | .non => .non
  | .bl b => .bl b
  | .int i => .int i
  | .str x => .str x
  | .ty n => .ty n
  | .ref a => g a
  | .tup l => .tup (sbL g l)
  | .lst l => .lst (sbL g l)
  | .lk l => .lk (sbL g l)
  | .dic l => .dic (sbD g l)
  | .dlk l => .dlk (sbD g l)
  | .obj C fs => .obj C (sbF g fs)
  | .fn Q => .fn Q
  | .tpl l => .tpl (sbL g l)
def sbL (g : Addr → D) : List D → List D
  | [] => []
  | d :: r => sb g d :: sbL g r
def sbD (g : Addr → D) : List (D × D) → List (D × D)
  | [] => []
  | (c, d) :: r => (c, sb g d) :: sbD g r
def sbF (g : Addr → D) : List (Str × D) → List (Str × D)
  | [] => []
  | (c, d) :: r => (c, sb g d) :: sbF g r
end
section
variable {K : PySem.W.Frag} {G : Hp} {g : Addr → D}
mutual
theorem Rep.sb (hg : ∀ a, Rep K G (g a) (.ref a)) : ∀ {d : D} {v : V}, Rep K G d v → Rep K G (sb g d) v
  | _, _, .non => .non
  | _, _, .bl => .bl
  | _, _, .int => .int
  | _, _, .str => .str
  | _, _, .ty => .ty
  | _, _, .ref => hg _
  | _, _, .fn h q => .fn h q
  | _, _, .tpl h r => .tpl h (r.sb hg)
  | _, _, .tup h r => .tup h (r.sb hg)
  | _, _, .lst h r => .lst h (r.sb hg)
  | _, _, .lk h r => .lk h (r.sb hg)
  | _, _, .dic h r => .dic h (r.sb hg)
  | _, _, .dlk h r => .dlk h (r.sb hg)
  | _, _, .dit h r => .dit h (r.sb hg)
  | _, _, .obj h r => .obj h (r.sb hg)
theorem RepL.sb (hg : ∀ a, Rep K G (g a) (.ref a)) : ∀ {d : List D} {v : List V}, RepL K G d v → RepL K G (sbL g d) v
  | _, _, .nil => .nil
  | _, _, .cons h r => .cons (h.sb hg) (r.sb hg)
theorem RepF.sb (hg : ∀ a, Rep K G (g a) (.ref a)) : ∀ {d : List (Str × D)} {v : List (Str × V)}, RepF K G d v → RepF K G (sbF g d) v
  | _, _, .nil => .nil
  | _, _, .cons h r => .cons (h.sb hg) (r.sb hg)
theorem RepD.sb (hg : ∀ a, Rep K G (g a) (.ref a)) : ∀ {d : List (D × D)} {v : List (Key × V)}, RepD K G d v → RepD K G (sbD g d) v
  | _, _, .nil => .nil
  | _, _, .cons e h r => .cons e (h.sb hg) (r.sb hg)
theorem RepT.sb (hg : ∀ a, Rep K G (g a) (.ref a)) : ∀ {d : List (D × D)} {v : List (List Key × V)}, RepT K G d v → RepT K G (sbD g d) v
  | _, _, .nil => .nil
  | _, _, .cons e h r => .cons e (h.sb hg) (r.sb hg)
end
end
def sbC (g : Addr → D) (a : Addr) : Option Cell → D
  | some (.lst l) => .lst (sbL g l)
  | some (.dic l) => .dic (sbD g l)
  | some (.dit l) => .dic (sbD g l)
  | some (.ins C fs) => .obj C (sbF g fs)
  | some (.tab _) => .ref a
  | none => .ref a
def fzA (M0 M : Sto) : Nat → Addr → D
  | 0, a => .ref a
  | n + 1, a => match M0 a with
    | some _ => .ref a
    | none => sbC (fzA M0 M n) a (M a)
def fz (M0 M : Sto) (n : Nat) (d : D) : D := sb (fzA M0 M n) d
def rs (M0 M : Sto) : Sto := fun a => match M0 a with
  | some _ => M a
  | none => none
def frzG (M0 M : Sto) (H G : Hp) : Hp := fun a => match G a with
  | some o => some o
  | none => match M0 a, M a with
    | none, some _ => H a
    | _, _ => none
section
variable {K : PySem.W.Frag} {M0 M : Sto} {H G : Hp}
theorem frzG_sub : Sub G (frzG M0 M H G) := fun a o h => by unfold frzG; rw [h]
theorem frzG_at {a : Addr} (w : Wd K M H G) (h0 : M0 a = none) {c : Cell} (h : M a = some c) : frzG M0 M H G a = H a := by
  unfold frzG
  rw [(w.cells a c h).1, h0, h]
theorem rep_frz (w : Wd K M H G) : ∀ (n : Nat) (a : Addr), Rep K (frzG M0 M H G) (fzA M0 M n a) (.ref a)
  | 0, a => .ref
  | n + 1, a => by
    have ih := rep_frz w n
    unfold fzA
    split
    · exact .ref
    · rename_i h0
      cases q : M a with
      | none => exact .ref
      | some c =>
        have hat := (w.cells a c q).2
        have e := frzG_at w h0 q
        cases c with
        | lst l =>
          obtain ⟨vs, h, r⟩ := hat
          exact .lst (.inl (e.trans h)) ((r.mono frzG_sub).sb ih)
        | dic l => obtain ⟨vs, h, r⟩ := hat; exact .dic (e.trans h) ((r.mono frzG_sub).sb ih)
        | dit l => obtain ⟨vs, h, r⟩ := hat; exact .dit (e.trans h) ((r.mono frzG_sub).sb ih)
        | ins C fs =>
          obtain ⟨dx, vs, h, r⟩ := hat
          exact .obj (e.trans h) ((r.mono frzG_sub).sb ih)
        | tab q => exact .ref
theorem frz_end {H0 G0 : Hp} (w : Wd K M H G) (s : Since H0 G0 M0 M H G) : Wd K (rs M0 M) H (frzG M0 M H G) ∧ Since H0 G0 M0 (rs M0 M) H (frzG M0 M H G) := by
  refine ⟨⟨fun a o h => ?_, fun a c h => ?_⟩, ⟨s.keep, s.stay, s.gsub.tr frzG_sub, fun a h n => ?_, fun a h n => ?_⟩⟩
  · unfold frzG at h
    split at h
    · rename_i o' q; cases h; exact w.sub _ _ q
    · split at h
      · exact h
      · cases h
  · unfold rs at h
    split at h
    · rename_i x q
      obtain ⟨h1, h2⟩ := w.cells a c h
      refine ⟨?_, h2.move frzG_sub fun _ z => z⟩
      unfold frzG
      rw [h1, q]
    · cases h
  · unfold frzG at h
    split at h
    · rename_i o q; exact s.gnew a (by rw [q]; simp) n
    · split at h
      · rename_i q1 q2; exact s.mnew a (by rw [q2]; simp) q1
      · exact absurd rfl h
  · unfold rs at h
    rw [n] at h
    exact absurd rfl h
def frz1 (p : Addr) (H G : Hp) : Hp := fun a => if a = p then H a else G a
end

theorem EkOk.of {K : PySem.W.Frag} {B : Bs} {f : DTS} {D' : Ends} {σ : L2.St} {H : Hp} (h : liftS K B f D' σ H) : ∃ r M G E, Rel K B r M σ H G ∧ f E r M ∧ EkOk K B G E D' := h
theorem EkOk.to {K : PySem.W.Frag} {B : Bs} {f : DTS} {D' : Ends} {σ : L2.St} {H : Hp} {r : En} {M : Sto} {G : Hp} {E : Ek} (R : Rel K B r M σ H G) (h : f E r M) (k : EkOk K B G E D') : liftS K B f D' σ H := ⟨r, M, G, E, R, h, k⟩
section
variable {X : Cx} {B : Bs} {pos : Pos} {e c : Expr} {es : List Expr} {fa : DTE} {ta : DTT} {st : Stmt} {ss body els : List Stmt} {f g : DTS}
theorem dss_nil : DSs X B [] (fun E r M => E.nx r M) := PSs_imp pss_nil fun D' σ H h => let ⟨r, M, G, E, R, q, k⟩ := EkOk.of h; k.nx _ _ _ _ _ q R Sub.rfl'
theorem dss_cons (h1 : DS X B st f) (h2 : DSs X B ss g) : DSs X B (st :: ss) (fun E r M => f { E with nx := g E } r M) := PSs_imp (pss_cons h1 h2) fun D' σ H h => by
  obtain ⟨r, M, G, E, R, q, k⟩ := EkOk.of h
  exact EkOk.to R q ⟨fun r' M' σ' H' G' q' R' s => EkOk.to R' q' (k.mono s), k.rt, k.bk, k.ct⟩
theorem dss_one (h1 : DS X B st f) : DSs X B [st] f := pss_one h1
theorem ds_expr (he : DE X B e fa) (hs : swapsWith e none pos.line X.env = pure false := by rfl) : DS X B (.Expr e pos) (fun E r M => fa r M fun _ M1 => E.nx r M1) := PS_imp (ps_expr he hs) fun D' σ H h => by
  obtain ⟨r, M, G, E, R, q, k⟩ := EkOk.of h
  exact ⟨r, M, G, _, R, q, fun d M' v H' G' q' R' s p => k.nx _ _ _ _ _ q' R' s⟩
theorem ds_ret (he : DE X B e fa) : DS X B (.Return (some e) pos) (fun E r M => fa r M fun d M1 => E.rt d M1) := PS_imp (ps_ret he) fun D' σ H h => by
  obtain ⟨r, M, G, E, R, q, k⟩ := EkOk.of h
  exact ⟨r, M, G, _, R, q, fun d M' v H' G' q' R' s p => k.rt _ _ _ _ _ _ _ q' R' p⟩
theorem ds_if (hc : DT X B c ta) (ha : DSs X B body f) (hb : DSs X B els g) : DS X B (.If c body els pos) (fun E r M => ta r M fun b M1 => if b = true then f E r M1 else g E r M1) := PS_imp (ps_if hc ha hb) fun D' σ H h => by
  obtain ⟨r, M, G, E, R, q, k⟩ := EkOk.of h
  refine ⟨r, M, G, _, R, q, fun b M' H' G' q' R' s => ?_⟩
  cases b with
  | true => exact EkOk.to R' q' (k.mono s)
  | false => exact EkOk.to R' q' (k.mono s)
abbrev DTGs := List D → En → Sto → (En → Sto → Prop) → Prop
def liftGs (K : PySem.W.Frag) (B : Bs) (f : DTGs) : TGs := fun vs σ H Q => ∃ ds r M G Ψ, Rel K B r M σ H G ∧ RepL K G ds vs ∧ f ds r M Ψ ∧ ∀ r' M' σ' H' G', Ψ r' M' → Rel K B r' M' σ' H' G' → Sub G G' → Q σ' H'
abbrev DGs (X : Cx) (B : Bs) (es : List Expr) (f : DTGs) : Prop := PGs X es (liftGs X.K B f)
theorem PGs_imp {X : Cx} {e : List Expr} {t t' : TGs} (h : PGs X e t) (i : ∀ v σ H Q, t' v σ H Q → t v σ H Q) : PGs X e t' := ⟨fun pins s σ H vs us Q I r q => h.run pins s σ H vs us Q I r (i _ _ _ _ q)⟩
theorem dg_name {i : Nat} {x : Str} (hN : X.N.Nodup) (hi : X.N[i]? = some x := by rfl) (hx : Loc X.env.scope x := by first | exact Or.inl rfl | exact Or.inr rfl)
    (hf : X.fn x = true ∨ X.env.scope.names.lookup x = some .local := by first | exact .inl rfl | exact .inr rfl | assumption) : DG X B (.Name x pos) (fun d r M Ψ => Ψ (r.set i (some d)) M) :=
  PG_imp (pg_name hN hi hx hf) fun v σ H Q ⟨d, r, M, G, Ψ, R, p, h, k⟩ => k _ _ _ _ _ h (R.set p i) Sub.rfl'
theorem dgs_nil : DGs X B [] (fun ds r M Ψ => ds = [] ∧ Ψ r M) := PGs_imp pgs_nil fun vs σ H Q ⟨ds, r, M, G, Ψ, R, p, ⟨e, h⟩, k⟩ => by
  subst e; cases p
  exact ⟨rfl, k _ _ _ _ _ h R Sub.rfl'⟩
theorem dgs_cons {f : DTG} {fs : DTGs} (h1 : DG X B e f) (h2 : DGs X B es fs) (hs : (assignEach (e :: es) X.env).map (·.2) = assign e X.env :: (assignEach es X.env).map (·.2) := by rfl) :
    DGs X B (e :: es) (fun ds r M Ψ => match ds with | d :: l => f d r M fun r1 M1 => fs l r1 M1 Ψ | [] => False) := PGs_imp (pgs_cons h1 h2 hs) fun vs σ H Q ⟨ds, r, M, G, Ψ, R, p, h, k⟩ => by
  cases p with
  | nil => exact h.elim
  | cons p1 p2 => exact ⟨_, _, rfl, _, r, M, G, _, R, p1, h, fun r' M' σ' H' G' q R' s => ⟨_, r', M', G', Ψ, R', p2.mono s, q, fun _ _ _ _ _ q R s' => k _ _ _ _ _ q R (s.tr s')⟩⟩
def tupN (n : Nat) (f : DTGs) : DTG := fun d r M Ψ => match d with
  | .tup l => l.length = n ∧ f l r M Ψ
  | .tpl l => l.length = n ∧ f l r M Ψ
  | _ => False
theorem dg_tup {k n : Nat} {f : DTGs} (hc : X.calm = true) (h : DGs X B es f) (hn : (assignEach es X.env).length = n := by rfl) (hf : List.findIdx? (fun x => x.fst) (assignEach es X.env) = none := by rfl) : DG X B (.Tuple es k pos) (tupN n f) :=
  PG_imp (pg_tup hc h hn hf) fun v σ H Q ⟨d, r, M, G, Ψ, R, p, h, k⟩ => by
    cases p with
    | tup h1 r1 => exact ⟨_, _, rfl, R.wd.sub.sqT h1, by rw [← r1.length]; exact h.1, _, r, M, G, Ψ, R, r1, h.2, k⟩
    | tpl h1 r1 => exact ⟨_, _, rfl, R.wd.sub.sqT (SqT.of h1), by rw [← r1.length]; exact h.1, _, r, M, G, Ψ, R, r1, h.2, k⟩
    | _ => exact h.elim
theorem ds_asg {tg : Expr} {g : DTG} (he : DE X B e fa) (hg : DG X B tg g) (hs : swapsWithSole [tg] e pos.line X.env = pure false := by rfl) (hw : swappedStores [tg] e X.env = pure none := by rfl)
    (h1 : (assignEach [tg] X.env).map (·.2) = [assign tg X.env] := by rfl) : DS X B (.Assign [tg] e pos) (fun E r M => fa r M fun d M1 => g d r M1 E.nx) := PS_imp (ps_asg he hg hs hw h1) fun D' σ H h => by
  obtain ⟨r, M, G, E, R, q, k⟩ := EkOk.of h
  exact ⟨r, M, G, _, R, q, fun d M' v H' G' q' R' s p => ⟨d, r, M', G', _, R', p, q', fun _ _ _ _ _ q R t => k.nx _ _ _ _ _ q R (s.tr t)⟩⟩
theorem ds_set {i : Nat} {x : Str} {pos' : Pos} (hN : X.N.Nodup) (he : DE X B e fa) (hi : X.N[i]? = some x := by rfl) (hx : Loc X.env.scope x := by first | exact Or.inl rfl | exact Or.inr rfl)
    (hs : swapsWith e (some (.Name x pos')) pos.line X.env = pure false := by rfl) (hf : X.fn x = true ∨ X.env.scope.names.lookup x = some .local := by first | exact .inl rfl | exact .inr rfl | assumption) :
    DS X B (.Assign [.Name x pos'] e pos) (fun E r M => fa r M fun d M1 => E.nx (r.set i (some d)) M1) := PS_imp (ps_set hN hi hx he hs hf) fun D' σ H h => by
  obtain ⟨r, M, G, E, R, q, k⟩ := EkOk.of h
  exact ⟨r, M, G, _, R, q, fun d M' v H' G' q' R' s p => k.nx _ _ _ _ _ q' (R'.set p i) s⟩
theorem ds_par {i j : Nat} {x y : Str} {a b : Expr} {ga : DTA} {px py pt : Pos} {kt k2 : Nat} {pt2 : Pos} (hc : X.calm = true) (hN : X.N.Nodup) (ha : DA X B [a, b] ga) (hi : X.N[i]? = some x := by rfl) (hj : X.N[j]? = some y := by rfl) (hij : i ≠ j := by decide)
    (hx : X.env.scope.names.lookup x = some .local := by rfl) (hy : X.env.scope.names.lookup y = some .local := by rfl)
    (hw : swappedStores [.Tuple [.Name x px, .Name y py] kt pt] (.Tuple [a, b] k2 pt2) X.env = pure (some [x, y]) := by rfl) (hs : swapsWithSole [.Tuple [.Name x px, .Name y py] kt pt] (.Tuple [a, b] k2 pt2) pos.line X.env = pure false := by rfl) :
    DS X B (.Assign [.Tuple [.Name x px, .Name y py] kt pt] (.Tuple [a, b] k2 pt2) pos) (fun E r M => ga r M fun ds M1 => match ds with | [d, d'] => E.nx ((r.set i (some d)).set j (some d')) M1 | _ => False) :=
  PS_imp (ps_par hc hN hi hj hij hx hy ha hw hs) fun D' σ H h => by
    obtain ⟨r, M, G, E, R, q, k⟩ := EkOk.of h
    refine ⟨r, M, G, _, R, q, fun ds M' vs H' G' q' R' s p => ?_⟩
    split at q'
    · cases p with
      | cons p1 p2 => cases p2 with
        | cons p2 p3 => cases p3; exact ⟨_, _, rfl, k.nx _ _ _ _ _ q' ((R'.set p1 i).set p2 j) s⟩
    · exact q'.elim
theorem ds_while (hp : PassesOwn (model X.prog X.w) X.A X.env X.xe) (hc : DT X B c ta) (hb : DSs X B body f) : DS X B (.While c body [] pos) (fun E r M => ∃ (Iv : En → Sto → Prop) (μ : En → Sto → Nat), Cl B.M Iv r M ∧ ∀ r M, Iv r M →
    ta r M fun b M1 => if b = true then f { E with nx := Cl B.M fun r' M' => Iv r' M' ∧ μ r' M' < μ r M, ct := Cl B.M fun r' M' => Iv r' M' ∧ μ r' M' < μ r M, bk := E.nx } r M1 else E.nx r M1) := PS_imp (ps_while hp hc hb) fun D' σ H h => by
  obtain ⟨r, M, G, E, R, ⟨Iv, μ, ⟨r0, M0, w0, i0⟩, turn⟩, k⟩ := EkOk.of h
  obtain ⟨G0, R0, s0⟩ := w0 _ _ _ _ _ rfl R
  refine ⟨fun n σ H => ∃ r M G1, Rel X.K B r M σ H G1 ∧ Sub G G1 ∧ Iv r M ∧ n = μ r M, ⟨_, r0, M0, G0, R0, s0, i0, rfl⟩, ?_⟩
  rintro n σ1 H1 ⟨r1, M1, G1, R1, s1, i1, rfl⟩
  refine ⟨r1, M1, G1, _, R1, turn r1 M1 i1, fun b M' H' G' q' R' s => ?_⟩
  cases b with
  | false => exact k.nx _ _ _ _ _ q' R' (s1.tr s)
  | true =>
    refine ⟨fun σ2 H2 => ∃ r2 M2 G2, Rel X.K B r2 M2 σ2 H2 G2 ∧ Sub G G2 ∧ Iv r2 M2 ∧ μ r2 M2 < μ r1 M1, fun σ2 H2 ⟨r2, M2, G2, R2, s2, i2, l2⟩ => ⟨_, l2, r2, M2, G2, R2, s2, i2, rfl⟩, EkOk.to R' q' ?_⟩
    have cl : ∀ r' M' σ' H' G2, Cl B.M (fun r' M' => Iv r' M' ∧ μ r' M' < μ r1 M1) r' M' → Rel X.K B r' M' σ' H' G2 → Sub G' G2 → ∃ r2 M2 G2, Rel X.K B r2 M2 σ' H' G2 ∧ Sub G G2 ∧ Iv r2 M2 ∧ μ r2 M2 < μ r1 M1 := fun r' M' σ' H' G2 ⟨r3, M3, w3, i3, l3⟩ R3 t => by
      obtain ⟨G3, R3, t3⟩ := w3 _ _ _ _ _ rfl R3
      exact ⟨r3, M3, G3, R3, ((s1.tr s).tr t).tr t3, i3, l3⟩
    exact ⟨cl, k.rt, fun _ _ _ _ _ q R t => k.nx _ _ _ _ _ q R ((s1.tr s).tr t), cl⟩
def Yld (K : PySem.W.Frag) (B : Bs) (J : It) (G0 : Hp) (xs : List D) (S : Sto → Prop) : Prop := ∀ i r M σ H G, Rel K B r M σ H G → Sub G0 G → S M →
  (i < xs.length → J.go i H ∧ ∀ x H', J.yld i H x H' → ∃ G' d, Grow H G H' G' ∧ xs[i]? = some d ∧ Rep K G' d x) ∧ (xs.length ≤ i → J.stop i H)
abbrev DTI := En → Sto → (List D → (Sto → Prop) → Sto → Prop) → Prop
def liftI (K : PySem.W.Frag) (B : Bs) (f : DTI) : TI := fun σ H Q => ∃ r M G Ψ, Rel K B r M σ H G ∧ f r M Ψ ∧ ∀ xs S M' J H' G', Ψ xs S M' → Rel K B r M' σ H' G' → Sub G G' → Yld K B J G' xs S → Q J H'
abbrev DI (X : Cx) (B : Bs) (tg iter : Expr) (f : DTI) : Prop := PI X tg iter (liftI X.K B f)
theorem PI_imp {X : Cx} {tg iter : Expr} {t t' : TI} (h : PI X tg iter t) (i : ∀ σ H Q, t' σ H Q → t σ H Q) : PI X tg iter t' := ⟨fun pins s σ H Q I q => h.run pins s σ H Q I (i _ _ _ q)⟩
@[irreducible] def forD (M0 : Sto) (wi : DTI) (g : DTG) (f : DTS) : DTS := fun E r M => wi r M fun xs S M1 => ∃ Iv : Nat → En → Sto → Prop, Cl M0 (Iv 0) r M1 ∧ (∀ i r M, Iv i r M → S M) ∧
  (∀ i d r M, xs[i]? = some d → Iv i r M → g d r M fun r' M' => f { E with nx := Cl M0 (Iv (i + 1)), ct := Cl M0 (Iv (i + 1)), bk := E.nx } r' M') ∧ ∀ r M, Iv xs.length r M → E.nx r M
theorem ds_for {tg iter : Expr} {wi : DTI} {g : DTG} (hp : PassesOwn (model X.prog X.w) X.A X.env X.xe) (hc : X.calm = true) (hi : DI X B tg iter wi) (hg : DG X B tg g) (hb : DSs X B body f) (h1 : ∀ x, foldedSetIterable iter X.env x = pure x := by intro _; rfl) :
    DS X B (.For tg iter body [] pos) (forD B.M wi g f) := PS_imp (ps_for hp hc hi hg hb h1) fun D' σ H h => by
  obtain ⟨r, M, G, E, R, q, k⟩ := EkOk.of h
  unfold forD at q
  refine ⟨r, M, G, _, R, q, fun xs S M' J H' G' ⟨Iv, ⟨r0, M0, w0, i0⟩, hS, turn, fin⟩ R' s y => ?_⟩
  obtain ⟨G0, R0, s0⟩ := w0 _ _ _ _ _ rfl R'
  refine ⟨fun i m σ H => ∃ r M G, Rel X.K B r M σ H G ∧ Sub G' G ∧ Iv i r M ∧ i ≤ xs.length ∧ m = xs.length - i, ⟨_, r0, M0, G0, R0, s0, i0, Nat.zero_le _, rfl⟩, ?_⟩
  rintro i m σ1 H1 ⟨r1, M1, G1, R1, s1, i1, hi, rfl⟩
  obtain ⟨y1, y2⟩ := y i r1 M1 σ1 H1 G1 R1 s1 (hS _ _ _ i1)
  by_cases hl : i < xs.length
  · obtain ⟨y3, y4⟩ := y1 hl
    refine .inr ⟨y3, fun σ2 H2 => ∃ r2 M2 G2, Rel X.K B r2 M2 σ2 H2 G2 ∧ Sub G' G2 ∧ Iv (i + 1) r2 M2, fun σ2 H2 ⟨r2, M2, G2, R2, s2, i2⟩ => ⟨_, by omega, r2, M2, G2, R2, s2, i2, hl, rfl⟩, fun x H2 hy => ?_⟩
    obtain ⟨G2, d, g2, hd, p⟩ := y4 x H2 hy
    have R2 := R1.grow g2
    have s2 := g2.gsub
    refine ⟨d, r1, M1, G2, _, R2, p, turn i d r1 M1 hd i1, fun r3 M3 σ3 H3 G3 q3 R3 s3 => EkOk.to R3 q3 ?_⟩
    have t3 : Sub G' G3 := (s1.tr s2).tr s3
    have cl : ∀ r' M' σ' H' G2, Cl B.M (Iv (i + 1)) r' M' → Rel X.K B r' M' σ' H' G2 → Sub G3 G2 → ∃ r2 M2 G2, Rel X.K B r2 M2 σ' H' G2 ∧ Sub G' G2 ∧ Iv (i + 1) r2 M2 := fun r' M' σ' H' G2 ⟨r4, M4, w4, i4⟩ R4 t => by
      obtain ⟨G4, R4, t4⟩ := w4 _ _ _ _ _ rfl R4
      exact ⟨r4, M4, G4, R4, (t3.tr t).tr t4, i4⟩
    exact ⟨cl, k.rt, fun _ _ _ _ _ q R t => k.nx _ _ _ _ _ q R ((s.tr t3).tr t), cl⟩
  · have e : i = xs.length := by omega
    subst e
    exact .inl ⟨y2 (Nat.le_refl _), k.nx _ _ _ _ _ (fin _ _ i1) R1 (s.tr s1)⟩
theorem di_list {l : Expr} {tg : Expr} (hl : DE X B l fa) : DI X B tg l (fun r M Ψ => fa r M fun d M1 => ∃ xs, lstOf M1 d = some xs ∧ Ψ xs (fun M => lstOf M d = some xs) M1) := PI_imp (pi_list hl) fun σ H Q ⟨r, M, G, Ψ, R, h, k⟩ => by
  refine ⟨r, M, G, _, R, h, fun d M1 v H1 G1 ⟨xs, e, q⟩ R1 s1 p => ?_⟩
  obtain ⟨a, vs, rfl, h1, r1⟩ := lst_rep' R1.wd p e
  refine ⟨a, rfl, ⟨vs, h1⟩, k xs _ M1 _ H1 G1 q R1 s1 fun i r2 M2 σ2 H2 G2 R2 t2 e2 => ?_⟩
  obtain ⟨a', vs', ea, h2, r2⟩ := lst_rep' R2.wd (p.mono t2) e2
  cases ea
  have hl := r2.length
  refine ⟨fun hi => ?_, fun hi => ⟨vs', h2, by omega⟩⟩
  obtain ⟨d', hd⟩ : ∃ d', xs[i]? = some d' := ⟨xs[i], by simp [hi]⟩
  obtain ⟨x, hx, px⟩ := r2.get hd
  refine ⟨⟨vs', x, h2, hx⟩, fun y H' hy => ?_⟩
  obtain ⟨e3, hy⟩ := hy
  subst e3
  have q3 := hy vs' h2
  rw [hx] at q3
  cases q3
  exact ⟨G2, d', Grow.refl R2.wd.sub, hd, px⟩
theorem di_tup {l : Expr} {tg : Expr} (hl : DE X B l fa) : DI X B tg l (fun r M Ψ => fa r M fun d M1 => ∃ xs, tupOf d = some xs ∧ Ψ xs (fun _ => True) M1) := PI_imp (pi_tup hl) fun σ H Q ⟨r, M, G, Ψ, R, h, k⟩ => by
  refine ⟨r, M, G, _, R, h, fun d M1 v H1 G1 ⟨xs, e, q⟩ R1 s1 p => ?_⟩
  obtain ⟨a, vs, rfl, h1, r1⟩ := tup_rep R1.wd p e
  refine ⟨a, rfl, ⟨vs, h1⟩, k xs _ M1 _ H1 G1 q R1 s1 fun i r2 M2 σ2 H2 G2 R2 t2 _ => ?_⟩
  obtain ⟨a', vs', ea, h2, r2⟩ := tup_rep R2.wd (p.mono t2) e
  cases ea
  have hl := r2.length
  refine ⟨fun hi => ?_, fun hi => ⟨vs', h2, by omega⟩⟩
  obtain ⟨d', hd⟩ : ∃ d', xs[i]? = some d' := ⟨xs[i], by simp [hi]⟩
  obtain ⟨x, hx, px⟩ := r2.get hd
  refine ⟨⟨vs', x, h2, hx⟩, fun y H' hy => ?_⟩
  obtain ⟨e3, hy⟩ := hy
  subst e3
  have q3 := hy vs' h2
  rw [hx] at q3
  cases q3
  exact ⟨G2, d', Grow.refl R2.wd.sub, hd, px⟩
def rngD (lo : Int) (n : Nat) : List D := (List.range n).map fun i => .int (lo + (i : Nat))
theorem rng_get {lo : Int} {n i : Nat} (h : i < n) : (rngD lo n)[i]? = some (.int (lo + i)) := by
  unfold rngD
  rw [List.getElem?_map, List.getElem?_range h]; rfl
theorem rng_len {lo : Int} {n : Nat} : (rngD lo n).length = n := by unfold rngD; rw [List.length_map, List.length_range]
theorem yld_rng {K : PySem.W.Frag} {G : Hp} {lo : Int} {n : Nat} : Yld K B (Itr lo n) G (rngD lo n) (fun _ => True) := fun i r M σ H G R s _ => by
  rw [rng_len]
  exact ⟨fun hi => ⟨hi, fun x H' ⟨e, ex⟩ => by subst e ex; exact ⟨G, _, Grow.refl R.wd.sub, rng_get hi, .int⟩⟩, fun hi => hi⟩
def fitR (i : Int) : Prop := -(2 ^ 62) ≤ i ∧ i < 2 ^ 62
theorem di_range1 {a : Expr} {tg : Expr} {ga : DTA} {p : Pos} (hm : X.mg "range" = none) (ha : DA X B [a] ga) (hg : Gl X "range" := by rfl) (hs : starEach [a] X.env = [(false, eval a X.env)] := by rfl) :
    DI X B tg (.Call (.Name "range" p) [a] [] pos) (fun r M Ψ => ga r M fun ds M1 => match ds with | [.int j] => fitR j ∧ Ψ (rngD 0 j.toNat) (fun _ => True) M1 | _ => False) := PI_imp (pi_range1 hg hm ha hs) fun σ H Q ⟨r, M, G, Ψ, R, h, k⟩ => by
  refine ⟨r, M, G, _, R, h, fun ds M1 vs H1 G1 q R1 s1 p => ?_⟩
  split at q
  · cases p with
    | cons p1 p2 => cases p1; cases p2; exact ⟨_, rfl, q.1.1, q.1.2, k _ _ _ _ _ _ q.2 R1 s1 yld_rng⟩
  · exact q.elim
theorem di_range2 {a b : Expr} {tg : Expr} {ga : DTA} {p : Pos} (hm : X.mg "range" = none) (ha : DA X B [a, b] ga) (hg : Gl X "range" := by rfl) (hs : starEach [a, b] X.env = [(false, eval a X.env), (false, eval b X.env)] := by rfl) (hs2 : starEach [b] X.env = [(false, eval b X.env)] := by rfl) :
    DI X B tg (.Call (.Name "range" p) [a, b] [] pos) (fun r M Ψ => ga r M fun ds M1 => match ds with | [.int i, .int j] => (fitR i ∧ fitR j) ∧ Ψ (rngD i (j - i).toNat) (fun _ => True) M1 | _ => False) := PI_imp (pi_range2 hg hm ha hs hs2) fun σ H Q ⟨r, M, G, Ψ, R, h, k⟩ => by
  refine ⟨r, M, G, _, R, h, fun ds M1 vs H1 G1 q R1 s1 p => ?_⟩
  split at q
  · cases p with
    | cons p1 p2 => cases p2 with
      | cons p2 p3 => cases p1; cases p2; cases p3; exact ⟨_, _, rfl, ⟨q.1.1.1, q.1.1.2, q.1.2.1, q.1.2.2⟩, k _ _ _ _ _ _ q.2 R1 s1 yld_rng⟩
  · exact q.elim
end
end Z
namespace Z
open PySem PySem.Spec PyProof.Rows L2

abbrev XD := Addr × List (Str × D)
structure RepX (K : PySem.W.Frag) (G H : Hp) (x : XD) (cls : Value) (d : Option Addr) : Prop where
  cls : cls = .ref x.1
  own : ∃ dd fvs, d = some dd ∧ H dd = some (.xd fvs) ∧ RepF K G x.2 fvs
def wOf (K : PySem.W.Frag) (B : Bs) (Ξ : XD → En → Sto → Prop) : WX := fun cls d σ H => ∃ x r M G, Ξ x r M ∧ Rel K B r M σ H G ∧ RepX K G H x cls d
structure Zx (X : Cx) (B : Bs) (Ξ : XD → En → Sto → Prop) : Prop where
  tk : Takes X (wOf X.K B Ξ)
  po : PassesOwn (model X.prog X.w) X.A X.env X.xe

abbrev Ct := List D → Sto → (D → Sto → Prop) → (XD → Sto → Prop) → Prop
def spC (K : PySem.W.Frag) (n : Nat) (c : Ct) : Sp := fun vs H Q E => vs.length = n ∧ ∃ ds G M Ψ Ξ, Wd K M H G ∧ RepL K G ds vs ∧ c ds M Ψ Ξ ∧
  (∀ d M' v H' G', Ψ d M' → Wd K M' H' G' → Since H G M M' H' G' → Rep K G' d v → Q v H') ∧ ∀ x M' H' G' cls dd, Ξ x M' → Wd K M' H' G' → Since H G M M' H' G' → RepX K G' H' x cls dd → E cls dd H'

inductive FzR (M0 M' : Sto) : D → D → Sto → Prop where
  | same {d : D} : FzR M0 M' d d M'
  | drop {d : D} : FzR M0 M' d d (rs M0 M')
  | frz (n : Nat) {d : D} : FzR M0 M' d (fz M0 M' n d) (rs M0 M')
def rtF (M0 : Sto) (Ψ : D → Sto → Prop) : D → Sto → Prop := fun d M' => ∃ d' M'', FzR M0 M' d d' M'' ∧ Ψ d' M''
inductive FzX (M0 M' : Sto) : Sto → Prop where
  | same : FzX M0 M' M'
  | drop : FzX M0 M' (rs M0 M')
def exF (M0 : Sto) (Ξ : XD → Sto → Prop) : XD → En → Sto → Prop := fun x _ M' => ∃ M'', FzX M0 M' M'' ∧ Ξ x M''

theorem exF_take {K : PySem.W.Frag} {B : Bs} {Ξ : XD → Sto → Prop} {E : XK} (hE : ∀ x M' H' G' cls dd, Ξ x M' → Wd K M' H' G' → Since B.H B.G B.M M' H' G' → RepX K G' H' x cls dd → E cls dd H') :
    ∀ cls d σ H, wOf K B (exF B.M Ξ) cls d σ H → E cls d H := fun cls d σ H ⟨x, r, M, G, ⟨M', f, q⟩, R, rx⟩ => by
  cases f with
  | same => exact hE x M H G cls d q R.wd R.sin rx
  | drop =>
    obtain ⟨w1, s1⟩ := frz_end R.wd R.sin
    obtain ⟨e, dd, fvs, e1, e2, r2⟩ := rx
    exact hE x _ H _ cls d q w1 s1 ⟨e, dd, fvs, e1, e2, r2.mono frzG_sub⟩

section
variable {P : Program} {w : World} {K : PySem.W.Frag} {mg : Str → Option Value} {base : Heap}
def ent (N : Nat) (ds : List D) : En := ds.map some ++ List.replicate (N - ds.length) none
theorem rel_start {ds : List D} {vs : List V} {N : List Str} {H G : Hp} {M : Sto} (w : Wd K M H G) (r : RepL K G ds vs) : Rel K ⟨H, G, M⟩ (ent N.length ds) M (L2.start N vs) H G where
  wd := w
  len := by
    unfold ent L2.start
    rw [List.length_append, List.length_append, List.length_map, List.length_map, List.length_replicate, List.length_replicate, r.length]
  slots := fun i d h => by
    unfold ent at h
    unfold L2.start
    by_cases hi : i < ds.length
    · rw [List.getElem?_append_left (by simpa using hi), List.getElem?_map] at h
      cases e : ds[i]? with
      | none => rw [e] at h; cases h
      | some a =>
        rw [e] at h; cases h
        obtain ⟨v, h1, h2⟩ := r.get e
        exact ⟨v, by rw [List.getElem?_append_left (by rw [List.length_map, ← r.length]; exact hi), List.getElem?_map, h1]; rfl, h2⟩
    · rw [List.getElem?_append_right (by simpa using hi), List.getElem?_replicate] at h
      split at h <;> cases h
  sin := Since.refl
end

def BindD (K : PySem.W.Frag) (fd : FuncData) (ps : List Str) (b : Nat × List Str × (List D → List D → List D)) : Prop :=
  (∀ ds zs, ds.length = b.1 → zs.length = b.2.1.length → (b.2.2 ds zs).length = ps.length) ∧ ∃ gl gV, KBn K fd ps b.1 b.2.1 gl gV ∧ ∀ (G : Hp) ds vs zs us, RepL K G ds vs → RepL K G zs us → RepL K G (b.2.2 ds zs) (gV vs us)
structure Gf (P : Program) (w : World) (K : PySem.W.Frag) (mg : Str → Option Value) (base : Heap) (x : Str) (k : Nat) (c : Ct) (bs : List (Nat × List Str × (List D → List D → List D))) : Prop where
  ex : ∃ f fd ps, mg x = some (.ref f) ∧ PySem.W.keepIn K (.ref f) = true ∧ FnOk P w K mg base (L2.CX P w) k f fd ps (spC K ps.length c) ∧ ∀ b ∈ bs, BindD K fd ps b
def pos (n : Nat) : Nat × List Str × (List D → List D → List D) := (n, [], fun ds _ => ds)
section
variable {X : Cx} {B : Bs} {Ξ : XD → En → Sto → Prop} {k : Nat} {f : Addr} {fd : FuncData} {ps ks : List Str} {c : Ct} {pos apos : Pos} {e : Expr} {es : List Expr} {kws : List Keyword} {ga gk : DTA} {fa : DTE}
theorem run_c {pins : List (Addr × Obj)} {r : En} {M : Sto} {σ : L2.St} {H G : Hp} {s : Shared} {Q : VK} {vs zs : List V} {us ws : List Value} {ds dz : List D} {b : Nat × List Str × (List D → List D → List D)} {Ψ : D → Sto → Prop}
    (F : FnOk X.prog X.w X.K X.mg X.base (L2.CX X.prog X.w) k f fd ps (spC X.K ps.length c)) (hr : Room k X.A) (hb : BindD X.K fd ps b) (tk : Takes X (wOf X.K B Ξ)) (I : L2.Inv X pins σ H s) (R : Rel X.K B r M σ H G)
    (hv : Vals vs us) (hz : Vals zs ws) (rv : RepL X.K G ds vs) (rz : RepL X.K G dz zs) (l1 : ds.length = b.1) (l2 : dz.length = b.2.1.length) (hc : c (b.2.2 ds dz) M Ψ (fun x M' => Ξ x r M'))
    (hQ : ∀ d M' v H' G', Ψ d M' → Rel X.K B r M' σ H' G' → Sub G G' → Rep X.K G' d v → Q v H') : wpAny (model X.prog X.w) X.A (call (.ref f) us (b.2.1.zip ws)) (EP X pins σ Q) X.xe s := by
  obtain ⟨hl, gl, gV, kb, rel⟩ := hb
  have l3 := hl ds dz l1 l2
  have u1 : us.length = b.1 := by rw [← hv.length, ← rv.length]; exact l1
  have u2 : ws.length = b.2.1.length := by rw [← hz.length, ← rz.length]; exact l2
  have rr := rel G ds vs dz zs rv rz
  have hsp : spC X.K ps.length c (gV vs zs) H Q (fun cls d H' => wOf X.K B Ξ cls d σ H') := by
    refine ⟨by rw [← rr.length]; exact l3, _, G, M, Ψ, _, R.wd, rr, hc, fun d M' v H' G' q w s p => hQ d M' v H' G' q (R.go w s) s.gsub p, fun x M' H' G' cls dd q w s rx => ?_⟩
    exact ⟨x, r, M', G', q, R.go w s, rx⟩
  refine wpAny_call (codeAny_mono (F.run X.A X.stack s H ⟨us, b.2.1.zip ws⟩ (gl us ws) (gV vs zs) Q _ hr I.env0 (kb.to s us ws I.kIn u1 u2) (kb.rel hv hz) hsp) fun fr s' hq => ?_)
  cases fr with
  | error e => exact tk e s' (XE.of_call I (fun cls d H' h => h) hq)
  | ok fl =>
    cases fl with
    | ret u => exact I.after hq
    | next => exact False.elim hq
    | brk => exact False.elim hq
    | cont => exact False.elim hq
abbrev DK (X : Cx) (B : Bs) (e : List Keyword) (f : DTA) : Prop := PK X e (liftA X.K B f)
theorem PK_imp {X : Cx} {e : List Keyword} {t t' : TA} (h : PK X e t) (i : ∀ σ H Q, t' σ H Q → t σ H Q) : PK X e t' := ⟨fun pos pins s σ H Q I q => h.run pos pins s σ H Q I (i _ _ _ q)⟩
theorem dk_nil : DK X B [] (fun _ M Ψ => Ψ [] M) := PK_imp pk_nil fun σ H Q ⟨r, M, G, Ψ, R, h, k⟩ => k [] M [] H G h R Sub.rfl' .nil
theorem dk_cons {nm : Option Str} {kpos : Pos} {fs : DTA} (ha : DE X B e fa) (hr : DK X B kws fs) : DK X B (⟨nm, e, kpos⟩ :: kws) (fun r M Ψ => fa r M fun d M1 => fs r M1 fun ds M2 => Ψ (d :: ds) M2) := by
  refine PK_imp (pk_cons ha hr) fun σ H Q ⟨r, M, G, Ψ, R, h, k⟩ => ?_
  refine ⟨r, M, G, _, R, h, fun d M1 v H1 G1 q1 R1 s1 p1 => ?_⟩
  exact ⟨r, M1, G1, _, R1, q1, fun ds M2 vs H2 G2 q2 R2 s2 p2 => k _ _ _ _ _ q2 R2 (s1.tr s2) (.cons (p1.mono s2) p2)⟩
variable {P : Program} {w : World} {K : PySem.W.Frag} {mg : Str → Option Value} {base : Heap} {x : Str} {bs : List (Nat × List Str × (List D → List D → List D))} {n j : Nat} {g : List D → List D → List D} {p : Pos}
def callD (n m : Nat) (g : List D → List D → List D) (c : Ct) (Ξ : XD → En → Sto → Prop) (ds dz : List D) (r : En) (M : Sto) (Ψ : PD) : Prop := ds.length = n ∧ dz.length = m ∧ c (g ds dz) M Ψ (fun x M' => Ξ x r M')
theorem de_call (F : Gf X.prog X.w X.K X.mg X.base x j c bs) (hr : Room k X.A) (z : Zx X B Ξ) (hb : (n, [], g) ∈ bs) (ha : DA X B (e :: es) ga) (hj : j ≤ k := by decide) (hg : Gl X x := by rfl) (hdb : (x == ("__debug__" : Str)) = false := by decide)
    (he : starEach (e :: es) X.env = (false, eval e X.env) :: starEach es X.env := by rfl) (hpl : (backTo pos (starEach es X.env)).any (·.1) = false := by rfl) :
    DE X B (.Call (.Name x p) (e :: es) [] pos) (fun r M Ψ => ga r M fun ds M1 => callD n 0 g c Ξ ds [] r M1 Ψ) := by
  obtain ⟨f, fd, ps, hm, hk, FO, hbs⟩ := F.ex
  refine ⟨fun pins s σ H Q I ⟨r, M, G, Ψ, R, h, kk⟩ => ?_⟩
  refine wpAny_Call_Name_kw (ld_glob I hg hm ?_ hdb)
  refine PySem.W.callWith_K (h₀ := X.base) I.ok.mod.kin hk (thn (ha.run pos pins s σ H _ I ⟨r, M, G, _, R, h, fun ds M1 vs H1 G1 q R1 s1 p1 => (⟨ds, M1, G1, q, R1, s1, p1⟩ : ∃ ds M1 G1, callD n 0 g c Ξ ds [] r M1 Ψ ∧ Rel X.K B r M1 σ H1 G1 ∧ Sub G G1 ∧ RepL X.K G1 ds vs)⟩) fun us s1 ⟨vs, H1, I1, rv, ds, M1, G1, ⟨l1, _, q⟩, R1, t1, p1⟩ => ⟨I1.kIn, ?_⟩) he hpl
  exact run_c (zs := []) (ws := []) (dz := []) FO (hr.mono hj) (hbs _ hb) z.tk I1 R1 rv .nil p1 .nil l1 rfl q fun d M' v H' G' q R' s' p' => kk _ _ _ _ _ q R' (t1.tr s') p'
theorem de_callK (F : Gf X.prog X.w X.K X.mg X.base x j c bs) (hr : Room k X.A) (z : Zx X B Ξ) (hb : (n, ks, g) ∈ bs) (ha : DA X B (e :: es) ga) (hkw : DK X B kws gk) (hj : j ≤ k := by decide) (hg : Gl X x := by rfl) (hdb : (x == ("__debug__" : Str)) = false := by decide)
    (hall : (backToKw pos (keywordEach kws X.env)).all (·.1.isSome) = true := by rfl) (hks : (backToKw pos (keywordEach kws X.env)).filterMap (·.1) = ks := by rfl) (he : starEach (e :: es) X.env = (false, eval e X.env) :: starEach es X.env := by rfl)
    (hpl : ((backTo pos (starEach (e :: es) X.env)).any (·.1) || (backToKw pos (keywordEach kws X.env)).any (·.1.isNone)) = false := by rfl) :
    DE X B (.Call (.Name x p) (e :: es) kws pos) (fun r M Ψ => ga r M fun ds M1 => gk r M1 fun dz M2 => callD n ks.length g c Ξ ds dz r M2 Ψ) := by
  obtain ⟨f, fd, ps, hm, hk, FO, hbs⟩ := F.ex
  refine ⟨fun pins s σ H Q I ⟨r, M, G, Ψ, R, h, kk⟩ => ?_⟩
  refine wpAny_Call_Name_kw (ld_glob I hg hm ?_ hdb)
  refine PySem.W.callWith_KW (h₀ := X.base) I.ok.mod.kin hk hall (thn (ha.run pos pins s σ H _ I ⟨r, M, G, _, R, h, fun ds M1 vs H1 G1 q R1 s1 p1 => (⟨ds, M1, G1, q, R1, s1, p1⟩ : ∃ ds M1 G1, (gk r M1 fun dz M2 => callD n ks.length g c Ξ ds dz r M2 Ψ) ∧ Rel X.K B r M1 σ H1 G1 ∧ Sub G G1 ∧ RepL X.K G1 ds vs)⟩) fun us s1 ⟨vs, H1, I1, rv, ds, M1, G1, q, R1, t1, p1⟩ => ?_) hpl he
  refine thn (hkw.run pos pins s1 σ H1 _ I1 ⟨r, M1, G1, _, R1, q, fun dz M2 us H2 G2 q R2 s2 p2 => (⟨dz, M2, G2, q, R2, s2, p2⟩ : ∃ dz M2 G2, callD n ks.length g c Ξ ds dz r M2 Ψ ∧ Rel X.K B r M2 σ H2 G2 ∧ Sub G1 G2 ∧ RepL X.K G2 dz us)⟩) fun ws s2 ⟨zs, H2, I2, rz, dz, M2, G2, ⟨l1, l2, q⟩, R2, t2, p2⟩ => ⟨I2.kIn, ?_⟩
  rw [hks]
  exact run_c FO (hr.mono hj) (hbs _ hb) z.tk I2 R2 rv rz (p1.mono t2) p2 l1 l2 q fun d M' v H' G' q R' s' p' => kk _ _ _ _ _ q R' ((t1.tr t2).tr s') p'
theorem de_callK0 (F : Gf X.prog X.w X.K X.mg X.base x j c bs) (hr : Room k X.A) (z : Zx X B Ξ) (hb : (0, ks, g) ∈ bs) (hkw : DK X B kws gk) (hj : j ≤ k := by decide) (hg : Gl X x := by rfl) (hdb : (x == ("__debug__" : Str)) = false := by decide)
    (hall : (backToKw pos (keywordEach kws X.env)).all (·.1.isSome) = true := by rfl) (hks : (backToKw pos (keywordEach kws X.env)).filterMap (·.1) = ks := by rfl)
    (hpl : ((backTo pos (starEach [] X.env)).any (·.1) || (backToKw pos (keywordEach kws X.env)).any (·.1.isNone)) = false := by rfl) :
    DE X B (.Call (.Name x p) [] kws pos) (fun r M Ψ => gk r M fun dz M2 => callD 0 ks.length g c Ξ [] dz r M2 Ψ) := by
  obtain ⟨f, fd, ps, hm, hk, FO, hbs⟩ := F.ex
  refine ⟨fun pins s σ H Q I ⟨r, M, G, Ψ, R, h, kk⟩ => ?_⟩
  refine wpAny_Call_Name_kw (ld_glob I hg hm ?_ hdb)
  refine PySem.W.callWith_KW0 (h₀ := X.base) I.ok.mod.kin hk hall ?_ hpl
  refine thn (hkw.run pos pins s σ H _ I ⟨r, M, G, _, R, h, fun dz M2 us H2 G2 q R2 s2 p2 => (⟨dz, M2, G2, q, R2, s2, p2⟩ : ∃ dz M2 G2, callD 0 ks.length g c Ξ [] dz r M2 Ψ ∧ Rel X.K B r M2 σ H2 G2 ∧ Sub G G2 ∧ RepL X.K G2 dz us)⟩) fun ws s2 ⟨zs, H2, I2, rz, dz, M2, G2, ⟨l1, l2, q⟩, R2, t2, p2⟩ => ⟨I2.kIn, ?_⟩
  rw [hks]
  exact run_c (vs := []) (us := []) (ds := []) FO (hr.mono hj) (hbs _ hb) z.tk I2 R2 .nil rz .nil p2 l1 l2 q fun d M' v H' G' q R' s' p' => kk _ _ _ _ _ q R' (t2.tr s') p'
end
end Z
namespace Z
open PySem PySem.Spec PyProof.Rows L2

abbrev Post (K : PySem.W.Frag) (H G : Hp) (M : Sto) (φ : D → Sto → Prop) (Q : VK) : Prop := ∀ d M' w H' G', φ d M' → Wd K M' H' G' → Since H G M M' H' G' → Rep K G' d w → Q w H'
theorem Post.id {K : PySem.W.Frag} {H G : Hp} {M : Sto} {φ : D → Sto → Prop} {Q : VK} (k : Post K H G M φ Q) (w : Wd K M H G) {d : D} {v : V} (h : φ d M) (p : Rep K G d v) : Q v H := k _ _ _ _ _ h w Since.refl p
theorem Post.grow {K : PySem.W.Frag} {H G H' G' : Hp} {M : Sto} {φ : D → Sto → Prop} {Q : VK} (k : Post K H G M φ Q) (w : Wd K M H G) (g : Grow H G H' G') {d : D} {v : V} (h : φ d M) (p : Rep K G' d v) : Q v H' := k _ _ _ _ _ h (g.wd w) (g.since w) p
theorem CallR_or {X : Cx} {f : Value} {r r' : List V → Hp → VK → Prop} (h : CallR X f r) (h' : CallR X f r') : CallR X f (fun xs H Q => r xs H Q ∨ r' xs H Q) := by
  intro pins s σ H xs us Q I rx q
  rcases q with q | q
  · exact h pins s σ H xs us Q I rx q
  · exact h' pins s σ H xs us Q I rx q
def OkC (K : PySem.W.Frag) (r : List V → Hp → VK → Prop) (g : Sto → List D → PD → Prop) : Prop := ∀ (M : Sto) (H G : Hp) (ds : List D) (vs : List V) (φ : PD) (Q : VK), Wd K M H G → RepL K G ds vs → g M ds φ → Post K H G M φ Q → r vs H Q
section
variable {X : Cx} {B : Bs} {pos apos : Pos} {a b e o : Expr} {es : List Expr} {fa fb fo : DTE} {ga : DTA} {k : Nat}
theorem de_callB {r : List V → Hp → VK → Prop} {g : Sto → List D → PD → Prop} {x : Str} {id : String} {p : Pos} (hc : CallR X (.builtin id) r) (ok : OkC X.K r g) (hm : X.mg x = none) (hv : bootBuiltins x = some (.builtin id)) (ha : DA X B (e :: es) ga)
    (hg : Gl X x := by rfl) (hn : x ≠ "__name__" := by decide) (hdb : (x == ("__debug__" : Str)) = false := by decide)
    (he : starEach (e :: es) X.env = (false, eval e X.env) :: starEach es X.env := by rfl) (hpl : (backTo pos (starEach es X.env)).any (·.1) = false := by rfl) :
    DE X B (.Call (.Name x p) (e :: es) [] pos) (fun r M Ψ => ga r M fun ds M1 => g M1 ds Ψ) := PE_imp (pe_callB hc hg hm hv ha hn hdb he hpl) fun σ H Q ⟨r, M, G, Ψ, R, h, k⟩ =>
  ⟨r, M, G, _, R, h, fun ds M1 vs H1 G1 q R1 s1 p1 => ok M1 H1 G1 ds vs Ψ Q R1.wd p1 q fun d M' w H' G' f w' s' p' => k _ _ _ _ _ f (R1.go w' s') (s1.tr s'.gsub) p'⟩
theorem de_callT {r : List V → Hp → VK → Prop} {g : Sto → List D → PD → Prop} {x : Str} {id : String} {p : Pos} (hc : CallR X (.type id) r) (ok : OkC X.K r g) (hm : X.mg x = none) (hv : bootBuiltins x = some (.type id)) (ha : DA X B (e :: es) ga)
    (hg : Gl X x := by rfl) (hn : x ≠ "__name__" := by decide) (hdb : (x == ("__debug__" : Str)) = false := by decide)
    (he : starEach (e :: es) X.env = (false, eval e X.env) :: starEach es X.env := by rfl) (hpl : (backTo pos (starEach es X.env)).any (·.1) = false := by rfl) :
    DE X B (.Call (.Name x p) (e :: es) [] pos) (fun r M Ψ => ga r M fun ds M1 => g M1 ds Ψ) := PE_imp (pe_callTy hc hg hm hv ha hn hdb he hpl) fun σ H Q ⟨r, M, G, Ψ, R, h, k⟩ =>
  ⟨r, M, G, _, R, h, fun ds M1 vs H1 G1 q R1 s1 p1 => ok M1 H1 G1 ds vs Ψ Q R1.wd p1 q fun d M' w H' G' f w' s' p' => k _ _ _ _ _ f (R1.go w' s') (s1.tr s'.gsub) p'⟩
theorem de_ty {x : Str} {n : String} (hm : X.mg x = none) (hv : bootBuiltins x = some (.type n)) (hg : Gl X x := by rfl) (hn : x ≠ "__name__" := by decide) (hd : (x == ("__debug__" : Str)) = false := by decide) : DE X B (.Name x pos) (fun _ M Ψ => Ψ (.ty n) M) :=
  de_c (v := .ty n) (pe_bltn hg hm hv rfl hn hd) fun _ => .ty

def dicOf (M : Sto) : D → Option (List (D × D))
  | .dic l => some l
  | .dlk l => some l
  | .ref p => match M p with
    | some (.dic l) => some l
    | some (.dit l) => some l
    | _ => none
  | _ => none
theorem dicOf_ref {M : Sto} {a : Addr} {l : List (D × D)} (e : dicOf M (.ref a) = some l) : M a = some (.dic l) ∨ M a = some (.dit l) := by
  have e' : (match M a with | some (.dic l) => some l | some (.dit l) => some l | _ => none) = some l := e
  split at e'
  · rename_i l' q
    exact .inl (by rw [q, Option.some.inj e'])
  · rename_i l' q
    exact .inr (by rw [q, Option.some.inj e'])
  · cases e'
theorem dic_rep {K : PySem.W.Frag} {M : Sto} {H G : Hp} {d : D} {v : V} {l : List (D × D)} (w : Wd K M H G) (r : Rep K G d v) (e : dicOf M d = some l) : ∃ a, v = .ref a ∧ ((∃ kvs, Rd H a (.dK kvs) ∧ RepD K G l kvs) ∨ ∃ kvs, H a = some (.dT kvs) ∧ RepT K G l kvs) := by
  cases r with
  | dic h r => cases e; exact ⟨_, rfl, .inl ⟨_, .inl (w.sub _ _ h), r⟩⟩
  | dlk h r => cases e; exact ⟨_, rfl, .inl ⟨_, .inr ⟨_, w.sub _ _ h⟩, r⟩⟩
  | dit h r => cases e; exact ⟨_, rfl, .inr ⟨_, w.sub _ _ h, r⟩⟩
  | ref =>
    rcases dicOf_ref e with e | e
    · obtain ⟨kvs, h1, h2⟩ := (w.cells _ _ e).2
      exact ⟨_, rfl, .inl ⟨kvs, .inl h1, h2⟩⟩
    · exact ⟨_, rfl, .inr (w.cells _ _ e).2⟩
  | _ => cases e
theorem RepD.length {K : PySem.W.Frag} {G : Hp} : ∀ {l : List (D × D)} {kvs : List (Key × V)}, RepD K G l kvs → l.length = kvs.length
  | _, _, .nil => rfl
  | _, _, .cons _ _ r => congrArg (· + 1) r.length
theorem RepT.length {K : PySem.W.Frag} {G : Hp} : ∀ {l : List (D × D)} {kvs : List (List Key × V)}, RepT K G l kvs → l.length = kvs.length
  | _, _, .nil => rfl
  | _, _, .cons _ _ r => congrArg (· + 1) r.length
def lenD (M : Sto) (ds : List D) (φ : PD) : Prop := match ds with
  | [.str x] => x.length ≤ sizeLine ∧ φ (.int x.length) M
  | [.tup l] => φ (.int l.length) M
  | [.lst l] => φ (.int l.length) M
  | [d] => ∃ l, lstOf M d = some l ∧ φ (.int l.length) M
  | _ => False
theorem ok_len {K : PySem.W.Frag} : OkC K (fun xs H Q => ∃ x n, xs = [x] ∧ LenV K x H n ∧ Q (.int n) H) lenD := fun M H G ds vs φ Q w r h k => by
  unfold lenD at h
  split at h
  · cases r with
    | cons r1 r2 => cases r2; cases r1; exact ⟨_, _, rfl, ⟨h.1, rfl⟩, k.id w h.2 .int⟩
  · cases r with
    | cons r1 r2 =>
      cases r2
      obtain ⟨p, us, rfl, h1, r3⟩ := tup_rep w r1 rfl
      exact ⟨_, _, rfl, .inr ⟨_, h1, rfl⟩, by rw [← r3.length]; exact k.id w h .int⟩
  · cases r with
    | cons r1 r2 =>
      cases r2
      obtain ⟨p, us, rfl, h1, r3⟩ := lst_rep' w r1 rfl
      exact ⟨_, _, rfl, .inl ⟨_, h1, rfl⟩, by rw [← r3.length]; exact k.id w h .int⟩
  · cases r with
    | cons r1 r2 =>
      cases r2
      obtain ⟨l, e, h⟩ := h
      obtain ⟨p, us, rfl, h1, r3⟩ := lst_rep' w r1 e
      exact ⟨_, _, rfl, .inl ⟨_, h1, rfl⟩, by rw [← r3.length]; exact k.id w h .int⟩
  · exact h.elim
theorem de_len {p : Pos} (hm : X.mg "len" = none) (ha : DA X B [a] ga) (hg : Gl X "len" := by rfl) (he : starEach [a] X.env = (false, eval a X.env) :: starEach [] X.env := by rfl) : DE X B (.Call (.Name "len" p) [a] [] pos) (fun r M Ψ => ga r M fun ds M1 => lenD M1 ds Ψ) :=
  de_callB call_len ok_len hm PySem.boot_len ha hg (by decide) (by decide) he rfl
def absD (M : Sto) (ds : List D) (φ : PD) : Prop := match ds with
  | [.int i] => φ (.int (if i < 0 then -i else i)) M
  | _ => False
def max2D (M : Sto) (ds : List D) (φ : PD) : Prop := match ds with
  | [.int i, .int j] => φ (.int (if j > i then j else i)) M
  | _ => False
def min2D (M : Sto) (ds : List D) (φ : PD) : Prop := match ds with
  | [.int i, .int j] => φ (.int (if j < i then j else i)) M
  | _ => False
def intD (M : Sto) (ds : List D) (φ : PD) : Prop := match ds with
  | [.int i] => φ (.int i) M
  | [.bl b] => φ (.int (if b then 1 else 0)) M
  | _ => False
def allD (M : Sto) (ds : List D) (φ : PD) : Prop := match ds with
  | [d] => ∃ bs : List Bool, lstOf M d = some (bs.map .bl) ∧ φ (.bl (bs.all id)) M
  | _ => False
def listD (M : Sto) (ds : List D) (φ : PD) : Prop := match ds with
  | [.tup l] => φ (.lst l) M
  | [d] => ∃ l, lstOf M d = some l ∧ φ (.lst l) M
  | _ => False
def tupleD (M : Sto) (ds : List D) (φ : PD) : Prop := match ds with
  | [.tup l] => φ (.tup l) M
  | [d] => ∃ l, lstOf M d = some l ∧ φ (.tup l) M
  | _ => False
section
variable {K : PySem.W.Frag}
theorem ok_abs : OkC K (fun xs H Q => ∃ i, xs = [.int i] ∧ Q (.int (if i < 0 then -i else i)) H) absD := fun M H G ds vs φ Q w r h k => by
  unfold absD at h
  split at h
  · cases r with | cons r1 r2 => cases r2; cases r1; exact ⟨_, rfl, k.id w h .int⟩
  · exact h.elim
theorem ok_int1 : OkC K (fun xs H Q => (∃ i, xs = [.int i] ∧ Q (.int i) H) ∨ ∃ k, xs = [.bl k] ∧ Q (.int (if k then 1 else 0)) H) intD := fun M H G ds vs φ Q w r h k => by
  unfold intD at h
  split at h
  · cases r with | cons r1 r2 => cases r2; cases r1; exact .inl ⟨_, rfl, k.id w h .int⟩
  · cases r with | cons r1 r2 => cases r2; cases r1; exact .inr ⟨_, rfl, k.id w h .int⟩
  · exact h.elim
theorem one_lst {M : Sto} {H G : Hp} {d : D} {vs : List V} {l : List D} (w : Wd K M H G) (r : RepL K G [d] vs) (e : lstOf M d = some l) : ∃ a us, vs = [.ref a] ∧ SqL K H a us ∧ RepL K G l us := by
  cases r with
  | cons r1 r2 =>
    cases r2
    obtain ⟨a, us, rfl, h1, h2⟩ := lst_rep' w r1 e
    exact ⟨a, us, rfl, h1, h2⟩
theorem ok_all : OkC K (rAll K) allD := fun M H G ds vs φ Q w r h k => by
  unfold allD at h
  split at h
  · obtain ⟨ns, e, h⟩ := h
    obtain ⟨a, us, rfl, h1, h2⟩ := one_lst w r e
    have := repL_bls h2; subst this
    exact ⟨a, ns, rfl, h1, k.id w h .bl⟩
  · exact h.elim
theorem ok_list1 : OkC K (fun xs H Q => ∃ p ys, xs = [.ref p] ∧ (SqL K H p ys ∨ SqT K H p ys) ∧ ∀ l, H l = none → Q (.ref l) (upd H l (.lst ys))) listD := fun M H G ds vs φ Q w r h k => by
  unfold listD at h
  split at h
  · cases r with
    | cons r1 r2 =>
      cases r2
      obtain ⟨p, us, rfl, h1, r3⟩ := tup_rep w r1 rfl
      refine ⟨p, us, rfl, .inr h1, fun l hl => ?_⟩
      have g := grow_upd (o := .lst us) w.sub hl
      exact k.grow w g h (.lst (.inl upd_same) (r3.mono g.gsub))
  · obtain ⟨l, e, h⟩ := h
    obtain ⟨a, us, rfl, h1, r3⟩ := one_lst w r e
    refine ⟨a, us, rfl, .inl h1, fun l hl => ?_⟩
    have g := grow_upd (o := .lst us) w.sub hl
    exact k.grow w g h (.lst (.inl upd_same) (r3.mono g.gsub))
  · exact h.elim
theorem ok_tuple1 : OkC K (fun xs H Q => ∃ p ys, xs = [.ref p] ∧ ((SqL K H p ys ∧ ∀ l, H l = none → Q (.ref l) (upd H l (.tup ys))) ∨ (SqT K H p ys ∧ Q (.ref p) H))) tupleD := fun M H G ds vs φ Q w r h k => by
  unfold tupleD at h
  split at h
  · cases r with
    | cons r1 r2 =>
      cases r2
      obtain ⟨p, us, rfl, h1, r3⟩ := tup_rep w r1 rfl
      exact ⟨p, us, rfl, .inr ⟨h1, k.id w h r1⟩⟩
  · obtain ⟨l, e, h⟩ := h
    obtain ⟨a, us, rfl, h1, r3⟩ := one_lst w r e
    refine ⟨a, us, rfl, .inl ⟨h1, fun l hl => ?_⟩⟩
    have g := grow_upd (o := .tup us) w.sub hl
    exact k.grow w g h (.tup (SqT.of upd_same) (r3.mono g.gsub))
  · exact h.elim
end
def tyN (M : Sto) : D → Option String
  | .non => some "NoneType"
  | .bl _ => some "bool"
  | .int _ => some "int"
  | .str _ => some "str"
  | .tup _ => some "tuple"
  | .tpl _ => some "tuple"
  | .lst _ => some "list"
  | .dic _ => some "dict"
  | .ref p => match M p with
    | some (.lst _) => some "list"
    | some (.dic _) => some "dict"
    | some (.dit _) => some "dict"
    | _ => none
  | _ => none
def isB (t c : String) : Bool := t == c || (t == "bool" && c == "int")
def okTy : List String := ["NoneType", "bool", "int", "str", "tuple", "list", "dict"]
def okCl : List String := ["bool", "int", "str", "tuple", "list"]
theorem kit_isB {K : PySem.W.Frag} : ∀ t ∈ okTy, ∀ c ∈ okCl, PySem.W.kitOne K (.type t) (.type c) = some (isB t c) := by
  have h : ∀ t ∈ okTy, ∀ c ∈ okCl, kitB t c = some (isB t c) := by decide +kernel
  exact fun t ht c hc => kit_ty (h t ht c hc)
theorem tyN_ok {M : Sto} {d : D} {t : String} (e : tyN M d = some t) : t ∈ okTy := by
  unfold tyN at e
  split at e <;> first | (cases e; decide) | (split at e <;> first | (cases e; decide) | cases e) | cases e
theorem tyN_x {K : PySem.W.Frag} {M : Sto} {H G : Hp} {d : D} {v : V} {t : String} (w : Wd K M H G) (r : Rep K G d v) (e : tyN M d = some t) : TyX K H v (.type t) := by
  cases r with
  | non => cases e; exact .base .non
  | bl => cases e; exact .base (.bl _)
  | int => cases e; exact .base (.int _)
  | str => cases e; exact .base (.str _)
  | ty => cases e
  | tup h r =>
    cases e
    rcases w.sub.sqT h with (h | ⟨o, h⟩) | ⟨o, its, n, h1, h2, _⟩
    · exact .base (.tup h)
    · exact .fTuple h
    · exact .kTuple h1 h2
  | tpl h r => cases e; exact .base (.tup (w.sub _ _ h))
  | lst h r =>
    cases e
    rcases w.sub.rd h with h | ⟨o, h⟩
    · exact .base (.lst h)
    · exact .base (.frz h)
  | dic h r => cases e; exact .base (.dK (w.sub _ _ h))
  | dit h r => cases e; exact .base (.dT (w.sub _ _ h))
  | obj h r => cases e
  | lk h r => cases e
  | fn h q => cases e
  | dlk h r => cases e
  | @ref a =>
    have e' : (match M a with | some (.lst _) => some "list" | some (.dic _) => some "dict" | some (.dit _) => some "dict" | _ => none) = some t := e
    split at e'
    · rename_i l q
      cases e'
      obtain ⟨_, vs, h, _⟩ := w.cells _ _ q
      exact .base (.lst h)
    · rename_i l q
      cases e'
      obtain ⟨vs, h, _⟩ := (w.cells _ _ q).2
      exact .base (.dK h)
    · rename_i l q
      cases e'
      obtain ⟨vs, h, _⟩ := (w.cells _ _ q).2
      exact .base (.dT h)
    · cases e'
def isiD (M : Sto) (ds : List D) (φ : PD) : Prop := match ds with
  | [d, .ty c] => c ∈ okCl ∧ ∃ t, tyN M d = some t ∧ φ (.bl (isB t c)) M
  | [d, .tup cs] => ∃ ns : List String, cs = ns.map .ty ∧ (∀ c ∈ ns, c ∈ okCl) ∧ ∃ t, tyN M d = some t ∧ φ (.bl (ns.any fun c => isB t c)) M
  | _ => False
def rIsiS (K : PySem.W.Frag) : List V → Hp → VK → Prop := fun xs H Q => ∃ (x : V) (tp : Addr) (cs : List V) (t : Value) (us : List Value) (b : Bool), xs = [x, .ref tp] ∧ SqT K H tp cs ∧ Paired ClsV cs us ∧ TyX K H x t ∧ PySem.W.kitAny K t us = some b ∧ Q (.bl b) H
theorem call_isiS : CallR X (.builtin "isinstance") (rIsiS X.K) := by
  intro pins s σ H xs us Q I r h
  obtain ⟨x, tp, cs, t, ws, b, rfl, hT, k, ty, e, q⟩ := h
  obtain ⟨u1, u2, rfl, r1, r2⟩ := vals2 r
  cases (show u2 = Value.ref tp from r2)
  obtain ⟨P, Z, p, hx⟩ := kit_of I r1 ty
  obtain ⟨its, rv, ⟨o, h1, h2, n, h3⟩, _⟩ := I.tuple hT
  have e3 := ClsV.all k rv
  subst e3
  obtain ⟨oc, od, dt, sl⟩ := o
  simp only at h2 h3
  subst h2 h3
  exact PySem.W.kia_tup Z I.kIn p h1 e hx fun tk => ⟨.bl b, H, I.tok tk, rfl, q⟩
theorem kit_any {K : PySem.W.Frag} {t : String} (ht : t ∈ okTy) : ∀ {ns : List String}, (∀ c ∈ ns, c ∈ okCl) → PySem.W.kitAny K (.type t) (ns.map Value.type) = some (ns.any fun c => isB t c)
  | [], _ => rfl
  | c :: ns, h => by
    have h1 := kit_isB (K := K) t ht c (h c List.mem_cons_self)
    have ih := kit_any (K := K) ht (ns := ns) fun d hd => h d (List.mem_cons_of_mem _ hd)
    rw [List.map_cons, List.any_cons]
    unfold PySem.W.kitAny
    rw [h1]
    cases isB t c with
    | true => rfl
    | false => exact ih
theorem repL_tys {K : PySem.W.Frag} {G : Hp} : ∀ {ns : List String} {vs : List V}, RepL K G (ns.map D.ty) vs → vs = ns.map V.ty
  | [], _, r => by cases r; rfl
  | n :: ns, _, r => by cases r with | cons r1 r2 => cases r1; rw [repL_tys r2]; rfl
theorem cls_tys : ∀ ns : List String, Paired ClsV (ns.map V.ty) (ns.map Value.type)
  | [] => .nil
  | n :: ns => .cons (.ty n) (cls_tys ns)
theorem ok_isi {K : PySem.W.Frag} : OkC K (fun xs H Q => rIsi K xs H Q ∨ rIsiS K xs H Q) isiD := fun M H G ds vs φ Q w r h k => by
  unfold isiD at h
  split at h
  · obtain ⟨hc, t, e, h⟩ := h
    cases r with
    | cons r1 r2 => cases r2 with
      | cons r2 r3 =>
        cases r3; cases r2
        exact .inl ⟨_, _, _, _, _, rfl, .ty _, tyN_x w r1 e, kit_isB t (tyN_ok e) _ hc, k.id w h .bl⟩
  · obtain ⟨ns, rfl, hc, t, e, h⟩ := h
    cases r with
    | cons r1 r2 => cases r2 with
      | cons r2 r3 =>
        cases r3
        obtain ⟨p, us, rfl, h1, r4⟩ := tup_rep w r2 rfl
        have := repL_tys r4; subst this
        exact .inr ⟨_, p, _, _, _, _, rfl, h1, cls_tys ns, tyN_x w r1 e, kit_any (tyN_ok e) hc, k.id w h .bl⟩
  · exact h.elim
theorem boot_isinstance : bootBuiltins "isinstance" = some (.builtin "isinstance") := by decide +kernel
theorem de_isi {p : Pos} (hm : X.mg "isinstance" = none) (ha : DA X B [a, b] ga) (hg : Gl X "isinstance" := by rfl) (he : starEach [a, b] X.env = (false, eval a X.env) :: starEach [b] X.env := by rfl) (hpl : (backTo pos (starEach [b] X.env)).any (·.1) = false := by rfl) :
    DE X B (.Call (.Name "isinstance" p) [a, b] [] pos) (fun r M Ψ => ga r M fun ds M1 => isiD M1 ds Ψ) :=
  de_callB (CallR_or call_isi call_isiS) ok_isi hm boot_isinstance ha hg (by decide) (by decide) he hpl
end
end Z
namespace Z
open PySem PySem.Spec PyProof.Rows L2

def optK {α : Type} (o : Option α) (φ : α → Prop) : Prop := match o with
  | some d => φ d
  | none => False
theorem optK_some {α : Type} {o : Option α} {φ : α → Prop} (h : optK o φ) : ∃ d, o = some d ∧ φ d := by
  unfold optK at h
  split at h
  · exact ⟨_, rfl, h⟩
  · exact h.elim
theorem optK_of {α : Type} {o : Option α} {φ : α → Prop} {d : α} (e : o = some d) (h : φ d) : optK o φ := by rw [e]; exact h
def ixD (M : Sto) (x y : D) (φ : D → Prop) : Prop := match x, y with
  | .tup l, .int i => optK (atI l i) φ
  | .str z, .int i => z.length ≤ sizeLine ∧ optK (atI z.cps.toList i) fun c => φ (.str ⟨#[c]⟩)
  | x, .int i => optK (lstOf M x) fun l => optK (atI l i) φ
  | _, _ => False
theorem RepL.atI {K : PySem.W.Frag} {G : Hp} {l : List D} {vs : List V} {i : Int} {d : D} (r : RepL K G l vs) (e : L2.atI l i = some d) : ∃ v, L2.atI vs i = some v ∧ Rep K G d v := by
  unfold L2.atI at e ⊢
  rw [← r.length]
  cases q : ixN l.length i with
  | none => rw [q] at e; cases e
  | some j => rw [q] at e; exact r.get e
theorem ok_ix {K : PySem.W.Frag} : Ok2 K (rIx K) ixD := fun M H G x y v u φ Q w rx ry h k => by
  unfold ixD at h
  split at h
  · rename_i l i
    obtain ⟨d, e, h⟩ := optK_some h
    obtain ⟨a, vs, rfl, h1, r1⟩ := tup_rep w rx (l := l) rfl
    cases ry
    obtain ⟨v, e2, p⟩ := r1.atI e
    exact .inr (.inl ⟨a, vs, _, v, rfl, rfl, h1, e2, k _ _ _ _ h (Grow.refl w.sub) p⟩)
  · obtain ⟨z, h⟩ := h
    obtain ⟨c, e, h⟩ := optK_some h
    cases rx; cases ry
    exact .inr (.inr ⟨_, _, c, rfl, rfl, z, e, k _ _ _ _ h (Grow.refl w.sub) .str⟩)
  · obtain ⟨l, e0, h⟩ := optK_some h
    obtain ⟨d, e, h⟩ := optK_some h
    obtain ⟨a, vs, rfl, h1, r1⟩ := lst_rep' w rx e0
    cases ry
    obtain ⟨v, e2, p⟩ := r1.atI e
    exact .inl ⟨a, vs, _, v, rfl, rfl, h1, e2, k _ _ _ _ h (Grow.refl w.sub) p⟩
  · exact h.elim
section
variable {X : Cx} {B : Bs} {pos apos p2 : Pos} {a b e o : Expr} {es : List Expr} {fa fb fo fc : DTE} {ga : DTA} {k : Nat}
theorem de_ix (ha : DE X B a fa) (hb : DE X B b fb) (hs : PlainIx b := by exact fun _ _ => rfl) : DE X B (.Subscript a b pos) (bin2 ixD fa fb) := PE_imp (pe_ix ix_seq ha hb hs) fun σ H Q h => tOp_ok ok_ix h
def liftO (K : PySem.W.Frag) (B : Bs) (f : En → Sto → (Option Int → Sto → Prop) → Prop) : TO := fun σ H Q => ∃ r M G Ψ, Rel K B r M σ H G ∧ f r M Ψ ∧ ∀ b M' H' G', Ψ b M' → Rel K B r M' σ H' G' → Sub G G' → Q b H'
theorem PO_imp {X : Cx} {e : Option Expr} {t t' : TO} (h : PO X e t) (i : ∀ σ H Q, t' σ H Q → t σ H Q) : PO X e t' := ⟨fun pins s σ H Q I q => h.run pins s σ H Q I (i _ _ _ q)⟩
abbrev DO (X : Cx) (B : Bs) (e : Option Expr) (f : En → Sto → (Option Int → Sto → Prop) → Prop) : Prop := PO X e (liftO X.K B f)
theorem do_none : DO X B none (fun _ M Ψ => Ψ none M) := PO_imp po_none fun σ H Q ⟨r, M, G, Ψ, R, h, k⟩ => k _ _ _ _ h R Sub.rfl'
def inK (d : D) (φ : Int → Prop) : Prop := match d with
  | .int i => φ i
  | _ => False
theorem do_some (h : DE X B e fa) : DO X B (some e) (fun r M Ψ => fa r M fun d M1 => inK d fun i => Ψ (some i) M1) := PO_imp (po_some h) fun σ H Q ⟨r, M, G, Ψ, R, h, k⟩ => by
  refine ⟨r, M, G, _, R, h, fun d M1 v H1 G1 q R1 s1 p1 => ?_⟩
  cases p1 with
  | int => exact ⟨_, rfl, k _ _ _ _ q R1 s1⟩
  | _ => exact q.elim
def cutD {α : Type} (xs : List α) (lo hi : Option Int) : List α := (xs.drop (HT.sIx xs.length 0 lo)).take (HT.sIx xs.length xs.length hi - HT.sIx xs.length 0 lo)
def slD (M : Sto) (x : D) (lo hi : Option Int) (φ : D → Prop) : Prop := match x with
  | .str z => z.length ≤ sizeLine ∧ φ (.str (cutS z lo hi))
  | .tup l => φ (.tup (cutD l lo hi))
  | .lk l => φ (.lst (cutD l lo hi))
  | x => optK (lstOf M x) fun l => φ (.lst (cutD l lo hi))
theorem RepL.cut {K : PySem.W.Frag} {G : Hp} {l : List D} {vs : List V} (r : RepL K G l vs) (lo hi : Option Int) : RepL K G (cutD l lo hi) (cutV vs lo hi) := by
  unfold cutD cutV
  rw [← r.length]
  exact (r.drop _).take _
def rSlAll (K : PySem.W.Frag) : V → Option Int → Option Int → Hp → VK → Prop := fun x lo hi H Q => rSlL K x lo hi H Q ∨ rSlA K x lo hi H Q ∨ rSlS x lo hi H Q
theorem cut_whole {α : Type} (l : List α) (lo hi : Option Int) (h : HT.sIx l.length 0 lo = 0 ∧ HT.sIx l.length l.length hi = l.length) : cutD l lo hi = l := by
  unfold cutD
  rw [h.1, h.2]
  simp
theorem sl_ok {K : PySem.W.Frag} {M : Sto} {H G : Hp} {x : D} {v : V} {lo hi : Option Int} {φ : D → Prop} {Q : VK} (w : Wd K M H G) (rx : Rep K G x v) (h : slD M x lo hi φ) (k : ∀ d w H' G', φ d → Grow H G H' G' → Rep K G' d w → Q w H') : rSlAll K v lo hi H Q := by
  unfold slD at h
  split at h
  · cases rx
    exact .inr (.inr ⟨_, rfl, h.1, k _ _ _ _ h.2 (Grow.refl w.sub) .str⟩)
  · rename_i l
    obtain ⟨a, vs, rfl, h1, r1⟩ := tup_rep w rx (l := l) rfl
    have hl := r1.length
    refine .inr (.inl ⟨a, vs, rfl, h1, fun e => ?_, fun e p hp => ?_⟩)
    · rw [← hl] at e
      rw [cut_whole l lo hi e] at h
      exact k _ _ _ _ h (Grow.refl w.sub) rx
    · have g := grow_upd (o := .tup (cutV vs lo hi)) w.sub hp
      exact k _ _ _ _ h g (.tup (SqT.of upd_same) ((r1.cut lo hi).mono g.gsub))
  · rename_i l
    cases rx with
    | @lk _ _ vs h1 r1 =>
      refine .inl ⟨_, vs, rfl, w.sub.sqL h1, fun p hp => ?_⟩
      have g := grow_upd (o := .lst (cutV vs lo hi)) w.sub hp
      exact k _ _ _ _ h g (.lst (.inl upd_same) ((r1.cut lo hi).mono g.gsub))
  · obtain ⟨l, e, h⟩ := optK_some h
    obtain ⟨a, vs, rfl, h1, r1⟩ := lst_rep' w rx e
    refine .inl ⟨a, vs, rfl, h1, fun p hp => ?_⟩
    have g := grow_upd (o := .lst (cutV vs lo hi)) w.sub hp
    exact k _ _ _ _ h g (.lst (.inl upd_same) ((r1.cut lo hi).mono g.gsub))
theorem de_slice {lo hi : Option Expr} {fl fh : En → Sto → (Option Int → Sto → Prop) → Prop} (he : DE X B e fa) (hl : DO X B lo fl) (hu : DO X B hi fh) :
    DE X B (.Subscript e (.Slice lo hi none p2) pos) (fun r M Ψ => fa r M fun x M1 => fl r M1 fun l M2 => fh r M2 fun u M3 => slD M3 x l u fun d => Ψ d M3) :=
  PE_imp (pe_slice (r := rSlAll X.K) (sl_list.or (sl_tupA.or sl_str)) he hl hu) fun σ H Q ⟨r, M, G, Ψ, R, h, k⟩ => by
    refine ⟨r, M, G, _, R, h, fun x M1 v H1 G1 q1 R1 s1 p1 => ?_⟩
    refine ⟨r, M1, G1, _, R1, q1, fun l M2 H2 G2 q2 R2 s2 => ?_⟩
    refine ⟨r, M2, G2, _, R2, q2, fun u M3 H3 G3 q3 R3 s3 => ?_⟩
    exact sl_ok R3.wd (p1.mono (s2.tr s3)) q3 fun d w H' G' f g p => k _ _ _ _ _ f (R3.grow g) (((s1.tr s2).tr s3).tr g.gsub) p
def setD (d : D) (i : Int) (v : D) (M : Sto) (φ : Sto → Prop) : Prop := match d with
  | .ref p => match M p with
    | some (.lst l) => optK (ixN l.length i) fun j => φ (updM M p (.lst (l.set j v)))
    | _ => False
  | _ => False
theorem ds_setix {value : Expr} {p3 : Pos} (hv : DE X B value fc) (ho : DE X B a fa) (hi : DE X B b fb) (hs : swapsWithSole [.Subscript a b p3] value pos.line X.env = pure false := by rfl) (hw : swappedStores [.Subscript a b p3] value X.env = pure none := by rfl)
    (h1 : (assignEach [.Subscript a b p3] X.env).map (·.2) = [assign (.Subscript a b p3) X.env] := by rfl)
    (h2 : ∀ v, assign (.Subscript a b p3) X.env v = (do let ov ← holding [v] (eval a X.env); let iv ← holding [v, ov] (eval b X.env); standAt p3; holding [v, ov, iv] (setItem ov iv v); release [v, ov, iv] []) := by intro _; rfl) :
    DS X B (.Assign [.Subscript a b p3] value pos) (fun E r M => fc r M fun d M1 => fa r M1 fun x M2 => fb r M2 fun y M3 => inK y fun i => setD x i d M3 fun M4 => E.nx r M4) :=
  PS_imp (ps_asg hv (pg_sub ho hi set_list h2) hs hw h1) fun D' σ H h => by
    obtain ⟨r, M, G, E, R, q, k⟩ := EkOk.of h
    refine ⟨r, M, G, _, R, q, fun d M1 v H1 G1 q1 R1 s1 p1 => ?_⟩
    refine ⟨r, M1, G1, _, R1, q1, fun x M2 u H2 G2 q2 R2 s2 p2 => ?_⟩
    refine ⟨r, M2, G2, _, R2, q2, fun y M3 t H3 G3 q3 R3 s3 p3 => ?_⟩
    cases p3 with
    | int =>
      have q4 : setD x _ d M3 _ := q3
      unfold setD at q4
      split at q4
      · split at q4
        · rename_i p l e
          obtain ⟨j, ej, q5⟩ := optK_some q4
          cases p2
          obtain ⟨gp, vs, hp, rl⟩ := R3.wd.cells _ _ e
          obtain ⟨w, s⟩ := cell_put (c := .lst (l.set j d)) (o := .lst (vs.set j v)) R3.wd e ⟨_, upd_same, rl.set ((p1.mono s2).mono s3) j⟩
          exact ⟨_, vs, _, j, rfl, rfl, hp, by rw [← rl.length]; exact ej, k.nx _ _ _ _ _ q5 (R3.go w s) ((s1.tr s2).tr s3)⟩
        · exact q4.elim
      · exact q4.elim
    | _ => exact q3.elim

def signs (x : Str) : List D := x.cps.toList.map fun c => .str ⟨#[c]⟩
theorem di_str {tg : Expr} (he : DE X B e fa) : DI X B tg e (fun r M Ψ => fa r M fun d M1 => match d with | .str x => Ψ (signs x) (fun _ => True) M1 | _ => False) := PI_imp (pi_str he) fun σ H Q ⟨r, M, G, Ψ, R, h, k⟩ => by
  refine ⟨r, M, G, _, R, h, fun d M1 v H1 G1 q R1 s1 p => ?_⟩
  cases p with
  | @str x =>
    refine ⟨x, rfl, k _ _ _ _ _ _ q R1 s1 fun i r2 M2 σ2 H2 G2 R2 t2 _ => ?_⟩
    have hl : (signs x).length = x.cps.size := by unfold signs; rw [List.length_map, Array.length_toList]
    rw [hl]
    refine ⟨fun hi => ⟨hi, fun y H' ⟨e1, c, e2, e3⟩ => ?_⟩, fun hi => hi⟩
    subst e1 e3
    refine ⟨G2, _, Grow.refl R2.wd.sub, ?_, .str⟩
    unfold signs
    rw [List.getElem?_map, Array.getElem?_toList, e2]; rfl
  | _ => exact q.elim
def zipD (xs ys : List D) : List D := (xs.zip ys).map fun p => .tup [p.1, p.2]
theorem yld_pair {K : PySem.W.Frag} {r : En} {M : Sto} {σ : L2.St} {H G : Hp} {T : Addr} {x y : V} {c d : D} (R : Rel K B r M σ H G) (hT : H T = none) (p1 : Rep K G c x) (p2 : Rep K G d y) :
    Grow H G (upd H T (.tup [x, y])) (upd G T (.tup [x, y])) ∧ Rep K (upd G T (.tup [x, y])) (.tup [c, d]) (.ref T) := by
  have g := grow_upd (o := .tup [x, y]) R.wd.sub hT
  exact ⟨g, .tup (SqT.of upd_same) (.cons (p1.mono g.gsub) (.cons (p2.mono g.gsub) .nil))⟩
theorem zip_get {xs ys : List D} {i : Nat} {x y : D} (h1 : xs[i]? = some x) (h2 : ys[i]? = some y) : (zipD xs ys)[i]? = some (.tup [x, y]) := by
  unfold zipD
  rw [List.getElem?_map, List.getElem?_zip_eq_some (z := (x, y)) |>.mpr ⟨h1, h2⟩]; rfl
theorem di_zip {e2 : Expr} {p tpos : Pos} {elts : List Expr} {kk : Nat} (hm : X.mg "zip" = none) (ha : DA X B [e, e2] ga) (hg : Gl X "zip" := by rfl) (hs : starEach [e, e2] X.env = (false, eval e X.env) :: starEach [e2] X.env := by rfl) (hpl : (backTo pos (starEach [e2] X.env)).any (·.1) = false := by rfl) :
    DI X B (.Tuple elts kk tpos) (.Call (.Name "zip" p) [e, e2] [] pos) (fun r M Ψ => ga r M fun ds M1 => match ds with
      | [.tup xs, .tup ys] => Ψ (zipD xs ys) (fun _ => True) M1
      | [x, y] => ∃ xs ys, lstOf M1 x = some xs ∧ lstOf M1 y = some ys ∧ Ψ (zipD xs ys) (fun M => lstOf M x = some xs ∧ lstOf M y = some ys) M1
      | _ => False) := PI_imp (RZ.pi_zipA hg hm ha hs hpl) fun σ H Q ⟨r, M, G, Ψ, R, h, k⟩ => by
  refine ⟨r, M, G, _, R, h, fun ds M1 vs H1 G1 q R1 s1 p => ?_⟩
  split at q
  · rename_i xs ys
    cases p with
    | cons p1 p => cases p with
      | cons p2 p =>
        cases p
        obtain ⟨a, us, rfl, h1, r1⟩ := tup_rep R1.wd p1 (l := xs) rfl
        obtain ⟨b, ws, rfl, h2, r2⟩ := tup_rep R1.wd p2 (l := ys) rfl
        refine ⟨a, b, us, ws, rfl, .inr ⟨h1, h2, k _ _ _ _ _ _ q R1 s1 fun i r3 M3 σ3 H3 G3 R3 t3 _ => ?_⟩⟩
        obtain ⟨a', us', ea, h1', r1'⟩ := tup_rep R3.wd (p1.mono t3) (l := xs) rfl
        obtain ⟨b', ws', eb, h2', r2'⟩ := tup_rep R3.wd (p2.mono t3) (l := ys) rfl
        cases ea; cases eb
        have l1 := r1'.length
        have l2 := r2'.length
        have hz : (zipD xs ys).length = min xs.length ys.length := by unfold zipD; rw [List.length_map, List.length_zip]
        rw [hz]
        refine ⟨fun hi => ?_, fun hi => ⟨us', ws', h1', h2', by omega⟩⟩
        have i1 : i < xs.length := by omega
        have i2 : i < ys.length := by omega
        obtain ⟨x, hx, px⟩ := r1'.get (i := i) (d := xs[i]) (by simp [i1])
        obtain ⟨y, hy, py⟩ := r2'.get (i := i) (d := ys[i]) (by simp [i2])
        refine ⟨⟨us', ws', x, y, h1', h2', hx, hy⟩, fun v H' ⟨T, x', y', e1, hT, e2, f1, f2⟩ => ?_⟩
        subst e1 e2
        have z1 := f1 us' h1'
        have z2 := f2 ws' h2'
        rw [hx] at z1; rw [hy] at z2
        cases z1; cases z2
        obtain ⟨w1, w3⟩ := yld_pair R3 hT px py
        exact ⟨_, _, w1, zip_get (by simp [i1]) (by simp [i2]), w3⟩
  · rename_i x0 y0 _
    obtain ⟨xs, ys, e1, e2, q⟩ := q
    cases p with
    | cons p1 p => cases p with
      | cons p2 p =>
        cases p
        obtain ⟨a, us, rfl, h1, r1⟩ := lst_rep' R1.wd p1 e1
        obtain ⟨b, ws, rfl, h2, r2⟩ := lst_rep' R1.wd p2 e2
        refine ⟨a, b, us, ws, rfl, .inl ⟨h1, h2, k _ _ _ _ _ _ q R1 s1 fun i r3 M3 σ3 H3 G3 R3 t3 hS => ?_⟩⟩
        obtain ⟨a', us', ea, h1', r1'⟩ := lst_rep' R3.wd (p1.mono t3) hS.1
        obtain ⟨b', ws', eb, h2', r2'⟩ := lst_rep' R3.wd (p2.mono t3) hS.2
        cases ea; cases eb
        have l1 := r1'.length
        have l2 := r2'.length
        have hz : (zipD xs ys).length = min xs.length ys.length := by unfold zipD; rw [List.length_map, List.length_zip]
        rw [hz]
        refine ⟨fun hi => ?_, fun hi => ⟨us', ws', h1', h2', by omega⟩⟩
        have i1 : i < xs.length := by omega
        have i2 : i < ys.length := by omega
        obtain ⟨x, hx, px⟩ := r1'.get (i := i) (d := xs[i]) (by simp [i1])
        obtain ⟨y, hy, py⟩ := r2'.get (i := i) (d := ys[i]) (by simp [i2])
        refine ⟨⟨us', ws', x, y, h1', h2', hx, hy⟩, fun v H' ⟨T, x', y', e1, hT, e2, f1, f2⟩ => ?_⟩
        subst e1 e2
        have z1 := f1 us' h1'
        have z2 := f2 ws' h2'
        rw [hx] at z1; rw [hy] at z2
        cases z1; cases z2
        obtain ⟨w1, w3⟩ := yld_pair R3 hT px py
        exact ⟨_, _, w1, zip_get (by simp [i1]) (by simp [i2]), w3⟩
  · exact q.elim
end
end Z
namespace Z
open PySem PySem.Spec PyProof.Rows L2

theorem wipe_get {σ : L2.St} {j : Nat} : ∀ {vs : List Nat}, (wipe σ vs)[j]? = if j ∈ vs then (σ[j]?).map (fun _ => none) else σ[j]?
  | [] => by simp [wipe]
  | v :: vs => by
    unfold wipe
    have ih := @wipe_get σ j vs
    by_cases hv : v = j
    · subst hv
      rw [if_pos List.mem_cons_self]
      by_cases hl : v < (wipe σ vs).length
      · rw [List.getElem?_set_self hl]
        rw [wipe_length] at hl
        rw [List.getElem?_eq_getElem hl]; rfl
      · rw [List.getElem?_eq_none (by simpa using hl)]
        rw [wipe_length] at hl
        rw [List.getElem?_eq_none (by omega)]; rfl
    · rw [List.getElem?_set_ne hv, ih]
      have e : (j ∈ v :: vs) ↔ j ∈ vs := by
        rw [List.mem_cons]
        exact ⟨fun z => z.resolve_left fun q => hv q.symm, .inr⟩
      by_cases hm : j ∈ vs
      · rw [if_pos hm, if_pos (e.mpr hm)]
      · rw [if_neg hm, if_neg fun z => hm (e.mp z)]
theorem wipe_set {σ : L2.St} {i : Nat} {o : Option V} {vs : List Nat} (h : i ∈ vs) : wipe (σ.set i o) vs = wipe σ vs := by
  apply List.ext_getElem?
  intro j
  rw [wipe_get, wipe_get]
  by_cases hj : j ∈ vs
  · rw [if_pos hj, if_pos hj]
    by_cases hij : i = j
    · subst hij
      by_cases hl : i < σ.length
      · rw [List.getElem?_set_self hl, List.getElem?_eq_getElem hl]; rfl
      · rw [List.getElem?_eq_none (by simpa using hl), List.getElem?_eq_none (by omega)]
    · rw [List.getElem?_set_ne hij]
  · rw [if_neg hj, if_neg hj]
    exact List.getElem?_set_ne fun e => hj (by rw [← e]; exact h)
theorem wipe_wipe {σ : L2.St} {vs : List Nat} : wipe (wipe σ vs) vs = wipe σ vs := by
  apply List.ext_getElem?
  intro j
  rw [wipe_get]
  by_cases hj : j ∈ vs
  · rw [if_pos hj, wipe_get, if_pos hj]
    cases σ[j]? <;> rfl
  · rw [if_neg hj]
def wipeD (r : En) : List Nat → En
  | [] => r
  | v :: vs => (wipeD r vs).set v none
theorem Rel.wipe {K : PySem.W.Frag} {B : Bs} {r : En} {M : Sto} {σ : L2.St} {H G : Hp} (R : Rel K B r M σ H G) : ∀ vs : List Nat, Rel K B (wipeD r vs) M (L2.wipe σ vs) H G
  | [] => R
  | v :: vs => (R.wipe vs).unset v none
def TgOk (K : PySem.W.Frag) (vs : List Nat) (g : TG) (as : D → En → (En → Prop) → Prop) : Prop := ∀ (B : Bs) (d : D) (v : V) (r : En) (M : Sto) (σ : L2.St) (H G : Hp) (Ψ : En → Prop) (Q : L2.St → Hp → Prop), Rel K B r M σ H G → Rep K G d v → as d r Ψ →
  (∀ r' σ', Ψ r' → Rel K B r' M σ' H G → L2.wipe σ' vs = L2.wipe σ vs → Q σ' H) → g v σ H Q
def asN (i : Nat) : D → En → (En → Prop) → Prop := fun d r Ψ => Ψ (r.set i (some d))
theorem tg_name {K : PySem.W.Frag} {vs : List Nat} {i : Nat} (h : i ∈ vs) : TgOk K vs (gName i) (asN i) := fun B d v r M σ H G Ψ Q R p a k => k _ _ a (R.set p i) (wipe_set h)
def asT2 (i j : Nat) : D → En → (En → Prop) → Prop := fun d r Ψ => match d with
  | .tup [a, b] => Ψ ((r.set i (some a)).set j (some b))
  | _ => False
theorem tg_tup2 {K : PySem.W.Frag} {vs : List Nat} {i j : Nat} (h : i ∈ vs) (h' : j ∈ vs) : TgOk K vs (gTup K 2 (gCons (gName i) (gCons (gName j) gNil))) (asT2 i j) := fun B d v r M σ H G Ψ Q R p a k => by
  unfold asT2 at a
  split at a
  · rename_i x y
    obtain ⟨t, us, rfl, h1, r1⟩ := tup_rep R.wd p rfl
    cases r1 with
    | cons r1 r2 => cases r2 with
      | cons r2 r3 =>
        cases r3
        exact ⟨t, _, rfl, h1, rfl, _, _, rfl, _, _, rfl, rfl, k _ _ a ((R.set r1 i).set r2 j) (by rw [wipe_set h', wipe_set h])⟩
  · exact a.elim
def liftAny (K : PySem.W.Frag) (f : DTE) : TE := fun σ H Q => ∃ B, lift K B f σ H Q
def liftTAny (K : PySem.W.Frag) (f : DTT) : TT := fun σ H Q => ∃ B, liftT K B f σ H Q
theorem Rel.poke {K : PySem.W.Frag} {B : Bs} {r : En} {M : Sto} {σ : L2.St} {H G : Hp} {p : Addr} {xs ys : List V} (R : Rel K B r M σ H G) (hp : H p = some (.lst xs)) (h0 : B.H p = none) (hM : M p = none) (hG : G p = none) : Rel K B r M σ (upd H p (.lst ys)) G where
  wd := ⟨fun a o e => by rw [upd_ne (by intro z; rw [z, hG] at e; cases e)]; exact R.wd.sub _ _ e, fun a c e => by
    obtain ⟨h1, h2⟩ := R.wd.cells a c e
    exact ⟨h1, h2.move Sub.rfl' fun o z => by rw [upd_ne (by intro q; rw [q, hM] at e; cases e)]; exact z⟩⟩
  len := R.len
  slots := R.slots
  sin := ⟨fun a o h n => by rw [upd_ne (by intro z; rw [z, h0] at h; cases h)]; exact R.sin.keep a o h n, fun a h => by rw [upd_ne (by intro z; rw [z, h0] at h; exact h rfl)]; exact R.sin.stay a h, R.sin.gsub, R.sin.gnew, R.sin.mnew⟩
@[irreducible] def compD (vs : List Nat) (wi : DTI) (as : D → En → (En → Prop) → Prop) (tt : DTT) (fe : DTE) (r : En) (M : Sto) (Φ : List D → Sto → Prop) : Prop := wi r M fun xs S M1 => ∃ Iv : Nat → List D → Sto → Prop, Iv 0 [] M1 ∧ (∀ i acc M, Iv i acc M → S M) ∧
  (∀ i d acc M, xs[i]? = some d → Iv i acc M → as d (wipeD r vs) fun r2 => tt r2 M fun b M3 => if b = true then fe r2 M3 fun y M4 => acc.length < sizeLine ∧ Iv (i + 1) (acc ++ [y]) M4 else Iv (i + 1) acc M3) ∧ ∀ acc M, Iv xs.length acc M → Φ acc M
section
variable {X : Cx} {B : Bs} {pos apos p2 : Pos} {e o : Expr} {es : List Expr} {fa fe : DTE} {tt : DTT} {ga : DTA} {k : Nat}
theorem comp_core {vs : List Nat} {wi : DTI} {g : TG} {as : D → En → (En → Prop) → Prop} (tg : TgOk X.K vs g as) {σ : L2.St} {H : Hp} {Q : VK} {r : En} {M : Sto} {G : Hp} {Φ : List D → Sto → Prop} (R : Rel X.K B r M σ H G) (h : compD vs wi as tt fe r M Φ)
    (hQ : ∀ acc M' H' G' D us, Φ acc M' → Rel X.K B r M' σ H' G' → Sub G G' → H' D = some (.lst us) → RepL X.K G' acc us → B.H D = none → M' D = none → G' D = none → Q (.ref D) H') : tLc (liftI X.K B wi) g (liftTAny X.K tt) (liftAny X.K fe) vs σ H Q := by
  unfold compD at h
  refine ⟨r, M, G, _, R, h, fun xs S M1 J H1 G1 ⟨Iv, i0, hS, turn, fin⟩ R1 s1 y => fun D hD => ?_⟩
  have bD : B.H D = none := by
    cases q : B.H D with
    | none => rfl
    | some o => exact absurd hD (R1.sin.stay D (by rw [q]; simp))
  have gD : G1 D = none := by
    cases q : G1 D with
    | none => rfl
    | some u => rw [R1.wd.sub _ _ q] at hD; cases hD
  have mD := R1.wd.nomem hD
  have R1' : Rel X.K B r M1 σ (upd H1 D (.lst [])) G1 := by
    refine R1.go ⟨fun a o e => by rw [upd_ne (ne_of_none (R1.wd.sub _ _ e) hD)]; exact R1.wd.sub _ _ e, fun a c e => ?_⟩ ⟨fun a o h _ => by rw [upd_ne (ne_of_none h hD)]; exact h, fun a h => ?_, Sub.rfl', fun a h n => absurd n h, fun a h n => absurd n h⟩
    · obtain ⟨h1, h2⟩ := R1.wd.cells a c e
      exact ⟨h1, h2.move Sub.rfl' fun o z => by rw [upd_ne (ne_of_none z hD)]; exact z⟩
    · by_cases z : a = D
      · rw [z, upd_same]; simp
      · rw [upd_ne z]; exact h
  refine ⟨fun i m H => ∃ acc us M G2, Rel X.K B r M σ H G2 ∧ Sub G1 G2 ∧ H D = some (.lst us) ∧ RepL X.K G2 acc us ∧ M D = none ∧ G2 D = none ∧ Iv i acc M ∧ i ≤ xs.length ∧ m = xs.length - i, ⟨_, [], [], M1, G1, R1', Sub.rfl', upd_same, .nil, mD, gD, i0, Nat.zero_le _, rfl⟩, ?_⟩
  rintro i m H2 ⟨acc, us, M2, G2, R2, s2, hL, rl, mD2, gD2, i2, hi, rfl⟩
  obtain ⟨y1, y2⟩ := y i r M2 σ H2 G2 R2 s2 (hS _ _ _ i2)
  by_cases hl : i < xs.length
  · obtain ⟨y3, y4⟩ := y1 hl
    refine .inr ⟨y3, fun H => ∃ acc us M G2, Rel X.K B r M σ H G2 ∧ Sub G1 G2 ∧ H D = some (.lst us) ∧ RepL X.K G2 acc us ∧ M D = none ∧ G2 D = none ∧ Iv (i + 1) acc M, fun H ⟨acc, us, M, G2, a1, a2, a3, a4, a5, a6, a7⟩ => ⟨_, by omega, acc, us, M, G2, a1, a2, a3, a4, a5, a6, a7, hl, rfl⟩, fun x H3 hy => ?_⟩
    -- the item has come: the list is what it was
    obtain ⟨G3, d, g3, hd, p⟩ := y4 x H3 hy
    have R3 := R2.grow g3
    have hL3 := g3.same _ _ hL
    have mem_free : ∀ {H' G' : Hp}, Grow H2 G2 H' G' → G' D = none := fun {H' G'} g => by
      cases q : G' D with
      | none => rfl
      | some u => have z := g.gnew D (by rw [q]; simp) gD2; rw [hL] at z; cases z
    have gD3 := mem_free g3
    -- the base of this turn
    have Rw := R3.wipe vs
    have Ri : Rel X.K ⟨H3, G3, M2⟩ (wipeD r vs) M2 (L2.wipe σ vs) H3 G3 := ⟨Rw.wd, Rw.len, Rw.slots, Since.refl⟩
    have back : ∀ {r' : En} {M' : Sto} {σ' : L2.St} {H' G' : Hp}, Rel X.K ⟨H3, G3, M2⟩ r' M' σ' H' G' → Rel X.K B r M' σ H' G' ∧ Sub G3 G' ∧ H' D = some (.lst us) ∧ M' D = none ∧ G' D = none := fun {r' M' σ' H' G'} R' => by
      refine ⟨R3.go R'.wd R'.sin, R'.sin.gsub, R'.sin.keep D _ hL3 mD2, ?_, ?_⟩
      · cases q : M' D with
        | none => rfl
        | some c => have z := R'.sin.mnew D (by rw [q]; simp) mD2; rw [show (⟨H3, G3, M2⟩ : Bs).H D = H3 D from rfl, hL3] at z; cases z
      · cases q : G' D with
        | none => rfl
        | some c => have z := R'.sin.gnew D (by rw [q]; simp) gD3; rw [show (⟨H3, G3, M2⟩ : Bs).H D = H3 D from rfl, hL3] at z; cases z
    refine tg ⟨H3, G3, M2⟩ d x (wipeD r vs) M2 (L2.wipe σ vs) H3 G3 _ _ Ri p (turn i d acc M2 hd i2) fun r' σ' q' R' hw => ⟨by rw [hw, wipe_wipe], ⟨H3, G3, M2⟩, r', M2, G3, _, R', q', fun b M4 H4 G4 q4 R4 s4 => ?_⟩
    cases b with
    | false =>
      obtain ⟨b1, b2, b3, b4, b5⟩ := back R4
      exact ⟨acc, us, M4, G4, b1, (s2.tr g3.gsub).tr b2, b3, (rl.mono g3.gsub).mono b2, b4, b5, q4⟩
    | true =>
      refine ⟨⟨H3, G3, M2⟩, r', M4, G4, _, R4, q4, fun y M5 v H5 G5 ⟨z5, q5⟩ R5 s5 p5 => ?_⟩
      obtain ⟨b1, b2, b3, b4, b5⟩ := back R5
      have rl5 := (rl.mono g3.gsub).mono b2
      exact ⟨us, b3, by rw [← rl.length]; exact z5, acc ++ [y], us ++ [v], M5, G5, b1.poke b3 bD b4 b5, (s2.tr g3.gsub).tr b2, upd_same, rl5.app (.cons p5 .nil), b4, b5, q5⟩
  · have e : i = xs.length := by omega
    subst e
    exact .inl ⟨y2 (Nat.le_refl _), hQ _ _ _ _ _ _ (fin _ _ i2) R2 (s1.tr s2) hL rl bD mD2 gD2⟩
theorem frz_list {K : PySem.W.Frag} {r : En} {M : Sto} {σ : L2.St} {H G : Hp} {p : Addr} {us : List V} {acc : List D} (R : Rel K B r M σ H G) (hp : H p = some (.lst us)) (rl : RepL K G acc us) (h0 : B.H p = none) (hM : M p = none) (hG : G p = none) :
    Rel K B r M σ H (upd G p (.lst us)) ∧ Sub G (upd G p (.lst us)) ∧ Rep K (upd G p (.lst us)) (.lst acc) (.ref p) := by
  have s : Sub G (upd G p (.lst us)) := fun a o e => by rw [upd_ne (by intro z; rw [z, hG] at e; cases e)]; exact e
  refine ⟨⟨⟨fun a o e => ?_, fun a c e => ?_⟩, R.len, fun i d e => let ⟨v, h1, h2⟩ := R.slots i d e; ⟨v, h1, h2.mono s⟩, ⟨R.sin.keep, R.sin.stay, R.sin.gsub.tr s, fun a h n => ?_, R.sin.mnew⟩⟩, s, .lst (.inl upd_same) (rl.mono s)⟩
  · by_cases z : a = p
    · rw [z, upd_same] at e; cases e; rw [z]; exact hp
    · rw [upd_ne z] at e; exact R.wd.sub _ _ e
  · obtain ⟨h1, h2⟩ := R.wd.cells a c e
    refine ⟨?_, h2.move s fun _ z => z⟩
    rw [upd_ne (by intro z; rw [z, hM] at e; cases e)]; exact h1
  · by_cases z : a = p
    · rw [z]; exact h0
    · rw [upd_ne z] at h; exact R.sin.gnew a h n
theorem de_lc {elt tg iter : Expr} {ifs : List Expr} {scope : Scope} {own : List (Str × Nat)} {wi : DTI} {g : TG} {as : D → En → (En → Prop) → Prop} (hc : X.calm = true) (hN : X.N.Nodup) (hi : DI X B tg iter wi) (ok : BlkOk X.N X.env.scope scope own) (tgk : TgOk X.K (own.map (·.2)) g as)
    (hg : ∀ (s : Shared) (H : Hp) (C : Addr) (cl : List (Str × Addr)) (fp : List Addr), PG (X.blk s H scope (compEnvC scope cl C X.env) fp) tg g)
    (ht : ∀ (B : Bs) (s : Shared) (H : Hp) (C : Addr) (cl : List (Str × Addr)) (fp : List Addr), PTs (X.blk s H scope (compEnvC scope cl C X.env) fp) ifs (liftT X.K B tt))
    (he : ∀ (B : Bs) (s : Shared) (H : Hp) (C : Addr) (cl : List (Str × Addr)) (fp : List Addr), PE (X.blk s H scope (compEnvC scope cl C X.env) fp) elt (lift X.K B fe)) (hs : ∀ x, foldedSetIterable iter X.env x = pure x := by intro _; rfl) :
    DE X B (.ListComp elt [⟨tg, iter, ifs, 0⟩] scope pos) (fun r M Ψ => compD (own.map (·.2)) wi as tt fe r M fun acc M' => Ψ (.lst acc) M') :=
  PE_imp (pe_lc hc hN hi ok hg (fun s H C cl fp => ⟨fun pins s1 σ H1 Q I ⟨B', q⟩ => (ht B' s H C cl fp).run pins s1 σ H1 Q I q⟩) (fun s H C cl fp => ⟨fun pins s1 σ H1 Q I ⟨B', q⟩ => (he B' s H C cl fp).run pins s1 σ H1 Q I q⟩) hs) fun σ H Q ⟨r, M, G, Ψ, R, h, k⟩ =>
    comp_core tgk R h fun acc M' H' G' D us q R' s hL rl h0 hM hG => by
      obtain ⟨a1, a2, a3⟩ := frz_list R' hL rl h0 hM hG
      exact k _ _ _ _ _ q a1 (s.tr a2) a3
theorem ds_setLc {i : Nat} {y : Str} {py spos : Pos} {elt tg iter : Expr} {ifs : List Expr} {scope : Scope} {own : List (Str × Nat)} {wi : DTI} {g : TG} {as : D → En → (En → Prop) → Prop} (hc : X.calm = true) (hN : X.N.Nodup) (hsw : swapsWith (.ListComp elt [⟨tg, iter, ifs, 0⟩] scope pos) (some (.Name y py)) spos.line X.env = pure true) (hi : DI X B tg iter wi) (ok : BlkOk X.N X.env.scope scope own) (tgk : TgOk X.K (own.map (·.2)) g as)
    (hg : ∀ (s : Shared) (H : Hp) (C : Addr) (cl : List (Str × Addr)) (fp : List Addr), PG (X.blk s H scope (compEnvC scope cl C X.env) fp) tg g)
    (ht : ∀ (B : Bs) (s : Shared) (H : Hp) (C : Addr) (cl : List (Str × Addr)) (fp : List Addr), PTs (X.blk s H scope (compEnvC scope cl C X.env) fp) ifs (liftT X.K B tt))
    (he : ∀ (B : Bs) (s : Shared) (H : Hp) (C : Addr) (cl : List (Str × Addr)) (fp : List Addr), PE (X.blk s H scope (compEnvC scope cl C X.env) fp) elt (lift X.K B fe)) (hs : ∀ x, foldedSetIterable iter X.env x = pure x := by intro _; rfl) (hy : X.N[i]? = some y := by rfl) (hyl : X.env.scope.names.lookup y = some .local := by rfl) :
    DS X B (.Assign [.Name y py] (.ListComp elt [⟨tg, iter, ifs, 0⟩] scope pos) spos) (fun E r M => compD (own.map (·.2)) wi as tt fe r M fun acc M' => E.nx (r.set i (some (.lst acc))) M') :=
  PS_imp (ps_setLc (tt := liftTAny X.K tt) (te := liftAny X.K fe) hc hN hy hyl hsw hi ok hg (fun s H C cl fp => ⟨fun pins s1 σ H1 Q I ⟨B', q⟩ => (ht B' s H C cl fp).run pins s1 σ H1 Q I q⟩) (fun s H C cl fp => ⟨fun pins s1 σ H1 Q I ⟨B', q⟩ => (he B' s H C cl fp).run pins s1 σ H1 Q I q⟩) hs) fun D' σ H h => by
    obtain ⟨r, M, G, E, R, h, k⟩ := EkOk.of h
    refine comp_core tgk R h fun acc M' H' G' D us q R' s hL rl h0 hM hG => ?_
    obtain ⟨a1, a2, a3⟩ := frz_list R' hL rl h0 hM hG
    exact k.nx _ _ _ _ _ q (a1.set a3 i) (s.tr a2)
theorem dts_nil : PTs X [] (liftT X.K B fun _ M Ψ => Ψ true M) := ⟨fun pins s σ H Q I ⟨r, M, G, Ψ, R, h, k⟩ => pts_nil.run pins s σ H Q I (k _ _ _ _ h R Sub.rfl')⟩
theorem dts_one {c : Expr} {ta : DTT} (h : DT X B c ta) : PTs X [c] (liftT X.K B ta) := pts_one h
end
end Z
namespace Z
open PySem PySem.Spec PyProof.Rows L2

structure OexG (K : PySem.W.Frag) (C : Addr) : Prop where
  base : ∃ (B newId initId : String) (bmB : List Value), ExcBaseFacts B newId initId bmB ∧ PySem.StoreFacts B bmB "object.__setattr__" "object" ∧ PySem.W.excOver K C bmB = true ∧
    ∃ nm q N bs bm sn sub ab col dd k0 k1 k2 k3 k5, K.lookup C = some (excClassObj nm q C N bs bm true sn sub ab col dd k0 k1 k2 k3 k5 newId) ∧ ∀ Y : String, bm.contains (.type Y) = bmB.contains (.type Y)
  sa : PySem.W.findIn K (.ref C) "__setattr__" = some (some (.builtin "object.__setattr__"))
  exC : PySem.W.subIn K (.ref C) (.type "BaseException") = some true
  tyC : PySem.W.typeIn K (.ref C) = some (.type "type")
  kC : PySem.W.keepIn K (.ref C) = true
section
variable {X : Cx} {pins : List (Addr × Obj)} {σ : L2.St} {H : Hp} {s : Shared} {a C dx : Addr} {f : Str} {y : V} {u : Value} {fs : List (Str × V)} {Q : Unit → Shared → Prop} {E : Value → Shared → Prop} {A : Around}
theorem taker_none {K : PySem.W.Frag} (h : PySem.W.findIn K (.ref C) f = some none) : PySem.W.takerIn K C f = some none := by
  unfold PySem.W.takerIn
  rw [h]
  rfl
open PySem.Builtin PySem.Builtin.ObjectAttr in
theorem ostG_new (T : OexG X.K C) (I : L2.Inv X pins σ H s) (e : H a = some (exo a C none)) (hno : PySem.W.findIn X.K (.ref C) f = some none) (ry : RelV y u)
    (h : ∀ dx s', H dx = none → dx ≠ a → L2.Inv X pins σ (upd (upd H dx (exd dx [(f, y)])) a (exo a C (some dx))) s' → Q () s') : wpAny (model X.prog X.w) A (setAttr (.ref a) f u) Q E s := by
  obtain ⟨B0, nw, ini, bmB, FB, SF, ov, nm, q, N, bs, bm, sn, sub, ab, col, dd, k0, k1, k2, k3, k5, hC, hbm⟩ := T.base
  obtain ⟨t1, ho⟩ := exo_at I.hok e
  have cl0 : PySem.W.clsIn X.K C = some { name := nm, bases := bs, mro := .ref C :: bm, ns := N, qualname := q, hasDict := true, slotNames := sn, subclasses := sub, abstract := ab, collection := col, hasDel := false } := by
    unfold PySem.W.clsIn
    rw [hC] <;> rfl
  have lk := PySem.W.looks_clsIn (M := model X.prog X.w) I.kIn cl0
  obtain ⟨hp, gn, dr, tk, os⟩ := s
  have J := (⟨ho, rfl, rfl, trivial⟩ : PySem.W.InstAt hp a { cls := .ref C, dict := none, data := .fields #[.ref t1, .none, .none, .none, .bool false, .none] } C none)
  have as_ : a ≠ hp.objs.size := Nat.ne_of_lt (Heap.lt_size ho)
  refine PySem.W.set_plain I.kIn J T.sa (PySem.W.osa_openX SF I.kIn J ov (taker_none hno) fun b => ?_)
  dsimp only
  unfold storeInOwnDict ownDictForStores
  repeat (first | with_reducible refine PySem.HandSPX.store_in_new ?_ ?_ | with_reducible refine wpAny_loadPart_at ho ?_ | with_reducible refine lk.at ?_ | wp_step)
  · exact ⟨_, #[], _, (Heap.get?_update_ne _ _ _ _ as_.symm).trans (Heap.get?_push_at rfl rfl), rfl, fun en he => absurd he (by simp), fun _ => rfl⟩
  intro h' tk' hn sb
  have gd : ∀ b o, b ≠ a → hp.get? b = some o → h'.get? b = some o := fun b o hb eo => (sb.2 b (Nat.ne_of_lt (Heap.lt_size eo))).trans ((Heap.get?_update_ne _ _ _ _ hb).trans (Heap.get?_push_of_some _ eo))
  have ga : h'.get? a = some { cls := .ref C, dict := some hp.objs.size, data := .fields #[.ref t1, .none, .none, .none, .bool false, .none] } := (sb.2 a as_).trans (Heap.get?_update_self _ (Heap.get?_push_of_some _ ho) rfl)
  -- between: the dict is there, the exception does not know of it
  obtain ⟨hm, em⟩ : ∃ hm : Heap, hm = h'.update a fun _ => { cls := .ref C, dict := none, data := .fields #[.ref t1, .none, .none, .none, .bool false, .none] } := ⟨_, rfl⟩
  have ma : hm.get? a = some { cls := .ref C, dict := none, data := .fields #[.ref t1, .none, .none, .none, .bool false, .none] } := by
    rw [em]
    exact Heap.get?_update_self _ ga rfl
  have mb : ∀ b, b ≠ a → hm.get? b = h'.get? b := fun b hb => by
    rw [em]
    exact Heap.get?_update_ne _ _ _ _ hb
  have nm1 : hm.Ns1 hp.objs.size (fun z => if z = f then some u else none) := hn.at fun o eo => (mb _ as_.symm).trans eo
  have I1 : L2.Inv X pins σ (upd H hp.objs.size (exd hp.objs.size [(f, y)])) ⟨hm, gn, dr, tk', os⟩ := I.laid (t' := tk') (fun b o eo => by
    by_cases hb : b = a
    · subst hb
      rw [ma, ← ho]
      exact eo
    · exact (mb b hb).trans (gd b o hb eo)) (Nat.le_refl _) (exd_ok nm1 (relO_put (fs := []) ry fun _ => True.intro))
  have e1 : upd H hp.objs.size (exd hp.objs.size [(f, y)]) a = some (exo a C none) := by rw [upd_ne as_, e]
  have I2 := I1.write (t' := tk') (h' := h') (x := a) (e := a) (o := exo a C (some hp.objs.size)) (by rw [e1]; exact True.intro) (.inl rfl) (fun b o hb eo => (mb b hb).symm.trans eo) ⟨_, ga⟩ (exo_ok ga)
  exact h _ _ (I.hok.fresh (Nat.le_refl _)) as_.symm I2
open PySem.Builtin PySem.Builtin.ObjectAttr in
theorem ostG_old (T : OexG X.K C) (I : L2.Inv X pins σ H s) (e : H a = some (exo a C (some dx))) (ed : H dx = some (exd dx fs)) (hl : fs.length ≤ 900) (hno : PySem.W.findIn X.K (.ref C) f = some none) (ry : RelV y u)
    (h : ∀ s', L2.Inv X pins σ (upd H dx (exd dx ((f, y) :: fs))) s' → Q () s') : wpAny (model X.prog X.w) A (setAttr (.ref a) f u) Q E s := by
  obtain ⟨B0, nw, ini, bmB, FB, SF, ov, nm, q, N, bs, bm, sn, sub, ab, col, dd, k0, k1, k2, k3, k5, hC, hbm⟩ := T.base
  obtain ⟨t1, ho⟩ := exo_at I.hok e
  obtain ⟨mA, hns, rel⟩ := exd_at I.hok ed
  have hw := within_of rel
  have cl0 : PySem.W.clsIn X.K C = some { name := nm, bases := bs, mro := .ref C :: bm, ns := N, qualname := q, hasDict := true, slotNames := sn, subclasses := sub, abstract := ab, collection := col, hasDel := false } := by
    unfold PySem.W.clsIn
    rw [hC] <;> rfl
  have lk := PySem.W.looks_clsIn (M := model X.prog X.w) I.kIn cl0
  obtain ⟨hp, gn, dr, tk, os⟩ := s
  obtain ⟨oD, _, _, hoD, _, _⟩ := hns.count hw
  have J := (⟨ho, rfl, rfl, hoD⟩ : PySem.W.InstAt hp a { cls := .ref C, dict := some dx, data := .fields #[.ref t1, .none, .none, .none, .bool false, .none] } C (some oD))
  refine PySem.W.set_plain I.kIn J T.sa (PySem.W.osa_openX SF I.kIn J ov (taker_none hno) fun b => ?_)
  dsimp only
  unfold storeInOwnDict ownDictForStores
  repeat (first | with_reducible refine PySem.OEX.store_in_old hns hw (by rw [List.length_map]; omega) ?_ | with_reducible refine wpAny_loadPart_at ho ?_ | with_reducible refine lk.at ?_ | wp_step)
  intro h' tk' hn sb
  obtain ⟨o2, e2⟩ : ∃ o, h'.get? dx = some o := by
    obtain ⟨o, _, _, z, _⟩ := hn
    exact ⟨o, z⟩
  exact h _ (I.write (t' := tk') (x := dx) (e := dx) (o := exd dx ((f, y) :: fs)) (by rw [ed]; exact True.intro) (.inl rfl) (fun b o hb eo => (sb.2 b hb).trans eo) ⟨o2, e2⟩ (exd_ok hn (relO_put ry rel)))
end
def tOstG (K : PySem.W.Frag) (f : Str) (to te : TE) : TS := fun D σ H => te σ H fun y H1 => to σ H1 fun x H2 => ∃ a C : Addr, x = .ref a ∧ OexG K C ∧ PySem.W.findIn K (.ref C) f = some none ∧ ((H2 a = some (exo a C none) ∧ ∀ dx, H2 dx = none → dx ≠ a → D.nx σ (upd (upd H2 dx (exd dx [(f, y)])) a (exo a C (some dx)))) ∨
    ∃ (dx : Addr) (fs : List (Str × V)), H2 a = some (exo a C (some dx)) ∧ H2 dx = some (exd dx fs) ∧ fs.length ≤ 900 ∧ D.nx σ (upd H2 dx (exd dx ((f, y) :: fs))))
theorem ps_ostG {X : Cx} {o e : Expr} {to te : TE} {f : Str} {p' pos : Pos} (ho : PE X o to) (he : PE X e te) (hs : swapsWith e (some (.Attribute o f p')) pos.line X.env = pure false := by rfl) : PS X (.Assign [.Attribute o f p'] e pos) (tOstG X.K f to te) :=
  ⟨fun pins s σ H D I h => plainObj_wpAny_Assign_Attribute (thn (he.run pins s σ H _ I h) fun u1 s1 ⟨y, H1, I1, ry, q1⟩ => thn (ho.run pins s1 σ H1 _ I1 q1) fun u2 s2 ⟨x, H2, I2, rx, a, C, ex, T, hno, q⟩ => by
    subst ex
    obtain rfl : u2 = Value.ref a := rx
    exact q.elim (fun ⟨ea, z⟩ => ostG_new T I2 ea hno ry fun dx s' n ne J => ⟨σ, _, J, z dx n ne⟩) fun ⟨dx, fs, ea, ed, hl, z⟩ => ostG_old T I2 ea ed hl hno ry fun s' J => ⟨σ, _, J, z⟩) hs⟩
def spX (C : Addr) (n : Nat) (g : List V → List (Str × V)) : Sp := fun vs H Q _ => vs.length = n + 1 ∧ ∃ a ws, vs = .ref a :: ws ∧ H a = some (exo a C none) ∧
  ∀ dx H', H dx = none → dx ≠ a → H' a = some (exo a C (some dx)) → H' dx = some (exd dx (g ws)) → (∀ b, b ≠ a → b ≠ dx → H' b = H b) → Q .non H'
section
variable {P : Program} {w : World} {K : PySem.W.Frag} {mg : Str → Option Value} {base : Heap}
def tag2 (t fl : Str) : List V → List (Str × V) := fun ws => match ws with
  | [v] => [(fl, v), ("tag", .str t)]
  | _ => []
def tag1 (t : Str) : List V → List (Str × V) := fun _ => [("tag", .str t)]
theorem x1_ok {x qual : Str} {st : Stmt} {f C : Addr} {fd : FuncData} {t fl : Str} {j : Nat} {p1 p2 p3 p4 p5 p6 p7 p8 : Pos} {sc : Scope} (F : Fun K x qual st f fd) (T : OexG K C) (n1 : PySem.W.findIn K (.ref C) "tag" = some none) (n2 : PySem.W.findIn K (.ref C) fl = some none)
    (hb : defBody st = [.Assign [.Attribute (.Name "self" p1) "tag" p2] (.Constant (.str t) j p3) p4, .Assign [.Attribute (.Name "self" p5) fl p6] (.Name fl p7) p8]) (hs : defScope st = sc) (S : FnScope ["self", fl] ["self", fl] sc) (hv : sc.names.lookup ("self" : Str) = some .local) (hv2 : sc.names.lookup fl = some .local) (hd : (fl == ("__debug__" : Str)) = false)
    (hc : (fl == ("__classdict__" : Str)) = false) : FnOk P w K mg base (L2.CX P w) 1 f fd ["self", fl] (spX C 1 (tag2 t fl)) := by
  subst hs
  refine F.okX S (fun vs H Q E h => h.1) fun cdv A outer s H vs Q E hr h => ?_
  obtain ⟨hl, a, ws, rfl, ha, k⟩ := h
  obtain ⟨v, rfl⟩ : ∃ v, ws = [v] := by
    match ws, hl with
    | [v], _ => exact ⟨v, rfl⟩
  rw [hb]
  refine ⟨_, pss_cons (ps_ostG (pe_var (i := 0) rfl (.inl hv)) pe_str) (pss_one (ps_ostG (pe_var (i := 0) rfl (.inl hv)) (pe_var (i := 1) rfl (.inl hv2) hd hc))), ?_⟩
  refine ⟨_, rfl, a, C, rfl, T, n1, .inl ⟨ha, fun dx hdx hne => ?_⟩⟩
  refine ⟨_, rfl, _, rfl, a, C, rfl, T, n2, .inr ⟨dx, _, upd_same, by rw [upd_ne hne, upd_same], Nat.le_of_ble_eq_true rfl, ?_⟩⟩
  refine k dx _ hdx hne (by rw [upd_ne hne.symm, upd_same]) upd_same fun b h1 h2 => ?_
  rw [upd_ne h2, upd_ne h1, upd_ne h2]
theorem x0_ok {x qual : Str} {st : Stmt} {f C : Addr} {fd : FuncData} {t : Str} {j : Nat} {p1 p2 p3 p4 : Pos} {sc : Scope} (F : Fun K x qual st f fd) (T : OexG K C) (n1 : PySem.W.findIn K (.ref C) "tag" = some none)
    (hb : defBody st = [.Assign [.Attribute (.Name "self" p1) "tag" p2] (.Constant (.str t) j p3) p4]) (hs : defScope st = sc) (S : FnScope ["self"] ["self"] sc) (hv : sc.names.lookup ("self" : Str) = some .local) : FnOk P w K mg base (L2.CX P w) 1 f fd ["self"] (spX C 0 (tag1 t)) := by
  subst hs
  refine F.okX S (fun vs H Q E h => h.1) fun cdv A outer s H vs Q E hr h => ?_
  obtain ⟨hl, a, ws, rfl, ha, k⟩ := h
  rw [hb]
  refine ⟨_, pss_one (ps_ostG (pe_var (i := 0) rfl (.inl hv)) pe_str), ?_⟩
  refine ⟨_, rfl, a, C, rfl, T, n1, .inl ⟨ha, fun dx hdx hne => ?_⟩⟩
  refine k dx _ hdx hne upd_same (by rw [upd_ne hne, upd_same]; rfl) fun b h1 h2 => ?_
  rw [upd_ne h1, upd_ne h2]
structure Xf (P : Program) (w : World) (K : PySem.W.Frag) (mg : Str → Option Value) (base : Heap) (x : Str) (C : Addr) (n : Nat) (g : List V → List (Str × V)) : Prop where
  cls : OexG K C
  mgC : mg x = some (.ref C)
  ex : ∃ fI fd ps, PySem.W.findIn K (.ref C) "__init__" = some (some (.ref fI)) ∧ PySem.W.typeIn K (.ref fI) = some (.type "function") ∧ FnOk P w K mg base (L2.CX P w) 1 fI fd ps (spX C n g) ∧ Binds K fd ps [] ∧ ps.length = n + 1
end
section
variable {X : Cx} {B : Bs} {Ξ : XD → En → Sto → Prop} {pos p : Pos} {e : Expr} {es : List Expr} {ga : DTA} {k n : Nat} {x : Str} {C : Addr} {g : List V → List (Str × V)}
theorem mk_x (XF : Xf X.prog X.w X.K X.mg X.base x C n g) (hr : Room k X.A) (hk : 2 ≤ k) {pins : List (Addr × Obj)} {s : Shared} {σ : L2.St} {H : Hp} {Q : XK} {us : List Value} {vs : List V} (I : L2.Inv X pins σ H s) (rv : Vals vs us) (hl : vs.length = n) (hn : n ≤ 1000)
    (q : ∀ d H', H d = none → H' d = some (.xd (g vs)) → (∀ b, b ≠ d → H' b = H b) → Q (.ref C) (some d) H') : wpAny (model X.prog X.w) X.A (call (.ref C) us) (MkP X pins σ Q) X.xe s := by
  obtain ⟨fI, fd, ps, iC, tI, FO, hb, lp⟩ := XF.ex
  have T := XF.cls
  obtain ⟨B0, nw, ini, bmB, FB, SF, ov, nm, qq, N, bs, bm, sn, sub, ab, col, dd, k0, k1, k2, k3, k5, hC, hbm⟩ := T.base
  obtain ⟨hp, gn, dr, tk, os⟩ := s
  generalize ea : hp.objs.size + 1 = a
  have hsz : hp.objs.size ≤ a := by omega
  have na : H a = none := I.hok.fresh hsz
  have kk : ∀ b o, hp.get? b = some o → ((hp.push (PySem.W.kdv_tup us)).push (PySem.HandSPX.excO C hp.objs.size)).get? b = some o := fun b o z => Heap.get?_push_of_some _ (Heap.get?_push_of_some _ z)
  have hget : ((hp.push (PySem.W.kdv_tup us)).push (PySem.HandSPX.excO C hp.objs.size)).get? a = some (PySem.HandSPX.excO C hp.objs.size) := by rw [← ea]; heap_get
  have I2 : L2.Inv X pins σ (upd H a (exo a C none)) ⟨(hp.push (PySem.W.kdv_tup us)).push (PySem.HandSPX.excO C hp.objs.size), gn, dr, tk, os⟩ := I.laid (t' := tk) kk hsz (exo_ok hget)
  have r2 : Vals (V.ref a :: vs) (Value.ref a :: us) := .cons rfl rv
  have hul : (Value.ref a :: us ++ []).length = ps.length := by rw [List.append_nil, ← r2.length, lp, List.length_cons, hl]
  have hus : us.length ≤ sizeLine := by rw [← rv.length, hl, sizeLine_eq]; omega
  have hsp : spX C n g (V.ref a :: vs) (upd H a (exo a C none)) (fun v H2 => v = .non ∧ ∃ d, H d = none ∧ H2 a = some (exo a C (some d)) ∧ H2 d = some (exd d (g vs)) ∧ Q (.ref C) (some d) (upd (del H2 a) d (.xd (g vs)))) (fun _ _ _ => False) := by
    refine ⟨by rw [List.length_cons, hl], a, vs, rfl, upd_same, fun dx H' h1 h2 h3 h4 h5 => ⟨rfl, dx, ?_, h3, h4, q dx _ ?_ upd_same fun b hb => ?_⟩⟩
    · rw [upd_ne h2] at h1; exact h1
    · rw [upd_ne h2] at h1; exact h1
    · rw [upd_ne hb]
      by_cases z : b = a
      · rw [z, del_same, na]
      · rw [del_ne z, h5 b z hb, upd_ne z]
  refine wpAny_call (PySem.HandSPX.call_own FB hbm (I.kIn _ _ hC) (PySem.W.looks_findIn I.kIn iC) (fun self => PySem.W.bind_fn I.kIn self tI) hus ?_)
  rw [ea]
  refine codeAny_mono (FO.run _ X.stack _ _ ⟨Value.ref a :: us, []⟩ (Value.ref a :: us) _ _ (fun _ _ _ => False) ((hr.mono hk).make C us []) (I2.env0.make C us []) ?_ r2 hsp) fun r s' hq' => ?_
  · have z := hb ⟨(hp.push (PySem.W.kdv_tup us)).push (PySem.HandSPX.excO C hp.objs.size), gn, dr, tk, os⟩ (Value.ref a :: us) I2.kIn hul
    rw [List.append_nil] at z
    exact z
  · cases r with
    | error er =>
      obtain ⟨_, _, _, _, _, _, _, _, _, _, _, _, z⟩ := hq'
      exact z.elim
    | ok fl =>
      cases fl with
      | ret u =>
        obtain ⟨v, H2, os2, bare2, un2, hok2, rv2, ev, d, hd, e1, e2, q2⟩ := hq'
        subst ev
        obtain ⟨h2, g2, d2, t2, os'⟩ := s'
        exact ⟨rv2, mk_end (raises_own T.exC T.tyC) I hsz kk un2 hok2 os2 bare2 e1 e2 hd q2⟩
      | next => exact False.elim hq'
      | brk => exact False.elim hq'
      | cont => exact False.elim hq'
theorem ds_raise1 {t fl : Str} {p2 : Pos} (XF : Xf X.prog X.w X.K X.mg X.base x C 1 (tag2 t fl)) (hr : Room k X.A) (z : Zx X B Ξ) (hc : X.calm = true) (ha : DA X B [e] ga) (hk : 2 ≤ k := by decide) (hg : Gl X x := by rfl) (hdb : (x == ("__debug__" : Str)) = false := by decide)
    (he : starEach [e] X.env = (false, eval e X.env) :: starEach [] X.env := by rfl) : DS X B (.Raise (some (.Call (.Name x p) [e] [] p2)) none pos) (fun E r M => ga r M fun ds M1 => match ds with | [d] => Ξ (C, [(fl, d), ("tag", .str t)]) r M1 | _ => False) := by
  have mk : PMk X (.Call (.Name x p) [e] [] p2) (fun σ H Q => liftA X.K B ga σ H fun vs H1 => vs.length = 1 ∧ ∀ d H', H1 d = none → H' d = some (.xd (tag2 t fl vs)) → (∀ b, b ≠ d → H' b = H1 b) → Q (.ref C) (some d) H') := by
    intro pins s σ H Q I h
    refine wpAny_Call_Name_kw (ld_glob I hg XF.mgC ?_ hdb)
    exact PySem.W.callWith_K (h₀ := X.base) I.ok.mod.kin XF.cls.kC (thn (ha.run p2 pins s σ H _ I h) fun us s1 ⟨vs, H1, I1, rv, l1, q1⟩ => ⟨I1.kIn, mk_x XF hr hk I1 rv l1 (by omega) q1⟩) he rfl
  refine PS_imp (ps_raise hc z.tk mk) fun D' σ H h => ?_
  obtain ⟨r, M, G, E, R, q, _⟩ := EkOk.of h
  refine ⟨r, M, G, _, R, q, fun ds M1 vs H1 G1 q1 R1 s1 p1 => ?_⟩
  split at q1
  · rename_i d
    cases p1 with
    | @cons _ _ v _ p1 p2 =>
      cases p2
      refine ⟨rfl, fun dd H' hd h' hb => ⟨(C, [(fl, d), ("tag", .str t)]), r, M1, G1, q1, ?_, rfl, dd, _, rfl, h', .cons p1 (.cons .str .nil)⟩⟩
      have e : H' = upd H1 dd (.xd (tag2 t fl [v])) := by
        funext b
        by_cases z : b = dd
        · rw [z, upd_same]; exact h'
        · rw [upd_ne z]; exact hb b z
      rw [e]
      refine R1.go ⟨fun a o y => by rw [upd_ne (ne_of_none (R1.wd.sub _ _ y) hd)]; exact R1.wd.sub _ _ y, fun a c y => ?_⟩ ⟨fun a o y _ => by rw [upd_ne (ne_of_none y hd)]; exact y, fun a y => ?_, Sub.rfl', fun a y n => absurd n y, fun a y n => absurd n y⟩
      · obtain ⟨h1, h2⟩ := R1.wd.cells a c y
        exact ⟨h1, h2.move Sub.rfl' fun o z => by rw [upd_ne (ne_of_none z hd)]; exact z⟩
      · by_cases z : a = dd
        · rw [z, upd_same]; simp
        · rw [upd_ne z]; exact y
  · exact q1.elim
theorem ds_raise0 {t : Str} {p2 : Pos} (XF : Xf X.prog X.w X.K X.mg X.base x C 0 (tag1 t)) (hr : Room k X.A) (z : Zx X B Ξ) (hc : X.calm = true) (hk : 2 ≤ k := by decide) (hg : Gl X x := by rfl) (hdb : (x == ("__debug__" : Str)) = false := by decide) :
    DS X B (.Raise (some (.Call (.Name x p) [] [] p2)) none pos) (fun E r M => Ξ (C, [("tag", .str t)]) r M) := by
  have mk : PMk X (.Call (.Name x p) [] [] p2) (fun σ H Q => ∀ d H', H d = none → H' d = some (.xd (tag1 t [])) → (∀ b, b ≠ d → H' b = H b) → Q (.ref C) (some d) H') := by
    intro pins s σ H Q I h
    refine wpAny_Call_Name_kw (ld_glob I hg XF.mgC ?_ hdb)
    exact PySem.W.callWith_K0 I.kIn XF.cls.kC (mk_x (us := []) (vs := []) XF hr hk I .nil rfl (by omega) h)
  refine PS_imp (ps_raise hc z.tk mk) fun D' σ H h => ?_
  obtain ⟨r, M, G, E, R, q, _⟩ := EkOk.of h
  intro dd H' hd h' hb
  refine ⟨(C, [("tag", .str t)]), r, M, G, q, ?_, rfl, dd, _, rfl, h', .cons .str .nil⟩
  have e : H' = upd H dd (.xd (tag1 t [])) := by
    funext b
    by_cases z : b = dd
    · rw [z, upd_same]; exact h'
    · rw [upd_ne z]; exact hb b z
  rw [e]
  refine R.go ⟨fun a o y => by rw [upd_ne (ne_of_none (R.wd.sub _ _ y) hd)]; exact R.wd.sub _ _ y, fun a c y => ?_⟩ ⟨fun a o y _ => by rw [upd_ne (ne_of_none y hd)]; exact y, fun a y => ?_, Sub.rfl', fun a y n => absurd n y, fun a y n => absurd n y⟩
  · obtain ⟨h1, h2⟩ := R.wd.cells a c y
    exact ⟨h1, h2.move Sub.rfl' fun o z => by rw [upd_ne (ne_of_none z hd)]; exact z⟩
  · by_cases z : a = dd
    · rw [z, upd_same]; simp
    · rw [upd_ne z]; exact y
end
end Z
namespace Z
open PySem PySem.Spec PyProof.Rows L2

def objOf (M : Sto) : D → Option (Addr × List (Str × D))
  | .obj C fs => some (C, fs)
  | .ref p => match M p with
    | some (.ins C fs) => some (C, fs)
    | _ => none
  | _ => none
theorem objOf_ref {M : Sto} {a C : Addr} {fs : List (Str × D)} (e : objOf M (.ref a) = some (C, fs)) : M a = some (.ins C fs) := by
  have e' : (match M a with | some (.ins C fs) => some (C, fs) | _ => none) = some (C, fs) := e
  split at e'
  · rename_i l' q
    cases e'
    exact q
  · cases e'
theorem obj_rep {K : PySem.W.Frag} {M : Sto} {H G : Hp} {d : D} {v : V} {C : Addr} {fs : List (Str × D)} (w : Wd K M H G) (r : Rep K G d v) (e : objOf M d = some (C, fs)) : ∃ a dx fvs, v = .ref a ∧ H a = some (.ins C dx fvs) ∧ RepF K G fs fvs := by
  cases r with
  | obj h r => cases e; exact ⟨_, _, _, rfl, w.sub _ _ h, r⟩
  | ref =>
    obtain ⟨_, dx, fvs, h, r⟩ := w.cells _ _ (objOf_ref e)
    exact ⟨_, dx, fvs, rfl, h, r⟩
  | _ => cases e
def isO (C : Addr) (M : Sto) (x : D) (φ : List (Str × D) → Prop) : Prop := match objOf M x with
  | some (C', fs) => C' = C ∧ φ fs
  | none => False
theorem isO_some {C : Addr} {M : Sto} {x : D} {φ : List (Str × D) → Prop} (h : isO C M x φ) : ∃ fs, objOf M x = some (C, fs) ∧ φ fs := by
  unfold isO at h
  split at h
  · rename_i C' fs e
    obtain ⟨rfl, h⟩ := h
    exact ⟨fs, e, h⟩
  · exact h.elim
theorem RepF.put {K : PySem.W.Frag} {G : Hp} {f : Str} {d : D} {v : V} (p : Rep K G d v) : ∀ {fs : List (Str × D)} {gs : List (Str × V)}, RepF K G fs gs → RepF K G (putD f d fs) (putF f v gs)
  | _, _, .nil => .cons p .nil
  | _, _, .cons (f := g) q r => by
    unfold putD putF
    by_cases e : g = f
    · rw [if_pos e, if_pos e]; exact .cons p r
    · rw [if_neg e, if_neg e]; exact .cons q (r.put p)
section
variable {X : Cx} {B : Bs} {Ξ : XD → En → Sto → Prop} {k j n : Nat} {c : Ct} {pos apos p p' : Pos} {e o : Expr} {es : List Expr} {kws : List Keyword} {ga gk : DTA} {fa fo : DTE} {C f : Addr} {fn m x : Str} {ks : List Str} {g : List D → List D → List D} {bs : List (Nat × List Str × (List D → List D → List D))}
theorem de_fld (T : Cls X.K C) (nf : NoAttr X.K C fn) (ho : DE X B o fo) (hb : attributeBase o fn X.env (eval o X.env) = eval o X.env := by rfl) :
    DE X B (.Attribute o fn pos) (fun r M Ψ => fo r M fun x M1 => isO C M1 x fun fs => optK (fs.lookup fn) fun d => Ψ d M1) := PE_imp (pe_fld ho hb) fun σ H Q ⟨r, M, G, Ψ, R, h, k⟩ => by
  refine ⟨r, M, G, _, R, h, fun x M1 v H1 G1 q R1 s1 p1 => ?_⟩
  obtain ⟨fs, e1, q⟩ := isO_some q
  obtain ⟨d, e2, q⟩ := optK_some q
  obtain ⟨a, dx, fvs, rfl, h1, r1⟩ := obj_rep R1.wd p1 e1
  obtain ⟨u, e3, p3⟩ := r1.look e2
  exact ⟨a, C, dx, fvs, u, rfl, h1, T, nf, e3, k _ _ _ _ _ q R1 s1 p3⟩
theorem ds_fld {value : Expr} (T : Cls X.K C) (nf : NoAttr X.K C fn) (hv : DE X B value fa) (ho : DE X B o fo) (hs : swapsWith value (some (.Attribute o fn p')) pos.line X.env = pure false := by rfl) :
    DS X B (.Assign [.Attribute o fn p'] value pos) (fun E r M => fa r M fun d M1 => fo r M1 fun x M2 => match x with
      | .ref a => match M2 a with
        | some (.ins C' fs) => C' = C ∧ fs.length < 1000 ∧ E.nx r (updM M2 a (.ins C (putD fn d fs)))
        | _ => False
      | _ => False) := PS_imp (ps_fld ho hv hs) fun D' σ H h => by
  obtain ⟨r, M, G, E, R, q, k⟩ := EkOk.of h
  refine ⟨r, M, G, _, R, q, fun d M1 v H1 G1 q1 R1 s1 p1 => ?_⟩
  refine ⟨r, M1, G1, _, R1, q1, fun x M2 u H2 G2 q2 R2 s2 p2 => ?_⟩
  split at q2
  · split at q2
    · rename_i a _ C' fs em
      obtain ⟨rfl, hl, q2⟩ := q2
      cases p2
      obtain ⟨ga, dx, fvs, h1, r1⟩ := R2.wd.cells _ _ em
      obtain ⟨w, s⟩ := cell_put (c := .ins C' (putD fn d fs)) (o := .ins C' dx (putF fn v fvs)) R2.wd em ⟨dx, _, upd_same, r1.put (p1.mono s2)⟩
      exact ⟨a, C', dx, fvs, rfl, h1, T, nf, by rw [← r1.length]; exact hl, k.nx _ _ _ _ _ q2 (R2.go w s) (s1.tr s2)⟩
    · exact q2.elim
  · exact q2.elim
structure Mf (P : Program) (w : World) (K : PySem.W.Frag) (mg : Str → Option Value) (base : Heap) (C : Addr) (m : Str) (k : Nat) (c : Ct) (bs : List (Nat × List Str × (List D → List D → List D))) : Prop where
  ex : ∃ f fd ps, Meth K C m f ∧ FnOk P w K mg base (L2.CX P w) k f fd ps (spC K ps.length c) ∧ ∀ b ∈ bs, BindD K fd ps b
theorem de_meth0 {pl : Sem Bool} (F : Mf X.prog X.w X.K X.mg X.base C m j c bs) (T : Cls X.K C) (hr : Room k X.A) (z : Zx X B Ξ) (hb : (1, [], g) ∈ bs) (ho : DE X B o fo) (hj : j ≤ k := by decide)
    (ht : eval (.Call (.Attribute o m apos) [] [] pos) X.env = (do let ov ← eval o X.env; standAt apos.atName; let (f, first) ← holding [ov] (getMethod ov m pl); callWith pos f first (backTo pos (starEach [] X.env)) (backToKw pos (keywordEach [] X.env))) := by rfl) :
    DE X B (.Call (.Attribute o m apos) [] [] pos) (fun r M Ψ => fo r M fun x M1 => isO C M1 x fun fs => fs.lookup m = none ∧ callD 1 0 g c Ξ [x] [] r M1 Ψ) := by
  obtain ⟨f, fd, ps, mt, FO, hbs⟩ := F.ex
  refine ⟨fun pins s σ H Q I ⟨r, M, G, Ψ, R, h, kk⟩ => ?_⟩
  refine PySem.W.methodCall_KW (pl := pl) (thn (ho.run pins s σ H _ I ⟨r, M, G, _, R, h, fun x M1 v H1 G1 q R1 s1 p1 => (⟨x, M1, G1, q, R1, s1, p1⟩ : ∃ x M1 G1, (isO C M1 x fun fs => fs.lookup m = none ∧ callD 1 0 g c Ξ [x] [] r M1 Ψ) ∧ Rel X.K B r M1 σ H1 G1 ∧ Sub G G1 ∧ Rep X.K G1 x v)⟩) fun u s1 ⟨v, H1, I1, rx, x, M1, G1, q, R1, t1, p1⟩ => ?_) ht
  obtain ⟨fs, e1, l, l1, _, q⟩ := isO_some q
  obtain ⟨a, dx, fvs, rfl, h1, r1⟩ := obj_rep R1.wd p1 e1
  obtain rfl : u = Value.ref a := rx
  refine getmeth_ok I1 h1 T mt (r1.none l) ?_
  refine PySem.W.callWith_K0 (first := [.ref a]) I1.kIn mt.kp ?_
  exact run_c (us := [.ref a]) (vs := [.ref a]) (zs := []) (ws := []) (dz := []) FO (hr.mono hj) (hbs _ hb) z.tk I1 R1 (.cons rfl .nil) .nil (.cons p1 .nil) .nil l1 rfl q fun d M' v H' G' q R' s' p' => kk _ _ _ _ _ q R' (t1.tr s') p'
end
end Z
namespace Z
open PySem PySem.Spec PyProof.Rows L2

abbrev noX : XD → Sto → Prop := fun _ _ => False
section
variable {X : Cx} {B : Bs} {Ξ : XD → En → Sto → Prop} {k j n : Nat} {c : Ct} {pos apos p p' p1 p2 : Pos} {a b e o : Expr} {es : List Expr} {kws : List Keyword} {ga gk : DTA} {fa fb fo : DTE} {C : Addr} {fn m x : Str} {ks : List Str} {g : List D → List D → List D} {bs : List (Nat × List Str × (List D → List D → List D))}
def OkP2 (K : PySem.W.Frag) (r : R2) (g : Sto → D → D → PD → Prop) : Prop := ∀ (M : Sto) (H G : Hp) (x y : D) (v u : V) (φ : PD) (Q : VK), Wd K M H G → Rep K G x v → Rep K G y u → g M x y φ → Post K H G M φ Q → r v u H Q
theorem tOp_okP {r : R2} {g : Sto → D → D → PD → Prop} (ok : OkP2 X.K r g) {σ : L2.St} {H : Hp} {Q : VK} (h : lift X.K B (fun r M Ψ => fa r M fun x M1 => fb r M1 fun y M2 => g M2 x y Ψ) σ H Q) : tOp r (lift X.K B fa) (lift X.K B fb) σ H Q := by
  obtain ⟨r, M, G, Ψ, R, h, k⟩ := h
  refine ⟨r, M, G, _, R, h, fun d M1 v H1 G1 q1 R1 s1 p1 => ?_⟩
  refine ⟨r, M1, G1, _, R1, q1, fun y M2 u H2 G2 q2 R2 s2 p2 => ?_⟩
  exact ok M2 H2 G2 _ _ _ _ _ _ R2.wd (p1.mono s2) p2 q2 fun d M' w H' G' f w' s' p => k _ _ _ _ _ f (R2.go w' s') ((s1.tr s2).tr s'.gsub) p
end
section
variable {prog : Program} {w : World} {A : Around} {E : Value → Shared → Prop} {s : Shared} {K : PySem.W.Frag} {x C L f : Addr} {h₀ : Heap} {m : Str → Option Value} {ox : Obj} {od : Option Obj} {b tb : Value}
end
section
variable {X : Cx} {B : Bs} {Ξ : XD → En → Sto → Prop} {k j n : Nat} {c : Ct} {pos apos p p' p1 p2 : Pos} {a b e o : Expr} {es : List Expr} {kws : List Keyword} {ga gk : DTA} {fa fb fo : DTE} {C : Addr} {fn m x : Str} {ks : List Str} {g : List D → List D → List D} {bs : List (Nat × List Str × (List D → List D → List D))}
end
end Z
namespace Z
open PySem PySem.Spec PyProof.Rows L2

structure Cf (P : Program) (w : World) (K : PySem.W.Frag) (mg : Str → Option Value) (base : Heap) (x : Str) (C : Addr) (k : Nat) (c : Ct) (bs : List (Nat × List Str × (List D → List D → List D))) : Prop where
  gl : mg x = some (.ref C)
  ex : ∃ f fd ps, Mk K C f ∧ FnOk P w K mg base (L2.CX P w) k f fd ps (spC K ps.length c) ∧ ∀ b ∈ bs, BindD K fd ps b
theorem own_new {K : PySem.W.Frag} {M : Sto} {H G : Hp} {p : Addr} {o : HO} (w : Wd K M H G) (hp : H p = none) : Wd K M (upd H p o) G ∧ Since H G M M (upd H p o) G := by
  refine ⟨⟨fun a u h => ?_, fun a u h => ?_⟩, ⟨fun a u h n => ?_, fun a h => ?_, Sub.rfl', fun a h n => absurd n h, fun a h n => absurd n h⟩⟩
  · rw [upd_ne (ne_of_none (w.sub _ _ h) hp)]; exact w.sub _ _ h
  · obtain ⟨h1, h2⟩ := w.cells a u h
    exact ⟨h1, h2.move Sub.rfl' fun o z => by rw [upd_ne (ne_of_none z hp)]; exact z⟩
  · rw [upd_ne (ne_of_none h hp)]; exact h
  · by_cases e : a = p
    · subst e; rw [upd_same]; simp
    · rw [upd_ne e]; exact h
theorem ins_frz {K : PySem.W.Frag} {M : Sto} {H G H' G' : Hp} {p C : Addr} {fs : List (Str × D)} (wd : Wd K M H G) (hp : H p = none) (w : Wd K (updM M p (.ins C fs)) H' G') (s : Since H G M (updM M p (.ins C fs)) H' G') :
    Wd K M H' (frz1 p H' G') ∧ Since H G M M H' (frz1 p H' G') ∧ Sub G' (frz1 p H' G') ∧ Rep K (frz1 p H' G') (.obj C fs) (.ref p) := by
  obtain ⟨gp, dx, fvs, h1, r1⟩ := w.cells p _ updM_same
  have mp := wd.nomem hp
  have sg : Sub G' (frz1 p H' G') := fun a o e => by
    unfold frz1
    rw [if_neg (by intro z; rw [z, gp] at e; cases e)]; exact e
  refine ⟨⟨fun a o e => ?_, fun a u e => ?_⟩, ⟨s.keep, s.stay, s.gsub.tr sg, fun a e n => ?_, fun a e n => absurd n e⟩, sg, .obj (dx := dx) (by unfold frz1; rw [if_pos rfl]; exact h1) (r1.mono sg)⟩
  · unfold frz1 at e
    split at e
    · exact e
    · exact w.sub _ _ e
  · have z : a ≠ p := fun z => by rw [z, mp] at e; cases e
    obtain ⟨h2, h3⟩ := w.cells a u (by rw [updM_ne z]; exact e)
    exact ⟨by unfold frz1; rw [if_neg z]; exact h2, h3.move sg fun _ z => z⟩
  · unfold frz1 at e
    split at e
    · rename_i z; rw [z]; exact hp
    · exact s.gnew a e n
section
variable {X : Cx} {B : Bs} {Ξ : XD → En → Sto → Prop} {k j n : Nat} {c : Ct} {pos apos p p' : Pos} {e o : Expr} {es : List Expr} {kws : List Keyword} {ga gk : DTA} {fa fo : DTE} {C : Addr} {fn m x : Str} {ks : List Str} {g : List D → List D → List D} {bs : List (Nat × List Str × (List D → List D → List D))}
theorem run_mk {pins : List (Addr × Obj)} {r : En} {M : Sto} {σ : L2.St} {H G : Hp} {s : Shared} {Q : VK} {vs zs : List V} {us ws : List Value} {ds dz : List D} {b : Nat × List Str × (List D → List D → List D)} {f : Addr} {fd : FuncData} {ps : List Str} {Ψ : Addr → D → Sto → Prop} {Ξ' : Addr → XD → Sto → Prop}
    (mk : Mk X.K C f) (F : FnOk X.prog X.w X.K X.mg X.base (L2.CX X.prog X.w) k f fd ps (spC X.K ps.length c)) (hr : Room (k + 1) X.A) (hb : BindD X.K fd ps b) (tk : Takes X (wOf X.K B Ξ)) (I : L2.Inv X pins σ H s) (R : Rel X.K B r M σ H G)
    (hv : Vals vs us) (hz : Vals zs ws) (rv : RepL X.K G ds vs) (rz : RepL X.K G dz zs) (l1 : ds.length + 1 = b.1) (l2 : dz.length = b.2.1.length)
    (hc : ∀ p, M p = none → c (b.2.2 (.ref p :: ds) dz) (updM M p (.ins C [])) (Ψ p) (Ξ' p))
    (hQ : ∀ p d M' v H' G', H p = none → Ψ p d M' → Wd X.K M' H' G' → Since H G M M' H' G' → Rep X.K G' d v → v = .non ∧ Q (.ref p) H')
    (hE : ∀ p x M' H' G', H p = none → Ξ' p x M' → Wd X.K M' H' G' → Since H G M M' H' G' → ∃ M2 G2, Sub G' G2 ∧ Ξ x r M2 ∧ Wd X.K M2 H' G2 ∧ Since H G M M2 H' G2) :
    wpAny (model X.prog X.w) X.A (call (.ref C) us (b.2.1.zip ws)) (EP X pins σ Q) X.xe s := by
  obtain ⟨hl, gl, gV, kb, rel⟩ := hb
  have hx : H (s.heap.objs.size + 1) = none := I.hok.fresh (Nat.le_succ _)
  have hd : H s.heap.objs.size = none := I.hok.fresh (Nat.le_refl _)
  have hne : s.heap.objs.size + 1 ≠ s.heap.objs.size := (Nat.ne_of_lt (Nat.lt_succ_self _)).symm
  obtain ⟨w1, s1⟩ := own_new (o := .own (s.heap.objs.size + 1)) R.wd hd
  obtain ⟨w2, s2⟩ := cell_new (p := s.heap.objs.size + 1) (c := .ins C []) (o := .ins C s.heap.objs.size []) w1 (by rw [upd_ne hne]; exact hx) ⟨_, _, upd_same, .nil⟩
  have t2 := Since.trans w1 s1 s2
  have I2 := Inv.made (C := C) I
  have rr := rel G (.ref (s.heap.objs.size + 1) :: ds) (.ref (s.heap.objs.size + 1) :: vs) dz zs (.cons .ref rv) rz
  have l3 := hl (.ref (s.heap.objs.size + 1) :: ds) dz (by simpa using l1) l2
  have r1 : Vals (V.ref (s.heap.objs.size + 1) :: vs) (Value.ref (s.heap.objs.size + 1) :: us) := .cons rfl hv
  have u1 : (Value.ref (s.heap.objs.size + 1) :: us).length = b.1 := by rw [← r1.length, List.length_cons, ← rv.length]; exact l1
  have u2 : ws.length = b.2.1.length := by rw [← hz.length, ← rz.length]; exact l2
  have hsp : spC X.K ps.length c (gV (.ref (s.heap.objs.size + 1) :: vs) zs) (upd (upd H s.heap.objs.size (.own (s.heap.objs.size + 1))) (s.heap.objs.size + 1) (.ins C s.heap.objs.size [])) (fun v H2 => v = .non ∧ Q (.ref (s.heap.objs.size + 1)) H2) (fun cls d H' => wOf X.K B Ξ cls d σ H') := by
    refine ⟨by rw [← rr.length]; exact l3, _, G, _, _, _, w2, rr, hc _ (R.wd.nomem hx), fun d M' v H' G' q w s p => hQ _ d M' v H' G' hx q w (Since.trans w2 t2 s) p, fun x M' H' G' cls dd q w s rx => ?_⟩
    obtain ⟨M2, G2, g2, q2, w3, s3⟩ := hE _ x M' H' G' hx q w (Since.trans w2 t2 s)
    obtain ⟨e, dd', fvs, e1, e2, r2⟩ := rx
    exact ⟨x, r, M2, G2, q2, R.go w3 s3, e, dd', fvs, e1, e2, r2.mono g2⟩
  refine wpAny_call (make_map (f := f) I.kIn mk.makes mk.init (beq_iff_eq.mp mk.fn) (codeAny_mono (F.run _ X.stack _ _ ⟨Value.ref (s.heap.objs.size + 1) :: us, b.2.1.zip ws⟩ (gl (Value.ref (s.heap.objs.size + 1) :: us) ws) _ _ _ (hr.make C us (b.2.1.zip ws))
    (I2.env0.make C us (b.2.1.zip ws)) (kb.to _ (Value.ref (s.heap.objs.size + 1) :: us) ws I2.kIn u1 u2) (kb.rel r1 hz) hsp) fun r s' hq' => ?_))
  cases r with
  | error e => exact tk e s' (XE.of_call I2 (fun cls d H' h => h) hq')
  | ok fl =>
    cases fl with
    | ret u =>
      obtain ⟨v, H', I3, rv, ev, q3⟩ := I2.after hq'
      subst ev
      exact ⟨rv, ⟨V.ref (s.heap.objs.size + 1), H', I3, rfl, q3⟩⟩
    | next => exact False.elim hq'
    | brk => exact False.elim hq'
    | cont => exact False.elim hq'
def mkD (n m : Nat) (g : List D → List D → List D) (C : Addr) (c : Ct) (Ξ : XD → En → Sto → Prop) (ds dz : List D) (r : En) (M : Sto) (Ψ : PD) : Prop := ds.length = n ∧ dz.length = m ∧ ∀ p, M p = none → c (g (.ref p :: ds) dz) (updM M p (.ins C []))
  (fun d M' => d = .non ∧ ∃ fs, M' = updM M p (.ins C fs) ∧ Ψ (.obj C fs) M) (fun x M' => ∃ fs, M' = updM M p (.ins C fs) ∧ Ξ x r M)
theorem run_mkD {pins : List (Addr × Obj)} {r : En} {M : Sto} {σ : L2.St} {H G : Hp} {s : Shared} {Q : VK} {vs zs : List V} {us ws : List Value} {ds dz : List D} {b : Nat × List Str × (List D → List D → List D)} {f : Addr} {fd : FuncData} {ps : List Str} {Ψ : PD}
    (mk : Mk X.K C f) (F : FnOk X.prog X.w X.K X.mg X.base (L2.CX X.prog X.w) k f fd ps (spC X.K ps.length c)) (hr : Room (k + 1) X.A) (hb : BindD X.K fd ps b) (tk : Takes X (wOf X.K B Ξ)) (I : L2.Inv X pins σ H s) (R : Rel X.K B r M σ H G)
    (hv : Vals vs us) (hz : Vals zs ws) (rv : RepL X.K G ds vs) (rz : RepL X.K G dz zs) (l1 : ds.length + 1 = b.1) (l2 : dz.length = b.2.1.length) (hc : mkD ds.length dz.length b.2.2 C c Ξ ds dz r M Ψ)
    (hQ : ∀ d M' v H' G', Ψ d M' → Rel X.K B r M' σ H' G' → Sub G G' → Rep X.K G' d v → Q v H') : wpAny (model X.prog X.w) X.A (call (.ref C) us (b.2.1.zip ws)) (EP X pins σ Q) X.xe s := by
  refine run_mk mk F hr hb tk I R hv hz rv rz l1 l2 hc.2.2 (fun p d M' v H' G' hp q w s rp => ?_) fun p x M' H' G' hp q w s => ?_
  · obtain ⟨rfl, fs, rfl, q⟩ := q
    cases rp
    obtain ⟨w1, s1, g1, p1⟩ := ins_frz R.wd hp w s
    exact ⟨rfl, hQ _ _ _ _ _ q (R.go w1 s1) s1.gsub p1⟩
  · obtain ⟨fs, rfl, q⟩ := q
    obtain ⟨w1, s1, g1, p1⟩ := ins_frz R.wd hp w s
    exact ⟨M, _, g1, q, w1, s1⟩
theorem de_make (F : Cf X.prog X.w X.K X.mg X.base x C j c bs) (hr : Room k X.A) (z : Zx X B Ξ) (hb : (n + 1, [], g) ∈ bs) (ha : DA X B (e :: es) ga) (hj : j + 1 ≤ k := by decide) (hg : Gl X x := by rfl) (hdb : (x == ("__debug__" : Str)) = false := by decide)
    (he : starEach (e :: es) X.env = (false, eval e X.env) :: starEach es X.env := by rfl) (hpl : (backTo pos (starEach es X.env)).any (·.1) = false := by rfl) :
    DE X B (.Call (.Name x p) (e :: es) [] pos) (fun r M Ψ => ga r M fun ds M1 => mkD n 0 g C c Ξ ds [] r M1 Ψ) := by
  obtain ⟨f, fd, ps, mk, FO, hbs⟩ := F.ex
  refine ⟨fun pins s σ H Q I ⟨r, M, G, Ψ, R, h, kk⟩ => ?_⟩
  refine wpAny_Call_Name_kw (ld_glob I hg F.gl ?_ hdb)
  refine PySem.W.callWith_K (h₀ := X.base) I.ok.mod.kin mk.kp (thn (ha.run pos pins s σ H _ I ⟨r, M, G, _, R, h, fun ds M1 vs H1 G1 q R1 s1 p1 => (⟨ds, M1, G1, q, R1, s1, p1⟩ : ∃ ds M1 G1, mkD n 0 g C c Ξ ds [] r M1 Ψ ∧ Rel X.K B r M1 σ H1 G1 ∧ Sub G G1 ∧ RepL X.K G1 ds vs)⟩) fun us s1 ⟨vs, H1, I1, rv, ds, M1, G1, q, R1, t1, p1⟩ => ⟨I1.kIn, ?_⟩) he hpl
  obtain ⟨l1, l2, q⟩ := q
  exact run_mkD (zs := []) (ws := []) (dz := []) (b := (n + 1, [], g)) mk FO (hr.mono hj) (hbs _ hb) z.tk I1 R1 rv .nil p1 .nil (congrArg Nat.succ l1) rfl ⟨rfl, rfl, q⟩ fun d M' v H' G' q R' s' p' => kk _ _ _ _ _ q R' (t1.tr s') p'
end
end Z
namespace Z
open PySem PySem.Spec PyProof.Rows L2

section
variable {X : Cx} {B : Bs} {Ξ : XD → En → Sto → Prop} {k j n : Nat} {c : Ct} {pos apos p p' : Pos} {e o : Expr} {es : List Expr} {kws : List Keyword} {ga gk : DTA} {fa fo : DTE} {C : Addr} {fn m x : Str} {ks : List Str} {g : List D → List D → List D} {bs : List (Nat × List Str × (List D → List D → List D))}
def OkM (K : PySem.W.Frag) (r : V → List V → Hp → VK → Prop) (g : Sto → D → List D → PD → Prop) : Prop := ∀ (M : Sto) (H G : Hp) (x : D) (v : V) (ds : List D) (vs : List V) (φ : PD) (Q : VK), Wd K M H G → Rep K G x v → RepL K G ds vs → g M x ds φ → Post K H G M φ Q → r v vs H Q
def isS : D → Prop
  | .str _ => True
  | _ => False
theorem de_sm1 {id : String} {name : Str} {r : V → List V → Hp → VK → Prop} {g : Sto → D → List D → PD → Prop} (slot : Slot "str" name id) (ty : typeOf (.builtin id) = pure (.type "method_descriptor")) (rule : MtR X id r) (ok : OkM X.K r g) (ho : DE X B o fo) (he : DE X B e fa)
    (hs : starEach [e] X.env = [(false, eval e X.env)] := by rfl) (hbase : attributeBase o name X.env (eval o X.env) = eval o X.env := by rfl) (hline : (apos.endLine == pos.line) = true := by rfl) :
    DE X B (.Call (.Attribute o name apos) [e] [] pos) (fun r M Ψ => fo r M fun x M1 => isS x ∧ fa r M1 fun y M2 => g M2 x [y] Ψ) := PE_imp (pe_m1 slot ty rule ho he hs hbase hline) fun σ H Q ⟨r, M, G, Ψ, R, h, k⟩ => by
  refine ⟨r, M, G, _, R, h, fun x M1 v H1 G1 ⟨q1, q⟩ R1 s1 p1 => ⟨?_, r, M1, G1, _, R1, q, fun y M2 u H2 G2 q2 R2 s2 p2 => ?_⟩⟩
  · cases p1 <;> first | exact ⟨_, rfl⟩ | exact q1.elim
  · exact ok M2 H2 G2 _ _ _ _ _ _ R2.wd (p1.mono s2) (.cons p2 .nil) q2 fun d M' w H' G' f w' s' p => k _ _ _ _ _ f (R2.go w' s') ((s1.tr s2).tr s'.gsub) p
def strsD : List D → Option (List Str)
  | [] => some []
  | .str a :: l => (strsD l).map (a :: ·)
  | _ => none
theorem strsD_rep {K : PySem.W.Frag} {G : Hp} : ∀ {l : List D} {vs : List V} {ys : List Str}, RepL K G l vs → strsD l = some ys → vs = ys.map V.str
  | _, _, ys, .nil, h => by cases h; rfl
  | _, _, ys, .cons (d := d) p r, h => by
    cases p with
    | str =>
      unfold strsD at h
      obtain ⟨zs, e, rfl⟩ := Option.map_eq_some_iff.mp h
      rw [strsD_rep r e]; rfl
    | _ => cases h
theorem strsD_map : ∀ ys : List Str, strsD (ys.map D.str) = some ys
  | [] => rfl
  | y :: r => by show (strsD (r.map D.str)).map (y :: ·) = _; rw [strsD_map r]; rfl
def joinD (M : Sto) (x : D) (ds : List D) (φ : PD) : Prop := match x, ds with
  | .str a, [d] => ∃ l ys, (lstOf M d = some l ∨ tupOf d = some l) ∧ strsD l = some ys ∧ (ys.map (·.length)).sum + ys.length * a.length ≤ 16777216 ∧ φ (.str (Txt.join a ys)) M
  | _, _ => False
theorem ok_join {K : PySem.W.Frag} : OkM K (fun x xs H Q => ∃ a p, ∃ ys : List Str, x = .str a ∧ xs = [.ref p] ∧ (SqL K H p (ys.map V.str) ∨ SqT K H p (ys.map V.str)) ∧ (ys.map (·.length)).sum + ys.length * a.length ≤ 16777216 ∧ Q (.str (Txt.join a ys)) H) joinD := fun M H G x v ds vs φ Q w r rs h k => by
  unfold joinD at h
  split at h
  · cases r
    cases rs with
    | cons r1 rs =>
      cases rs
      obtain ⟨l, ys, h1, h2, h3, h4⟩ := h
      rcases h1 with h1 | h1
      · obtain ⟨a, us, e0, e, r2⟩ := one_lst w (.cons r1 .nil) h1
        cases e0
        rw [strsD_rep r2 h2] at e
        exact ⟨_, a, ys, rfl, rfl, .inl e, h3, Post.id k w h4 .str⟩
      · obtain ⟨a, us, rfl, e, r2⟩ := tup_rep w r1 h1
        rw [strsD_rep r2 h2] at e
        exact ⟨_, a, ys, rfl, rfl, .inr e, h3, Post.id k w h4 .str⟩
  · exact h.elim
theorem de_join (ho : DE X B o fo) (he : DE X B e fa) (hs : starEach [e] X.env = [(false, eval e X.env)] := by rfl) (hbase : attributeBase o "join" X.env (eval o X.env) = eval o X.env := by rfl) (hline : (apos.endLine == pos.line) = true := by rfl) :
    DE X B (.Call (.Attribute o "join" apos) [e] [] pos) (fun r M Ψ => fo r M fun x M1 => isS x ∧ fa r M1 fun y M2 => joinD M2 x [y] Ψ) := de_sm1 PySem.F.slot_str_join PySem.F.type_str_join mt_join ok_join ho he hs hbase hline

end
end Z
namespace Z
open PySem PySem.Spec PyProof.Rows L2

section
variable {P : Program} {w : World} {K : PySem.W.Frag} {mg : Str → Option Value} {base : Heap} {x qual : Str} {st : Stmt} {f : Addr} {fd : FuncData} {N ps : List Str} {k : Nat} {dvs : List V} {kws : List (Str × V)}
abbrev FnZ (K : PySem.W.Frag) (x qual : Str) (st : Stmt) (dvs : List V) (kws : List (Str × V)) (f : Addr) (fd : FuncData) : Prop := FunD K x qual (defArgs st) (defBody st) (defScope st) dvs kws f fd
theorem fnD (F : FnZ K x qual st dvs kws f fd) (S : FnScope N ps (defScope st)) (c : Ct)
    (hb : ∀ (cdv : Value) (A : Around) (outer : List Env) (s : Shared) (H : Hp) (E : XK) (B : Bs) (Ξ : XD → Sto → Prop), Room k (A.deeper (envOfC qual (defScope st) s.heap.objs.size f cdv)) →
      Zx (cxOf (L2.CX P w) P w K mg base N qual (defScope st) f cdv A outer s H E) B (exF B.M Ξ) →
      ∃ t, DSs (cxOf (L2.CX P w) P w K mg base N qual (defScope st) f cdv A outer s H E) B (defBody st) t ∧
        ∀ (ds : List D) (Ψ : D → Sto → Prop), ds.length = ps.length → c ds B.M Ψ Ξ → t { nx := fun _ M' => rtF B.M Ψ .non M', rt := rtF B.M Ψ } (ent N.length ds) B.M) :
    FnOk P w K mg base (L2.CX P w) (k + 1) f fd ps (spC K ps.length c) := by
  refine F.ok S (fun vs H Q E h => h.1) fun cdv A outer s H vs Q E hr h => ?_
  obtain ⟨hl, ds, G, M, Ψ, Ξ, wd, r, hc, hQ, hE⟩ := h
  have tk0 : Takes (cxOf (L2.CX P w) P w K mg base N qual (defScope st) f cdv A outer s H E) (fun cls d _ H => E cls d H) := takes_of rfl rfl rfl rfl
  obtain ⟨t, ht, q⟩ := hb cdv A outer s H E ⟨H, G, M⟩ Ξ hr ⟨tk0.imp (exF_take (B := ⟨H, G, M⟩) hE), passes_of rfl⟩
  have end_ : ∀ (d : D) (r' : En) (M' : Sto) (v : V) (σ' : L2.St) (H' G' : Hp), rtF M Ψ d M' → Rel K ⟨H, G, M⟩ r' M' σ' H' G' → Rep K G' d v → Q v H' := fun d r' M' v σ' H' G' ⟨d', M'', fr, q⟩ R' p => by
    cases fr with
    | same => exact hQ _ _ _ _ _ q R'.wd R'.sin p
    | drop =>
      obtain ⟨w1, s1⟩ := frz_end R'.wd R'.sin
      exact hQ _ _ _ _ _ q w1 s1 (p.mono frzG_sub)
    | frz n =>
      obtain ⟨w1, s1⟩ := frz_end R'.wd R'.sin
      exact hQ _ _ _ _ _ q w1 s1 ((p.mono frzG_sub).sb (rep_frz R'.wd n))
  refine ⟨_, ht, ent N.length ds, M, G, _, rel_start wd r, q ds Ψ (r.length.trans hl) hc, ⟨fun r' M' σ' H' G' q' R' s' => ?_, fun d r' M' v σ' H' G' q' R' p => end_ d r' M' v σ' H' G' q' R' p, fun _ _ _ _ _ q' _ _ => q'.elim, fun _ _ _ _ _ q' _ _ => q'.elim⟩⟩
  exact end_ .non r' M' .non σ' H' G' q' R' .non
theorem fun_of (F : FnZ K x qual st [] kws f fd) : Fun K x qual st f fd := by
  obtain ⟨oc, od, dV, kV, doc, pm, an, cdv, ct, osl, rfl, lk, hcd, hD, _⟩ := F.ex
  rcases hD with ⟨_, rfl⟩ | ⟨e, _⟩
  · exact ⟨⟨oc, od, kV, doc, pm, an, cdv, ct, osl, rfl, lk, hcd⟩, F.kp⟩
  · exact absurd rfl e
inductive Src where
  | p (i : Nat) | k (i : Nat) | d (i : Nat)
def srcO {α : Type} (us its ws : List α) : Src → Option α
  | .p i => us[i]?
  | .k i => ws[i]?
  | .d i => its[i]?
def gS {α : Type} : List Src → List α → List α → List α → List α
  | [], _, _, _ => []
  | s :: ss, us, its, ws => match srcO us its ws s with
    | some a => a :: gS ss us its ws
    | none => gS ss us its ws
theorem get_vals {as : List V} {bs : List Value} (r : Vals as bs) (i : Nat) : (as[i]? = none ∧ bs[i]? = none) ∨ ∃ a b, as[i]? = some a ∧ bs[i]? = some b ∧ L2.RelV a b := by
  rcases Nat.lt_or_ge i as.length with h | h
  · obtain ⟨u, hu, ru⟩ := r.get (List.getElem?_eq_getElem h)
    exact .inr ⟨_, _, List.getElem?_eq_getElem h, hu, ru⟩
  · exact .inl ⟨List.getElem?_eq_none h, List.getElem?_eq_none (r.length ▸ h)⟩
theorem get_reps {G : Hp} {as : List D} {bs : List V} (r : RepL K G as bs) (i : Nat) : (as[i]? = none ∧ bs[i]? = none) ∨ ∃ a b, as[i]? = some a ∧ bs[i]? = some b ∧ Rep K G a b := by
  rcases Nat.lt_or_ge i as.length with h | h
  · obtain ⟨u, hu, ru⟩ := r.get (List.getElem?_eq_getElem h)
    exact .inr ⟨_, _, List.getElem?_eq_getElem h, hu, ru⟩
  · exact .inl ⟨List.getElem?_eq_none h, List.getElem?_eq_none (r.length ▸ h)⟩
theorem vals_gS {us its ws : List Value} {vs ds zs : List V} (r1 : Vals vs us) (r2 : Vals ds its) (r3 : Vals zs ws) : ∀ ss : List Src, Vals (gS ss vs ds zs) (gS ss us its ws)
  | [] => .nil
  | s :: ss => by
    have ih := vals_gS r1 r2 r3 ss
    have g : (srcO vs ds zs s = none ∧ srcO us its ws s = none) ∨ ∃ a b, srcO vs ds zs s = some a ∧ srcO us its ws s = some b ∧ L2.RelV a b := by
      cases s with
      | p i => exact get_vals r1 i
      | k i => exact get_vals r3 i
      | d i => exact get_vals r2 i
    rcases g with ⟨h1, h2⟩ | ⟨a, b, h1, h2, r⟩
    · simp only [gS, h1, h2]; exact ih
    · simp only [gS, h1, h2]; exact .cons r ih
theorem rep_gS {G : Hp} {us its ws : List V} {vs ds zs : List D} (r1 : RepL K G vs us) (r2 : RepL K G ds its) (r3 : RepL K G zs ws) : ∀ ss : List Src, RepL K G (gS ss vs ds zs) (gS ss us its ws)
  | [] => .nil
  | s :: ss => by
    have ih := rep_gS r1 r2 r3 ss
    have g : (srcO vs ds zs s = none ∧ srcO us its ws s = none) ∨ ∃ a b, srcO vs ds zs s = some a ∧ srcO us its ws s = some b ∧ Rep K G a b := by
      cases s with
      | p i => exact get_reps r1 i
      | k i => exact get_reps r3 i
      | d i => exact get_reps r2 i
    rcases g with ⟨h1, h2⟩ | ⟨a, b, h1, h2, r⟩
    · simp only [gS, h1, h2]; exact ih
    · simp only [gS, h1, h2]; exact .cons r ih
theorem bind0 (F : FnZ K x qual st [] kws f fd) (n : Nat) (hn : ps.length = n)
    (h : ∀ (kV doc pm : Value) (an : Option Addr) (cdv ct : Value) (us : List Value), us.length = n → bindArgs (PySem.W.fnOf x qual (defArgs st) (defBody st) (defScope st) .none kV doc pm an cdv ct) ⟨us, []⟩ = pure (ps.zip us)) : BindD K fd ps (Z.pos n) := by
  obtain ⟨oc, od, dV, kV, doc, pm, an, cdv, ct, osl, rfl, lk, hcd, hD, _⟩ := F.ex
  rcases hD with ⟨_, rfl⟩ | ⟨e, _⟩
  · exact ⟨fun ds zs h _ => h.trans hn.symm, fun us _ => us, fun vs _ => vs, ⟨fun s us ws _ h1 h2 => .of_eq (by
      have e : ws = [] := List.length_eq_zero_iff.mp h2
      rw [e]; exact h kV doc pm an cdv ct us h1), fun r _ => r⟩, fun G ds vs zs us r _ => r⟩
  · exact absurd rfl e
theorem bindk0 (F : FnZ K x qual st [] kws f fd) (n : Nat) (ks : List Str) (ss : List Src) (md : List D) (ms : List (Str × V)) (hmd : ∀ G, RepL K G md (ms.map (·.2))) (hk : kws ≠ []) (hms : ∀ q ∈ ms, q ∈ kws)
    (hl : ∀ {α : Type} (us its ws : List α), us.length = n → its.length = md.length → ws.length = ks.length → (gS ss us its ws).length = ps.length)
    (h : ∀ (D' : Addr) (doc pm : Value) (an : Option Addr) (cdv ct : Value) (us mv ws : List Value), us.length = n → mv.length = md.length → ws.length = ks.length →
      KwChain D' ((ms.map (·.1)).zip mv) (bindArgs (PySem.W.fnOf x qual (defArgs st) (defBody st) (defScope st) .none (.ref D') doc pm an cdv ct) ⟨us, ks.zip ws⟩) (ps.zip (gS ss us mv ws))) :
    BindD K fd ps (n, ks, fun ds dz => gS ss ds md dz) := by
  have l2 : md.length = ms.length := by rw [(hmd (fun _ => none)).length, List.length_map]
  obtain ⟨mv, kb⟩ := FunD.kbinds0 (ps := ps) F n ks ms (fun us mv ws => gS ss us mv ws) hk hms (fun r1 r3 r4 => vals_gS r1 r3 r4 ss) (fun D' doc pm an cdv ct us mv ws h1 h3 h4 => h D' doc pm an cdv ct us mv ws h1 (h3.trans l2.symm) h4)
  exact ⟨fun ds zs h1 h2 => hl ds md zs h1 rfl h2, _, _, kb, fun G ds vs zs us r1 r2 => rep_gS r1 (hmd G) r2 ss⟩
theorem all_nil {α : Type} {p : α → Prop} : ∀ b ∈ ([] : List α), p b := fun _ h => by cases h
theorem all_cons {α : Type} {p : α → Prop} {a : α} {l : List α} (h : p a) (r : ∀ b ∈ l, p b) : ∀ b ∈ a :: l, p b := fun b hb => by
  rcases List.mem_cons.mp hb with e | e
  · rw [e]; exact h
  · exact r b e
end

abbrev FF := PySem.W.Frag → Bool
def gaM (x m : Str) (K : PySem.W.Frag) : Addr := He.ma K (He.ga K x) m
def recA (T : String) (p : Addr) (K : PySem.W.Frag) : Addr := match PySem.W.recIn K p T with
  | some (.ref g :: _) => g
  | _ => 0
inductive At where
  | g (x : Str)
  | mt (x m : Str)
  | pr (x m : Str)
  | sm (x m : Str)
  | cm (x m : Str)
def At.ad (K : PySem.W.Frag) : At → Addr
  | .g x => He.ga K x
  | .mt x m => gaM x m K
  | .pr x m => recA "property" (gaM x m K) K
  | .sm x m => recA "staticmethod" (gaM x m K) K
  | .cm x m => recA "classmethod" (gaM x m K) K
def fnA (K : PySem.W.Frag) (a : Addr) : He.FnW := match K.lookup a with
  | some ⟨_, _, .func fd, _⟩ => some (fd.name, fd.qualname, fd.params, fd.body, fd.scope, fd.globals, fd.closure, fd.builtins)
  | _ => none
structure DefZ where
  at_ : At
  name : Str
  qual : Str
  st : Stmt
  dfl : List He.Dv := []
  kdf : List (Str × He.Dv) := []
def DefZ.val (d : DefZ) : He.FnW := some (d.name, d.qual, defArgs d.st, .stmts (defBody d.st), defScope d.st, mainGlobals, [], builtinsNs)
def DefZ.dvs (K : PySem.W.Frag) (d : DefZ) : List V := d.dfl.map (He.Dv.v K)
def DefZ.kws (K : PySem.W.Frag) (d : DefZ) : List (Str × V) := d.kdf.map fun q => (q.1, q.2.v K)
def DefZ.ok (K : PySem.W.Frag) (d : DefZ) : Bool := PySem.W.keepIn K (.ref (d.at_.ad K)) && (match K.lookup (d.at_.ad K) with
  | some ⟨_, _, .func fd, _⟩ => PySem.W.codeIn K fd.code d.qual && (He.dflB K fd.defaults (d.dvs K) && He.kwdB K fd.kwdefaults (d.kws K))
  | _ => false)
theorem DefZ.funD {K : PySem.W.Frag} {d : DefZ} (e : fnA K (d.at_.ad K) = d.val) (c : d.ok K = true) : ∃ fd, FnZ K d.name d.qual d.st (d.dvs K) (d.kws K) (d.at_.ad K) fd := by
  obtain ⟨kp, c2⟩ := He.ba c
  unfold fnA at e
  cases q : K.lookup (d.at_.ad K) with
  | none =>
    rw [q] at c2
    cases c2
  | some o =>
    obtain ⟨oc, od, dt, osl⟩ := o
    rw [q] at c2 e
    cases dt with
    | func fd =>
      obtain ⟨n1, n2, n3, n4, n5, n6, n7, n8, n9, n10, n11, n12, n13, n14, n15⟩ := fd
      have e2 : (some (n1, n2, n3, n4, n5, n6, n7, n15) : He.FnW) = some (d.name, d.qual, defArgs d.st, .stmts (defBody d.st), defScope d.st, mainGlobals, [], builtinsNs) := e
      simp only [Option.some.injEq, Prod.mk.injEq] at e2
      obtain ⟨h1, h2, h3, h4, h5, h6, h7, h8⟩ := e2
      subst h1 h2 h3 h4 h5 h6 h7 h8
      have c3 : (PySem.W.codeIn K n13 d.qual && (He.dflB K n8 (d.dvs K) && He.kwdB K n9 (d.kws K))) = true := c2
      obtain ⟨k1, k2⟩ := He.ba c3
      obtain ⟨k2, k3⟩ := He.ba k2
      exact ⟨_, ⟨oc, od, n8, n9, n10, n11, n12, n13, n14, osl, rfl, q, k1, He.dflB_ok k2, He.kwdB_ok k3⟩, kp⟩
    | _ => cases c2
def obsZ (fa : List FF) (fn : List DefZ) (K : PySem.W.Frag) : He.AlD := ((fa.all fun f => f K) && fn.all fun d => d.ok K, fn.map fun d => fnA K (d.at_.ad K))
def valZ (fn : List DefZ) : He.AlD := (true, fn.map DefZ.val)
def SaysZ (fa : List FF) (fn : List DefZ) (K : PySem.W.Frag) : Prop := obsZ fa fn K = valZ fn
section
variable {fa : List FF} {fn : List DefZ} {K : PySem.W.Frag}
theorem SaysZ.fact (c : SaysZ fa fn K) (i : Nat) {f : FF} (h : fa[i]? = some f := by rfl) : f K = true := by
  have c1 := (He.ba (show ((fa.all fun f => f K) && fn.all fun d => d.ok K) = true from congrArg (fun z : He.AlD => z.1) c)).1
  exact List.all_eq_true.mp c1 f (List.mem_of_getElem? h)
theorem SaysZ.def_ (c : SaysZ fa fn K) (i : Nat) {d : DefZ} (h : fn[i]? = some d := by rfl) : ∃ fd, FnZ K d.name d.qual d.st (d.dvs K) (d.kws K) (d.at_.ad K) fd := by
  have c2 := (He.ba (show ((fa.all fun f => f K) && fn.all fun d => d.ok K) = true from congrArg (fun z : He.AlD => z.1) c)).2
  have e : fn.map (fun d => fnA K (d.at_.ad K)) = fn.map DefZ.val := congrArg (fun z : He.AlD => z.2) c
  have e2 : (fn.map fun d => fnA K (d.at_.ad K))[i]? = (fn.map DefZ.val)[i]? := by rw [e]
  rw [List.getElem?_map, List.getElem?_map, h] at e2
  exact DefZ.funD (Option.some.inj e2) (List.all_eq_true.mp c2 d (List.mem_of_getElem? h))
end
def isF (f : He.Fa) : FF := fun K => f.ok K
end Z
namespace Z
open PySem PySem.Spec PyProof.Rows L2
def excBx (x : Str) (bmB : List Value) (newId : String) : FF := fun K => (match K.lookup (He.ga K x) with
  | some ⟨.type t, _, .cls cd, sl⟩ => decide (t = "type") && ((match cd.mro, sl.toList with
    | .ref C :: bm, [_, _, _, _, some (.builtin n), _] => decide (C = He.ga K x) && (decide (n = newId) && (PySem.W.excTail bmB bm && (cd.hasDict && !cd.hasDel)))
    | _, _ => false))
  | _ => false) && PySem.W.excOver K (He.ga K x) bmB
theorem excBx_ok {x : Str} {K : PySem.W.Frag} {bmB : List Value} {newId : String} (c : excBx x bmB newId K = true) : PySem.W.excOver K (He.ga K x) bmB = true ∧
    ∃ nm q N bs bm sn sub ab col dd k0 k1 k2 k3 k5, K.lookup (He.ga K x) = some (excClassObj nm q (He.ga K x) N bs bm true sn sub ab col dd k0 k1 k2 k3 k5 newId) ∧ ∀ Y : String, bm.contains (.type Y) = bmB.contains (.type Y) := by
  obtain ⟨c0, c1⟩ := He.ba c
  refine ⟨c1, ?_⟩
  split at c0
  · rename_i t dd cd sl e
    obtain ⟨h1, h2⟩ := He.ba c0
    split at h2
    · rename_i C bm k0 k1 k2 k3 n k5 em es
      obtain ⟨h3, h4⟩ := He.ba h2
      obtain ⟨h5, h6⟩ := He.ba h4
      obtain ⟨h7, h8⟩ := He.ba h6
      obtain ⟨h9, h10⟩ := He.ba h8
      obtain ⟨nm, bs, mro, N, q, hd, sn, sub, ab, col, del⟩ := cd
      have e1 := of_decide_eq_true h1
      have e3 := of_decide_eq_true h3
      have e5 := of_decide_eq_true h5
      obtain ⟨sl⟩ := sl
      simp only at em es h9 h10
      subst em es e1 e5 h9
      have e10 : del = false := by cases del <;> simp_all
      subst e10
      refine ⟨nm, q, N, bs, bm, sn, sub, ab, col, dd, k0, k1, k2, k3, k5, ?_, fun Y => PySem.W.excTail_contains Y _ h7⟩
      rw [e, e3]
    · cases h2
  · cases c0
def veT : List Value := [.type "ValueError", .type "Exception", .type "BaseException", .type "object"]
def leT : List Value := [.type "LookupError", .type "Exception", .type "BaseException", .type "object"]
def ieT : List Value := [.type "IndexError", .type "LookupError", .type "Exception", .type "BaseException", .type "object"]
def excF (x : Str) : FF := fun K => (excBx x veT "ValueError.__new__" K || (excBx x leT "LookupError.__new__" K || excBx x ieT "IndexError.__new__" K)) && (He.eqO (PySem.W.findIn K (.ref (He.ga K x)) "__setattr__") (some (some (.builtin "object.__setattr__"))) && (decide (PySem.W.subIn K (.ref (He.ga K x)) (.type "BaseException") = some true) &&
    (decide (PySem.W.typeIn K (.ref (He.ga K x)) = some (.type "type")) && PySem.W.keepIn K (.ref (He.ga K x)))))
theorem excF_ok {x : Str} {K : PySem.W.Frag} (c : excF x K = true) : OexG K (He.ga K x) := by
  obtain ⟨c0, c⟩ := He.ba c
  obtain ⟨c1, c⟩ := He.ba c
  obtain ⟨c2, c⟩ := He.ba c
  obtain ⟨c3, c4⟩ := He.ba c
  refine ⟨?_, He.eqO_ok c1, of_decide_eq_true c2, of_decide_eq_true c3, c4⟩
  rcases Bool.or_eq_true_iff.mp c0 with h | h
  · obtain ⟨a, b⟩ := excBx_ok h
    exact ⟨_, _, _, _, PySem.F.excBase_ValueError, PySem.F.store_ValueError, a, b⟩
  rcases Bool.or_eq_true_iff.mp h with h | h
  · obtain ⟨a, b⟩ := excBx_ok h
    exact ⟨_, _, _, _, PySem.F.excBase_LookupError, PySem.F.store_LookupError, a, b⟩
  · obtain ⟨a, b⟩ := excBx_ok h
    exact ⟨_, _, _, _, PySem.F.excBase_IndexError, PySem.F.store_IndexError, a, b⟩
theorem methF_ok {x m : Str} {K : PySem.W.Frag} (c : isF (.meth x m) K = true) : Meth K (He.ga K x) m ((At.mt x m).ad K) := He.meth_ok c
theorem mkrF_ok {x : Str} {K : PySem.W.Frag} (c : isF (.mkr x) K = true) : Mk K (He.ga K x) ((At.mt x "__init__").ad K) := He.mkr_ok c
def tupF (x : Str) (vs : List He.Dv) : FF := fun K => (He.Fa.glo x).ok K && He.tupB K x vs
inductive Fl : D → He.Dv → Prop
  | non : Fl .non .non
  | bl {b} : Fl (.bl b) (.bl b)
  | int {i} : Fl (.int i) (.int i)
  | str {x} : Fl (.str x) (.str x)
theorem Fl.rep {K : PySem.W.Frag} {G : Hp} {d : D} {v : He.Dv} (h : Fl d v) : Rep K G d (v.v K) := by
  cases h with
  | non => exact .non
  | bl => exact .bl
  | int => exact .int
  | str => exact .str
inductive FlL : List D → List He.Dv → Prop
  | nil : FlL [] []
  | cons {d v ds vs} : Fl d v → FlL ds vs → FlL (d :: ds) (v :: vs)
theorem FlL.rep {K : PySem.W.Frag} {G : Hp} : ∀ {ds : List D} {vs : List He.Dv}, FlL ds vs → RepL K G ds (vs.map (He.Dv.v K))
  | _, _, .nil => .nil
  | _, _, .cons h r => .cons h.rep r.rep
section
variable {K : PySem.W.Frag} {h : Heap} {mg : Str → Option Value}
structure TupG (K : PySem.W.Frag) (mg : Str → Option Value) (x : Str) (ds : List D) : Prop where
  ex : ∃ a, mg x = some (.ref a) ∧ ∀ G, Rep K G (.tup ds) (.ref a)
theorem tupF_ok (X : K.In h) (G : h.Ns mainGlobals mg) {x : Str} {vs : List He.Dv} {ds : List D} (c : tupF x vs K = true) (f : FlL ds vs) : TupG K mg x ds :=
  ⟨_, He.glo_ok X G (He.ba c).1, fun H => .tup (He.tupB_ok (He.ba c).2 H) f.rep⟩
end
section
variable {X : Cx} {B : Bs} {pos : Pos}
theorem de_gtup {x : Str} {ds : List D} (T : TupG X.K X.mg x ds) (hg : Gl X x := by rfl) (hd : (x == ("__debug__" : Str)) = false := by decide) : DE X B (.Name x pos) (fun _ M Ψ => Ψ (.tup ds) M) := by
  obtain ⟨a, h1, h2⟩ := T.ex
  exact de_glob h1 (v := .ref a) rfl h2 hg hd
theorem de_gint {x : Str} {i : Int} (h : ∃ t, X.mg x = some (.int i t)) (hg : Gl X x := by rfl) (hd : (x == ("__debug__" : Str)) = false := by decide) : DE X B (.Name x pos) (fun _ M Ψ => Ψ (.int i) M) := by
  obtain ⟨t, h⟩ := h
  exact de_glob h (v := .int i) ⟨t, rfl⟩ (fun _ => .int) hg hd
end
def scr (ns : List Int) : D := .lk (ns.map .int)
theorem repL_scr {K : PySem.W.Frag} {G : Hp} : ∀ ns : List Int, RepL K G (ns.map D.int) (ns.map V.int)
  | [] => .nil
  | _ :: r => .cons .int (repL_scr r)
end Z
namespace Z
open PySem PySem.Spec PyProof.Rows L2
theorem bt_abs : bootBuiltins "abs" = some (.builtin "abs") := by decide +kernel
theorem bt_all : bootBuiltins "all" = some (.builtin "all") := by decide +kernel
theorem bt_int : bootBuiltins "int" = some (.type "int") := by decide +kernel
theorem bt_list : bootBuiltins "list" = some (.type "list") := by decide +kernel
theorem bt_max : bootBuiltins "max" = some (.builtin "max") := by decide +kernel
theorem bt_tuple : bootBuiltins "tuple" = some (.type "tuple") := by decide +kernel
section
variable {X : Cx} {B : Bs} {pos p : Pos} {a b : Expr} {ga : DTA}
theorem de_abs1 (hm : X.mg "abs" = none) (ha : DA X B [a] ga) (hg : Gl X "abs" := by rfl) (he : starEach [a] X.env = (false, eval a X.env) :: starEach [] X.env := by rfl) : DE X B (.Call (.Name "abs" p) [a] [] pos) (fun r M Ψ => ga r M fun ds M1 => absD M1 ds Ψ) :=
  de_callB call_abs ok_abs hm bt_abs ha hg (by decide) (by decide) he rfl
theorem de_int1 (hm : X.mg "int" = none) (ha : DA X B [a] ga) (hg : Gl X "int" := by rfl) (he : starEach [a] X.env = (false, eval a X.env) :: starEach [] X.env := by rfl) : DE X B (.Call (.Name "int" p) [a] [] pos) (fun r M Ψ => ga r M fun ds M1 => intD M1 ds Ψ) :=
  de_callT call_int1 ok_int1 hm bt_int ha hg (by decide) (by decide) he rfl
theorem de_all1 (hc : X.calm = true) (hm : X.mg "all" = none) (ha : DA X B [a] ga) (hg : Gl X "all" := by rfl) (he : starEach [a] X.env = (false, eval a X.env) :: starEach [] X.env := by rfl) : DE X B (.Call (.Name "all" p) [a] [] pos) (fun r M Ψ => ga r M fun ds M1 => allD M1 ds Ψ) :=
  de_callB (cr_all hc) ok_all hm bt_all ha hg (by decide) (by decide) he rfl
theorem de_list1 (hm : X.mg "list" = none) (ha : DA X B [a] ga) (hg : Gl X "list" := by rfl) (he : starEach [a] X.env = (false, eval a X.env) :: starEach [] X.env := by rfl) : DE X B (.Call (.Name "list" p) [a] [] pos) (fun r M Ψ => ga r M fun ds M1 => listD M1 ds Ψ) :=
  de_callT call_list_of ok_list1 hm bt_list ha hg (by decide) (by decide) he rfl
theorem de_tuple1 (hm : X.mg "tuple" = none) (ha : DA X B [a] ga) (hg : Gl X "tuple" := by rfl) (he : starEach [a] X.env = (false, eval a X.env) :: starEach [] X.env := by rfl) : DE X B (.Call (.Name "tuple" p) [a] [] pos) (fun r M Ψ => ga r M fun ds M1 => tupleD M1 ds Ψ) :=
  de_callT call_tuple_of ok_tuple1 hm bt_tuple ha hg (by decide) (by decide) he rfl
end
theorem zx_blk {X : Cx} {B : Bs} {s : Shared} {H : Hp} {scope : Scope} {ce : Env} {fp : List Addr} : Zx (X.blk s H scope ce fp) B (fun _ _ _ => False) := ⟨takes0.imp fun _ _ _ _ ⟨_, _, _, _, z, _⟩ => z.elim, PassesOwn.never⟩
end Z
namespace Z
open PySem PySem.Spec PyProof.Rows L2
section
variable {X : Cx} {B : Bs} {pos p : Pos} {a b : Expr} {ga : DTA} {C : Addr}
end
section
variable {P : Program} {w : World} {K : PySem.W.Frag} {mg : Str → Option Value} {base : Heap} {h : Heap} {x m : Str} {k : Nat} {c : Ct} {ps : List Str} {fd : FuncData} {bs : List (Nat × List Str × (List D → List D → List D))} {qual nm : Str} {st : Stmt} {dvs : List V} {kws : List (Str × V)}
theorem gf_mk (hg : mg x = some (.ref ((At.g x).ad K))) (F : FnZ K nm qual st dvs kws ((At.g x).ad K) fd) (ok : FnOk P w K mg base (L2.CX P w) k ((At.g x).ad K) fd ps (spC K ps.length c)) (hb : ∀ b ∈ bs, BindD K fd ps b) : Gf P w K mg base x k c bs := ⟨_, fd, ps, hg, F.kp, ok, hb⟩
theorem mf_mk (hm : Meth K (He.ga K x) m ((At.mt x m).ad K)) (ok : FnOk P w K mg base (L2.CX P w) k ((At.mt x m).ad K) fd ps (spC K ps.length c)) (hb : ∀ b ∈ bs, BindD K fd ps b) : Mf P w K mg base (He.ga K x) m k c bs := ⟨_, fd, ps, hm, ok, hb⟩
theorem cf_mk (hg : mg x = some (.ref (He.ga K x))) (hm : Mk K (He.ga K x) ((At.mt x "__init__").ad K)) (ok : FnOk P w K mg base (L2.CX P w) k ((At.mt x "__init__").ad K) fd ps (spC K ps.length c)) (hb : ∀ b ∈ bs, BindD K fd ps b) : Cf P w K mg base x (He.ga K x) k c bs := ⟨hg, _, fd, ps, hm, ok, hb⟩
end
end Z
namespace Z
open PySem PySem.Spec PyProof.Rows L2
section
variable {X : Cx} {B : Bs} {Ξ : XD → En → Sto → Prop} {k j n : Nat} {c : Ct} {pos : Pos} {a b : Expr} {fa fb : DTE} {C : Addr} {bs : List (Nat × List Str × (List D → List D → List D))}
end
section
variable {vs : List Nat} {as : D → En → (En → Prop) → Prop} {tt : DTT} {fe : DTE} {r : En} {M : Sto} {Φ : List D → Sto → Prop} {xs : List D} {S : Sto → Prop}
abbrev CompB (vs : List Nat) (as : D → En → (En → Prop) → Prop) (tt : DTT) (fe : DTE) (r : En) (M : Sto) (xs : List D) (S : Sto → Prop) (Φ : List D → Sto → Prop) : Prop := ∃ Iv : Nat → List D → Sto → Prop, Iv 0 [] M ∧ (∀ i acc M, Iv i acc M → S M) ∧
  (∀ i d acc M, xs[i]? = some d → Iv i acc M → as d (wipeD r vs) fun r2 => tt r2 M fun b M3 => if b = true then fe r2 M3 fun y M4 => acc.length < sizeLine ∧ Iv (i + 1) (acc ++ [y]) M4 else Iv (i + 1) acc M3) ∧ ∀ acc M, Iv xs.length acc M → Φ acc M
theorem comp_fm (keep : D → Bool) (g : D → D) (hS : S M) (hl : xs.length ≤ sizeLine) (he : ∀ d ∈ xs, ∀ (Q : D → Sto → Prop) (R : Sto → Prop), (if keep d = true then Q (g d) M else R M) → as d (wipeD r vs) fun r2 => tt r2 M fun b M3 => if b = true then fe r2 M3 Q else R M3)
    (fin : Φ ((xs.filter keep).map g) M) : CompB vs as tt fe r M xs S Φ := by
  refine ⟨fun i acc M' => M' = M ∧ acc = ((xs.take i).filter keep).map g, ⟨rfl, rfl⟩, fun i acc M' h => h.1 ▸ hS, fun i d acc M' hd h => ?_, fun acc M' h => ?_⟩
  · obtain ⟨rfl, rfl⟩ := h
    have hi : i < xs.length := (List.getElem?_eq_some_iff.mp hd).1
    have ed : xs[i] = d := (List.getElem?_eq_some_iff.mp hd).2
    have et : xs.take (i + 1) = xs.take i ++ [d] := by rw [List.take_succ, hd]; rfl
    refine he d (ed ▸ List.getElem_mem hi) _ _ ?_
    cases q : keep d with
    | true =>
      rw [if_pos rfl]
      refine ⟨?_, rfl, ?_⟩
      · rw [List.length_map]
        have := List.length_filter_le keep (xs.take i)
        rw [List.length_take] at this
        omega
      · rw [et, List.filter_append, List.map_append, List.filter_cons, if_pos q]; rfl
    | false =>
      rw [if_neg (by simp)]
      refine ⟨rfl, ?_⟩
      rw [et, List.filter_append, List.map_append, List.filter_cons, if_neg (by rw [q]; simp)]
      simp
  · obtain ⟨rfl, rfl⟩ := h
    rw [List.take_length]
    exact fin
theorem comp_map (g : D → D) (hS : S M) (hl : xs.length ≤ sizeLine) (he : ∀ d ∈ xs, ∀ (Q : D → Sto → Prop), Q (g d) M → as d (wipeD r vs) fun r2 => fe r2 M Q) (fin : Φ (xs.map g) M) : CompB vs as (fun _ M Ψ => Ψ true M) fe r M xs S Φ := by
  refine comp_fm (fun _ => true) g hS hl (fun d hd Q R q => ?_) ?_
  · rw [if_pos rfl] at q
    have h := he d hd Q q
    have e : (fun r2 => fe r2 M Q) = (fun r2 => (fun _ M Ψ => Ψ true M : DTT) r2 M fun b M3 => if b = true then fe r2 M3 Q else R M3) := by
      funext r2
      show _ = (if true = true then fe r2 M Q else R M)
      rw [if_pos rfl]
    rw [e] at h
    exact h
  · rw [List.filter_eq_self.mpr (fun _ _ => rfl)]; exact fin
theorem comp_st (I : Sto → Prop) (Pg : D → D → Prop) (h0 : I M) (hS : ∀ M', I M' → S M') (hl : xs.length ≤ sizeLine) (he : ∀ d ∈ xs, ∀ M', I M' → ∀ (Q : D → Sto → Prop), (∀ y M4, I M4 → Pg d y → Q y M4) → as d (wipeD r vs) fun r2 => fe r2 M' Q)
    (fin : ∀ acc M', I M' → acc.length = xs.length → (∀ (i : Nat) d y, xs[i]? = some d → acc[i]? = some y → Pg d y) → Φ acc M') : CompB vs as (fun _ M Ψ => Ψ true M) fe r M xs S Φ := by
  refine ⟨fun i acc M' => I M' ∧ acc.length = i ∧ ∀ (j : Nat) d y, xs[j]? = some d → acc[j]? = some y → Pg d y, ⟨h0, rfl, fun j d y _ h => by simp at h⟩, fun i acc M' h => hS _ h.1, fun i d acc M' hd h => ?_, fun acc M' h => fin acc M' h.1 h.2.1 h.2.2⟩
  obtain ⟨h1, h2, h3⟩ := h
  have hi : i < xs.length := (List.getElem?_eq_some_iff.mp hd).1
  have ed : xs[i] = d := (List.getElem?_eq_some_iff.mp hd).2
  have h := he d (ed ▸ List.getElem_mem hi) M' h1 (fun y M4 => acc.length < sizeLine ∧ I M4 ∧ (acc ++ [y]).length = i + 1 ∧ ∀ (j : Nat) d y', xs[j]? = some d → (acc ++ [y])[j]? = some y' → Pg d y') (fun y M4 a b => ⟨by omega, a, by rw [List.length_append, h2]; rfl, fun j d' y' e1 e2 => by
    rcases Nat.lt_or_ge j acc.length with hj | hj
    · rw [List.getElem?_append_left hj] at e2; exact h3 j d' y' e1 e2
    · rw [List.getElem?_append_right hj] at e2
      have hj2 : j = i := by
        have := (List.getElem?_eq_some_iff.mp e2).1
        simp at this; omega
      subst hj2
      rw [h2, Nat.sub_self] at e2
      cases e2
      rw [hd] at e1; cases e1
      exact b⟩)
  have e : (fun r2 => fe r2 M' (fun y M4 => acc.length < sizeLine ∧ I M4 ∧ (acc ++ [y]).length = i + 1 ∧ ∀ (j : Nat) d y', xs[j]? = some d → (acc ++ [y])[j]? = some y' → Pg d y')) = (fun r2 => (fun _ M Ψ => Ψ true M : DTT) r2 M' fun b M3 => if b = true then fe r2 M3 (fun y M4 => acc.length < sizeLine ∧ I M4 ∧ (acc ++ [y]).length = i + 1 ∧ ∀ (j : Nat) d y', xs[j]? = some d → (acc ++ [y])[j]? = some y' → Pg d y') else (I M3 ∧ acc.length = i + 1 ∧ ∀ (j : Nat) d y, xs[j]? = some d → acc[j]? = some y → Pg d y)) := by
    funext r2
    show _ = (if true = true then _ else _)
    rw [if_pos rfl]
  rw [e] at h
  exact h
end
theorem for_n {M0 : Sto} {xs : List D} {S : Sto → Prop} {r : En} {M : Sto} {g : DTG} {f : DTS} {E : Ek} (Iv : Nat → En → Sto → Prop) (h0 : Iv 0 r M) (hS : ∀ i r M, Iv i r M → S M)
    (turn : ∀ i d r M, xs[i]? = some d → Iv i r M → g d r M fun r' M' => f { E with nx := Cl M0 (Iv (i + 1)), ct := Cl M0 (Iv (i + 1)), bk := E.nx } r' M') (fin : ∀ r M, Iv xs.length r M → E.nx r M) :
    ∃ Iv : Nat → En → Sto → Prop, Cl M0 (Iv 0) r M ∧ (∀ i r M, Iv i r M → S M) ∧ (∀ i d r M, xs[i]? = some d → Iv i r M → g d r M fun r' M' => f { E with nx := Cl M0 (Iv (i + 1)), ct := Cl M0 (Iv (i + 1)), bk := E.nx } r' M') ∧ ∀ r M, Iv xs.length r M → E.nx r M := ⟨Iv, .of h0, hS, turn, fin⟩
section
variable {vs : List Nat} {wi : DTI} {as : D → En → (En → Prop) → Prop} {tt : DTT} {fe : DTE} {r : En} {M : Sto} {Φ : List D → Sto → Prop}
theorem compD_of (Pw : List D → (Sto → Prop) → Sto → Prop) (hw : ∀ K : List D → (Sto → Prop) → Sto → Prop, (∀ xs S M1, Pw xs S M1 → K xs S M1) → wi r M K) (h : ∀ xs S M1, Pw xs S M1 → CompB vs as tt fe r M1 xs S Φ) : compD vs wi as tt fe r M Φ := by unfold compD; exact hw _ h
theorem compD_map {xs : List D} {S : Sto → Prop} (hw : ∀ K : List D → (Sto → Prop) → Sto → Prop, K xs S M → wi r M K) (g : D → D) (hS : S M) (hl : xs.length ≤ sizeLine) (he : ∀ d ∈ xs, ∀ (Q : D → Sto → Prop), Q (g d) M → as d (wipeD r vs) fun r2 => fe r2 M Q) (fin : Φ (xs.map g) M) :
    compD vs wi as (fun _ M Ψ => Ψ true M) fe r M Φ := by unfold compD; exact hw _ (comp_map g hS hl he fin)
theorem compD_fm {xs : List D} {S : Sto → Prop} (hw : ∀ K : List D → (Sto → Prop) → Sto → Prop, K xs S M → wi r M K) (keep : D → Bool) (g : D → D) (hS : S M) (hl : xs.length ≤ sizeLine)
    (he : ∀ d ∈ xs, ∀ (Q : D → Sto → Prop) (R : Sto → Prop), (if keep d = true then Q (g d) M else R M) → as d (wipeD r vs) fun r2 => tt r2 M fun b M3 => if b = true then fe r2 M3 Q else R M3)
    (fin : Φ ((xs.filter keep).map g) M) : compD vs wi as tt fe r M Φ := by unfold compD; exact hw _ (comp_fm keep g hS hl he fin)
end
section
variable {M0 : Sto} {wi : DTI} {g : DTG} {f : DTS} {E : Ek} {r : En} {M : Sto}
theorem forD_n {xs : List D} {S : Sto → Prop} (hw : ∀ K : List D → (Sto → Prop) → Sto → Prop, K xs S M → wi r M K) (Iv : Nat → En → Sto → Prop) (h0 : Iv 0 r M) (hS : ∀ i r M, Iv i r M → S M)
    (turn : ∀ i d r M, xs[i]? = some d → Iv i r M → g d r M fun r' M' => f { E with nx := Cl M0 (Iv (i + 1)), ct := Cl M0 (Iv (i + 1)), bk := E.nx } r' M') (fin : ∀ r M, Iv xs.length r M → E.nx r M) : forD M0 wi g f E r M := by unfold forD; exact hw _ (for_n Iv h0 hS turn fin)
end
structure Hand where
  cs : List Int
  i : Int
  r : Int
  m : Int
def hd (h : Hand) : Cell := .lst [.lst (h.cs.map .int), .int h.i, .int h.r, .int h.m]
def HandAt (M : Sto) (p : Addr) : Prop := ∃ h, M p = some (hd h) ∧ h.cs.length ≤ 63 ∧ 0 ≤ h.i
def Dr (p : Addr) (M M' : Sto) : Prop := HandAt M' p ∧ ∀ q, q ≠ p → M' q = M q
theorem Dr.refl {p : Addr} {M : Sto} (h : HandAt M p) : Dr p M M := ⟨h, fun _ _ => rfl⟩
theorem Dr.trans {p : Addr} {M M1 M2 : Sto} (a : Dr p M M1) (b : Dr p M1 M2) : Dr p M M2 := ⟨b.1, fun q h => (b.2 q h).trans (a.2 q h)⟩
end Z
namespace Z
open PySem PySem.Spec PyProof.Rows L2
theorem big_ok : (1000000 : Nat) ≤ sizeLine := by decide
theorem ite_t {c : Bool} {p q : Prop} (h : c = true) (x : p) : if c = true then p else q := by rw [if_pos h]; exact x
theorem ite_f {c : Bool} {p q : Prop} (h : c = false) (x : q) : if c = true then p else q := by rw [if_neg (by rw [h]; simp)]; exact x
theorem bl_t {f : Bool → Prop} {c : Bool} (h : c = true) (x : f true) : blD f (.bl c) := by rw [h]; unfold blD; exact x
theorem bl_f {f : Bool → Prop} {c : Bool} (h : c = false) (x : f false) : blD f (.bl c) := by rw [h]; unfold blD; exact x
theorem bl_c {f : Bool → Prop} {c : Bool} (h1 : c = true → f true) (h2 : c = false → f false) : blD f (.bl c) := by
  unfold blD
  cases c with
  | true => exact h1 rfl
  | false => exact h2 rfl
theorem ln {l : List D} {n : Nat} (h : l.length = n) (hn : n ≤ 1000000) : l.length ≤ sizeLine := h ▸ Nat.le_trans hn big_ok
theorem eqI {M : Sto} {i j : Int} {φ : D → Prop} (h : φ (.bl (decide (i = j)))) : eqD M (.int i) (.int j) φ := by unfold eqD; exact h
theorem ix_ref {M : Sto} {p : Addr} {i : Int} {l : List D} {φ : D → Prop} (e : M p = some (.lst l)) (h : optK (L2.atI l i) φ) : ixD M (.ref p) (.int i) φ := by
  unfold ixD
  simp only [lstOf, e]
  exact h
theorem set_ref {M : Sto} {p : Addr} {i : Int} {l : List D} {v : D} {j : Nat} {φ : Sto → Prop} (e : M p = some (.lst l)) (hj : L2.ixN l.length i = some j) (h : φ (updM M p (.lst (l.set j v)))) : setD (.ref p) i v M φ := by
  unfold setD
  simp only [e, hj, optK]
  exact h
theorem fld_hd {f : Str} {d : D} {fs : List (Str × D)} {φ : D → Prop} (h : φ d) : optK (((f, d) :: fs).lookup f) φ := optK_of List.lookup_cons_self h
theorem look_ne {f g : Str} {d : D} (h : (f == g) = false) : List.lookup f [(g, d)] = none := by
  rw [List.lookup_cons, h]; rfl
theorem lmem {α : Type} {xs : List α} {i : Nat} {d : α} (h : xs[i]? = some d) : d ∈ xs := by
  obtain ⟨h1, h2⟩ := List.getElem?_eq_some_iff.mp h
  exact h2 ▸ List.getElem_mem h1
theorem ty_int {M : Sto} {d : D} (h : tyN M d = some "int") : ∃ i, d = .int i := by
  unfold tyN at h
  split at h <;> first | exact ⟨_, rfl⟩ | (exfalso; revert h; decide) | (split at h <;> (exfalso; revert h; decide)) | cases h
theorem signs_mem {x : Str} {d : D} (h : d ∈ signs x) : ∃ c ∈ x.cps.toList, d = .str ⟨#[c]⟩ := by
  obtain ⟨c, hc, e⟩ := List.mem_map.mp h
  exact ⟨c, hc, e.symm⟩
theorem signs_get {x : Str} {i : Nat} {d : D} (h : (signs x)[i]? = some d) : ∃ c, x.cps.toList[i]? = some c ∧ d = .str ⟨#[c]⟩ := by
  unfold signs at h
  rw [List.getElem?_map] at h
  obtain ⟨c, hc, e⟩ := Option.map_eq_some_iff.mp h
  exact ⟨c, hc, e.symm⟩
theorem signs_len {x : Str} : (signs x).length = x.cps.size := by unfold signs; rw [List.length_map, Array.length_toList]
theorem mok_s {i j : Int} (h : j.natAbs < 2 ^ 40) : IntMulOk i j := IntMulOk.of_right (by
  have := PyProof.Rows.intBits_le h
  omega)
theorem mok_l {i j : Int} (h : i.natAbs < 2 ^ 40) : IntMulOk i j := IntMulOk.of_left (by
  have := PyProof.Rows.intBits_le h
  omega)
theorem rng_at {lo : Int} {n i : Nat} {d : D} (h : (rngD lo n)[i]? = some d) : i < n ∧ d = .int (lo + i) := by
  have hi : i < n := by
    have := (List.getElem?_eq_some_iff.mp h).1
    rw [rng_len] at this; exact this
  rw [rng_get hi] at h
  cases h
  exact ⟨hi, rfl⟩
theorem rng_mem {lo : Int} {n : Nat} {d : D} (h : d ∈ rngD lo n) : ∃ k : Nat, k < n ∧ d = .int (lo + k) := by
  obtain ⟨k, hk, e⟩ := List.mem_map.mp h
  exact ⟨k, List.mem_range.mp hk, e.symm⟩
abbrev T4 := Int × Int × Int × Int
def tL (t : T4) : List D := [.int t.1, .int t.2.1, .int t.2.2.1, .int t.2.2.2]
def tD (t : T4) : D := .tup (tL t)
def mul4 (s t : T4) : T4 := (s.1 * t.1 + s.2.1 * t.2.2.1, s.1 * t.2.1 + s.2.1 * t.2.2.2, s.2.2.1 * t.1 + s.2.2.2 * t.2.2.1, s.2.2.1 * t.2.1 + s.2.2.2 * t.2.2.2)
def det4 (t : T4) : Int := t.1 * t.2.2.2 - t.2.1 * t.2.2.1
def O4 : T4 := (1, 0, 0, 1)
def L4 : T4 := (1, 0, 1, 1)
def R4 : T4 := (1, 1, 0, 1)
theorem det_mul (s t : T4) : det4 (mul4 s t) = det4 s * det4 t := by unfold det4 mul4; simp only; grind
theorem mul_assoc4 (r s t : T4) : mul4 (mul4 r s) t = mul4 r (mul4 s t) := by
  unfold mul4
  simp only [Prod.mk.injEq]
  refine ⟨?_, ?_, ?_, ?_⟩ <;> grind
theorem one_mul4 (t : T4) : mul4 O4 t = t := by
  obtain ⟨a, b, c, d⟩ := t
  unfold mul4 O4
  simp
theorem mul_one4 (t : T4) : mul4 t O4 = t := by
  obtain ⟨a, b, c, d⟩ := t
  unfold mul4 O4
  simp
def Sm (n : Nat) (t : T4) : Prop := t.1.natAbs < 2 ^ n ∧ t.2.1.natAbs < 2 ^ n ∧ t.2.2.1.natAbs < 2 ^ n ∧ t.2.2.2.natAbs < 2 ^ n
theorem sm_add {i j : Int} {n : Nat} (h : i.natAbs < 2 ^ n) (h' : j.natAbs < 2 ^ n) : (i + j).natAbs < 2 ^ (n + 1) := by
  rw [Nat.pow_succ]; omega
theorem sm_mono {i : Int} {n m : Nat} (h : i.natAbs < 2 ^ n) (hm : n ≤ m) : i.natAbs < 2 ^ m := Nat.lt_of_lt_of_le h (Nat.pow_le_pow_right (by decide) hm)
theorem Sm.mono {n m : Nat} {t : T4} (h : Sm n t) (hm : n ≤ m) : Sm m t := ⟨sm_mono h.1 hm, sm_mono h.2.1 hm, sm_mono h.2.2.1 hm, sm_mono h.2.2.2 hm⟩
theorem Sm.mul {n m : Nat} {s t : T4} (h : Sm n s) (h' : Sm m t) : Sm (n + m + 1) (mul4 s t) := by
  obtain ⟨a1, a2, a3, a4⟩ := h
  obtain ⟨b1, b2, b3, b4⟩ := h'
  exact ⟨sm_add (wide_lt a1 b1) (wide_lt a2 b3), sm_add (wide_lt a1 b2) (wide_lt a2 b4), sm_add (wide_lt a3 b1) (wide_lt a4 b3), sm_add (wide_lt a3 b2) (wide_lt a4 b4)⟩
theorem sm_O : Sm 1 O4 := by unfold Sm O4; decide
theorem sm_L : Sm 1 L4 := by unfold Sm L4; decide
theorem sm_R : Sm 1 R4 := by unfold Sm R4; decide
def turnT (c : Nat) : T4 := if (⟨#[c]⟩ : Str) = ("R" : Str) then R4 else L4
theorem sm_turn (c : Nat) : Sm 1 (turnT c) := by unfold turnT; split; exact sm_R; exact sm_L
theorem det_turn (c : Nat) : det4 (turnT c) = 1 := by unfold turnT; split <;> decide
def wL (l : List Nat) : T4 := l.foldl (fun t c => mul4 t (turnT c)) O4
theorem wL_snoc (l : List Nat) (c : Nat) : wL (l ++ [c]) = mul4 (wL l) (turnT c) := by unfold wL; rw [List.foldl_append]; rfl
theorem wL_take {l : List Nat} {i : Nat} {c : Nat} (h : l[i]? = some c) : wL (l.take (i + 1)) = mul4 (wL (l.take i)) (turnT c) := by
  rw [List.take_succ, h]; exact wL_snoc _ _
theorem wL_from (l : List Nat) : ∀ t, l.foldl (fun t c => mul4 t (turnT c)) t = mul4 t (wL l) := by
  unfold wL
  induction l with
  | nil => intro t; exact (mul_one4 t).symm
  | cons c l ih =>
    intro t
    rw [List.foldl_cons, List.foldl_cons, ih, ih (mul4 O4 (turnT c)), one_mul4, mul_assoc4]
theorem wL_app (l l' : List Nat) : wL (l ++ l') = mul4 (wL l) (wL l') := by
  conv => lhs; unfold wL
  rw [List.foldl_append, wL_from]; rfl
theorem sm_fold (l : List Nat) : ∀ (t : T4) (n : Nat), Sm n t → Sm (n + 2 * l.length) (l.foldl (fun t c => mul4 t (turnT c)) t) := by
  induction l with
  | nil => intro t n h; exact h
  | cons c l ih =>
    intro t n h
    rw [List.foldl_cons]
    exact (ih _ _ (h.mul (sm_turn c))).mono (by rw [List.length_cons]; omega)
theorem sm_wL (l : List Nat) : Sm (2 * l.length + 1) (wL l) := (sm_fold l O4 1 sm_O).mono (by omega)
theorem det_fold (l : List Nat) : ∀ t : T4, det4 (l.foldl (fun t c => mul4 t (turnT c)) t) = det4 t := by
  induction l with
  | nil => intro t; rfl
  | cons c l ih => intro t; rw [List.foldl_cons, ih, det_mul, det_turn, Int.mul_one]
theorem det_wL (l : List Nat) : det4 (wL l) = 1 := (det_fold l O4).trans (by decide)
theorem eqS {M : Sto} {i j : Str} {φ : D → Prop} (h : φ (.bl (decide (i = j)))) : eqD M (.str i) (.str j) φ := by unfold eqD; exact h
theorem neI {M : Sto} {i j : Int} {φ : D → Prop} (h : φ (.bl (!decide (i = j)))) : neD M (.int i) (.int j) φ := by unfold neD; exact h
end Z
namespace Z
open PySem PySem.Spec PyProof.Rows L2
theorem fm0 {x m : Int} (h : 0 < m) : 0 ≤ x.fmod m := by
  rw [Int.fmod_eq_emod_of_nonneg x (Int.le_of_lt h)]
  exact Int.emod_nonneg x (by omega)
theorem fm1 {x m : Int} (h : 0 < m) : x.fmod m < m := by
  rw [Int.fmod_eq_emod_of_nonneg x (Int.le_of_lt h)]
  exact Int.emod_lt_of_pos x h
theorem fm_small {x m : Int} (h : 0 < m) (hm : m ≤ 2 ^ 39) : (x.fmod m).natAbs < 2 ^ 40 := by
  have h0 := fm0 (x := x) h
  have h1 := fm1 (x := x) h
  omega
theorem at_nat {α : Type} {xs : List α} {i : Int} {j : Nat} {d : α} (hi : i = (j : Int)) (h : xs[j]? = some d) : L2.atI xs i = some d := by
  subst hi
  have hj : j < xs.length := (List.getElem?_eq_some_iff.mp h).1
  unfold L2.atI L2.ixN
  rw [if_pos (by omega), if_pos (by omega)]
  simpa using h
theorem at_some {α : Type} {xs : List α} {i : Int} (h0 : 0 ≤ i) (h1 : i < xs.length) : ∃ d, L2.atI xs i = some d ∧ d ∈ xs := by
  obtain ⟨j, rfl⟩ := Int.eq_ofNat_of_zero_le h0
  have hj : j < xs.length := by omega
  exact ⟨xs[j], at_nat rfl (List.getElem?_eq_getElem hj), List.getElem_mem hj⟩
theorem cut_map {α β : Type} (f : α → β) (xs : List α) (lo hi : Option Int) : cutD (xs.map f) lo hi = (cutD xs lo hi).map f := by
  unfold cutD
  rw [List.length_map, List.map_take, List.map_drop]
theorem cut_len {α : Type} (xs : List α) (lo hi : Option Int) : (cutD xs lo hi).length ≤ xs.length := by
  unfold cutD
  rw [List.length_take, List.length_drop]
  omega
theorem dok_s {j : Int} (h : 0 < j) (h' : j < 2 ^ 40) : Dok j := dok_of (n := 40) (by omega) (by omega) (by decide)
def LR (w : List Nat) : Prop := ∀ c ∈ w, c = 76 ∨ c = 82
theorem lr_mem {c : Nat} : c ∈ ("LR" : Str).cps.toList ↔ c = 76 ∨ c = 82 := by
  have e : ("LR" : Str).cps.toList = [76, 82] := by decide +kernel
  rw [e]
  simp
theorem joinL_one : ∀ w : List Nat, TL.joinL [] (w.map fun c => [c]) = w
  | [] => rfl
  | [c] => rfl
  | c :: d :: w => by
    have ih := joinL_one (d :: w)
    show [c] ++ ([] ++ TL.joinL [] ((d :: w).map fun c => [c])) = _
    rw [ih]
    rfl
theorem join_chars (w : List Nat) : Txt.join Str.empty (w.map fun c => (⟨#[c]⟩ : Str)) = ⟨w.toArray⟩ := by
  have h := SX.join_S [] (w.map fun c => [c])
  rw [joinL_one, List.map_map] at h
  exact h
theorem chars_of {acc : List D} (h : ∀ y ∈ acc, ∃ c : Nat, (c = 76 ∨ c = 82) ∧ y = .str ⟨#[c]⟩) : ∃ w : List Nat, LR w ∧ acc = w.map (fun c => D.str ⟨#[c]⟩) := by
  induction acc with
  | nil => exact ⟨[], (fun c h => nomatch h), rfl⟩
  | cons y l ih =>
    obtain ⟨w, h1, h2⟩ := ih fun z hz => h z (List.mem_cons_of_mem _ hz)
    obtain ⟨c, hc, rfl⟩ := h y List.mem_cons_self
    refine ⟨c :: w, fun d hd => ?_, by rw [h2]; rfl⟩
    rcases List.mem_cons.mp hd with rfl | hd
    · exact hc
    · exact h1 d hd
theorem strsD_chars (w : List Nat) : strsD (w.map fun c => D.str ⟨#[c]⟩) = some (w.map fun c => (⟨#[c]⟩ : Str)) := by
  have := strsD_map (w.map fun c => (⟨#[c]⟩ : Str))
  rw [List.map_map] at this
  exact this
theorem chars_sum (w : List Nat) : ((w.map fun c => (⟨#[c]⟩ : Str)).map (·.length)).sum = w.length := by
  induction w with
  | nil => rfl
  | cons c w ih =>
    rw [List.map_cons, List.map_cons, List.sum_cons, ih, List.length_cons]
    show 1 + _ = _
    omega
def Nn (t : T4) : Prop := 0 ≤ t.1 ∧ 0 ≤ t.2.1 ∧ 0 ≤ t.2.2.1 ∧ 0 ≤ t.2.2.2
theorem Nn.mul {s t : T4} (a : Nn s) (b : Nn t) : Nn (mul4 s t) := by
  obtain ⟨a1, a2, a3, a4⟩ := a
  obtain ⟨b1, b2, b3, b4⟩ := b
  exact ⟨Int.add_nonneg (Int.mul_nonneg a1 b1) (Int.mul_nonneg a2 b3), Int.add_nonneg (Int.mul_nonneg a1 b2) (Int.mul_nonneg a2 b4), Int.add_nonneg (Int.mul_nonneg a3 b1) (Int.mul_nonneg a4 b3), Int.add_nonneg (Int.mul_nonneg a3 b2) (Int.mul_nonneg a4 b4)⟩
theorem nn_R : Nn R4 := ⟨by decide, by decide, by decide, by decide⟩
theorem nn_L : Nn L4 := ⟨by decide, by decide, by decide, by decide⟩
theorem nn_turn (c : Nat) : Nn (turnT c) := by
  unfold turnT
  split
  · exact nn_R
  · exact nn_L
theorem nn_fold (l : List Nat) : ∀ t : T4, Nn t → Nn (l.foldl (fun t c => mul4 t (turnT c)) t) := by
  induction l with
  | nil => intro t h; exact h
  | cons c l ih => intro t h; rw [List.foldl_cons]; exact ih _ (h.mul (nn_turn c))
theorem nn_wL (l : List Nat) : Nn (wL l) := nn_fold l O4 ⟨by decide, by decide, by decide, by decide⟩
theorem handAt_of {M : Sto} {p : Addr} {cs : List Int} {i r m : Int} (e : M p = some (.lst [.lst (cs.map .int), .int i, .int r, .int m])) (hc : cs.length ≤ 63) (hi : 0 ≤ i) : HandAt M p := ⟨⟨cs, i, r, m⟩, e, hc, hi⟩
theorem set_gen {M : Sto} {p : Addr} {i : Int} {l : List D} {v : D} {j : Nat} {φ : Sto → Prop} (e : M p = some (.lst l)) (hj : L2.ixN l.length i = some j) (h : ∀ M', M' p = some (.lst (l.set j v)) → (∀ b, b ≠ p → M' b = M b) → φ M') : setD (.ref p) i v M φ :=
  set_ref e hj (h _ updM_same fun b hb => updM_ne hb)
def itm (d : D) : Option (List D) := match d with
  | .str x => some (signs x)
  | .tup l => some l
  | .lst l => some l
  | _ => none
end Z
namespace Z
open PySem PySem.Spec PyProof.Rows L2
theorem fn_no {P : Program} {w : World} {K : PySem.W.Frag} {mg : Str → Option Value} {base : Heap} {k n : Nat} {f : Addr} {fd : FuncData} {ps : List Str} {c : Ct} (h : ∀ ds M Ψ Ξ, ¬ c ds M Ψ Ξ) : FnOk P w K mg base (L2.CX P w) k f fd ps (spC K n c) :=
  ⟨fun _ _ _ _ ⟨_, _, _, _, _, _, _, _, z, _⟩ => (h _ _ _ _ z).elim, fun _ _ _ _ _ _ _ _ _ _ _ _ _ ⟨_, _, _, _, _, _, _, _, z, _⟩ => (h _ _ _ _ z).elim⟩
def Same (M : Sto) : Nat → D → D → Prop
  | 0, _, _ => False
  | n + 1, x, y => (x = .non ∧ y = .non) ∨ (∃ b, x = .bl b ∧ y = .bl b) ∨ (∃ i, x = .int i ∧ y = .int i) ∨ (∃ s, x = .str s ∧ y = .str s) ∨
    (∃ xs ys, ((lstOf M x = some xs ∧ lstOf M y = some ys) ∨ (x = .tup xs ∧ y = .tup ys)) ∧ xs.length = ys.length ∧ xs.length ≤ 1000000 ∧ ∀ (i : Nat) a b, xs[i]? = some a → ys[i]? = some b → Same M n a b)
end Z
namespace Z
open PySem PySem.Spec PyProof.Rows L2
def iL (t : T4) : List Int := [t.1, t.2.1, t.2.2.1, t.2.2.2]
def gF (g : Nat) (l : List Int) : Nat := l.foldl (fun g x => Nat.gcd g x.natAbs) g
def gN (l : List Int) : Nat := gF 0 l
theorem gF_dvd0 : ∀ (l : List Int) (g : Nat), gF g l ∣ g
  | [], g => Nat.dvd_refl _
  | x :: l, g => Nat.dvd_trans (gF_dvd0 l _) (Nat.gcd_dvd_left _ _)
theorem gF_dvd : ∀ (l : List Int) (g : Nat) (x : Int), x ∈ l → gF g l ∣ x.natAbs
  | y :: l, g, x, h => by
    rcases List.mem_cons.mp h with rfl | h
    · exact Nat.dvd_trans (gF_dvd0 l _) (Nat.gcd_dvd_right _ _)
    · exact gF_dvd l _ x h
theorem gF_mul (m : Int) : ∀ (l : List Int) (g : Nat), gF (m.natAbs * g) (l.map (m * ·)) = m.natAbs * gF g l
  | [], g => rfl
  | x :: l, g => by
    show gF (Nat.gcd (m.natAbs * g) (m * x).natAbs) (l.map (m * ·)) = m.natAbs * gF (Nat.gcd g x.natAbs) l
    rw [Int.natAbs_mul, Nat.gcd_mul_left]
    exact gF_mul m l _
theorem gN_mul (m : Int) (l : List Int) : gN (l.map (m * ·)) = m.natAbs * gN l := gF_mul m l 0
theorem gN_dvd {l : List Int} {x : Int} (h : x ∈ l) : gN l ∣ x.natAbs := gF_dvd l 0 x h
theorem gN_zero {l : List Int} (h : gN l = 0) : ∀ x ∈ l, x = 0 := fun x hx => by
  have := gN_dvd hx
  rw [h] at this
  have := Nat.eq_zero_of_zero_dvd this
  omega
theorem gN_snoc (l : List Int) (x : Int) : gN (l ++ [x]) = Nat.gcd (gN l) x.natAbs := by
  unfold gN gF
  rw [List.foldl_append]; rfl
theorem gN_take {l : List Int} {i : Nat} {x : Int} (h : l[i]? = some x) : gN (l.take (i + 1)) = Nat.gcd (gN (l.take i)) x.natAbs := by
  rw [List.take_succ, h]; exact gN_snoc _ _
theorem fdiv_ex {x : Int} {g : Nat} (hg : 0 < g) (h : g ∣ x.natAbs) : (g : Int) * x.fdiv g = x := by
  have h2 : (g : Int) ∣ x := Int.ofNat_dvd_left.mpr h
  obtain ⟨y, rfl⟩ := h2
  rw [Int.mul_fdiv_cancel_left _ (by omega)]
def dvL (g : Nat) (l : List Int) : List Int := l.map fun x => x.fdiv g
def lead (l : List Int) : Int := (l.filter fun x => decide (x ≠ 0)).headD 0
end Z
namespace Z
open PySem PySem.Spec PyProof.Rows L2
theorem eqB {M : Sto} {i j : Bool} {φ : D → Prop} (h : φ (.bl (decide (i = j)))) : eqD M (.bl i) (.bl j) φ := by unfold eqD; exact h
theorem neB {M : Sto} {i j : Bool} {φ : D → Prop} (h : φ (.bl (!decide (i = j)))) : neD M (.bl i) (.bl j) φ := by unfold neD; exact h
theorem lst_cs {M : Sto} {x : D} {l : List D} (h : lstOf M x = some l) : x = .lst l ∨ ∃ p, x = .ref p ∧ M p = some (.lst l) := by
  cases x with
  | lst l' => cases h; exact .inl rfl
  | ref p => exact .inr ⟨p, rfl, lstOf_ref h⟩
  | _ => cases h
theorem lst_ty {M : Sto} {x : D} {l : List D} (h : lstOf M x = some l) : tyN M x = some "list" := by
  rcases lst_cs h with rfl | ⟨p, rfl, e⟩
  · rfl
  · simp only [tyN, e]
theorem zip_mem {xs ys : List D} {d : D} (h : d ∈ zipD xs ys) : ∃ (i : Nat) (a b : D), xs[i]? = some a ∧ ys[i]? = some b ∧ d = .tup [a, b] := by
  unfold zipD at h
  obtain ⟨⟨a, b⟩, h1, rfl⟩ := List.mem_map.mp h
  obtain ⟨i, hi, e⟩ := List.getElem_of_mem h1
  have e2 := List.getElem?_eq_getElem hi
  rw [e] at e2
  have := List.getElem?_zip_eq_some.mp e2
  exact ⟨i, a, b, this.1, this.2, rfl⟩
theorem zip_len {xs ys : List D} : (zipD xs ys).length = min xs.length ys.length := by unfold zipD; rw [List.length_map, List.length_zip]
theorem all_bl {xs : List D} : (xs.map fun _ => D.bl true) = (xs.map fun _ => true).map D.bl := by rw [List.map_map]; rfl
theorem all_tt (xs : List D) : (xs.map fun _ => true).all id = true := by
  rw [List.all_map, List.all_eq_true]
  intro _ _; rfl
section
variable {M : Sto} {n : Nat}
theorem Same.i (i : Int) : Same M (n + 1) (.int i) (.int i) := .inr (.inr (.inl ⟨i, rfl, rfl⟩))
theorem Same.b (i : Bool) : Same M (n + 1) (.bl i) (.bl i) := .inr (.inl ⟨i, rfl, rfl⟩)
theorem Same.s (i : Str) : Same M (n + 1) (.str i) (.str i) := .inr (.inr (.inr (.inl ⟨i, rfl, rfl⟩)))
theorem Same.no : Same M (n + 1) .non .non := .inl ⟨rfl, rfl⟩
inductive SameL (M : Sto) (n : Nat) : List D → List D → Prop
  | nil : SameL M n [] []
  | cons {a b : D} {xs ys : List D} : Same M n a b → SameL M n xs ys → SameL M n (a :: xs) (b :: ys)
theorem SameL.len : ∀ {xs ys : List D}, SameL M n xs ys → xs.length = ys.length
  | _, _, .nil => rfl
  | _, _, .cons _ r => congrArg (· + 1) r.len
theorem SameL.get : ∀ {xs ys : List D}, SameL M n xs ys → ∀ (i : Nat) a b, xs[i]? = some a → ys[i]? = some b → Same M n a b
  | _, _, .nil, i, a, b, h, _ => by simp at h
  | _, _, .cons h r, 0, a, b, h1, h2 => by simp at h1 h2; subst h1 h2; exact h
  | _, _, .cons h r, i + 1, a, b, h1, h2 => r.get i a b (by simpa using h1) (by simpa using h2)
theorem Same.t {xs ys : List D} (h : SameL M n xs ys) (hl : xs.length ≤ 1000000) : Same M (n + 1) (.tup xs) (.tup ys) :=
  .inr (.inr (.inr (.inr ⟨xs, ys, .inr ⟨rfl, rfl⟩, h.len, hl, h.get⟩)))
theorem Same.l {xs ys : List D} (h : SameL M n xs ys) (hl : xs.length ≤ 1000000) : Same M (n + 1) (.lst xs) (.lst ys) :=
  .inr (.inr (.inr (.inr ⟨xs, ys, .inl ⟨rfl, rfl⟩, h.len, hl, h.get⟩)))
theorem SameL.ints : ∀ l : List Int, SameL M (n + 1) (l.map .int) (l.map .int)
  | [] => .nil
  | i :: l => .cons (.i i) (SameL.ints l)
theorem Same.T (t : T4) : Same M (n + 2) (tD t) (tD t) := Same.t (SameL.ints (iL t)) (show 4 ≤ 1000000 by decide)
end
theorem det_ne {t : T4} (h : det4 t ≠ 0) : ∃ x ∈ iL t, x ≠ 0 := by
  obtain ⟨a, b, c, d⟩ := t
  by_cases ha : a = 0
  · by_cases hb : b = 0
    · exfalso; apply h; unfold det4; simp [ha, hb]
    · exact ⟨b, by unfold iL; simp, hb⟩
  · exact ⟨a, by unfold iL; simp, ha⟩
def sc (m : Int) (t : T4) : T4 := (m * t.1, m * t.2.1, m * t.2.2.1, m * t.2.2.2)
theorem det_sc' (m : Int) (t : T4) : det4 (sc m t) = m * m * det4 t := by unfold det4 sc; simp only; grind
theorem gcd_step (a b : Nat) : Nat.gcd b (a % b) = Nat.gcd a b := by rw [Nat.gcd_comm b, ← Nat.gcd_rec, Nat.gcd_comm]
theorem fmod_nat (a b : Nat) : (a : Int).fmod (b : Int) = ((a % b : Nat) : Int) := by
  rw [Int.fmod_eq_emod_of_nonneg _ (by omega)]; rfl
theorem abs_nat (x : Int) : (if x < 0 then -x else x) = (x.natAbs : Int) := by split <;> omega
def slotN (r : En) (i : Nat) : Nat := match r[i]? with
  | some (some (.int j)) => j.natAbs
  | _ => 0
theorem map_get {l : List Int} {i : Nat} {d : D} (h : (l.map D.int)[i]? = some d) : ∃ x, l[i]? = some x ∧ d = .int x := by
  rw [List.getElem?_map] at h
  obtain ⟨x, e, rfl⟩ := Option.map_eq_some_iff.mp h
  exact ⟨x, e, rfl⟩
end Z
namespace Z
open PySem PySem.Spec PyProof.Rows L2
section
variable {X : Cx} {B : Bs} {pos apos : Pos} {e o : Expr} {es : List Expr} {fa fo : DTE} {ga : DTA}
theorem tyV_lst {K : PySem.W.Frag} {M : Sto} {H G : Hp} {d : D} {v : V} {l : List D} (w : Wd K M H G) (r : Rep K G d v) (e : lstOf M d = some l) : tyV K "list" v H := by
  obtain ⟨a, vs, rfl, h, _⟩ := lst_rep' w r e
  exact .inl ⟨rfl, vs, h⟩
theorem de_lm1 {id : String} {name : Str} {r : V → List V → Hp → VK → Prop} {g : Sto → D → List D → PD → Prop} (slot : Slot "list" name id) (ty : typeOf (.builtin id) = pure (.type "method_descriptor")) (rule : MtR X id r) (ok : OkM X.K r g) (ho : DE X B o fo) (ha : DA X B (e :: es) ga)
    (hbase : attributeBase o name X.env (eval o X.env) = eval o X.env := by rfl)
    (hfew : ((backTo pos (starEach (e :: es) X.env)).all (fun x => !x.1) && (backToKw pos (keywordEach [] X.env)).all (fun x => x.1.isSome)
      && decide ((e :: es).length + ([] : List Keyword).length + (if ([] : List Keyword).isEmpty then 0 else 1) < 30)) = true := by rfl)
    (hline : (apos.endLine == pos.line) = true := by rfl) (hs : starEach (e :: es) X.env = (false, eval e X.env) :: starEach es X.env := by rfl) (hplain : (backTo pos (starEach es X.env)).any (·.1) = false := by rfl) :
    DE X B (.Call (.Attribute o name apos) (e :: es) [] pos) (fun r M Ψ => fo r M fun x M1 => (∃ l, lstOf M1 x = some l) ∧ ga r M1 fun ds M2 => g M2 x ds Ψ) :=
  PE_imp (pe_bm PySem.F.plainAttrs_list slot ty rule ho ha hbase hfew hline hs hplain) fun σ H Q ⟨r, M, G, Ψ, R, h, k⟩ => by
    refine ⟨r, M, G, _, R, h, fun x M1 v H1 G1 ⟨⟨l, e1⟩, q⟩ R1 s1 p1 => ⟨tyV_lst R1.wd p1 e1, r, M1, G1, _, R1, q, fun ds M2 us H2 G2 q2 R2 s2 p2 => ?_⟩⟩
    exact ok M2 H2 G2 _ _ _ _ _ _ R2.wd (p1.mono s2) p2 q2 fun d M' w H' G' f w' s' p => k _ _ _ _ _ f (R2.go w' s') ((s1.tr s2).tr s'.gsub) p
theorem de_lm0 {id : String} {name : Str} {r : V → List V → Hp → VK → Prop} {g : Sto → D → List D → PD → Prop} (slot : Slot "list" name id) (ty : typeOf (.builtin id) = pure (.type "method_descriptor")) (rule : MtR X id r) (ok : OkM X.K r g) (ho : DE X B o fo)
    (hbase : attributeBase o name X.env (eval o X.env) = eval o X.env := by rfl) (hline : (apos.endLine == pos.line) = true := by rfl) :
    DE X B (.Call (.Attribute o name apos) [] [] pos) (fun r M Ψ => fo r M fun x M1 => (∃ l, lstOf M1 x = some l) ∧ g M1 x [] Ψ) :=
  PE_imp (pe_bm0 PySem.F.plainAttrs_list slot ty rule ho hbase hline) fun σ H Q ⟨r, M, G, Ψ, R, h, k⟩ => by
    refine ⟨r, M, G, _, R, h, fun x M1 v H1 G1 ⟨⟨l, e1⟩, q⟩ R1 s1 p1 => ⟨tyV_lst R1.wd p1 e1, ?_⟩⟩
    exact ok M1 H1 G1 _ _ _ _ _ _ R1.wd p1 .nil q fun d M' w H' G' f w' s' p => k _ _ _ _ _ f (R1.go w' s') (s1.tr s'.gsub) p
def lstAt (M : Sto) (x : D) (φ : Addr → List D → Prop) : Prop := match x with
  | .ref p => match M p with
    | some (.lst l) => φ p l
    | _ => False
  | _ => False
theorem lstAt_of {M : Sto} {p : Addr} {l : List D} {φ : Addr → List D → Prop} (e : M p = some (.lst l)) (h : φ p l) : lstAt M (.ref p) φ := by
  unfold lstAt
  simp only [e]
  exact h
theorem lstAt_some {M : Sto} {x : D} {φ : Addr → List D → Prop} (h : lstAt M x φ) : ∃ p l, x = .ref p ∧ M p = some (.lst l) ∧ φ p l := by
  unfold lstAt at h
  split at h
  · split at h
    · rename_i p _ l e
      exact ⟨p, l, rfl, e, h⟩
    · exact h.elim
  · exact h.elim
def appendD (M : Sto) (x : D) (ds : List D) (φ : PD) : Prop := match ds with
  | [d] => lstAt M x fun p l => l.length < sizeLine ∧ φ .non (updM M p (.lst (l ++ [d])))
  | _ => False
def popD (M : Sto) (x : D) (ds : List D) (φ : PD) : Prop := match ds with
  | [] => lstAt M x fun p l => ∃ d, l[l.length - 1]? = some d ∧ φ d (updM M p (.lst l.dropLast))
  | _ => False
section
variable {K : PySem.W.Frag}
theorem RepL.dropLast {G : Hp} : ∀ {xs : List D} {us : List V}, RepL K G xs us → RepL K G xs.dropLast us.dropLast := fun {xs us} r => by
  rw [List.dropLast_eq_take, List.dropLast_eq_take, r.length]
  exact r.take _
theorem ok_append : OkM K rAppend appendD := fun M H G x v ds vs φ Q w r rs h k => by
  unfold appendD at h
  split at h
  · obtain ⟨p, l, rfl, e, hl, h⟩ := lstAt_some h
    cases r
    cases rs with
    | cons r1 rs =>
      cases rs
      obtain ⟨gp, us, hp, rl⟩ := w.cells _ _ e
      obtain ⟨w1, s1⟩ := cell_put (c := .lst (l ++ [_])) (o := .lst (us ++ [_])) w e ⟨_, upd_same, rl.app (.cons r1 .nil)⟩
      exact ⟨p, us, _, rfl, rfl, hp, by rw [← rl.length]; exact hl, k _ _ _ _ _ h w1 s1 .non⟩
  · exact h.elim
theorem ok_pop : OkM K rPop popD := fun M H G x v ds vs φ Q w r rs h k => by
  unfold popD at h
  split at h
  · obtain ⟨p, l, rfl, e, d, hd, h⟩ := lstAt_some h
    cases r
    cases rs
    obtain ⟨gp, us, hp, rl⟩ := w.cells _ _ e
    obtain ⟨u, e2, p2⟩ := rl.get hd
    obtain ⟨w1, s1⟩ := cell_put (c := .lst l.dropLast) (o := .lst us.dropLast) w e ⟨_, upd_same, rl.dropLast⟩
    exact ⟨p, us, u, rfl, rfl, hp, by rw [← rl.length]; exact e2, k _ _ _ _ _ h w1 s1 p2⟩
  · exact h.elim
end
theorem de_append (ho : DE X B o fo) (ha : DA X B [e] ga) (hbase : attributeBase o "append" X.env (eval o X.env) = eval o X.env := by rfl) (hline : (apos.endLine == pos.line) = true := by rfl) (hs : starEach [e] X.env = (false, eval e X.env) :: starEach [] X.env := by rfl)
    (hfew : ((backTo pos (starEach [e] X.env)).all (fun x => !x.1) && (backToKw pos (keywordEach [] X.env)).all (fun x => x.1.isSome)
      && decide ([e].length + ([] : List Keyword).length + (if ([] : List Keyword).isEmpty then 0 else 1) < 30)) = true := by rfl) :
    DE X B (.Call (.Attribute o "append" apos) [e] [] pos) (fun r M Ψ => fo r M fun x M1 => (∃ l, lstOf M1 x = some l) ∧ ga r M1 fun ds M2 => appendD M2 x ds Ψ) := de_lm1 PySem.F.slot_list_append PySem.F.type_list_append mt_append ok_append ho ha hbase hfew hline hs rfl
theorem de_pop0 (ho : DE X B o fo) (hbase : attributeBase o "pop" X.env (eval o X.env) = eval o X.env := by rfl) (hline : (apos.endLine == pos.line) = true := by rfl) :
    DE X B (.Call (.Attribute o "pop" apos) [] [] pos) (fun r M Ψ => fo r M fun x M1 => (∃ l, lstOf M1 x = some l) ∧ popD M1 x [] Ψ) := de_lm0 PySem.F.slot_list_pop PySem.F.type_list_pop mt_pop ok_pop ho hbase hline
end
section
variable {X : Cx} {B : Bs} {k j : Nat} {c : Ct} {pos apos p : Pos} {a : Expr} {ga : DTA} {C : Addr} {bs : List (Nat × List Str × (List D → List D → List D))}
end
section
variable {X : Cx} {B : Bs} {pos : Pos} {e : Expr} {fa : DTE}
end
end Z
namespace Z
open PySem PySem.Spec PyProof.Rows L2
theorem foldl_max : ∀ (ns : List Int) (n : Int), ns.foldl max n ∈ n :: ns ∧ ∀ y ∈ n :: ns, y ≤ ns.foldl max n
  | [], n => ⟨by simp, fun y hy => by simp at hy; subst hy; exact Int.le_refl _⟩
  | m :: ns, n => by
    obtain ⟨h1, h2⟩ := foldl_max ns (max n m)
    refine ⟨?_, fun y hy => ?_⟩
    · rw [List.foldl_cons]
      rcases List.mem_cons.mp h1 with h | h
      · rw [h]
        rcases Int.le_total n m with c | c
        · rw [Int.max_eq_right c]; simp
        · rw [Int.max_eq_left c]; simp
      · exact List.mem_cons_of_mem _ (List.mem_cons_of_mem _ h)
    · rw [List.foldl_cons]
      have h3 := h2 (max n m) List.mem_cons_self
      rcases List.mem_cons.mp hy with rfl | hy
      · exact Int.le_trans (Int.le_max_left _ _) h3
      · rcases List.mem_cons.mp hy with rfl | hy
        · exact Int.le_trans (Int.le_max_right _ _) h3
        · exact h2 y (List.mem_cons_of_mem _ hy)
theorem reads_ints {h : Heap} : ∀ {ns : List Int} {vs : List Value}, Vals (ns.map V.int) vs → ∃ as, ReadsAll h vs (ns.map PyData.int) as
  | [], _, r => by cases r; exact ⟨[], .nil⟩
  | n :: ns, _, r => by
    cases r with
    | cons r1 r2 =>
      obtain ⟨t, rfl⟩ := r1
      obtain ⟨as, ra⟩ := reads_ints (h := h) r2
      exact ⟨_, .cons (.int n t) ra⟩
theorem alike_ints (ns : List Int) : PySem.W.AlikeAll (ns.map PyData.int) := by
  refine ⟨fun x hx y hy => ?_, fun x hx => ?_⟩
  · obtain ⟨i, _, rfl⟩ := List.mem_map.mp hx
    obtain ⟨j, _, rfl⟩ := List.mem_map.mp hy
    rfl
  · obtain ⟨i, _, rfl⟩ := List.mem_map.mp hx
    intro z; cases z
theorem depth_ints : ∀ ns : List Int, PyData.depthAll (ns.map PyData.int) ≤ 1
  | [] => by unfold PyData.depthAll; simp
  | n :: ns => by
    have ih := depth_ints ns
    rw [List.map_cons]
    unfold PyData.depthAll
    have : (PyData.int n).depth ≤ 1 := by unfold PyData.depth; simp
    omega
def rMaxT (K : PySem.W.Frag) : List V → Hp → VK → Prop := fun vs H Q => ∃ (a : Addr) (n : Int) (ns : List Int), vs = [V.ref a] ∧ SqT K H a ((n :: ns).map V.int) ∧ Q (.int (ns.foldl max n)) H
section
variable {X : Cx}
theorem cr_maxT (hc : X.calm = true) (hu : X.A.units + 65 < cLine) : CallR X (.builtin "max") (rMaxT X.K) := by
  intro pins s σ H vs us Q I r h
  obtain ⟨a, n, ns, rfl, hs, q⟩ := h
  obtain ⟨its, rv, ⟨o, h1, h2, m, h3⟩, _⟩ := I.tuple hs
  rw [Vals.ref1 r]
  obtain ⟨as, ra⟩ := reads_ints (h := s.heap) (ns := n :: ns) rv
  have dd := depth_ints (n :: ns)
  refine PySem.W.max_tuple_data (vs := its.toArray) (x := .int n) (xs := ns.map .int) (as := as) (I.ok.hd hc) ⟨o, h1, h2, m, h3⟩ (by simpa using ra) (alike_ints (n :: ns)) (by have : PyData.depthAll (PyData.int n :: List.map PyData.int ns) ≤ 1 := dd; omega) fun i v h' tk bs hv hr hk => ?_
  rw [PySem.W.maxD_ints] at hr
  cases hr
  exact ⟨.int _, H, I.kept hk, ⟨_, rfl⟩, q⟩
end
def intsOf (M : Sto) (d : D) (l : List Int) : Prop := lstOf M d = some (l.map .int) ∨ d = .tup (l.map .int)
def maxAD (M : Sto) (ds : List D) (φ : PD) : Prop := match ds with
  | [d] => ∃ (n : Int) (ns : List Int), intsOf M d (n :: ns) ∧ φ (.int (ns.foldl max n)) M
  | _ => False
theorem ok_maxA {K : PySem.W.Frag} : OkC K (fun xs H Q => rMax K xs H Q ∨ rMaxT K xs H Q) maxAD := fun M H G ds vs φ Q w r h k => by
  unfold maxAD at h
  split at h
  · obtain ⟨n, ns, e | rfl, h⟩ := h
    · obtain ⟨a, us, rfl, h1, h2⟩ := one_lst w r e
      have := repL_ints h2; subst this
      refine .inl ⟨a, n :: ns, rfl, h1, by simp, fun m hm hy => ?_⟩
      obtain ⟨f1, f2⟩ := foldl_max ns n
      have e2 : m = ns.foldl max n := Int.le_antisymm (f2 m hm) (hy _ f1)
      rw [e2]
      exact k.id w h .int
    · cases r with
      | cons r1 r2 =>
        cases r2
        obtain ⟨a, us, rfl, h1, h2⟩ := tup_rep w r1 rfl
        have := repL_ints h2; subst this
        exact .inr ⟨a, n, ns, rfl, h1, k.id w h .int⟩
  · exact h.elim
section
variable {X : Cx} {B : Bs} {k : Nat} {pos p : Pos} {a : Expr} {ga : DTA}
theorem de_maxA (hc : X.calm = true) (hr : Room k X.A) (hm : X.mg "max" = none) (ha : DA X B [a] ga) (hg : Gl X "max" := by rfl) (he : starEach [a] X.env = (false, eval a X.env) :: starEach [] X.env := by rfl) : DE X B (.Call (.Name "max" p) [a] [] pos) (fun r M Ψ => ga r M fun ds M1 => maxAD M1 ds Ψ) :=
  de_callB (CallR_or (cr_max hc) (cr_maxT hc (room65 hr))) ok_maxA hm bt_max ha hg (by decide) (by decide) he rfl
end
end Z
namespace Z
open PySem PySem.Spec PyProof.Rows L2
def bR (t : T4) : Bool := decide (t.2.2.1 ≤ t.1) && decide (t.2.2.2 ≤ t.2.1)
def bL (t : T4) : Bool := decide (t.1 ≤ t.2.2.1) && decide (t.2.1 ≤ t.2.2.2)
structure Bal (t : T4) : Prop where
  r : bR t = false
  l : bL t = false
structure Tk (t : T4) (w : List Nat) (u : T4) : Prop where
  lr : LR w
  eq : mul4 (wL w) u = t
  nn : Nn u
  bal : Bal u
theorem turn_R : turnT 82 = R4 := by unfold turnT; rw [if_pos (by decide +kernel)]
theorem turn_L : turnT 76 = L4 := by unfold turnT; rw [if_neg (by decide +kernel)]
theorem wL_nil : wL [] = O4 := rfl
theorem wL_one (c : Nat) : wL [c] = turnT c := one_mul4 _
theorem wL_cons (c : Nat) (l : List Nat) : wL (c :: l) = mul4 (turnT c) (wL l) := by
  rw [show c :: l = [c] ++ l from rfl, wL_app, wL_one]
theorem mul_R (t : T4) : mul4 R4 t = (t.1 + t.2.2.1, t.2.1 + t.2.2.2, t.2.2.1, t.2.2.2) := by unfold mul4 R4; simp
theorem mul_L (t : T4) : mul4 L4 t = (t.1, t.2.1, t.1 + t.2.2.1, t.2.1 + t.2.2.2) := by unfold mul4 L4; simp
theorem beg_R {t : T4} (h : Nn t) (hd : 0 < det4 t) : bR (mul4 R4 t) = true ∧ bL (mul4 R4 t) = false := by
  rw [mul_R]
  obtain ⟨a, b, c, d⟩ := t
  obtain ⟨h1, h2, h3, h4⟩ := h
  simp only at h1 h2 h3 h4
  unfold bR bL
  simp only
  refine ⟨by rw [decide_eq_true (by omega), decide_eq_true (by omega)]; rfl, ?_⟩
  rw [Bool.and_eq_false_iff]
  by_cases e : a = 0
  · right
    refine decide_eq_false fun z => ?_
    have : b = 0 := by omega
    subst this e
    unfold det4 at hd
    simp at hd
  · left; exact decide_eq_false (by omega)
theorem beg_L {t : T4} (h : Nn t) (hd : 0 < det4 t) : bL (mul4 L4 t) = true ∧ bR (mul4 L4 t) = false := by
  rw [mul_L]
  obtain ⟨a, b, c, d⟩ := t
  obtain ⟨h1, h2, h3, h4⟩ := h
  simp only at h1 h2 h3 h4
  unfold bR bL
  simp only
  refine ⟨by rw [decide_eq_true (by omega), decide_eq_true (by omega)]; rfl, ?_⟩
  rw [Bool.and_eq_false_iff]
  by_cases e : c = 0
  · right
    refine decide_eq_false fun z => ?_
    have : d = 0 := by omega
    subst this e
    unfold det4 at hd
    simp at hd
  · left; exact decide_eq_false (by omega)
theorem det_w {w : List Nat} {u t : T4} (e : mul4 (wL w) u = t) : det4 u = det4 t := by rw [← e, det_mul, det_wL, Int.one_mul]
theorem R4_inj {s t : T4} (h : mul4 R4 s = mul4 R4 t) : s = t := by
  rw [mul_R, mul_R] at h
  obtain ⟨a, b, c, d⟩ := s
  obtain ⟨e, f, g, k⟩ := t
  simp only [Prod.mk.injEq] at h ⊢
  omega
theorem L4_inj {s t : T4} (h : mul4 L4 s = mul4 L4 t) : s = t := by
  rw [mul_L, mul_L] at h
  obtain ⟨a, b, c, d⟩ := s
  obtain ⟨e, f, g, k⟩ := t
  simp only [Prod.mk.injEq] at h ⊢
  omega
theorem Tk.tail {t u : T4} {c : Nat} {w : List Nat} (h : Tk t (c :: w) u) : ∃ t1, Tk t1 w u ∧ Nn t1 ∧ det4 t1 = det4 t ∧ t = mul4 (turnT c) t1 := by
  have e := h.eq
  rw [wL_cons, mul_assoc4] at e
  have hn : Nn (mul4 (wL w) u) := (nn_wL w).mul h.nn
  exact ⟨_, ⟨fun d hd => h.lr d (List.mem_cons_of_mem _ hd), rfl, h.nn, h.bal⟩, hn, by rw [← e, det_mul (turnT c), det_turn, Int.one_mul], e.symm⟩
theorem Tk.first {t u : T4} {c : Nat} {w : List Nat} (hd : 0 < det4 t) (h : Tk t (c :: w) u) : (c = 82 ∧ bR t = true ∧ bL t = false) ∨ (c = 76 ∧ bL t = true ∧ bR t = false) := by
  obtain ⟨t1, h1, hn, e1, e2⟩ := h.tail
  rw [← e1] at hd
  rcases h.lr c List.mem_cons_self with rfl | rfl
  · rw [turn_L] at e2
    obtain ⟨z1, z2⟩ := beg_L hn hd
    rw [e2]
    exact .inr ⟨rfl, z1, z2⟩
  · rw [turn_R] at e2
    obtain ⟨z1, z2⟩ := beg_R hn hd
    rw [e2]
    exact .inl ⟨rfl, z1, z2⟩
theorem Tk.uniq : ∀ {w w' : List Nat} {t u u' : T4}, 0 < det4 t → Tk t w u → Tk t w' u' → w = w' ∧ u = u'
  | [], [], t, u, u', hd, h, h' => by
    have e := h.eq
    have e' := h'.eq
    rw [wL_nil, one_mul4] at e e'
    exact ⟨rfl, e.trans e'.symm⟩
  | [], c :: w', t, u, u', hd, h, h' => by
    exfalso
    have e := h.eq
    rw [wL_nil, one_mul4] at e
    rcases h'.first hd with ⟨_, z, _⟩ | ⟨_, z, _⟩
    · rw [← e, h.bal.r] at z; cases z
    · rw [← e, h.bal.l] at z; cases z
  | c :: w, [], t, u, u', hd, h, h' => by
    exfalso
    have e := h'.eq
    rw [wL_nil, one_mul4] at e
    rcases h.first hd with ⟨_, z, _⟩ | ⟨_, z, _⟩
    · rw [← e, h'.bal.r] at z; cases z
    · rw [← e, h'.bal.l] at z; cases z
  | c :: w, c' :: w', t, u, u', hd, h, h' => by
    have hc : c = c' := by
      rcases h.first hd with ⟨rfl, z, y⟩ | ⟨rfl, z, y⟩ <;> rcases h'.first hd with ⟨rfl, z', y'⟩ | ⟨rfl, z', y'⟩ <;> first | rfl | (rw [z] at y'; cases y') | (rw [z'] at y; cases y)
    subst hc
    obtain ⟨t1, h1, hn, e1, e2⟩ := h.tail
    obtain ⟨t2, h2, hn2, e3, e4⟩ := h'.tail
    have et : t1 = t2 := by
      rcases h.lr c List.mem_cons_self with rfl | rfl
      · rw [turn_L] at e2 e4; exact L4_inj (e2.symm.trans e4)
      · rw [turn_R] at e2 e4; exact R4_inj (e2.symm.trans e4)
    subst et
    obtain ⟨r1, r2⟩ := h1.uniq (by rw [e1]; exact hd) h2
    exact ⟨by rw [r1], r2⟩
theorem Tk.bal_self {t : T4} (hn : Nn t) (hb : Bal t) : Tk t [] t := ⟨fun c h => (nomatch h), by rw [wL_nil, one_mul4], hn, hb⟩
theorem wL_Rs : ∀ k : Nat, wL (List.replicate k 82) = (1, (k : Int), 0, 1)
  | 0 => rfl
  | k + 1 => by
    rw [List.replicate_succ, wL_cons, wL_Rs k, turn_R, mul_R, show ((k + 1 : Nat) : Int) = (k : Int) + 1 from by omega]
    rfl
theorem wL_Ls : ∀ k : Nat, wL (List.replicate k 76) = (1, 0, (k : Int), 1)
  | 0 => rfl
  | k + 1 => by
    rw [List.replicate_succ, wL_cons, wL_Ls k, turn_L, mul_L, show ((k + 1 : Nat) : Int) = (k : Int) + 1 from by omega, Int.add_comm (k : Int) 1]
    rfl
def subR (k : Int) (t : T4) : T4 := (t.1 - k * t.2.2.1, t.2.1 - k * t.2.2.2, t.2.2.1, t.2.2.2)
def subL (k : Int) (t : T4) : T4 := (t.1, t.2.1, t.2.2.1 - k * t.1, t.2.2.2 - k * t.2.1)
theorem mul_subR (k : Nat) (t : T4) : mul4 (wL (List.replicate k 82)) (subR k t) = t := by
  rw [wL_Rs]
  obtain ⟨a, b, c, d⟩ := t
  unfold mul4 subR
  simp only [Prod.mk.injEq]
  refine ⟨?_, ?_, ?_, ?_⟩ <;> grind
theorem mul_subL (k : Nat) (t : T4) : mul4 (wL (List.replicate k 76)) (subL k t) = t := by
  rw [wL_Ls]
  obtain ⟨a, b, c, d⟩ := t
  unfold mul4 subL
  simp only [Prod.mk.injEq]
  refine ⟨?_, ?_, ?_, ?_⟩ <;> grind
theorem LR.rep {w : List Nat} (h : LR w) {c k : Nat} (hc : c = 76 ∨ c = 82) : LR (w ++ List.replicate k c) := fun d hd => by
  rcases List.mem_append.mp hd with z | z
  · exact h d z
  · rw [List.eq_of_mem_replicate z]; exact hc
def ltm (a b c d : Int) : Int := if 0 < c then (if 0 < d then min (a.fdiv c) (b.fdiv d) else a.fdiv c) else b.fdiv d
theorem fdiv_mul_le {a c : Int} (h : 0 < c) : a.fdiv c * c ≤ a := by
  rw [Int.fdiv_eq_ediv_of_nonneg _ (Int.le_of_lt h)]
  exact Int.ediv_mul_le _ (by omega)
theorem le_fdiv {a c k : Int} (h : 0 < c) (hk : k * c ≤ a) : k ≤ a.fdiv c := by
  rw [Int.fdiv_eq_ediv_of_nonneg _ (Int.le_of_lt h)]
  exact (Int.le_ediv_iff_mul_le h).mpr hk
theorem ltm_ok {a b c d : Int} (hc : 0 ≤ c) (hd : 0 ≤ d) (h : 0 < c ∨ 0 < d) (h1 : c ≤ a) (h2 : d ≤ b) : 1 ≤ ltm a b c d ∧ ltm a b c d * c ≤ a ∧ ltm a b c d * d ≤ b := by
  have mono : ∀ {x y z : Int}, 0 ≤ z → x ≤ y → x * z ≤ y * z := fun hz h => Int.mul_le_mul_of_nonneg_right h hz
  unfold ltm
  by_cases e1 : 0 < c
  · rw [if_pos e1]
    have k1 := fdiv_mul_le (a := a) e1
    have g1 : 1 ≤ a.fdiv c := le_fdiv e1 (by omega)
    by_cases e2 : 0 < d
    · rw [if_pos e2]
      have k2 := fdiv_mul_le (a := b) e2
      have g2 : 1 ≤ b.fdiv d := le_fdiv e2 (by omega)
      refine ⟨by omega, ?_, ?_⟩
      · exact Int.le_trans (mono hc (Int.min_le_left _ _)) k1
      · exact Int.le_trans (mono hd (Int.min_le_right _ _)) k2
    · rw [if_neg e2]
      have : d = 0 := by omega
      subst this
      exact ⟨g1, k1, by rw [Int.mul_zero]; exact h2⟩
  · rw [if_neg e1]
    have e2 : 0 < d := h.resolve_left e1
    have k2 := fdiv_mul_le (a := b) e2
    have g2 : 1 ≤ b.fdiv d := le_fdiv e2 (by omega)
    have : c = 0 := by omega
    subst this
    exact ⟨g2, by rw [Int.mul_zero]; exact h1, k2⟩
theorem bR_of {t : T4} (h : bR t = true) : t.2.2.1 ≤ t.1 ∧ t.2.2.2 ≤ t.2.1 := by
  unfold bR at h
  simpa using h
theorem bL_of {t : T4} (h : bL t = true) : t.1 ≤ t.2.2.1 ∧ t.2.1 ≤ t.2.2.2 := by
  unfold bL at h
  simpa using h
theorem low_pos {t : T4} (hn : Nn t) (hd : 0 < det4 t) : (0 < t.2.2.1 ∨ 0 < t.2.2.2) ∧ (0 < t.1 ∨ 0 < t.2.1) := by
  obtain ⟨a, b, c, d⟩ := t
  obtain ⟨h1, h2, h3, h4⟩ := hn
  simp only at h1 h2 h3 h4 ⊢
  unfold det4 at hd
  simp only at hd
  refine ⟨?_, ?_⟩
  · rcases Int.lt_or_le 0 c with h | h
    · exact .inl h
    · have : c = 0 := by omega
      subst this
      rcases Int.lt_or_le 0 d with h | h
      · exact .inr h
      · have : d = 0 := by omega
        subst this
        simp at hd
  · rcases Int.lt_or_le 0 a with h | h
    · exact .inl h
    · have : a = 0 := by omega
      subst this
      rcases Int.lt_or_le 0 b with h | h
      · exact .inr h
      · have : b = 0 := by omega
        subst this
        simp at hd
def sum4 (t : T4) : Nat := t.1.natAbs + t.2.1.natAbs + t.2.2.1.natAbs + t.2.2.2.natAbs
theorem stepR_ok {t : T4} (hn : Nn t) (hd : 0 < det4 t) (hb : bR t = true) : ∃ k : Nat, ltm t.1 t.2.1 t.2.2.1 t.2.2.2 = (k : Int) ∧ 1 ≤ k ∧ Nn (subR k t) ∧ sum4 (subR k t) + k ≤ sum4 t := by
  obtain ⟨z1, z2⟩ := bR_of hb
  obtain ⟨l1, _⟩ := low_pos hn hd
  obtain ⟨a, b, c, d⟩ := t
  obtain ⟨h1, h2, h3, h4⟩ := hn
  simp only at h1 h2 h3 h4 z1 z2 l1 ⊢
  obtain ⟨q1, q2, q3⟩ := ltm_ok h3 h4 l1 z1 z2
  obtain ⟨k, hk⟩ := Int.eq_ofNat_of_zero_le (show 0 ≤ ltm a b c d by omega)
  rw [hk] at q1 q2 q3
  refine ⟨k, hk, by omega, ⟨by show 0 ≤ a - k * c; omega, by show 0 ≤ b - k * d; omega, h3, h4⟩, ?_⟩
  unfold sum4 subR
  simp only
  have g1 : 0 ≤ (k : Int) * c := Int.mul_nonneg (by omega) h3
  have g2 : 0 ≤ (k : Int) * d := Int.mul_nonneg (by omega) h4
  have g3 : (k : Int) ≤ k * c + k * d := by
    rw [← Int.mul_add]
    have := Int.mul_le_mul_of_nonneg_left (show (1 : Int) ≤ c + d by omega) (show (0 : Int) ≤ k by omega)
    omega
  omega
theorem stepL_ok {t : T4} (hn : Nn t) (hd : 0 < det4 t) (hb : bL t = true) : ∃ k : Nat, ltm t.2.2.1 t.2.2.2 t.1 t.2.1 = (k : Int) ∧ 1 ≤ k ∧ Nn (subL k t) ∧ sum4 (subL k t) + k ≤ sum4 t := by
  obtain ⟨z1, z2⟩ := bL_of hb
  obtain ⟨_, l1⟩ := low_pos hn hd
  obtain ⟨a, b, c, d⟩ := t
  obtain ⟨h1, h2, h3, h4⟩ := hn
  simp only at h1 h2 h3 h4 z1 z2 l1 ⊢
  obtain ⟨q1, q2, q3⟩ := ltm_ok h1 h2 l1 z1 z2
  obtain ⟨k, hk⟩ := Int.eq_ofNat_of_zero_le (show 0 ≤ ltm c d a b by omega)
  rw [hk] at q1 q2 q3
  refine ⟨k, hk, by omega, ⟨h1, h2, by show 0 ≤ c - k * a; omega, by show 0 ≤ d - k * b; omega⟩, ?_⟩
  unfold sum4 subL
  simp only
  have g1 : 0 ≤ (k : Int) * a := Int.mul_nonneg (by omega) h1
  have g2 : 0 ≤ (k : Int) * b := Int.mul_nonneg (by omega) h2
  have g3 : (k : Int) ≤ k * a + k * b := by
    rw [← Int.mul_add]
    have := Int.mul_le_mul_of_nonneg_left (show (1 : Int) ≤ a + b by omega) (show (0 : Int) ≤ k by omega)
    omega
  omega
theorem len_sum {t : T4} : ∀ {w : List Nat} {u : T4}, LR w → Nn u → 0 < det4 t → mul4 (wL w) u = t → w.length + sum4 u ≤ sum4 t
  | [], u, _, _, _, e => by rw [wL_nil, one_mul4] at e; rw [e]; simp
  | c :: w, u, hl, hn, hd, e => by
    rw [wL_cons, mul_assoc4] at e
    have hn1 : Nn (mul4 (wL w) u) := (nn_wL w).mul hn
    have hd1 : 0 < det4 (mul4 (wL w) u) := by rw [← e, det_mul, det_turn, Int.one_mul] at hd; exact hd
    have ih := len_sum (t := mul4 (wL w) u) (fun d h => hl d (List.mem_cons_of_mem _ h)) hn hd1 rfl
    generalize mul4 (wL w) u = t1 at e hn1 hd1 ih
    obtain ⟨l1, l2⟩ := low_pos hn1 hd1
    obtain ⟨h1, h2, h3, h4⟩ := hn1
    rw [← e, List.length_cons]
    rcases hl c List.mem_cons_self with rfl | rfl
    · rw [turn_L, mul_L]; unfold sum4 at ih ⊢; simp only at ih ⊢; omega
    · rw [turn_R, mul_R]; unfold sum4 at ih ⊢; simp only at ih ⊢; omega
def rMulS : R2 := fun x y H Q => ∃ a n, x = .str a ∧ y = .int n ∧ MulOk a n ∧ Q (.str (Txt.mul a n)) H
theorem op_mulS {X : Cx} : OpR X (binaryOp .Mult) rMulS := by
  intro pins s σ H x y v u Q I rx ry h
  obtain ⟨i, j, rfl, rfl, hz, q⟩ := h
  obtain ⟨t, rfl⟩ := rx
  obtain ⟨t', rfl⟩ := ry
  exact SB.mul hz fun t'' k => ⟨.str _, H, I.tok _, ⟨_, rfl⟩, q⟩
def mulSD (_ : Sto) (x y : D) (φ : D → Prop) : Prop := match x, y with
  | .str a, .int n => MulOk a n ∧ φ (.str (Txt.mul a n))
  | _, _ => False
theorem ok_mulS {K : PySem.W.Frag} : Ok2 K rMulS mulSD := fun M H G x y v u φ Q w rx ry h k => by
  unfold mulSD at h
  split at h
  · cases rx; cases ry; exact ⟨_, _, rfl, rfl, h.1, k _ _ _ _ h.2 (Grow.refl w.sub) .str⟩
  · exact h.elim
theorem de_mulS {X : Cx} {B : Bs} {a b : Expr} {fa fb : DTE} {pos : Pos} (ha : DE X B a fa) (hb : DE X B b fb) : DE X B (.BinOp a .Mult b pos) (fun r M Ψ => fa r M fun x M1 => fb r M1 fun y M2 => mulSD M2 x y fun z => Ψ z M2) := de_op op_mulS ok_mulS ha hb
theorem rs_upd {M : Sto} {p : Addr} {c : Cell} (h : M p = none) : rs M (updM M p c) = M := by
  funext a
  unfold rs
  by_cases e : a = p
  · subst e; rw [h]
  · rw [updM_ne e]
    cases M a <;> rfl
end Z
namespace Z
section
open PySem PySem.SeqAt GQ
open AutoSeq1 (wpAny_loadPart')
open MeetsSeq MeetsSeq2 MeetsSeq3 SeqRoads2
variable {prog : Program} {w : World} {A : Around} {R : Result → Shared → Prop}
end
section
open PySem PySem.SeqAt GQ
variable {prog : Program} {w : World} {A : Around} {E : Value → Shared → Prop} {s : Shared}
end
open PySem PySem.Spec PyProof.Rows L2
section
variable {X : Cx} {j : Nat} {own : D → D → Sto → Prop}
end
section
variable {X : Cx} {B : Bs} {k j : Nat} {c : Ct} {pos : Pos} {a b : Expr} {fa fb : DTE} {C : Addr} {bs : List (Nat × List Str × (List D → List D → List D))}
end
end Z
namespace Z
open PySem PySem.Spec PyProof.Rows L2
theorem getS_z {d : D} {r : En} {k : D → Prop} : getS (some d :: r) 0 k = k d := rfl
theorem getS_s {o : Option D} {r : En} {i : Nat} {k : D → Prop} : getS (o :: r) (i + 1) k = getS r i k := rfl
theorem cmp_i {p : Int → Int → Bool} {M : Sto} {i j : Int} {φ : D → Prop} : cmpD p M (.int i) (.int j) φ = φ (.bl (p i j)) := rfl
theorem add_i {M : Sto} {i j : Int} {φ : D → Prop} : addD M (.int i) (.int j) φ = φ (.int (i + j)) := rfl
theorem min2_i {M : Sto} {i j : Int} {φ : PD} : min2D M [.int i, .int j] φ = φ (.int (if j < i then j else i)) M := rfl
theorem max2_i {M : Sto} {i j : Int} {φ : PD} : max2D M [.int i, .int j] φ = φ (.int (if j > i then j else i)) M := rfl
theorem sub_i {M : Sto} {i j : Int} {φ : D → Prop} : subD M (.int i) (.int j) φ = φ (.int (i - j)) := rfl
theorem bl_v {φ : Bool → Prop} {p : Bool} (h : φ p) : blD φ (.bl p) := bl_c (fun e => by rw [e] at h; exact h) fun e => by rw [e] at h; exact h
theorem abs_sum {t : T4} : t.1.natAbs ≤ sum4 t ∧ t.2.1.natAbs ≤ sum4 t ∧ t.2.2.1.natAbs ≤ sum4 t ∧ t.2.2.2.natAbs ≤ sum4 t := by unfold sum4; omega
theorem append_of {M : Sto} {p : Addr} {l : List D} {d : D} {φ : PD} (e : M p = some (.lst l)) (hl : l.length < sizeLine) (h : φ .non (updM M p (.lst (l ++ [d])))) : appendD M (.ref p) [d] φ := by
  unfold appendD
  exact lstAt_of e ⟨hl, h⟩
end Z
namespace Z
open PySem PySem.Spec PyProof.Rows L2
section
variable {X : Cx} {B : Bs} {pos : Pos} {a b c : Expr} {es : List Expr} {fa fb : DTE} {ta tb : DTT}
abbrev isV (v : D) (M : Sto) : PD := fun y M' => y = v ∧ M' = M
theorem de_ifV (hc : DT X B c ta) (ha : DE X B a fa) (hb : DE X B b fb) : DE X B (.IfExp c a b pos) (fun r M Ψ => ta r M fun t M1 => ∃ v : D, (t = true → fa r M1 (isV v M1)) ∧ (t = false → fb r M1 (isV v M1)) ∧ Ψ v M1) :=
  PE_imp (pe_ifExp hc ha hb) fun σ H Q ⟨r, M, G, Ψ, R, h, k⟩ => by
    refine ⟨r, M, G, _, R, h, fun t M1 H1 G1 q R1 s1 => ?_⟩
    obtain ⟨v, h1, h2, q⟩ := q
    cases t with
    | true => exact ⟨r, M1, G1, _, R1, h1 rfl, fun d M' v H' G' q' R' s p => by
        obtain ⟨rfl, rfl⟩ := q'
        exact k _ _ _ _ _ q R' (s1.tr s) p⟩
    | false => exact ⟨r, M1, G1, _, R1, h2 rfl, fun d M' v H' G' q' R' s p => by
        obtain ⟨rfl, rfl⟩ := q'
        exact k _ _ _ _ _ q R' (s1.tr s) p⟩
theorem dw_orV (ha : DT X B a ta) (hb : DW X B (.BoolOp .Or (b :: es) pos) tb) : DW X B (.BoolOp .Or (a :: b :: es) pos) (fun r M Ψ => ta r M fun p M1 => ∃ q : Bool, (p = false → tb r M1 fun z M2 => z = q ∧ M2 = M1) ∧ Ψ (p || q) M1) :=
  PW_imp (pw_or ha hb) fun σ H Q ⟨r, M, G, Ψ, R, h, k⟩ => by
    refine ⟨r, M, G, _, R, h, fun c M1 H1 G1 q R1 s1 => ?_⟩
    obtain ⟨z, hz, q⟩ := q
    cases c with
    | false => exact ⟨r, M1, G1, _, R1, hz rfl, fun b M' H' G' q' R' s => by
        obtain ⟨rfl, rfl⟩ := q'
        exact k _ _ _ _ q R' (s1.tr s)⟩
    | true => exact k _ _ _ _ q R1 s1
end
end Z
namespace Z
open PySem PySem.Spec PyProof.Rows L2
theorem log_sm {i : Int} {n : Nat} (h : i.natAbs < 2 ^ n) (hn : n ≤ 1900) : i.natAbs.log2 < 1920 := by
  by_cases e : i.natAbs = 0
  · rw [e]; decide
  · have := (Nat.log2_lt e).mpr h
    omega
theorem sz_int {i : Int} {n : Nat} (h : i.natAbs < 2 ^ n) (hn : n ≤ 1900) : (Str.ofString (toString i)).length ≤ 1921 := PyProof.Rows.int_text_len_1921 (log_sm h hn)
def wds : Nat → List (List Nat)
  | 0 => [[]]
  | n + 1 => [] :: ((wds n).map (76 :: ·) ++ (wds n).map (82 :: ·))
theorem mem_wds : ∀ {n : Nat} {w : List Nat}, LR w → w.length ≤ n → w ∈ wds n
  | 0, [], _, _ => by simp [wds]
  | 0, c :: w, _, h => by simp at h
  | n + 1, [], _, _ => List.mem_cons_self
  | n + 1, c :: w, hl, h => by
    have ih := mem_wds (n := n) (w := w) (fun d hd => hl d (List.mem_cons_of_mem _ hd)) (by simpa using h)
    refine List.mem_cons_of_mem _ (List.mem_append.mpr ?_)
    rcases hl c List.mem_cons_self with rfl | rfl
    · exact .inl (List.mem_map.mpr ⟨w, ih, rfl⟩)
    · exact .inr (List.mem_map.mpr ⟨w, ih, rfl⟩)
theorem wds3 : ∀ w ∈ wds 3, (wL w).1 ≤ 3 ∧ (wL w).2.1 ≤ 3 ∧ (wL w).2.2.1 ≤ 3 ∧ (wL w).2.2.2 ≤ 3 := by decide +kernel
theorem w3_le {w : List Nat} (h : LR w) (hl : w.length ≤ 3) : (wL w).1 ≤ 3 ∧ (wL w).2.1 ≤ 3 ∧ (wL w).2.2.1 ≤ 3 ∧ (wL w).2.2.2 ≤ 3 := wds3 w (mem_wds h hl)
structure Le4 (n : Int) (t : T4) : Prop where
  a : t.1 ≤ n
  b : t.2.1 ≤ n
  c : t.2.2.1 ≤ n
  d : t.2.2.2 ≤ n
theorem le_two {x y z w m n : Int} (hx : 0 ≤ x) (hy : 0 ≤ y) (h1 : x ≤ m) (h2 : y ≤ m) (h3 : z ≤ n) (h4 : w ≤ n) (hn : 0 ≤ n) : x * z + y * w ≤ 2 * m * n := by
  have k1 : x * z ≤ x * n := Int.mul_le_mul_of_nonneg_left h3 hx
  have k2 : x * n ≤ m * n := Int.mul_le_mul_of_nonneg_right h1 hn
  have k3 : y * w ≤ y * n := Int.mul_le_mul_of_nonneg_left h4 hy
  have k4 : y * n ≤ m * n := Int.mul_le_mul_of_nonneg_right h2 hn
  have : 2 * m * n = m * n + m * n := by rw [Int.mul_assoc, Int.two_mul]
  omega
theorem Le4.mul {s t : T4} {m n : Int} (hs : Nn s) (h1 : Le4 m s) (h2 : Le4 n t) (hn : 0 ≤ n) : Le4 (2 * m * n) (mul4 s t) :=
  ⟨le_two hs.1 hs.2.1 h1.a h1.b h2.a h2.c hn, le_two hs.1 hs.2.1 h1.a h1.b h2.b h2.d hn, le_two hs.2.2.1 hs.2.2.2 h1.c h1.d h2.a h2.c hn, le_two hs.2.2.1 hs.2.2.2 h1.c h1.d h2.b h2.d hn⟩
theorem Le4.sum {t : T4} {n : Nat} (hn : Nn t) (h : Le4 n t) : sum4 t ≤ 4 * n := by
  obtain ⟨h1, h2, h3, h4⟩ := hn
  obtain ⟨k1, k2, k3, k4⟩ := h
  unfold sum4
  omega
def sw4' (t : T4) : T4 := (t.2.1, t.1, t.2.2.2, t.2.2.1)
theorem det_sw' (t : T4) : det4 (sw4' t) = - det4 t := by unfold det4 sw4'; simp only; grind
theorem nn_sc' {m : Int} {t : T4} (hm : 0 ≤ m) (h : Nn t) : Nn (sc m t) := ⟨Int.mul_nonneg hm h.1, Int.mul_nonneg hm h.2.1, Int.mul_nonneg hm h.2.2.1, Int.mul_nonneg hm h.2.2.2⟩
theorem det_sc_pos {m : Int} {t : T4} (hm : 1 ≤ m) (h : 0 < det4 t) : 0 < det4 (sc m t) := by
  rw [det_sc']
  exact Int.mul_pos (Int.mul_pos (by omega) (by omega)) h
theorem sum_sc {m : Int} {t : T4} : sum4 (sc m t) = m.natAbs * sum4 t := by
  unfold sum4 sc
  simp only [Int.natAbs_mul, Nat.mul_add]
theorem sum_sw (t : T4) : sum4 (sw4' t) = sum4 t := by unfold sum4 sw4'; simp only; omega
theorem sm_of_sum {t : T4} {n : Nat} (h : sum4 t < 2 ^ n) : Sm n t := by
  obtain ⟨h1, h2, h3, h4⟩ := abs_sum (t := t)
  exact ⟨by omega, by omega, by omega, by omega⟩
theorem mul_sc4 (m : Int) (s t : T4) : mul4 s (sc m t) = sc m (mul4 s t) := by
  unfold mul4 sc
  simp only [Prod.mk.injEq]
  refine ⟨?_, ?_, ?_, ?_⟩ <;> grind
theorem Tk.app {t u : T4} {v w : List Nat} (hv : LR v) (h : Tk t w u) : Tk (mul4 (wL v) t) (v ++ w) u :=
  ⟨fun c hc => (List.mem_append.mp hc).elim (hv c) (h.lr c), by rw [wL_app, mul_assoc4, h.eq], h.nn, h.bal⟩
end Z
namespace Z
open PySem PySem.Spec PyProof.Rows L2
def Ib (n : Nat) (i : Int) : Prop := i.natAbs < 2 ^ n
theorem Ib.mono {n m : Nat} {i : Int} (h : Ib n i) (hm : n ≤ m) : Ib m i := Nat.lt_of_lt_of_le h (Nat.pow_le_pow_right (by decide) hm)
theorem Ib.mul {n m : Nat} {i j : Int} (h : Ib n i) (k : Ib m j) : Ib (n + m) (i * j) := by
  unfold Ib at *
  rw [Int.natAbs_mul, Nat.pow_add]
  exact Nat.mul_lt_mul'' h k
theorem Ib.sub {n : Nat} {i j : Int} (h : Ib n i) (k : Ib n j) : Ib (n + 1) (i - j) := by
  unfold Ib at *
  rw [Nat.pow_succ]
  generalize 2 ^ n = z at *
  omega
theorem Ib.le {n : Nat} {i j : Int} (h : Ib n i) (k : j.natAbs ≤ i.natAbs) : Ib n j := Nat.lt_of_le_of_lt k h
theorem Ib.str {n : Nat} {i : Int} (h : Ib n i) (hn : n ≤ 1900) : (Str.ofString (toString i)).length ≤ 1921 := sz_int h hn
def rtN : Nat → Nat
  | 0 => 0
  | n + 1 => if (rtN n + 1) * (rtN n + 1) ≤ n + 1 then rtN n + 1 else rtN n
theorem sq_succ (r : Nat) : (r + 1) * (r + 1) = r * r + 2 * r + 1 := by grind
theorem rtN_spec : ∀ n : Nat, rtN n * rtN n ≤ n ∧ n < (rtN n + 1) * (rtN n + 1)
  | 0 => by decide
  | n + 1 => by
    obtain ⟨h1, h2⟩ := rtN_spec n
    unfold rtN
    split
    · rename_i h
      refine ⟨h, ?_⟩
      rw [sq_succ]
      omega
    · exact ⟨by omega, by omega⟩
def rtI (u : Int) : Int := rtN u.toNat
def Sq (u : Int) : Prop := rtI u * rtI u = u
instance (u : Int) : Decidable (Sq u) := inferInstanceAs (Decidable (rtI u * rtI u = u))
abbrev T3 := Int × Int × Int
def sgI (b : Int) : Int := if 0 < b then 1 else -1
def gF2 (t b u : Int) : Int := (gN [t + rtI u, b] : Int) * sgI b
def gI3 (t b u : Int) : Int := (gN [b * b, 2 * t * b, t * t - u] : Int) * sgI b
def nf (t b u : Int) : T3 :=
  if Sq u then ((t + rtI u).fdiv (gF2 t b u), b.fdiv (gF2 t b u), 0)
  else (-((-2 * t * b).fdiv (gI3 t b u)), 2 * (b * b).fdiv (gI3 t b u), (-2 * t * b).fdiv (gI3 t b u) * (-2 * t * b).fdiv (gI3 t b u) - 4 * (b * b).fdiv (gI3 t b u) * (t * t - u).fdiv (gI3 t b u))
theorem Ib.rt {n : Nat} {u : Int} (h : Ib n u) (h0 : 0 ≤ u) : Ib n (rtI u) := by
  refine h.le ?_
  obtain ⟨v, rfl⟩ := Int.eq_ofNat_of_zero_le h0
  unfold rtI
  rw [Int.toNat_natCast]
  have := (rtN_spec v).1
  have := Nat.le_mul_self (rtN v)
  omega
theorem Ib.c {i : Int} (n : Nat) (h : i.natAbs < 2 ^ n := by decide) : Ib n i := h
theorem sz2 {x y : Str} {n m : Nat} (h : x.length ≤ n) (h' : y.length ≤ m) (hn : n + m ≤ 1000000) : x.length + y.length ≤ sizeLine := Nat.le_trans (Nat.add_le_add h h') (Nat.le_trans hn big_ok)
end Z
namespace Z
open PySem PySem.Spec PyProof.Rows L2
def s3 (x : Int) : Int := if 0 < x then 1 else if x < 0 then -1 else 0
def Gp (a p : Int) : Prop := 0 < a ∨ a * a < p
def Gm (a p : Int) : Prop := 0 < a ∧ p < a * a
def Gt (a b u : Int) : Prop := (0 ≤ b ∧ Gp a (b * b * u)) ∨ (b < 0 ∧ Gm a (b * b * u))
def Lt (a b u : Int) : Prop := Gt (-a) (-b) u
end Z
namespace Z
open PySem PySem.Spec PyProof.Rows L2
end Z
namespace Z
open PySem PySem.Spec PyProof.Rows L2
end Z
namespace Z
open PySem PySem.Spec PyProof.Rows L2
end Z
namespace Z
open PySem PySem.Spec PyProof.Rows L2
theorem Ib.up {n : Nat} {x : Int} (h : Ib n x) : x < 2 ^ n ∧ -(2 ^ n) < x := by
  unfold Ib at h
  have : ((2 ^ n : Nat) : Int) = 2 ^ n := by simp
  rw [← this]
  generalize 2 ^ n = z at *
  omega
theorem big {S b f Q v x : Int} (hS : 2 ^ 199 ≤ S) (iS : Ib 200 S) (hb : 1 ≤ b) (hf : 0 ≤ f * Q) (if_ : Ib 70 (f * Q)) (hv : S * b - f * Q ≤ v) (ix : Ib 380 x) : (2 : Int) ^ 160 * 2 ^ 223 ≤ S * v + x := by
  obtain ⟨u1, _⟩ := if_.up
  obtain ⟨_, u2⟩ := ix.up
  have h1 := Int.mul_le_mul_of_nonneg_left hb (show 0 ≤ S by omega)
  have h2 : 2 ^ 198 ≤ v := by omega
  have h3 := Int.mul_le_mul hS h2 (by decide) (by omega)
  have h4 : (2 : Int) ^ 160 * 2 ^ 223 + 2 ^ 380 ≤ 2 ^ 199 * 2 ^ 198 := by decide
  omega
end Z
namespace Z
open PySem PySem.Spec PyProof.Rows L2

def TestOk (X : Cx) (t : Expr) (m : Value → Option Bool) : Prop :=
  ∀ (a : Addr) (oe : Obj) (pn pins : List (Addr × Obj)) (σ : L2.St) (H : Hp) (s : Shared) (b : Bool) (R : Bool → Shared → Prop) (E : Value → Shared → Prop),
    L2.Inv (X.suite a ((a, oe) :: pn)) pins σ H s → s.heap.get? a = some oe → m oe.cls = some b → (∀ h' t', (∀ q o, s.heap.get? q = some o → h'.get? q = some o) → R b { s with heap := h', toks := t' }) →
    wpAny (model X.prog X.w) (X.A.mark (some (.ref a))) (eval t X.env) (fun c s1 => wpAny (model X.prog X.w) (X.A.mark (some (.ref a))) (excMatches (.ref a) c) R E s1) E s
theorem ty_at {X : Cx} {h : Heap} {a : Addr} {oe : Obj} (e : h.get? a = some oe) : PySem.W.Looks (model X.prog X.w) h (typeOf (.ref a)) oe.cls := fun A Q E s k q => wpAny_typeOf_ref (k _ _ e) q
theorem test1 {X : Cx} {x : Str} {c : Value} {np : Pos} (hc : Names X x c) : TestOk X (.Name x np) fun cls => PySem.W.exmOne X.K cls c := fun a oe pn pins σ H s b R E I he hm k => by
  have LM := PySem.W.exm_one (M := model X.prog X.w) I.kIn (ty_at (X := X) he) hm
  have fin := k s.heap s.toks fun _ _ z => z
  obtain ⟨hg, hd, hm | ⟨hm, hv, hn⟩⟩ := hc
  · exact ld_glob (X := X.suite a ((a, oe) :: pn)) I hg hm (LM.here fin) hd
  · exact ld_blt (X := X.suite a ((a, oe) :: pn)) I hg hm hv (LM.here fin) hn hd
theorem test2 {X : Cx} {x y : Str} {c d : Value} {p1 p2 tp : Pos} {kk : Nat} (hx : Names X x c) (hy : Names X y d) : TestOk X (.Tuple [.Name x p1, .Name y p2] kk tp) fun cls => PySem.W.exmAny X.K cls [c, d] := fun a oe pn pins σ H s b R E I he hm k => by
  have ld : ∀ {z : Str} {u : Value} {pos : Pos} {Q : Value → Shared → Prop}, Names X z u → Q u s → wpAny (model X.prog X.w) (X.A.mark (some (.ref a))) (eval (.Name z pos) X.env) Q E s := fun {z u pos Q} hc q => by
    obtain ⟨hg, hd, hm | ⟨hm, hv, hn⟩⟩ := hc
    · exact ld_glob (X := X.suite a ((a, oe) :: pn)) I hg hm q hd
    · exact ld_blt (X := X.suite a ((a, oe) :: pn)) I hg hm hv q hn hd
  refine wpAny_Tuple (wpAny_items_cons (ld hx (wpAny_items_cons (ld hy (wpAny_items_nil ⟨by size_fits, ?_⟩)))))
  have kp : ∀ q o, s.heap.get? q = some o → (s.heap.push { cls := .type "tuple", data := .seq [c, d].toArray }).get? q = some o := fun _ _ z => Heap.get?_push_of_some _ z
  exact (PySem.W.exm_tup2 (I.kIn.keeps kp) ((ty_at (X := X) he).keeps kp) (Heap.get?_push_size s.heap rfl) hm).here (k _ s.toks kp)
theorem fly_keeps {B h h' : Heap} {l : List Env} {a : Addr} {Z : Obj → Prop} (f : HandSPX.FlyingZ B l a Z h) (k : ∀ b o, h.get? b = some o → h'.get? b = some o) : HandSPX.FlyingZ B l a Z h' := by
  obtain ⟨f1, f2, f3, oe, vs, T, oT, ts, he, hz, hd, h1, hn, hne, hT, hdT, h3⟩ := f
  exact ⟨fun b o q => k b o (f1 b o q), f2, f3.of_keeps fun b o q _ => ⟨o, k b o q, rfl⟩, oe, vs, T, oT, ts, k _ _ he, hz, hd, h1, hn, hne, k _ _ hT, hdT, h3⟩
structure Clause where
  m : Value → Option Bool
  i : Nat
  ts : Addr → Value → Option Addr → TS
inductive ClsOk (X : Cx) : List ExceptHandler → List Clause → Prop
  | nil : ClsOk X [] []
  | cons {t : Expr} {n : Str} {b₀ : Stmt} {suite : List Stmt} {pos : Pos} {hds : List ExceptHandler} {l : List Clause} {c : Clause} (ht : TestOk X t c.m) (hi : X.N[c.i]? = some n) (hl : X.env.kindOf n = some .local)
      (hs : ∀ (a : Addr) (oe : Obj) (cls : Value) (d : Option Addr) (pn : List (Addr × Obj)), Zc cls d oe → (∃ vs, oe.data = .fields vs) → PSs (X.suite a ((a, oe) :: pn)) (b₀ :: suite) (c.ts a cls d)) (r : ClsOk X hds l) :
      ClsOk X (.ExceptHandler (some t) (some n) (b₀ :: suite) pos :: hds) (c :: l)
def Ends.gone (D : Ends) (i : Nat) : Ends := { nx := fun σ H => D.nx (σ.set i none) H, rt := D.rt, bk := fun σ H => D.bk (σ.set i none) H, ct := fun σ H => D.ct (σ.set i none) H }
def wCls (Wout : WX) (D : Ends) : List Clause → WX
  | [] => Wout
  | c :: r => fun cls d σ H => ∃ b, c.m cls = some b ∧ (b = true → ∀ a, H a = none → c.ts a cls d (Ends.gone D c.i) (σ.set c.i (some (.ref a))) H) ∧ (b = false → wCls Wout D r cls d σ H)
section
variable {X : Cx} {Wout : WX} {D : Ends} {pins : List (Addr × Obj)} {σ : L2.St} {H : Hp} {sI : Shared} {a : Addr} {cls : Value} {d : Option Addr} {B : Heap}
structure Catch (X : Cx) (pins : List (Addr × Obj)) (σ : L2.St) (H : Hp) (sI s : Shared) (a : Addr) (cls : Value) (d : Option Addr) (B : Heap) : Prop where
  inv : L2.Inv X pins σ H sI
  nb : ∀ b o, sI.heap.get? b = some o → b ∉ frs X.stack → B.get? b = some o
  up : sI.heap.UpToSlots s.heap
  fly : HandSPX.FlyingZ B (X.env :: X.outer) a (Zc cls d) s.heap
  na : H a = none
  os : s.os = sI.os
  ag : AllBare s.gens
theorem Catch.now (c : Catch X pins σ H sI s a cls d B) : L2.Inv X pins σ H s := c.inv.landed c.nb c.fly.1 c.up c.os c.ag
theorem Catch.on {s : Shared} (c : Catch X pins σ H sI s a cls d B) {h' : Heap} {t' : Nat} (f : HandSPX.FlyingZ B (X.env :: X.outer) a (Zc cls d) h') (u : s.heap.UpToSlots h') : Catch X pins σ H sI { s with heap := h', toks := t' } a cls d B :=
  ⟨c.inv, c.nb, c.up.trans u, f, c.na, c.os, c.ag⟩
theorem Catch.obj {s : Shared} (c : Catch X pins σ H sI s a cls d B) (hf : X.env.frame = some X.env.locals) : ∃ oe, s.heap.get? a = some oe ∧ Zc cls d oe ∧ (∃ vs, oe.data = .fields vs) ∧ L2.Inv (X.suite a ((a, oe) :: (X.pn ++ pins))) [] σ H s := by
  obtain ⟨oe, vs, he, hz, hd⟩ := c.fly.there
  have nfr : a ∉ frs (X.env :: X.outer) := fun hm => by
    obtain ⟨_, o, e, hn⟩ := c.fly.2.2.1.mem hm
    rw [he] at e; cases e
    exact hn _ hd
  have nL : a ≠ X.env.locals := fun z => nfr (List.mem_filterMap.mpr ⟨X.env, List.mem_cons_self, by rw [hf, z]⟩)
  have nF : a ∉ X.fs := fun hm => by
    obtain ⟨e, h1, h2⟩ := List.mem_filterMap.mp hm
    exact nfr (List.mem_filterMap.mpr ⟨e, List.mem_cons_of_mem _ h1, h2⟩)
  exact ⟨oe, he, hz, ⟨vs, hd⟩, c.now.suite he hd c.na nL nF⟩
theorem Catch.out {s : Shared} (c : Catch X pins σ H sI s a cls d B) (hs : X.stack = X.env :: X.outer) (hf : X.env.frame = some X.env.locals) (tk : Takes X Wout) (w : Wout cls d σ H) {Q : Flow → Shared → Prop} :
    wpAny (model X.prog X.w) X.A (handleBy (.ref a) X.env []) Q X.xe s := by
  refine wpAny_handleBy_nil ?_
  obtain ⟨_, _, _, oe, vs, T, oT, ts, he, _, hd, h1, _⟩ := id c.fly
  have fin : wpAny (model X.prog X.w) X.A (setFlight (.ref a) X.env.frame) (fun _ s4 => wpAny (model X.prog X.w) X.A (throw (.ref a) : Sem Flow) Q X.xe s4) X.xe s := by
    rw [hf]
    exact HandSPX.setFlight_upZ c.fly fun h4 k4 u4 => wpAny_throw (tk _ _ ⟨a, B, sI, pins, σ, H, cls, d, rfl, c.inv, c.nb, c.up.trans u4, .inr (.inr (by rw [hs]; exact k4)), c.na, c.os, c.ag, w⟩)
  unfold PySem.passOn
  refine wpAny_bind (wpAny_field he hd h1 ?_)
  rw [if_neg (by simp)]
  first
    | exact wpAny_bind fin
    | exact wpAny_bind (wpAny_pure (wpAny_bind fin))
theorem clauses_run (hs : X.stack = X.env :: X.outer) (hf : X.env.frame = some X.env.locals) (hN : X.N.Nodup) (tk : Takes X Wout) {hds : List ExceptHandler} {l : List Clause} (k : ClsOk X hds l) :
    ∀ {s : Shared}, Catch X pins σ H sI s a cls d B → wCls Wout D l cls d σ H → wpAny (model X.prog X.w) X.A (handleBy (.ref a) X.env hds) (SP X pins D) X.xe s := by
  induction k with
  | nil => exact fun c w => c.out hs hf tk w
  | @cons t n b₀ suite pos hds l cl ht hi hl hsu r ih =>
    intro s c w
    obtain ⟨b, hb, yes, no⟩ := w
    obtain ⟨oe, he, hz, hd, S⟩ := c.obj hf
    refine wpAny_handleBy_cons (codeAny_handlers_test (ht a oe (X.pn ++ pins) [] σ H s b _ _ S he (by rw [hz.1]; exact hb) fun h1 t1 k1 => ?_)) (by intro q; cases q)
    have c1 : Catch X pins σ H sI { s with heap := h1, toks := t1 } a cls d B := c.on (fly_keeps c.fly k1) (Heap.UpToSlots.of_keeps k1)
    cases b with
    | false => exact ih c1 (no rfl)
    | true =>
      refine codeAny_handlers_suite_as (HandSPX.lands_againZ c1.fly fun h2 f2 u2 => ?_)
      have c2 : Catch X pins σ H sI { s with heap := h2, toks := t1 } a cls d B := c1.on (t' := t1) f2 u2
      obtain ⟨oe2, he2, hz2, hd2, S2⟩ := c2.obj hf
      refine store_ok (X := X.suite a ((a, oe2) :: (X.pn ++ pins))) (v := .ref a) S2 hN hi (.inl hl) rfl (fun s5 S5 => ?_) (.inr hl)
      refine wpAny_mono ((hsu a oe2 cls d (X.pn ++ pins) hz2 hd2).run [] s5 _ H (Ends.gone D cl.i) S5 (yes rfl a c.na)) (fun f s6 e6 => ?_) fun _ _ z => z.elim
      have bye : ∀ {σ6 : L2.St} {H6 : Hp} {Q : Shared → Prop}, L2.Inv (X.suite a ((a, oe2) :: (X.pn ++ pins))) [] σ6 H6 s6 → (∀ s7, L2.Inv X pins (σ6.set cl.i none) H6 s7 → Q s7) →
          wpAny (model X.prog X.w) X.A (do bindName X.env n .none; unbindBehindTheSuite X.env n pos) (fun _ s7 => Q s7) X.xe s6 := fun J q => gone_ok (J.unsuite c.inv.ok) hN hi hl q
      cases f with
      | ret u =>
        obtain ⟨v, σ6, H6, J, rv, q⟩ := e6
        exact bye J fun s7 J7 => ⟨v, _, H6, J7, rv, q⟩
      | next =>
        obtain ⟨σ6, H6, J, q⟩ := e6
        exact bye J fun s7 J7 => ⟨_, H6, J7, q⟩
      | brk =>
        obtain ⟨σ6, H6, J, q⟩ := e6
        exact bye J fun s7 J7 => ⟨_, H6, J7, q⟩
      | cont =>
        obtain ⟨σ6, H6, J, q⟩ := e6
        exact bye J fun s7 J7 => ⟨_, H6, J7, q⟩
end
theorem ps_tryN {X : Cx} {Wout : WX} {body : List Stmt} {hd : ExceptHandler} {hds : List ExceptHandler} {l : List Clause} {pos : Pos} {tb : WX → TS} (hs : X.stack = X.env :: X.outer) (hf : X.env.frame = some X.env.locals) (hN : X.N.Nodup) (tk : Takes X Wout)
    (hb : ∀ (W : WX) (pn : List (Addr × Obj)) (xe : Value → Shared → Prop), Takes (X.tr pn xe) W → PassesOwn (model X.prog X.w) X.A X.env xe → PSs (X.tr pn xe) body (tb W)) (k : ClsOk X (hd :: hds) l) :
    PS X (.Try body (hd :: hds) [] [] pos) (fun D σ H => tb (wCls Wout D l) D σ H) := by
  refine ⟨fun pins s σ H D I h => ?_⟩
  have ok := I.ok
  refine wpAny_Try_except ?_
  refine wpAny_mono ((hb (wCls Wout D l) (X.pn ++ pins) _ (fun u s' x => ?_) PassesOwn.looking).run [] s σ H D (I.toTry _) h) (fun f s1 e => ?_) fun e s1 x => x
  · obtain ⟨a, B, sI, pins', σ', H', cls, d, rfl, J, nb, up, sky, na, os, ag, w⟩ := x
    have sky' : Sky B (X.env :: X.outer) a (Zc cls d) X.env.locals s'.heap := by rw [← hs]; exact sky
    refine Sky.land Zc.steady (by rw [ok.frames, hs]) hf sky' fun h3 f3 u3 => ?_
    exact clauses_run hs hf hN tk k ⟨J.ofTry ok, nb, up.trans u3, f3, na, os, ag⟩ w
  · cases f with
    | ret u =>
      obtain ⟨v, σ1, H1, J, rv, q⟩ := e
      exact ⟨v, σ1, H1, J.ofTry ok, rv, q⟩
    | next =>
      obtain ⟨σ1, H1, J, q⟩ := e
      exact wpAny_execs_nil ⟨σ1, H1, J.ofTry ok, q⟩
    | brk =>
      obtain ⟨σ1, H1, J, q⟩ := e
      exact ⟨σ1, H1, J.ofTry ok, q⟩
    | cont =>
      obtain ⟨σ1, H1, J, q⟩ := e
      exact ⟨σ1, H1, J.ofTry ok, q⟩
end Z
namespace Z
open PySem PySem.Spec PyProof.Rows L2

section
variable {X : Cx} {B : Bs} {pos : Pos} {a b e : Expr} {fa fb : DTE}
theorem dt_eqU (hu : X.A.units + 65 < cLine) (ha : DE X B a fa) (hb : DE X B b fb) : DT X B (.Compare a [.Eq] [b] pos) (bin2T eqD fa fb) := dt_cmp (op_eq.or (op_eqD (by omega))) ok_eq (nomark _) ha hb
theorem dt_inU (hu : X.A.units + 65 < cLine) (ha : DE X B a fa) (hb : DE X B b fb) (hm : behindInMarks .In b = false := by rfl) : DT X B (.Compare a [.In] [b] pos) (bin2T inD fa fb) := dt_cmp (op_in_sign.or (op_in_seq.or (op_inD hu))) ok_in hm ha hb
end

theorem wd_xd {K : PySem.W.Frag} {M : Sto} {H G : Hp} {a : Addr} {fs : List (Str × V)} (w : Wd K M H G) (h : H a = some (.xd fs)) : M a = none := by
  cases q : M a with
  | none => rfl
  | some c =>
    have z := (w.cells a c q).2
    cases c with
    | lst l => obtain ⟨_, e, _⟩ := z; rw [h] at e; cases e
    | dic l => obtain ⟨_, e, _⟩ := z; rw [h] at e; cases e
    | dit l => obtain ⟨_, e, _⟩ := z; rw [h] at e; cases e
    | ins C l => obtain ⟨_, _, e, _⟩ := z; rw [h] at e; cases e
    | tab q => obtain ⟨_, e, _⟩ := z; rw [h] at e; cases e
structure XAt (K : PySem.W.Frag) (B : Bs) (x : XD) (cls : Value) (d : Option Addr) : Prop where
  rx : RepX K B.G B.H x cls d
  nm : ∀ dd, d = some dd → B.M dd = none
theorem XAt.now {K : PySem.W.Frag} {B : Bs} {x : XD} {cls : Value} {d : Option Addr} {r : En} {M : Sto} {σ : L2.St} {H G : Hp} (h : XAt K B x cls d) (R : Rel K B r M σ H G) : RepX K G H x cls d := by
  obtain ⟨e, dd, fvs, e1, e2, e3⟩ := h.rx
  exact ⟨e, dd, fvs, e1, R.sin.keep _ _ e2 (h.nm _ e1), e3.mono R.sin.gsub⟩
section
variable {X : Cx} {B : Bs} {pos : Pos} {e : Expr} {fa : DTE} {a : Addr} {oe : Obj} {x : XD} {cls : Value} {d : Option Addr} {n : Str}
theorem de_xf {K : PySem.W.Frag} (hp : (a, oe) ∈ X.pn) (hz : Zc cls d oe) (hf : ∃ vs, oe.data = .fields vs) (hx : XAt K B x cls d) (he : DE X B e fa) (hK : X.K = K := by rfl) (hb : attributeBase e n X.env (eval e X.env) = eval e X.env := by rfl) :
    DE X B (.Attribute e n pos) (fun r M Ψ => fa r M fun y M1 => y = .ref a ∧ XfC K x.1 ∧ NoAttr K x.1 n ∧ optK (x.2.lookup n) fun v => Ψ v M1) := by
  subst hK
  refine ⟨fun pins s σ H Q I ⟨r, M, G, Ψ, R, h, k⟩ => ?_⟩
  refine attr_of hb (thn (he.run pins s σ H (fun v H1 => ∃ M1 G1, v = .ref a ∧ Rel X.K B r M1 σ H1 G1 ∧ Sub G G1 ∧ XfC X.K x.1 ∧ NoAttr X.K x.1 n ∧ optK (x.2.lookup n) fun v => Ψ v M1) I ⟨r, M, G, _, R, h, fun y M1 v H1 G1 ⟨e1, e2, e3, e4⟩ R1 s1 p1 => ?_⟩) fun u s1 hh => ?_)
  · subst e1
    cases p1
    exact ⟨M1, G1, rfl, R1, s1, e2, e3, e4⟩
  · obtain ⟨v, H1, I1, rv, M1, G1, ev, R1, s1', e2, e3, e4⟩ := hh
    subst ev
    obtain rfl : u = Value.ref a := rv
    obtain ⟨y, ey, q⟩ := optK_some e4
    obtain ⟨ec, dd, fvs, ed, edd, rf⟩ := hx.now R1
    obtain ⟨w', hw, rw'⟩ := rf.look ey
    obtain ⟨ha, _⟩ := I1.pin (a, oe) (List.mem_append_left _ hp)
    obtain ⟨vs, hd⟩ := hf
    have T' := e2
    obtain ⟨mA, hns, hr⟩ := (I1.hok dd _ edd : ObjOk X.prog X.w H1 s1.heap dd (.xd fvs))
    obtain ⟨od, ho, hl⟩ := lookIn_ns hns
    obtain ⟨u, hu, ru⟩ := RelO.some_of (v := w') (o := mA n) (by rw [← hw]; exact hr n)
    have J : PySem.W.InstAt s1.heap a oe x.1 (some od) := ⟨ha, hz.1.trans ec, by unfold PySem.W.notCls; rw [hd] <;> rfl, by rw [hz.2, ed]; exact ho⟩
    exact HandSPX.exc_get I1.kIn J T'.ga T'.gg T'.exC (PySem.W.findObj_own T'.hdC e3 rfl (by rw [hl, hu])) (handed_of ru) ⟨w', H1, I1.tok _, ru, k _ _ _ _ _ q R1 s1' rw'⟩
end
section
variable {P : Program} {w : World} {K : PySem.W.Frag} {mg : Str → Option Value} {base : Heap} {k : Nat} {f : Addr} {fd : FuncData} {N ps : List Str} {x qual : Str} {st : Stmt} {dvs : List V} {kws : List (Str × V)}
structure FnP (P : Program) (w : World) (K : PySem.W.Frag) (mg : Str → Option Value) (base : Heap) (k : Nat) (f : Addr) (fd : FuncData) (ps : List Str) (c : Addr → XD → Ct) : Prop where
  run : ∀ (A : Around) (outer : List Env) (s : Shared) (H : Hp) (args : Args) (us : List Value) (vs : List V) (Q : VK) (p : Addr × Obj) (y : XD) (cls : Value) (d : Option Addr) (G : Hp) (M : Sto) (ds : List D) (Ψ : PD), L2H.RoomH k A → L2H.PinOk outer H s p → Env0 P w K mg base A outer s H →
    BindsTo s fd args (ps.zip us) → Vals vs us → Zc cls d p.2 → (∃ vs, p.2.data = .fields vs) → Wd K M H G → RepL K G ds vs → ds.length = ps.length → RepX K G H y cls d → c p.1 y ds M Ψ noX → Post K H G M Ψ Q →
    codeAny (model P w) A (.call (.ref f) args) (CR (L2.CX P w) outer P w H s Q (fun _ _ _ => False)) s
abbrev cxP (P : Program) (w : World) (K : PySem.W.Frag) (mg : Str → Option Value) (base : Heap) (N : List Str) (qual : Str) (scope : Scope) (f : Addr) (cd : Value) (A : Around) (outer : List Env) (s : Shared) (H : Hp) (p : Addr × Obj) : Cx := L2H.cxH (L2.CX P w) P w K mg base N qual scope f cd A outer s H (fun _ _ _ => False) p
theorem fnP (F : FnZ K x qual st dvs kws f fd) (S : FnScope N ps (defScope st)) (c : Addr → XD → Ct)
    (hb : ∀ (cdv : Value) (A : Around) (outer : List Env) (s : Shared) (H : Hp) (p : Addr × Obj) (y : XD) (cls : Value) (d : Option Addr) (B : Bs), (A.deeper (envOfC qual (defScope st) s.heap.objs.size f cdv)).units + 65 < cLine → Zc cls d p.2 → (∃ vs, p.2.data = .fields vs) → XAt K B y cls d →
      ∃ t, DSs (cxP P w K mg base N qual (defScope st) f cdv A outer s H p) B (defBody st) t ∧
        ∀ (ds : List D) (Ψ : PD), ds.length = ps.length → c p.1 y ds B.M Ψ noX → t { nx := fun _ M' => rtF B.M Ψ .non M', rt := rtF B.M Ψ } (ent N.length ds) B.M) :
    FnP P w K mg base 1 f fd ps c := by
  obtain ⟨oc, od, dV, kV, doc, pm, an, cdv, ct, osl, rfl, lk, hcd, _, _⟩ := F.ex
  refine ⟨fun A outer s H args us vs Q p y cls d G M ds Ψ hr hpin e0 hbd r hz hf wd rds hl rx hc post => ?_⟩
  have KX : K.In s.heap := e0.mod.kin.keeps fun b o e => (e0.bs b o e).1
  have lim : s.heap.NoLimit := e0.mod.nolimit.keeps fun b o e => (e0.bs b o e).1
  have hkind : ∀ y ∈ ps.zip us, (defScope st).names.lookup y.1 = some .local ∨ ((defScope st).names.lookup y.1 = some .cell ∧ ((cellsFrom (s.heap.objs.size + 1) (defScope st).names []).lookup y.1).isSome = true) := fun ⟨n, v⟩ hy => by
    rcases S.par n (List.of_mem_zip hy).1 with q | q
    · exact .inl q
    · exact .inr ⟨q, PySem.W.cellsFrom_some _ _ _ (.inl q)⟩
  refine codeAny_call_function hr.depth (KX _ _ lk) rfl S.co S.gen rfl (PySem.W.codeRec_of KX hcd) (hbd _ _ _ _ ?_)
  refine wpAny_newFunctionEnv_cells S.kind hkind fun env he s1 xx => ?_
  subst he
  refine ⟨lim.keeps xx.toInCall.keep, codeAny_func ?_⟩
  have hu : (A.deeper (envOfC qual (defScope st) s.heap.objs.size f cdv)).units + 65 < cLine := by
    have := hr.un
    show A.units + 3 + 65 < cLine
    omega
  obtain ⟨t, ht, q⟩ := hb cdv A outer s H p y cls d ⟨H, G, M⟩ hu hz hf ⟨rx, fun dd e => by
    obtain ⟨_, dd', fvs, e1, e2, _⟩ := rx
    rw [e] at e1; cases e1
    exact wd_xd wd e2⟩
  have I : L2.Inv (cxP P w K mg base N qual (defScope st) f cdv A outer s H p) [] (L2.start N vs) H s1 := L2H.inv_startH S hpin e0 (rds.length.symm.trans hl) r xx
  have end_ : ∀ (d : D) (r' : En) (M' : Sto) (v : V) (σ' : L2.St) (H' G' : Hp), rtF M Ψ d M' → Rel K ⟨H, G, M⟩ r' M' σ' H' G' → Rep K G' d v → Q v H' := fun d r' M' v σ' H' G' ⟨d', M'', fr, q⟩ R' p => by
    cases fr with
    | same => exact post _ _ _ _ _ q R'.wd R'.sin p
    | drop =>
      obtain ⟨w1, s1⟩ := frz_end R'.wd R'.sin
      exact post _ _ _ _ _ q w1 s1 (p.mono frzG_sub)
    | frz n =>
      obtain ⟨w1, s1⟩ := frz_end R'.wd R'.sin
      exact post _ _ _ _ _ q w1 s1 ((p.mono frzG_sub).sb (rep_frz R'.wd n))
  have hq : liftS K ⟨H, G, M⟩ t { nx := fun _ H' => Q .non H', rt := Q } (L2.start N vs) H := by
    refine ⟨ent N.length ds, M, G, _, rel_start wd rds, q ds Ψ hl hc, ⟨fun r' M' σ' H' G' q' R' s' => ?_, fun d r' M' v σ' H' G' q' R' p => end_ d r' M' v σ' H' G' q' R' p, fun _ _ _ _ _ q' _ _ => q'.elim, fun _ _ _ _ _ q' _ _ => q'.elim⟩⟩
    exact end_ .non r' M' .non σ' H' G' q' R' .non
  refine wpAny_mono (ht.run [] s1 (L2.start N vs) H _ I hq) (fun fl s' hs => ?_) fun e s' hs => hs
  have fin : ∀ {σ' : L2.St} {H' : Hp} {v : V} {u : Value}, L2.Inv (cxP P w K mg base N qual (defScope st) f cdv A outer s H p) [] σ' H' s' → RelV v u → Q v H' → CE outer P w H s Q u s' :=
    fun {σ' H' v u} J rv q => ⟨v, H', J.os, J.bare, J.base, J.hok, rv, q⟩
  cases fl with
  | ret u =>
    obtain ⟨v, σ', H', J, rv, q⟩ := hs
    exact fin J rv q
  | next =>
    obtain ⟨σ', H', J, q⟩ := hs
    exact fin (v := V.non) (u := Value.none) J rfl q
  | brk =>
    obtain ⟨_, _, _, q⟩ := hs
    exact q.elim
  | cont =>
    obtain ⟨_, _, _, q⟩ := hs
    exact q.elim
end
structure Hf (P : Program) (w : World) (K : PySem.W.Frag) (mg : Str → Option Value) (base : Heap) (x : Str) (c : Addr → XD → Ct) : Prop where
  ex : ∃ f fd ps, mg x = some (.ref f) ∧ PySem.W.keepIn K (.ref f) = true ∧ FnP P w K mg base 1 f fd ps c ∧ BindD K fd ps (Z.pos 1)
section
variable {X : Cx} {B : Bs} {pos p : Pos} {e : Expr} {ga : DTA} {a : Addr} {oe : Obj} {y : XD} {cls : Value} {d : Option Addr} {x : Str} {c : Addr → XD → Ct} {pn : List (Addr × Obj)}
theorem de_callP (F : Hf X.prog X.w X.K X.mg X.base x c) (hr : L2H.RoomH 1 X.A) (hz : Zc cls d oe) (hf : ∃ vs, oe.data = .fields vs) (hx : XAt X.K B y cls d) (ha : DA (X.suite a ((a, oe) :: pn)) B [e] ga) (hg : Gl X x := by rfl) (hdb : (x == ("__debug__" : Str)) = false := by decide)
    (he : starEach [e] X.env = (false, eval e X.env) :: starEach [] X.env := by rfl) (hpl : (backTo pos (starEach [] X.env)).any (·.1) = false := by rfl) :
    DE (X.suite a ((a, oe) :: pn)) B (.Call (.Name x p) [e] [] pos) (fun r M Ψ => ga r M fun ds M1 => ds.length = 1 ∧ c a y ds M1 Ψ noX) := by
  obtain ⟨f, fd, ps, hm, hk, FP, hb⟩ := F.ex
  refine ⟨fun pins s σ H Q I ⟨r, M, G, Ψ, R, h, k⟩ => ?_⟩
  refine wpAny_Call_Name_kw (ld_glob (X := X.suite a ((a, oe) :: pn)) I hg hm ?_ hdb)
  refine PySem.W.callWith_K (h₀ := X.base) I.ok.mod.kin hk (thn (ha.run pos pins s σ H (fun vs H1 => ∃ ds M1 G1, ds.length = 1 ∧ c a y ds M1 Ψ noX ∧ Rel X.K B r M1 σ H1 G1 ∧ Sub G G1 ∧ RepL X.K G1 ds vs) I ⟨r, M, G, _, R, h, fun ds M1 vs H1 G1 ⟨q1, q2⟩ R1 s1 p1 => ⟨ds, M1, G1, q1, q2, R1, s1, p1⟩⟩) fun us s1 ⟨vs, H1, I1, rv, ds, M1, G1, q1, q2, R1, s1', p1⟩ => ⟨I1.kIn, ?_⟩) he hpl
  obtain ⟨hl, gl, gV, kb, rel⟩ := hb
  have u1 : us.length = 1 := by rw [← rv.length, ← p1.length]; exact q1
  have P1 := I1.pin (a, oe) (List.mem_append_left _ List.mem_cons_self)
  have hpin : L2H.PinOk X.stack H1 s1 (a, oe) := ⟨P1.1, P1.2.1, fun hm => (List.mem_cons.mp (I1.stkSub a hm)).elim P1.2.2.1 P1.2.2.2.1, P1.2.2.2.2⟩
  have rr := rel G1 ds vs [] [] p1 .nil
  refine wpAny_call (codeAny_mono (FP.run (X.A.mark (some (.ref a))) X.stack s1 H1 ⟨us, []⟩ (gl us []) (gV vs []) Q (a, oe) y cls d G1 M1 ds Ψ ⟨hr.dp, hr.un⟩ hpin I1.env0 (kb.to s1 us [] I1.kIn u1 rfl) (kb.rel rv .nil) hz hf R1.wd rr (hl ds [] q1 rfl) (hx.now R1) q2 fun d' M' v H' G' q w s p => k _ _ _ _ _ q (R1.go w s) (s1'.tr s.gsub) p) fun fr s' hq => ?_)
  cases fr with
  | error e => exact LamX.takes0 e s' (XE.of_call I1 (W := fun _ _ _ _ => False) (fun _ _ _ h => h) hq)
  | ok fl =>
    cases fl with
    | ret u => exact I1.after hq
    | next => exact False.elim hq
    | brk => exact False.elim hq
    | cont => exact False.elim hq
end
end Z
namespace Z
open PySem PySem.Spec PyProof.Rows L2

def Bs.at (H G : Hp) (M : Sto) : Bs := ⟨H, G, M⟩
theorem Rel.here {K : PySem.W.Frag} {B : Bs} {r : En} {M : Sto} {σ : L2.St} {H G : Hp} (R : Rel K B r M σ H G) : Rel K (Bs.at H G M) r M σ H G := ⟨R.wd, R.len, R.slots, Since.refl⟩
theorem Rel.back {K : PySem.W.Frag} {B : Bs} {r r' : En} {M M' : Sto} {σ σ' : L2.St} {H G H' G' : Hp} (R : Rel K B r M σ H G) (R' : Rel K (Bs.at H G M) r' M' σ' H' G') : Rel K B r' M' σ' H' G' := ⟨R'.wd, R'.len, R'.slots, Since.trans R.wd R.sin R'.sin⟩
theorem EkOk.here {K : PySem.W.Frag} {B : Bs} {r : En} {M : Sto} {σ : L2.St} {H G : Hp} {E : Ek} {D : Ends} (k : EkOk K B G E D) (R : Rel K B r M σ H G) : EkOk K (Bs.at H G M) G E D :=
  ⟨fun r' M' σ' H' G' q R' s => k.nx _ _ _ _ _ q (R.back R') s, fun d r' M' v σ' H' G' q R' p => k.rt _ _ _ _ _ _ _ q (R.back R') p, fun r' M' σ' H' G' q R' s => k.bk _ _ _ _ _ q (R.back R') s, fun r' M' σ' H' G' q R' s => k.ct _ _ _ _ _ q (R.back R') s⟩
structure ClD where
  m : Value → Option Bool
  i : Nat
  fs : Addr → XD → DTS
inductive ClsD (X : Cx) : List ExceptHandler → List ClD → Prop
  | nil : ClsD X [] []
  | cons {t : Expr} {n : Str} {b₀ : Stmt} {suite : List Stmt} {pos : Pos} {hds : List ExceptHandler} {l : List ClD} {m : Value → Option Bool} {i : Nat} {fs : Addr → XD → DTS} (ht : TestOk X t m) (hi : X.N[i]? = some n) (hl : X.env.kindOf n = some .local)
      (hs : ∀ (a : Addr) (oe : Obj) (cls : Value) (d : Option Addr) (pn : List (Addr × Obj)) (B : Bs) (y : XD), Zc cls d oe → (∃ vs, oe.data = .fields vs) → XAt X.K B y cls d → DSs (X.suite a ((a, oe) :: pn)) B (b₀ :: suite) (fs a y)) (r : ClsD X hds l) :
      ClsD X (.ExceptHandler (some t) (some n) (b₀ :: suite) pos :: hds) (⟨m, i, fs⟩ :: l)
def Ek.gone (E : Ek) (i : Nat) : Ek := { nx := fun r M => E.nx (r.set i none) M, rt := E.rt, bk := fun r M => E.bk (r.set i none) M, ct := fun r M => E.ct (r.set i none) M }
theorem EkOk.gone {K : PySem.W.Frag} {B : Bs} {G : Hp} {E : Ek} {D : Ends} (k : EkOk K B G E D) (i : Nat) : EkOk K B G (E.gone i) (Ends.gone D i) :=
  ⟨fun _ _ _ _ _ q R s => k.nx _ _ _ _ _ q (R.unset i none) s, k.rt, fun _ _ _ _ _ q R s => k.bk _ _ _ _ _ q (R.unset i none) s, fun _ _ _ _ _ q R s => k.ct _ _ _ _ _ q (R.unset i none) s⟩
def clsD (Ξ : XD → En → Sto → Prop) (E : Ek) : List ClD → XD → En → Sto → Prop
  | [] => Ξ
  | c :: l => fun x r M => ∃ b, c.m (.ref x.1) = some b ∧ (b = true → ∀ a, M a = none → c.fs a x (E.gone c.i) (r.set c.i (some (.ref a))) M) ∧ (b = false → clsD Ξ E l x r M)
def ClD.up (K : PySem.W.Frag) (c : ClD) : Clause := ⟨c.m, c.i, fun a cls d D σ H => ∃ B y, XAt K B y cls d ∧ liftS K B (c.fs a y) D σ H⟩
theorem ClsD.ok {X : Cx} : ∀ {hds : List ExceptHandler} {l : List ClD}, ClsD X hds l → ClsOk X hds (l.map (ClD.up X.K))
  | _, _, .nil => .nil
  | _, _, .cons ht hi hl hs r => .cons ht hi hl (fun a oe cls d pn hz hf => ⟨fun pins s σ H D I ⟨B, y, hx, h⟩ => (hs a oe cls d pn B y hz hf hx).run pins s σ H D I h⟩) r.ok
theorem xat_here {K : PySem.W.Frag} {M : Sto} {H G : Hp} {x : XD} {cls : Value} {d : Option Addr} (w : Wd K M H G) (rx : RepX K G H x cls d) : XAt K (Bs.at H G M) x cls d := ⟨rx, fun dd e => by
  obtain ⟨_, dd', fvs, e1, e2, _⟩ := rx
  rw [e] at e1; cases e1
  exact wd_xd w e2⟩
section
variable {X : Cx} {B : Bs} {Ξ : XD → En → Sto → Prop} {E : Ek} {D : Ends} {G0 : Hp} {r0 : En} {M0 : Sto} {σ0 : L2.St} {H0 : Hp}
theorem cls_run (R : Rel X.K B r0 M0 σ0 H0 G0) (k : EkOk X.K B G0 E D) : ∀ (l : List ClD) (cls : Value) (d : Option Addr) (σ : L2.St) (H : Hp), wOf X.K (Bs.at H0 G0 M0) (clsD Ξ E l) cls d σ H → wCls (wOf X.K B Ξ) D (l.map (ClD.up X.K)) cls d σ H
  | [], cls, d, σ, H, ⟨x, r, M, G, q, R1, rx⟩ => ⟨x, r, M, G, q, R.back R1, rx⟩
  | c :: l, cls, d, σ, H, ⟨x, r, M, G, ⟨b, hb, yes, no⟩, R1, rx⟩ => by
    have ec : cls = .ref x.1 := rx.cls
    refine ⟨b, by rw [ec]; exact hb, fun e a na => ?_, fun e => cls_run R k l cls d σ H ⟨x, r, M, G, no e, R1, rx⟩⟩
    have R2 := (R.back R1)
    refine ⟨Bs.at H G M, x, xat_here R1.wd rx, r.set c.i (some (.ref a)), M, G, E.gone c.i, (R2.here).set .ref c.i, yes e a (R1.wd.nomem na), ?_⟩
    exact ((k.mono R1.sin.gsub).here R2).gone c.i
theorem ds_tryN {body : List Stmt} {hd : ExceptHandler} {hds : List ExceptHandler} {l : List ClD} {pos : Pos} {fb : (XD → En → Sto → Prop) → DTS} (hs : X.stack = X.env :: X.outer) (hf : X.env.frame = some X.env.locals) (hN : X.N.Nodup) (z : Zx X B Ξ)
    (hb : ∀ (B1 : Bs) (pn : List (Addr × Obj)) (xe : Value → Shared → Prop) (Ξ' : XD → En → Sto → Prop), Sub B.G B1.G → Zx (X.tr pn xe) B1 Ξ' → DSs (X.tr pn xe) B1 body (fb Ξ')) (k : ClsD X (hd :: hds) l) :
    DS X B (.Try body (hd :: hds) [] [] pos) (fun E r M => fb (clsD Ξ E l) E r M) := by
  refine PS_imp (ps_tryN (tb := fun W D σ H => ∃ (B1 : Bs) (Ξ' : XD → En → Sto → Prop), Sub B.G B1.G ∧ (∀ cls d σ H, wOf X.K B1 Ξ' cls d σ H → W cls d σ H) ∧ liftS X.K B1 (fb Ξ') D σ H) hs hf hN z.tk (fun W pn xe tk po => ⟨fun pins s σ H D I ⟨B1, Ξ', hS, hW, h⟩ => (hb B1 pn xe Ξ' hS ⟨tk.imp hW, po⟩).run pins s σ H D I h⟩) k.ok) fun D σ H h => ?_
  obtain ⟨r, M, G, E, R, q, kE⟩ := EkOk.of h
  exact ⟨Bs.at H G M, clsD Ξ E l, R.sin.gsub, cls_run R kE l, r, M, G, E, R.here, q, kE.here R⟩
end
structure Lam where
  q : Str
  params : Arguments
  body : Expr
  scope : Scope
  cl : List (Str × Addr)
def lamFd (l : Lam) (dV pm cdv ct : Value) : FuncData := { name := "<lambda>", qualname := l.q, params := l.params, body := .expr l.body, scope := l.scope, globals := mainGlobals, closure := l.cl, defaults := dV, kwdefaults := .none, doc := .none, pyModule := pm, annotations := none, code := cdv, closureTuple := ct, builtins := builtinsNs }
abbrev lamO (l : Lam) (dV pm ctv : Value) (c' : Addr) : Obj := { cls := .type "function", data := .func (lamFd l dV pm (.ref c') ctv) }
def lamQ (l : Lam) (ns : List Int) (G : Hp) (a : Addr) : Prop := ∃ (dV pm ctv : Value) (c' : Addr), G a = some (.ext fun h => h.get? a = some (lamO l dV pm ctv c')) ∧ G c' = some (LamX.CodeO c' l.q) ∧
  ((ns = [] ∧ dV = .none) ∨ ∃ T, ns ≠ [] ∧ dV = .ref T ∧ G T = some (.tup (ns.map V.int)))
section
variable {X : Cx} {pins : List (Addr × Obj)} {σ : L2.St} {H : Hp} {s : Shared}
theorem mk_fn {l : Lam} {dV pm ctv : Value} {c' : Addr} {h' : Heap} {t t' : Nat} (I : L2.Inv X pins σ H { s with heap := h', toks := t }) :
    L2.Inv X pins σ (upd H h'.objs.size (.ext fun h => h.get? h'.objs.size = some (lamO l dV pm ctv c'))) { s with heap := h'.push (lamO l dV pm ctv c'), toks := t' } :=
  I.laid (fun b u e => Heap.get?_push_of_some _ e) (Nat.le_refl _) ⟨Heap.get?_push_size _ rfl, ⟨_, Heap.get?_push_size _ rfl⟩, fun h1 h2 z st => st _ z⟩
theorem lam_tail {Kn : Addr → Prop} {l : Lam} {dV : Value} {P c : Addr} {ps : Array Value} {pos : Pos} {Q : Value → Shared → Prop} {E : Value → Shared → Prop} (I : L2.Inv X pins σ H s) (TB : LamX.TabB X.base X.mg c P) (hcode : X.env.code = .ref c) (hP : H P = some (.tbl ps)) (ht : TriplesOk ps.toList)
    (ha : ∀ (pos : Pos) (cv : Value), codeAmong pos ps.toList = some cv → ∃ c, cv = .ref c ∧ Kn c ∧ H c = some (LamX.CodeO c l.q)) (hcl : closureFor l.scope X.env = pure l.cl)
    (h : ∀ (f c' : Addr) (pm ctv : Value) (H1 : Hp) (s' : Shared), L2.Inv X pins σ (upd H1 f (.ext fun h => h.get? f = some (lamO l dV pm ctv c'))) s' → H1 f = none → H1 c' = some (LamX.CodeO c' l.q) →
      ((Kn c' ∧ H1 = H) ∨ (H c' = none ∧ H1 = upd (upd H P (.tbl (ps ++ #[rawInt pos.line, rawInt pos.col, .ref c']))) c' (LamX.CodeO c' l.q))) → Q (.ref f) s') :
    wpAny (model X.prog X.w) X.A (makeTail "<lambda>" l.q l.params (.expr l.body) l.scope X.env dV .none none pos pos.line) Q E s := by
  unfold makeTail
  rw [hcl, I.ok.glob]
  refine wpAny_bind (wpAny_pure ?_)
  have p1 : wpAny (model X.prog X.w) X.A (pure .none : Sem Value) (fun _ s1 => L2.Inv X pins σ H s1) E s := wpAny_pure I
  have p2 : ∀ its, wpAny (model X.prog X.w) X.A (newTextTuple its) (fun _ s1 => L2.Inv X pins σ H s1) E s := fun its => wpAny_newTextTuple (I.kept (t' := s.toks) fun b o e => Heap.get?_push_of_some _ e)
  cases hce : l.cl.isEmpty
  case' true =>
    simp only [if_true]
    refine wpAny_bind (wpAny_mono p1 (fun ctv s1 I1 => ?_) fun _ _ x => x)
  case' false =>
    simp only [Bool.false_eq_true, if_false]
    refine wpAny_bind (wpAny_mono (p2 _) (fun ctv s1 I1 => ?_) fun _ _ x => x)
  all_goals
    have hg := I1.mod.glob.keeps I1.bk
    obtain ⟨bm, ob, hbm, hne0, _, hneP, hbo, hcls, hdict, hdata⟩ := TB.bm.keeps I1.bk
    have hP' : s1.heap.get? P = some { cls := .none, data := .fields ps } := I1.hok P _ hP
    have C := TB.code.keeps I1.bk
    cases hc : codeAmong pos ps.toList with
    | some cv =>
      obtain ⟨c', rfl, hkn, hco⟩ := ha pos cv hc
      refine wpAny_bind (wpAny_functionCode_hit hcode (C.code hP' ht) hc ?_)
      refine wpAny_bind (wpAny_builtinsFor hg hbm hne0 hbo hcls hdict hdata ?_)
      refine wpAny_bind (wpAny_nsGet hg ?_)
      refine wpAny_bind (wpAny_pure (wpAny_newObj_type ?_ (by size_fits)))
      exact h _ c' _ ctv H _ (mk_fn (l := l) (t := s1.toks) I1) (I1.hok.fresh (Nat.le_refl _)) hco (.inl ⟨hkn, rfl⟩)
    | none =>
      refine wpAny_bind (wpAny_functionCodeX hcode (C.code hP' ht) (C.tab hP') hc fun c' h' tk hx hge hlt _ hrec htb _ => ?_)
      have hg' := hg.extBut hx TB.gP
      refine wpAny_bind (wpAny_builtinsFor hg' hbm hne0 (hx _ _ hneP hbo) hcls hdict hdata ?_)
      refine wpAny_bind (wpAny_nsGet hg' ?_)
      refine wpAny_bind (wpAny_pure (wpAny_newObj_type ?_ (by size_fits)))
      obtain ⟨c2, oc, vs, t, e2, hoc, hd, hv⟩ := hrec
      cases e2
      have nC : H c' = none := I1.hok.fresh hge
      have I2 := LamX.inv_table (t' := tk) (q := l.q) (more := #[rawInt pos.line, rawInt pos.col, .ref c']) I1 hP (fun b o hb e => hx b o hb e) htb.2 hge ⟨oc, vs, t, hoc, hd, hv⟩
      have nF : upd (upd H P (.tbl (ps ++ #[rawInt pos.line, rawInt pos.col, .ref c']))) c' (LamX.CodeO c' l.q) h'.objs.size = none := I2.hok.fresh (Nat.le_refl _)
      exact h _ c' _ ctv _ _ (mk_fn (l := l) (t := tk) I2) nF upd_same (.inr ⟨nC, rfl⟩)
end
theorem tab_put {K : PySem.W.Frag} {M : Sto} {H G : Hp} {P c' : Addr} {q : Str} {ps : Array Value} {pos : Pos} (w : Wd K M H G) (hM : M P = some (.tab q)) (hP : H P = some (.tbl ps)) (ht : TriplesOk ps.toList)
    (ha : ∀ (pos : Pos) (cv : Value), codeAmong pos ps.toList = some cv → ∃ c, cv = .ref c ∧ G c = some (LamX.CodeO c q)) (nC : H c' = none) :
    Wd K M (upd (upd H P (.tbl (ps ++ #[rawInt pos.line, rawInt pos.col, .ref c']))) c' (LamX.CodeO c' q)) (upd G c' (LamX.CodeO c' q)) ∧
    Since H G M M (upd (upd H P (.tbl (ps ++ #[rawInt pos.line, rawInt pos.col, .ref c']))) c' (LamX.CodeO c' q)) (upd G c' (LamX.CodeO c' q)) := by
  have gP : G P = none := (w.cells P _ hM).1
  have nPc : P ≠ c' := ne_of_none hP nC
  have gC : G c' = none := by
    cases e : G c' with
    | none => rfl
    | some o => rw [w.sub _ _ e] at nC; cases nC
  have sg : Sub G (upd G c' (LamX.CodeO c' q)) := fun a o e => by rw [upd_ne (ne_of_none e gC)]; exact e
  have old : ∀ a o, H a = some o → a ≠ P → upd (upd H P (.tbl (ps ++ #[rawInt pos.line, rawInt pos.col, .ref c']))) c' (LamX.CodeO c' q) a = some o := fun a o e n => by rw [upd_ne (ne_of_none e nC), upd_ne n]; exact e
  refine ⟨⟨fun a o e => ?_, fun a c e => ?_⟩, ⟨fun a o e n => old a o e (fun z => by rw [z, hM] at n; cases n), fun a e => ?_, sg, fun a e n => ?_, fun a e n => absurd n e⟩⟩
  · by_cases z : a = c'
    · rw [z, upd_same] at e ⊢; exact e
    · rw [upd_ne z] at e
      exact old a o (w.sub _ _ e) (fun y => by rw [y, gP] at e; cases e)
  · obtain ⟨h1, h2⟩ := w.cells a c e
    have nc : a ≠ c' := fun z => by rw [z] at h2; exact h2.there nC
    refine ⟨by rw [upd_ne nc]; exact h1, ?_⟩
    by_cases z : a = P
    · subst z
      rw [hM] at e
      cases e
      have eL : (ps ++ #[rawInt pos.line, rawInt pos.col, .ref c']).toList = ps.toList ++ [rawInt pos.line, rawInt pos.col, .ref c'] := by simp
      refine ⟨ps ++ #[rawInt pos.line, rawInt pos.col, .ref c'], by rw [upd_ne nPc, upd_same], by rw [eL]; exact PySem.TriplesOk_snoc _ _ _ _ ht, fun p' cv hcv => ?_⟩
      rw [eL] at hcv
      rcases LamX.among_app _ ht hcv with y | y
      · obtain ⟨c0, e1, e2⟩ := ha p' cv y
        exact ⟨c0, e1, sg _ _ e2⟩
      · exact ⟨c', y, upd_same⟩
    · exact h2.move sg fun o y => old a o y z
  · cases q : H a with
    | none => exact absurd q e
    | some o =>
      by_cases z : a = P
      · rw [z, upd_ne nPc, upd_same]; simp
      · rw [old a o q z]; simp
  · by_cases z : a = c'
    · rw [z]; exact nC
    · rw [upd_ne z] at e; exact absurd n e
structure LamOk (X : Cx) (l : Lam) : Prop where
  q : X.env.qual ++ "<lambda>" = l.q
  cl : l.cl = cloFrom X.env.cells l.scope.names []
  free : ∀ y ∈ l.scope.names, y.2 = .free → X.env.scope.names.lookup y.1 = some .cell ∨ X.env.scope.names.lookup y.1 = some .free
theorem LamOk.has {X : Cx} {l : Lam} (L : LamOk X l) (ok : X.Ok) : ∀ y ∈ l.scope.names, y.2 = .free → ∃ c, X.env.cells.lookup y.1 = some c := fun y hy e => by
  rcases L.free y hy e with k | k
  · exact ok.has _ (.inl k)
  · exact ok.has _ (.inr k)
section
variable {X : Cx} {B : Bs} {pos : Pos} {l : Lam} {P c : Addr}
theorem lam_core {pins : List (Addr × Obj)} {σ : L2.St} {H G : Hp} {s : Shared} {r : En} {M : Sto} {Q : VK} {dV : Value} {ns : List Int} (I : L2.Inv X pins σ H s) (R : Rel X.K B r M σ H G) (TB : LamX.TabB X.base X.mg c P) (hcode : X.env.code = .ref c) (L : LamOk X l) (hM : M P = some (.tab l.q))
    (hdv : (ns = [] ∧ dV = .none) ∨ ∃ T, ns ≠ [] ∧ dV = .ref T ∧ G T = some (.tup (ns.map V.int)))
    (hQ : ∀ v H' G', Rel X.K B r M σ H' G' → Sub G G' → Rep X.K G' (.fn (lamQ l ns)) v → Q v H') :
    wpAny (model X.prog X.w) X.A (makeTail "<lambda>" l.q l.params (.expr l.body) l.scope X.env dV .none none pos pos.line) (EP X pins σ Q) X.xe s := by
  obtain ⟨gP, ps, hP, ht, ha⟩ := R.wd.cells P _ hM
  refine lam_tail (Kn := fun c => G c = some (LamX.CodeO c l.q)) I TB hcode hP ht (fun pos cv e => let ⟨c, e1, e2⟩ := ha pos cv e; ⟨c, e1, e2, R.wd.sub _ _ e2⟩) (by rw [L.cl]; exact closure_ok (L.has I.ok)) fun f c' pm ctv H1 s' I' nF hC hH => ?_
  have fin : ∀ G1, Rel X.K B r M σ H1 G1 → Sub G G1 → G1 c' = some (LamX.CodeO c' l.q) → EP X pins σ Q (.ref f) s' := fun G1 R1 s1 e1 => by
    have g := grow_upd (o := .ext fun h => h.get? f = some (lamO l dV pm ctv c')) R1.wd.sub nF
    have nG : G1 f = none := by
      cases q : G1 f with
      | none => rfl
      | some o => rw [R1.wd.sub _ _ q] at nF; cases nF
    refine ⟨.ref f, _, I', rfl, hQ _ _ _ (R1.grow g) (s1.tr g.gsub) (.fn Sub.rfl' ⟨dV, pm, ctv, c', upd_same, g.gsub _ _ e1, hdv.imp id fun ⟨T, a, b, d⟩ => ⟨T, a, b, g.gsub _ _ (s1 _ _ d)⟩⟩)⟩
  rcases hH with ⟨kn, e⟩ | ⟨nC, e⟩
  · subst e
    exact fin G R Sub.rfl' kn
  · subst e
    obtain ⟨w1, s1⟩ := tab_put (pos := pos) R.wd hM hP ht ha nC
    exact fin _ (R.go w1 s1) s1.gsub upd_same
end
end Z
namespace Z
open PySem PySem.Spec PyProof.Rows L2

section
variable {X : Cx} {B : Bs} {pos p1 : Pos} {l : Lam} {P c : Addr}
theorem de_lam {q : Str} {params : Arguments} {body : Expr} {scope : Scope} {cl : List (Str × Addr)} (TB : LamX.TabB X.base X.mg c P) (hcode : X.env.code = .ref c) (L : LamOk X ⟨q, params, body, scope, cl⟩) (hdef : defaultsOf params X.env = ([], [])) :
    DE X B (.Lambda params body scope pos) (fun _ M Ψ => M P = some (.tab q) ∧ Ψ (.fn (lamQ ⟨q, params, body, scope, cl⟩ [])) M) := by
  refine ⟨fun pins s σ H Q I ⟨r, M, G, Ψ, R, ⟨hM, h⟩, k⟩ => ?_⟩
  have Lq : X.env.qual ++ "<lambda>" = q := L.q
  refine PySem.W.kla_eval hdef ?_
  rw [makeFunction_eq, Lq]
  simp only [List.zip_nil_right, List.filterMap_nil, List.isEmpty_nil, if_true, pure_bind]
  exact lam_core (l := ⟨q, params, body, scope, cl⟩) I R TB hcode L hM (.inl ⟨rfl, rfl⟩) fun v H' G' R' s' p => k _ _ _ _ _ h R' s' p
theorem de_lam1 {q : Str} {params : Arguments} {body : Expr} {scope : Scope} {cl : List (Str × Addr)} {n : Int} {j} (TB : LamX.TabB X.base X.mg c P) (hcode : X.env.code = .ref c) (L : LamOk X ⟨q, params, body, scope, cl⟩) (hdef : defaultsOf params X.env = ([eval (.Constant (.int n) j p1) X.env], [])) :
    DE X B (.Lambda params body scope pos) (fun _ M Ψ => M P = some (.tab q) ∧ Ψ (.fn (lamQ ⟨q, params, body, scope, cl⟩ [n])) M) := by
  refine ⟨fun pins s σ H Q I ⟨r, M, G, Ψ, R, ⟨hM, h⟩, k⟩ => ?_⟩
  rw [arm_eval_Lambda, hdef]
  have Lq : X.env.qual ++ "<lambda>" = q := L.q
  show wpAny _ _ (do
    let dv ← (do
      let v ← eval (.Constant (.int n) j p1) X.env
      return v :: (← holding [v] (evalAll [])))
    let kdv ← holding dv (evalAllOpt [])
    makeFunction "<lambda>" (X.env.qual ++ "<lambda>") params (.expr body) scope X.env dv kdv [] pos pos.line) _ _ _
  refine wpAny_bind (wpAny_bind (thn (pe_int.run pins s σ H (fun v H1 => v = .int n ∧ H1 = H) I ⟨rfl, rfl⟩) fun u s1 ⟨v, H1, I1, ru, ev, eH⟩ => ?_))
  subst ev eH
  refine wpAny_bind (wpAny_holding (wpAny_pure (wpAny_pure (wpAny_bind (wpAny_holding (wpAny_pure ?_))))))
  rw [makeFunction_eq, Lq]
  simp only [List.zip_nil_right, List.filterMap_nil, List.isEmpty_nil, List.isEmpty_cons, Bool.false_eq_true, if_false, if_true, pure_bind]
  refine wpAny_bind (wpAny_newTextTuple ?_)
  have hf : H1 s1.heap.objs.size = none := I1.hok.fresh (Nat.le_refl _)
  have I2 : L2.Inv X pins σ (upd H1 s1.heap.objs.size (.tup [.int n])) { s1 with heap := s1.heap.push { cls := .type "tuple", data := .seq [u].toArray } } :=
    I1.laid (t' := s1.toks) (fun b u e => Heap.get?_push_of_some _ e) (Nat.le_refl _) ⟨by show 1 ≤ sizeLine; decide, [u], .cons ru .nil, ⟨_, Heap.get?_push_size _ rfl, rfl, _, rfl⟩⟩
  have g := grow_upd (o := .tup [.int n]) R.wd.sub hf
  exact lam_core (l := ⟨q, params, body, scope, cl⟩) I2 (R.grow g) TB hcode L hM (.inr ⟨_, List.cons_ne_nil _ _, rfl, upd_same⟩) fun v H' G' R' s' p => k _ _ _ _ _ h R' (g.gsub.tr s') p
end
structure LamT (X : Cx) (l : Lam) (ps : List Str) : Prop where
  kind : l.scope.kind = .function
  co : l.scope.isCoroutine = false
  gen : l.scope.isGenerator = false
  nocell : ∀ y ∈ l.scope.names, y.2 ≠ .cell
  loc : ∀ y ∈ X.N, l.scope.names.lookup y ≠ some .local
  par : ∀ y ∈ ps, l.scope.names.lookup y = some .local
  bind : (ps = [] ∧ ∀ pm cv ctv, bindArgs (lamFd l .none pm cv ctv) ⟨[], []⟩ = pure []) ∨ (ps ≠ [] ∧ ∀ (T : Addr) (pm cv ctv : Value) (its : List Value), its.length = ps.length →
    ∃ k, bindArgs (lamFd l (.ref T) pm cv ctv) ⟨[], []⟩ = seqItems? (.ref T) >>= k ∧ k (some its.toArray) = pure (ps.zip its))
section
variable {X : Cx} {pins : List (Addr × Obj)} {σ : L2.St} {H HZ : Hp} {s s1 : Shared} {l : Lam} {ps : List Str}
theorem lam_start {A : Around} {outer : List Env} {E : XK} {f c' : Addr} {h₁ : Heap} {tk : Nat} {m : Str → Option Value} (I : L2.Inv X pins σ H s) (L : LamOk X l) (T : LamT X l ps) (e0 : Env0 X.prog X.w X.K X.mg X.base A outer s1 HZ) (hd : A.handled = none)
    (un : Un (frs X.stack) [] H HZ s.heap s1.heap) (hns : h₁.Ns s1.heap.objs.size m) (kp : ∀ b o, s1.heap.get? b = some o → h₁.get? b = some o) :
    L2.Inv (LamX.lamCx X A outer s1 HZ E l.scope f c') [] σ HZ { s1 with heap := h₁, toks := tk } := by
  have hfree := L.has I.ok
  have same : ∀ {y c}, (cloFrom X.env.cells l.scope.names []).lookup y = some c → X.env.cells.lookup y = some c := fun {y c} e => by
    rcases cloFrom_mem (PySem.mem_of_lookup e) with z | ⟨h1, h2⟩
    · cases z
    · obtain ⟨c1, hc⟩ := hfree _ h1 rfl
      have hc : X.env.cells.lookup y = some c1 := hc
      rw [hc] at h2 ⊢
      rw [h2]; rfl
  have look : ∀ {y}, l.scope.names.lookup y = some .free → ∃ c, (cloFrom X.env.cells l.scope.names []).lookup y = some c := fun {y} hl => by
    have hy : (y, NameKind.free) ∈ l.scope.names := PySem.mem_of_lookup hl
    exact mem_lookup (cloFrom_has (cells := X.env.cells) (acc := []) hy)
  have cell : ∀ {c : Addr} {v : Option Value}, H c = none → s.heap.IsCell c v → h₁.IsCell c v := fun {c v} n ⟨o, ho, hd⟩ => by
    obtain ⟨sl, q⟩ := un.any ho n (by simp)
    exact ⟨_, kp _ _ q, hd⟩
  have nex : ∀ b : Addr, b ∉ (LamX.lamCx X A outer s1 HZ E l.scope f c').ex := fun b z => absurd (show b ∈ ([] : List Addr) from z) (by simp)
  have ok : (LamX.lamCx X A outer s1 HZ E l.scope f c').Ok := by
    refine ⟨e0.mod, T.kind, rfl, rfl, Nat.le_refl _, fun y z c e1 e2 => I.ok.inj y z c (same e1) (same e2), fun y hy => ?_, fun y c z _ => Bool.noConfusion (show false = true from z), fun _ => hd, Around.frames_deeper e0.frames, .inr ⟨rfl, rfl⟩, fun b z => absurd z (nex b), e0.bs, e0.bsz, fun b _ _ => nex b, fun b z => absurd z (nex b), e0.funs, e0.frf⟩
    have hy : l.scope.names.lookup y = some .cell ∨ l.scope.names.lookup y = some .free := hy
    rcases hy with hy | hy
    · exact absurd rfl (T.nocell _ (PySem.mem_of_lookup hy))
    · exact look hy
  refine ⟨ok, rfl, e0.bare, Un.kept kp, ⟨_, hns, fun i y v e1 e2 e3 => ?_⟩, fun y c e => ?_, e0.hok.fresh (Nat.le_refl _), fun y c e => ?_, fun q hq => absurd (show q ∈ ([] : List (Addr × Obj)) ++ [] from hq) (by simp), e0.hok.kept kp, I.len⟩
  · have e3 : Vis l.scope y := e3
    rcases e3 with k | k | k
    · exact absurd k (T.loc y (List.mem_of_getElem? e1))
    · exact absurd rfl (T.nocell _ (PySem.mem_of_lookup k))
    · obtain ⟨m0, hn, hl⟩ := I.loc
      have hv : Vis X.env.scope y := (L.free _ (PySem.mem_of_lookup k) rfl).elim (fun z => .inr (.inl z)) fun z => .inr (.inr z)
      obtain ⟨w', r, q⟩ := hl i y v e1 e2 hv
      obtain ⟨c2, h2⟩ := look k
      refine ⟨w', r, .inr ⟨.inr k, c2, h2, ?_⟩⟩
      have c1 := same h2
      rcases q with ⟨k', _⟩ | ⟨_, c3, e', z⟩
      · have k' : X.env.scope.names.lookup y = some .local := k'
        rcases L.free _ (PySem.mem_of_lookup k) rfl with k2 | k2 <;> rw [show X.env.scope.names.lookup y = _ from k2] at k' <;> cases k'
      · rw [c1] at e'
        cases e'
        exact cell (I.freeC y _ c1) z
  · obtain ⟨w', z⟩ := I.cell y c (same e)
    exact ⟨w', cell (I.freeC y c (same e)) z⟩
  · obtain ⟨v, o, ho, hd⟩ := I.cell y c (same e)
    exact un.free c o ho (I.freeC y c (same e)) (by simp)
end
def LamBody (X : Cx) (k : Nat) (l : Lam) (t : (XD → En → Sto → Prop) → DTE) : Prop := ∀ (A : Around) (outer : List Env) (s : Shared) (H : Hp) (E : XK) (f c' : Addr) (B : Bs) (Ξ : XD → En → Sto → Prop), Room k (A.deeper (LamX.lamEnv X l.scope s.heap.objs.size f c')) →
  Zx (LamX.lamCx X A outer s H E l.scope f c') B Ξ → DE (LamX.lamCx X A outer s H E l.scope f c') B l.body (t Ξ)
def ActOk (X : Cx) (B : Bs) (q : L2.Hp → Addr → Prop) (beh : Sto → PD → (XD → Sto → Prop) → Prop) : Prop := ∀ (a : Str) (pn : List (Addr × Obj)) (xe : Value → Shared → Prop) (B1 : Bs) (Ξ : XD → En → Sto → Prop) (p1 p2 : Pos), X.N[0]? = some a → Vis X.env.scope a → (a == ("__debug__" : Str)) = false → (a == ("__classdict__" : Str)) = false →
  Sub B.G B1.G → Zx (X.tr pn xe) B1 Ξ → DE (X.tr pn xe) B1 (.Call (.Name a p1) [] [] p2) (fun r M Ψ => getS r 0 (fun d => d = .fn q) ∧ ∃ Ψ' Ξ', beh M Ψ' Ξ' ∧ (∀ d M', Ψ' d M' → Ψ d M') ∧ ∀ x M', Ξ' x M' → Ξ x r M')
section
variable {X : Cx} {pins : List (Addr × Obj)} {σ : L2.St} {H G : Hp} {s : Shared} {l : Lam} {ps : List Str} {ns : List Int} {B : Bs} {r : En} {M : Sto} {k : Nat} {t : (XD → En → Sto → Prop) → DTE} {Ng : List Str} {qg : Str} {sg : Scope} {g : Addr} {cdg : Value} {Eg : XK} {CXg : CXT}
theorem act_ok (I : L2.Inv X pins σ H s) (R : Rel X.K B r M σ H G) (L : LamOk X l) (T : LamT X l ps) (hn : ns.length = ps.length) (hr : Room (k + 1) (X.A.deeper (envOfC qg sg s.heap.objs.size g cdg))) (hb : LamBody X k l t) :
    ActOk (cxOf CXg X.prog X.w X.K X.mg X.base Ng qg sg g cdg X.A X.stack s H Eg) (Bs.at H G M) (lamQ l ns) (fun MZ Ψ Ξ => t (fun x _ M' => Ξ x M') r MZ Ψ) := by
  intro a pn xe B1 Ξ p1 p2 hN hv hd hcd hG z
  refine ⟨fun pinsZ sZ σZ HZ Q IZ ⟨rZ, MZ, GZ, Ψ, RZ, hs, kk⟩ => ?_⟩
  obtain ⟨d, ed, ed2, Ψ', Ξ', ht, hΨ, hΞ⟩ := (show ∃ d, rZ[0]? = some (some d) ∧ d = .fn (lamQ l ns) ∧ ∃ (Ψ' : PD) (Ξ' : XD → Sto → Prop), t (fun x _ M' => Ξ' x M') r MZ Ψ' ∧ (∀ d M', Ψ' d M' → Ψ d M') ∧ ∀ x M', Ξ' x M' → Ξ x rZ M' from by
    obtain ⟨h1, h2⟩ := hs
    obtain ⟨d, e, e2⟩ := getS_some h1
    exact ⟨d, e, e2, h2⟩)
  subst ed2
  obtain ⟨v, ev, pv⟩ := RZ.slots _ _ ed
  cases pv with
  | @fn _ f G0 hsub hq =>
    obtain ⟨dV, pm, ctv, c', hf, hc, hdv⟩ := hq
    refine wpAny_Call_Name_kw (thn ((pe_var (X := (cxOf CXg X.prog X.w X.K X.mg X.base Ng qg sg g cdg X.A X.stack s H Eg).tr pn xe) (pos := p1) (i := 0) hN hv hd hcd).run pinsZ sZ σZ HZ (fun v H1 => v = .ref f ∧ H1 = HZ) IZ ⟨.ref f, ev, rfl, rfl⟩) fun u s1 ⟨v, H1, I1, r1, q1⟩ => ?_)
    obtain ⟨ev', eH⟩ := q1
    subst ev'
    rw [eH] at I1
    obtain rfl : u = Value.ref f := r1
    have of1 : s1.heap.get? f = some (lamO l dV pm ctv c') := (I1.hok f _ (RZ.wd.sub _ _ (hsub _ _ hf))).1
    refine PySem.W.callWith_F0 ⟨_, _, _, _, of1⟩ ?_
    have un : Un (frs X.stack) [] H HZ s.heap s1.heap := I1.base
    obtain ⟨⟨oc, vs, tq, hoc, hdc, hvc⟩, _, _⟩ := I1.hok c' _ (RZ.wd.sub _ _ (hsub _ _ hc))
    let E : XK := fun cls d H' => ∃ x M' G', Ξ' x M' ∧ Wd X.K M' H' G' ∧ Since HZ GZ MZ M' H' G' ∧ RepX X.K G' H' x cls d
    have RB : Rel X.K (Bs.at HZ GZ MZ) r MZ σ HZ GZ := ⟨RZ.wd, R.len, fun i d e => let ⟨v, h1, h2⟩ := R.slots i d e; ⟨v, h1, h2.mono (hG.tr RZ.sin.gsub)⟩, Since.refl⟩
    have hbd : BindsTo s1 (lamFd l dV pm (.ref c') ctv) ⟨[], []⟩ (ps.zip (ps.map fun _ => Value.none)) ∨ ∃ its : List Value, its.length = ps.length ∧ BindsTo s1 (lamFd l dV pm (.ref c') ctv) ⟨[], []⟩ (ps.zip its) := by
      rcases T.bind with ⟨e, h⟩ | ⟨e, h⟩
      · subst e
        rcases hdv with ⟨_, e2⟩ | ⟨T', e2, _⟩
        · subst e2
          exact .inl (.of_eq (h pm (.ref c') ctv))
        · exact absurd (List.length_eq_zero_iff.mp hn) e2
      · rcases hdv with ⟨e1, _⟩ | ⟨T', e1, e2, e3⟩
        · subst e1
          exact absurd (List.length_eq_zero_iff.mp hn.symm) e
        · subst e2
          obtain ⟨_, its, rv, o, ho, hcl, n, hdt⟩ := I1.hok T' _ (RZ.wd.sub _ _ (hsub _ _ e3))
          have hl : its.length = ps.length := by rw [← rv.length, List.length_map]; exact hn
          obtain ⟨kb, k1, k2⟩ := h T' pm (.ref c') ctv its hl
          refine .inr ⟨its, hl, fun M0 A0 Q0 E0 q => ?_⟩
          rw [k1]
          refine wpAny_bind (wpAny_seqItems ho hdt ?_)
          rw [k2]
          exact wpAny_pure q
    have par : ∀ {its : List Value}, ∀ y ∈ ps.zip its, l.scope.names.lookup y.1 = some .local := fun {its} y hy => T.par _ (List.of_mem_zip hy).1
    have rc : codeAny (model X.prog X.w) (X.A.deeper (envOfC qg sg s.heap.objs.size g cdg)) (.call (.ref f) ⟨[], []⟩) (CR (L2.CX X.prog X.w) (envOfC qg sg s.heap.objs.size g cdg :: X.stack) X.prog X.w HZ s1 Q E) s1 := by
      obtain ⟨binds, hbinds, hpar⟩ : ∃ binds, BindsTo s1 (lamFd l dV pm (.ref c') ctv) ⟨[], []⟩ binds ∧ ∀ y ∈ binds, l.scope.names.lookup y.1 = some .local := by
        rcases hbd with h | ⟨its, _, h⟩
        · exact ⟨_, h, par⟩
        · exact ⟨_, h, par⟩
      refine PySem.W.kla_callFunE hr.depth of1 rfl T.co T.gen rfl ⟨c', oc, vs, tq, rfl, hoc, hdc, hvc⟩ ?_
      refine hbinds _ _ _ _ ?_
      refine wpAny_newFunctionEnv T.nocell hpar (fun h₁ hns hsb => ⟨I1.nolimit.fresh _ hsb, ?_⟩) T.kind
      have kp : ∀ b o, s1.heap.get? b = some o → h₁.get? b = some o := fun b o e => hsb.extBut b o (Nat.ne_of_lt (Heap.lt_size e)) (Heap.get?_push_of_some _ e)
      have J := lam_start (E := E) (f := f) (c' := c') (tk := s1.toks + binds.length) I L T I1.env0 hr.hd un hns kp
      have zb : Zx (LamX.lamCx X (X.A.deeper (envOfC qg sg s.heap.objs.size g cdg)) (envOfC qg sg s.heap.objs.size g cdg :: X.stack) s1 HZ E l.scope f c') (Bs.at HZ GZ MZ) (fun x _ M' => Ξ' x M') :=
        ⟨(takes_of rfl rfl rfl rfl).imp fun cls d σ' H' ⟨x, r', M', G', q, R', rx⟩ => ⟨x, M', G', q, R'.wd, R'.sin, rx⟩, passes_of rfl⟩
      have pb := hb (X.A.deeper (envOfC qg sg s.heap.objs.size g cdg)) (envOfC qg sg s.heap.objs.size g cdg :: X.stack) s1 HZ E f c' (Bs.at HZ GZ MZ) _ (hr.deeper _) zb
      have e1 : PySem.W.envX (X.env.qual ++ "<lambda>") l.scope s1.heap.objs.size f (.ref c') (cloFrom X.env.cells l.scope.names []) = newEnv l.scope s1.heap.objs.size mainGlobals l.cl (l.q ++ ".<locals>.") (some f) (.ref c') none builtinsNs := by
        rw [L.q, L.cl]; rfl
      show codeAny _ _ (.expr l.body (newEnv l.scope s1.heap.objs.size mainGlobals l.cl (l.q ++ ".<locals>.") (some f) (.ref c') none builtinsNs)) _ _
      rw [← e1]
      refine PySem.W.kla_codeExpr (wpAny_mono (pb.run [] _ _ HZ Q J ⟨r, MZ, GZ, Ψ', RB, ht, fun d' M' v H' G' q R' s' p => ?_⟩) (fun v s' hq => ?_) fun e s' hq => hq)
      · exact kk _ _ _ _ _ (hΨ _ _ q) (RZ.go R'.wd R'.sin) s' p
      · obtain ⟨w', H', J', rv, q⟩ := hq
        exact ⟨w', H', J'.os, J'.bare, J'.base, J'.hok, rv, q⟩
    refine wpAny_call (codeAny_mono rc fun fr s' hq => ?_)
    cases fr with
    | error e => exact z.tk e s' (XE.of_call I1 (W := wOf X.K B1 Ξ) (fun cls d H' ⟨x, M', G', q, w, sn, rx⟩ => ⟨x, rZ, M', G', hΞ _ _ q, RZ.go w sn, rx⟩) hq)
    | ok fl =>
      cases fl with
      | ret u => exact I1.after hq
      | next => exact False.elim hq
      | brk => exact False.elim hq
      | cont => exact False.elim hq
end
end Z
namespace Z
open PySem PySem.Spec PyProof.Rows L2

def fldN (t : Str) : Option Str :=
  if t ∈ (["InvalidWord", "InvalidRing", "InvalidRoom", "InvalidCount", "InvalidIndex", "InvalidBound", "InvalidLimit"] : List Str) then some "given"
  else if t ∈ (["TooLong", "TooGreat", "TooManyRooms"] : List Str) then some "most"
  else if t ∈ (["InvalidName", "DuplicateName", "UnknownName"] : List Str) then some "name"
  else if t = ("InvalidProgram" : Str) then some "path"
  else if t = ("CapacityExceeded" : Str) then some "limit"
  else if t = ("InvalidCommand" : Str) then some "word"
  else if t = ("InUse" : Str) then some "user"
  else if t = ("ParseError" : Str) then some "line"
  else none
def wfX (K : PySem.W.Frag) (x : XD) (φ : Str → D → Prop) : Prop := ∃ t, x.2.lookup ("tag" : Str) = some (D.str t) ∧ XfC K x.1 ∧ NoAttr K x.1 "tag" ∧ match fldN t with
  | some n => NoAttr K x.1 n ∧ ∃ v, x.2.lookup n = some v ∧ φ t v
  | none => φ t .non
def whyX (K : PySem.W.Frag) (x : XD) (φ : Str → D → Prop) : Prop := ∃ b, PySem.W.exmAny K (.ref x.1) [.ref (He.ga K "MillError"), .ref (He.ga K "Missing")] = some b ∧ (b = true → wfX K x φ) ∧
  (b = false → PySem.W.exmOne K (.ref x.1) (.ref (He.ga K "NothingLeft")) = some true ∧ ∃ t, x.2.lookup ("tag" : Str) = some (D.str t) ∧ XfC K x.1 ∧ NoAttr K x.1 "tag" ∧ φ t .non)
abbrev whyΨ (Ψ : PD) : PD := fun d M' => Ψ (.tup [.str "", d]) M'
abbrev whyΞ (K : PySem.W.Frag) (Ψ : PD) : XD → Sto → Prop := fun x M' => whyX K x fun t v => Ψ (.tup [.str t, v]) M'
structure WhyOk (P : Program) (w : World) (K : PySem.W.Frag) (mg : Str → Option Value) (base : Heap) (x : Str) (k : Nat) : Prop where
  ex : ∃ (f : Addr) (fd : FuncData) (N : List Str) (a qual : Str) (st : Stmt), mg x = some (.ref f) ∧ PySem.W.keepIn K (.ref f) = true ∧ FnZ K x qual st [] [] f fd ∧ FnScope N [a] (defScope st) ∧ BindD K fd [a] (Z.pos 1) ∧
    ∀ (cdv : Value) (A : Around) (outer : List Env) (s : Shared) (H : Hp) (E : XK) (B : Bs) (q : L2.Hp → Addr → Prop) (beh : Sto → PD → (XD → Sto → Prop) → Prop), Room k (A.deeper (envOfC qual (defScope st) s.heap.objs.size f cdv)) →
      Zx (cxOf (L2.CX P w) P w K mg base N qual (defScope st) f cdv A outer s H E) B (exF B.M noX) → ActOk (cxOf (L2.CX P w) P w K mg base N qual (defScope st) f cdv A outer s H E) B q beh →
      ∃ t, DSs (cxOf (L2.CX P w) P w K mg base N qual (defScope st) f cdv A outer s H E) B (defBody st) t ∧ ∀ Ψ, beh B.M (whyΨ Ψ) (whyΞ K Ψ) → t { nx := fun _ M' => rtF B.M Ψ .non M', rt := rtF B.M Ψ } (ent N.length [.fn q]) B.M
structure LamD where
  l : Lam
  ps : List Str
  ns : List Int
  t : (XD → En → Sto → Prop) → DTE
structure LamD.Ok (X : Cx) (k : Nat) (m : LamD) : Prop where
  o : LamOk X m.l
  t : LamT X m.l m.ps
  n : m.ns.length = m.ps.length
  b : LamBody X k m.l m.t
def lamFB (sc scope : Scope) : Bool := scope.names.all fun y => !decide (y.2 = .free) || decide (sc.names.lookup y.1 = some .cell) || decide (sc.names.lookup y.1 = some .free)
theorem lamF_by {sc scope : Scope} (h : lamFB sc scope = true) : ∀ y ∈ scope.names, y.2 = .free → sc.names.lookup y.1 = some .cell ∨ sc.names.lookup y.1 = some .free := fun y hy e => by
  have h2 := List.all_eq_true.mp h y hy
  simp only [Bool.or_eq_true, Bool.not_eq_true', decide_eq_true_eq, decide_eq_false_iff_not] at h2
  rcases h2 with (z | z) | z
  · exact absurd e z
  · exact .inl z
  · exact .inr z
def lamTB (N : List Str) (scope : Scope) (ps : List Str) : Bool := decide (scope.kind = .function) && (!scope.isCoroutine && (!scope.isGenerator && ((scope.names.all fun y => !decide (y.2 = .cell)) && ((N.all fun y => !decide (scope.names.lookup y = some .local)) && ps.all fun y => decide (scope.names.lookup y = some .local)))))
theorem lamT_by {X : Cx} {l : Lam} {ps : List Str} (h : lamTB X.N l.scope ps = true) (hb : (ps = [] ∧ ∀ pm cv ctv, bindArgs (lamFd l .none pm cv ctv) ⟨[], []⟩ = pure []) ∨ (ps ≠ [] ∧ ∀ (T : Addr) (pm cv ctv : Value) (its : List Value), its.length = ps.length →
    ∃ k, bindArgs (lamFd l (.ref T) pm cv ctv) ⟨[], []⟩ = seqItems? (.ref T) >>= k ∧ k (some its.toArray) = pure (ps.zip its))) : LamT X l ps := by
  unfold lamTB at h
  simp only [Bool.and_eq_true, Bool.not_eq_true', List.all_eq_true, decide_eq_true_eq, decide_eq_false_iff_not] at h
  obtain ⟨h1, h2, h3, h4, h5, h6⟩ := h
  exact ⟨h1, h2, h3, h4, h5, h6, hb⟩
section
variable {X : Cx} {B : Bs} {k j : Nat} {x : Str} {pos p : Pos} {e : Expr} {ga : DTA}
theorem why_core {pins : List (Addr × Obj)} {σ : L2.St} {H G : Hp} {s : Shared} {r : En} {M : Sto} {Q : VK} {Ψ : PD} {m : LamD} {v : V} {u : Value} {f : Addr} (W : WhyOk X.prog X.w X.K X.mg X.base x k) (hm : X.mg x = some (.ref f)) (hr : Room (k + 2) X.A) (I : L2.Inv X pins σ H s) (R : Rel X.K B r M σ H G)
    (rv : RelV v u) (p : Rep X.K G (.fn (lamQ m.l m.ns)) v) (ok : m.Ok X k) (h : m.t (fun x _ M' => whyΞ X.K Ψ x M') r M (whyΨ Ψ)) (hQ : Post X.K H G M Ψ Q) :
    codeAny (model X.prog X.w) X.A (.call (.ref f) ⟨[u], []⟩) (CR (L2.CX X.prog X.w) X.stack X.prog X.w H s Q (fun _ _ _ => False)) s := by
  obtain ⟨f', fd, N, a, qual, st, hm', hk, F, S, hbd, body⟩ := W.ex
  rw [hm] at hm'
  cases hm'
  obtain ⟨oc, od, dV, kV, doc, pm, an, cdv, ct, osl, rfl, lk, hcd, _, _⟩ := F.ex
  obtain ⟨hl, gl, gV, kb, rel⟩ := hbd
  have rr := rel G [.fn (lamQ m.l m.ns)] [v] [] [] (.cons p .nil) .nil
  refine LamX.run_ofS (N := N) (ps := [a]) (us := gl [u] []) (vs := gV [v] []) lk hcd S (k := k + 1) hr I.env0 (kb.to s [u] [] I.kIn rfl rfl) (kb.rel (.cons rv .nil) .nil) (by rw [← rr.length]; rfl) fun hr' => ?_
  have z : Zx (cxOf (L2.CX X.prog X.w) X.prog X.w X.K X.mg X.base N qual (defScope st) f cdv X.A X.stack s H (fun _ _ _ => False)) (Bs.at H G M) (exF M noX) :=
    ⟨(takes_of rfl rfl rfl rfl).imp (exF_take (B := Bs.at H G M) (Ξ := noX) (E := fun _ _ _ => False) fun _ _ _ _ _ _ z _ _ _ => z), passes_of rfl⟩
  obtain ⟨t, ht, q⟩ := body cdv X.A X.stack s H (fun _ _ _ => False) (Bs.at H G M) (lamQ m.l m.ns) _ (hr'.mono (by omega)) z (act_ok I R ok.o ok.t ok.n hr' ok.b)
  refine ⟨_, ht, ent N.length [.fn (lamQ m.l m.ns)], M, G, _, rel_start R.wd rr, q Ψ h, ⟨fun r' M' σ' H' G' q' R' s' => ?_, fun d r' M' v σ' H' G' q' R' p => ?_, fun _ _ _ _ _ q' _ _ => q'.elim, fun _ _ _ _ _ q' _ _ => q'.elim⟩⟩
  · obtain ⟨d', M'', fr, q⟩ := q'
    cases fr with
    | same => exact hQ _ _ _ _ _ q R'.wd R'.sin .non
    | drop =>
      obtain ⟨w1, s1⟩ := frz_end R'.wd R'.sin
      exact hQ _ _ _ _ _ q w1 s1 .non
    | frz n =>
      obtain ⟨w1, s1⟩ := frz_end R'.wd R'.sin
      exact hQ _ _ _ _ _ q w1 s1 (Rep.sb (d := .non) (rep_frz R'.wd n) .non)
  · obtain ⟨d', M'', fr, q⟩ := q'
    cases fr with
    | same => exact hQ _ _ _ _ _ q R'.wd R'.sin p
    | drop =>
      obtain ⟨w1, s1⟩ := frz_end R'.wd R'.sin
      exact hQ _ _ _ _ _ q w1 s1 (p.mono frzG_sub)
    | frz n =>
      obtain ⟨w1, s1⟩ := frz_end R'.wd R'.sin
      exact hQ _ _ _ _ _ q w1 s1 ((p.mono frzG_sub).sb (rep_frz R'.wd n))
def whyD (X : Cx) (j : Nat) (r : En) (ds : List D) (M : Sto) (Ψ : PD) : Prop := ∃ m : LamD, m.Ok X j ∧ ds = [.fn (lamQ m.l m.ns)] ∧ m.t (fun x _ M' => whyΞ X.K Ψ x M') r M (whyΨ Ψ)
theorem de_why (W : WhyOk X.prog X.w X.K X.mg X.base x j) (hr : Room k X.A) (ha : DA X B [e] ga) (hj : j + 2 ≤ k := by decide) (hg : Gl X x := by rfl) (hdb : (x == ("__debug__" : Str)) = false := by decide)
    (he : starEach [e] X.env = (false, eval e X.env) :: starEach [] X.env := by rfl) (hpl : (backTo pos (starEach [] X.env)).any (·.1) = false := by rfl) :
    DE X B (.Call (.Name x p) [e] [] pos) (fun r M Ψ => ga r M fun ds M1 => whyD X j r ds M1 Ψ) := by
  obtain ⟨f, hm, hk⟩ : ∃ f, X.mg x = some (.ref f) ∧ PySem.W.keepIn X.K (.ref f) = true := by
    obtain ⟨f, _, _, _, _, _, h1, h2, _⟩ := W.ex
    exact ⟨f, h1, h2⟩
  refine ⟨fun pins s σ H Q I ⟨r, M, G, Ψ, R, h, k'⟩ => ?_⟩
  refine wpAny_Call_Name_kw (ld_glob I hg hm ?_ hdb)
  refine PySem.W.callWith_K (h₀ := X.base) I.ok.mod.kin hk (thn (ha.run pos pins s σ H (fun vs H1 => ∃ ds M1 G1, whyD X j r ds M1 Ψ ∧ Rel X.K B r M1 σ H1 G1 ∧ Sub G G1 ∧ RepL X.K G1 ds vs) I ⟨r, M, G, _, R, h, fun ds M1 vs H1 G1 q R1 s1 p1 => ⟨ds, M1, G1, q, R1, s1, p1⟩⟩) fun us s1 ⟨vs, H1, I1, rv, ds, M1, G1, q, R1, s1', p1⟩ => ⟨I1.kIn, ?_⟩) he hpl
  obtain ⟨m, hm', rfl, q⟩ := q
  cases p1 with
  | cons p1 p2 =>
    cases p2
    cases rv with
    | cons rv r2 =>
      cases r2
      refine wpAny_call (codeAny_mono (why_core W hm (hr.mono hj) I1 R1 rv p1 hm' q fun d M' v H' G' q w sn p => k' _ _ _ _ _ q (R1.go w sn) (s1'.tr sn.gsub) p) fun fr s' hq => ?_)
      cases fr with
      | error e => exact LamX.takes0 e s' (XE.of_call I1 (W := fun _ _ _ _ => False) (fun _ _ _ h => h) hq)
      | ok fl =>
        cases fl with
        | ret u => exact I1.after hq
        | next => exact False.elim hq
        | brk => exact False.elim hq
        | cont => exact False.elim hq
theorem de_whyL {q : Str} {params : Arguments} {body : Expr} {scope : Scope} {cl : List (Str × Addr)} {P c : Addr} {lpos : Pos} {t : (XD → En → Sto → Prop) → DTE} (W : WhyOk X.prog X.w X.K X.mg X.base x j) (hr : Room k X.A) (TB : LamX.TabB X.base X.mg c P) (hcode : X.env.code = .ref c)
    (L : LamOk X ⟨q, params, body, scope, cl⟩) (hdef : defaultsOf params X.env = ([], [])) (T : LamT X ⟨q, params, body, scope, cl⟩ []) (hb : LamBody X j ⟨q, params, body, scope, cl⟩ t) (hj : j + 2 ≤ k := by decide) (hg : Gl X x := by rfl) (hdb : (x == ("__debug__" : Str)) = false := by decide)
    (he : starEach [Expr.Lambda params body scope lpos] X.env = (false, eval (.Lambda params body scope lpos) X.env) :: starEach [] X.env := by rfl) (hpl : (backTo pos (starEach [] X.env)).any (·.1) = false := by rfl) :
    DE X B (.Call (.Name x p) [.Lambda params body scope lpos] [] pos) (fun r M Ψ => M P = some (.tab q) ∧ t (fun x _ M' => whyΞ X.K Ψ x M') r M (whyΨ Ψ)) :=
  PE_imp (de_why (B := B) W hr (da_cons (de_lam TB hcode L hdef) da_nil he) hj hg hdb he hpl) fun σ H Q ⟨r, M, G, Ψ, R, ⟨h1, h2⟩, kk⟩ =>
    ⟨r, M, G, Ψ, R, ⟨h1, ⟨⟨q, params, body, scope, cl⟩, [], [], t⟩, ⟨L, T, rfl, hb⟩, rfl, h2⟩, kk⟩
end
end Z
namespace Z
open PySem PySem.Spec PyProof.Rows L2

def codA (K : PySem.W.Frag) (f : Addr) : Addr := match K.lookup f with
  | some ⟨_, _, .func fd, _⟩ => (match fd.code with
    | .ref c => c
    | _ => 0)
  | _ => 0
def tabA (K : PySem.W.Frag) (f : Addr) : Addr := match K.lookup (codA K f) with
  | some ⟨_, _, .fields vs, _⟩ => (match (vs[11]? : Option Value) with
    | some (.ref P) => P
    | _ => 0)
  | _ => 0
abbrev Tbs := List (At × Str)
def Tbs.ps (ts : Tbs) (K : PySem.W.Frag) : List Addr := ts.map fun t => tabA K (t.1.ad K)
def Tbs.cs (ts : Tbs) (K : PySem.W.Frag) : List (Addr × Addr) := ts.map fun t => (codA K (t.1.ad K), tabA K (t.1.ad K))
def emptyTab : Option Obj → Bool
  | some ⟨.none, none, .fields ⟨[]⟩, ⟨[]⟩⟩ => true
  | _ => false
theorem emptyTab_ok {o : Option Obj} (h : emptyTab o = true) : o = some { cls := .none, data := .fields #[] } := by
  unfold emptyTab at h
  split at h
  · rfl
  · cases h
def tabB (ts : Tbs) (g : Addr → Option Obj) (K : PySem.W.Frag) : Bool := (ts.cs K).all (fun q => emptyTab (g q.2) && (PySem.W.codeHdIn K q.1 q.2 && (mainGlobals != q.2 && (K.lookup q.2).isNone))) && decide ((ts.cs K).map (·.2)).Nodup
structure TabZ (ts : Tbs) (K : PySem.W.Frag) (h : Heap) : Prop where
  ok : ∀ q ∈ ts.cs K, h.get? q.2 = some { cls := .none, data := .fields #[] } ∧ PySem.W.codeHdIn K q.1 q.2 = true ∧ mainGlobals ≠ q.2 ∧ K.lookup q.2 = none
  nd : ((ts.cs K).map (·.2)).Nodup
theorem tabB_ok {ts : Tbs} {h : Heap} {K : PySem.W.Frag} (c : tabB ts h.get? K = true) : TabZ ts K h := by
  obtain ⟨c1, c2⟩ := He.ba c
  refine ⟨fun q hq => ?_, of_decide_eq_true c2⟩
  obtain ⟨d1, d2⟩ := He.ba (List.all_eq_true.mp c1 q hq)
  obtain ⟨d2, d3⟩ := He.ba d2
  obtain ⟨d3, d4⟩ := He.ba d3
  exact ⟨emptyTab_ok d1, d2, by simpa using d3, by simpa using d4⟩
def tabM (ts : Tbs) (K : PySem.W.Frag) : Sto := fun a => ((ts.map fun t => (tabA K (t.1.ad K), t.2)).lookup a).map Cell.tab
theorem tabM_at {ts : Tbs} {K : PySem.W.Frag} (nd : ((ts.cs K).map (·.2)).Nodup) {t : At × Str} (h : t ∈ ts) : tabM ts K (tabA K (t.1.ad K)) = some (.tab t.2) := by
  unfold tabM
  have : ∀ ts : Tbs, ((ts.cs K).map (·.2)).Nodup → t ∈ ts → (ts.map fun t => (tabA K (t.1.ad K), t.2)).lookup (tabA K (t.1.ad K)) = some t.2 := fun ts => by
    induction ts with
    | nil => intro _ h; cases h
    | cons u r ih =>
      intro nd h
      rw [List.map_cons, List.lookup_cons]
      simp only [Tbs.cs, List.map_cons, List.nodup_cons] at nd
      rcases List.mem_cons.mp h with e | e
      · rw [e]; simp
      · have ne : tabA K (t.1.ad K) ≠ tabA K (u.1.ad K) := fun z => nd.1 (by
          rw [← z]
          exact List.mem_map.mpr ⟨_, List.mem_map.mpr ⟨t, e, rfl⟩, rfl⟩)
        rw [show (tabA K (t.1.ad K) == tabA K (u.1.ad K)) = false by simpa using ne]
        exact ih nd.2 e
  rw [this ts nd h]; rfl
theorem look_mem {β : Type} {a : Addr} {b : β} : ∀ {l : List (Addr × β)}, l.lookup a = some b → (a, b) ∈ l
  | [], e => nomatch (show (none : Option β) = some b from e)
  | (k, v) :: r, e => by
    rw [List.lookup_cons] at e
    cases q : a == k with
    | true =>
      rw [q] at e
      cases e
      rw [beq_iff_eq] at q
      subst q
      exact List.mem_cons_self
    | false =>
      rw [q] at e
      exact List.mem_cons_of_mem _ (look_mem e)
theorem tabM_mem {ts : Tbs} {K : PySem.W.Frag} {a : Addr} {c : Cell} (h : tabM ts K a = some c) : ∃ t ∈ ts, a = tabA K (t.1.ad K) ∧ c = .tab t.2 := by
  unfold tabM at h
  obtain ⟨q, h1, h2⟩ := Option.map_eq_some_iff.mp h
  have hm := look_mem h1
  obtain ⟨t, ht, e⟩ := List.mem_map.mp hm
  cases e
  exact ⟨t, ht, rfl, h2.symm⟩
theorem law_atT {l : PySem.W.OpenLaw} {w : World} {K : PySem.W.Frag} {k : Nat} {mg : Str → Option Value} {fa : Addr} {h : Heap} {fd : FuncData} {c : Ct} {x : Str} {ts : Tbs} (KX : K.In h) (TZ : TabZ ts K h) (hb : ∀ (s : Shared) (u : Value), BindsTo s fd ⟨[u], []⟩ [(x, u)])
    (F : ∀ base : Heap, K.In base → base.Ns mainGlobals mg → (∀ t ∈ ts, LamX.TabB base mg (codA K (t.1.ad K)) (tabA K (t.1.ad K))) → FnOk l.prog w K mg base (L2.CX l.prog w) k fa fd [x] (spC K 1 c))
    (hc : ∀ (ns : List Int), ns.length ≤ 63 → (∀ z ∈ ns, Builtin.Int.intBits z ≤ 1048576) → c [scr ns] (tabM ts K) (fun d _ => d = .bl true) noX) : LamX.LawAtS l w K (L2.CX l.prog w) k 63 x mg fa h := by
  refine ⟨fd, ts.cs K, spC K 1 c, fun p hp => (TZ.ok p hp).1, fun p hp => (TZ.ok p hp).2.2.2, fun p hp => PySem.W.codeHd_of_K KX (TZ.ok p hp).2.1, hb, fun H a ns hl hbits hT hS => ?_, fun base KX G hB => F base KX G fun t ht => hB _ (List.mem_map.mpr ⟨t, ht, rfl⟩)⟩
  let G0 : Hp := fun b => if b ∈ (ts.cs K).map (·.2) then none else H b
  have tb : ∀ b o, (∀ ps, o ≠ .tbl ps) → H b = some o → G0 b = some o := fun b o n e => by
    show (if b ∈ (ts.cs K).map (·.2) then none else H b) = some o
    rw [if_neg]
    · exact e
    · intro z
      obtain ⟨q, hq, e2⟩ := List.mem_map.mp z
      have := hT q hq
      rw [e2, e] at this
      exact n _ (Option.some.inj this)
  have hS' : SqL K G0 a (ns.map V.int) := by
    rcases hS with (hS | ⟨o, hS⟩) | hS
    · exact .inl (.inl (tb _ _ (by intro _ z; cases z) hS))
    · exact .inl (.inr ⟨o, tb _ _ (by intro _ z; cases z) hS⟩)
    · exact .inr hS
  refine ⟨rfl, [scr ns], G0, tabM ts K, _, _, ⟨fun b o e => ?_, fun b cc e => ?_⟩, .cons (.lk hS' (repL_scr ns)) .nil, hc ns hl hbits, fun d M' v H' G' q _ _ r => ?_, fun _ _ _ _ _ _ z _ _ _ => z⟩
  · have e : (if b ∈ (ts.cs K).map (·.2) then none else H b) = some o := e
    split at e
    · cases e
    · exact e
  · obtain ⟨t, ht, rfl, rfl⟩ := tabM_mem e
    have hm : (codA K (t.1.ad K), tabA K (t.1.ad K)) ∈ ts.cs K := List.mem_map.mpr ⟨t, ht, rfl⟩
    refine ⟨if_pos (List.mem_map.mpr ⟨_, hm, rfl⟩), #[], hT _ hm, True.intro, fun pos cv hcv => ?_⟩
    have z : codeAmong pos [] = some cv := hcv
    simp [codeAmong] at z
  · subst q
    cases r
    rfl
theorem fnDT {P : Program} {w : World} {K : PySem.W.Frag} {mg : Str → Option Value} {base : Heap} {x qual : Str} {st : Stmt} {f : Addr} {fd : FuncData} {N ps : List Str} {k : Nat} {dvs : List V} {kws : List (Str × V)} (F : FnZ K x qual st dvs kws f fd) (S : FnScope N ps (defScope st)) (c : Ct)
    (hb : ∀ (cdv : Value) (A : Around) (outer : List Env) (s : Shared) (H : Hp) (E : XK) (B : Bs) (Ξ : XD → Sto → Prop), cdv = .ref (codA K f) → Room k (A.deeper (envOfC qual (defScope st) s.heap.objs.size f cdv)) →
      Zx (cxOf (L2.CX P w) P w K mg base N qual (defScope st) f cdv A outer s H E) B (exF B.M Ξ) →
      ∃ t, DSs (cxOf (L2.CX P w) P w K mg base N qual (defScope st) f cdv A outer s H E) B (defBody st) t ∧
        ∀ (ds : List D) (Ψ : D → Sto → Prop), ds.length = ps.length → c ds B.M Ψ Ξ → t { nx := fun _ M' => rtF B.M Ψ .non M', rt := rtF B.M Ψ } (ent N.length ds) B.M) :
    FnOk P w K mg base (L2.CX P w) (k + 1) f fd ps (spC K ps.length c) := by
  obtain ⟨oc, od, dV, kV, doc, pm, an, cd0, ct, osl, rfl, lk, hcd, hd, hk⟩ := F.ex
  have e0 : cd0 = .ref (codA K f) := by
    unfold codA
    rw [lk]
    unfold PySem.W.codeIn at hcd
    split at hcd
    · rfl
    · cases hcd
  refine fn_of lk hcd S (fun vs H Q E h => h.1) fun A outer s H vs Q E hr h => ?_
  obtain ⟨hl, ds, G, M, Ψ, Ξ, wd, r, hc, hQ, hE⟩ := h
  have tk0 : Takes (cxOf (L2.CX P w) P w K mg base N qual (defScope st) f cd0 A outer s H E) (fun cls d _ H => E cls d H) := takes_of rfl rfl rfl rfl
  obtain ⟨t, ht, q⟩ := hb cd0 A outer s H E ⟨H, G, M⟩ Ξ e0 hr ⟨tk0.imp (exF_take (B := ⟨H, G, M⟩) hE), passes_of rfl⟩
  have end_ : ∀ (d : D) (r' : En) (M' : Sto) (v : V) (σ' : L2.St) (H' G' : Hp), rtF M Ψ d M' → Rel K ⟨H, G, M⟩ r' M' σ' H' G' → Rep K G' d v → Q v H' := fun d r' M' v σ' H' G' ⟨d', M'', fr, q⟩ R' p => by
    cases fr with
    | same => exact hQ _ _ _ _ _ q R'.wd R'.sin p
    | drop =>
      obtain ⟨w1, s1⟩ := frz_end R'.wd R'.sin
      exact hQ _ _ _ _ _ q w1 s1 (p.mono frzG_sub)
    | frz n =>
      obtain ⟨w1, s1⟩ := frz_end R'.wd R'.sin
      exact hQ _ _ _ _ _ q w1 s1 ((p.mono frzG_sub).sb (rep_frz R'.wd n))
  refine ⟨_, ht, ent N.length ds, M, G, _, rel_start wd r, q ds Ψ (r.length.trans hl) hc, ⟨fun r' M' σ' H' G' q' R' s' => ?_, fun d r' M' v σ' H' G' q' R' p => end_ d r' M' v σ' H' G' q' R' p, fun _ _ _ _ _ q' _ _ => q'.elim, fun _ _ _ _ _ q' _ _ => q'.elim⟩⟩
  exact end_ .non r' M' .non σ' H' G' q' R' .non
end Z
namespace Z
open PySem PySem.Spec PyProof.Rows L2

structure WhyC (K : PySem.W.Frag) (C : Str) (n : Option Str) : Prop where
  xf : XfC K (He.ga K C)
  tg : NoAttr K (He.ga K C) "tag"
  fl : ∀ m, n = some m → NoAttr K (He.ga K C) m
  ex : PySem.W.exmAny K (.ref (He.ga K C)) [.ref (He.ga K "MillError"), .ref (He.ga K "Missing")] = some true
def whyF (C : Str) (n : Option Str) : FF := fun K => xfB K (He.ga K C) && (decide (PySem.W.findIn K (.ref (He.ga K C)) "tag" = some none) && ((match n with
  | some m => decide (PySem.W.findIn K (.ref (He.ga K C)) m = some none)
  | none => true) && decide (PySem.W.exmAny K (.ref (He.ga K C)) [.ref (He.ga K "MillError"), .ref (He.ga K "Missing")] = some true)))
theorem whyF_ok {C : Str} {n : Option Str} {K : PySem.W.Frag} (h : whyF C n K = true) : WhyC K C n := by
  obtain ⟨h1, h⟩ := He.ba h
  obtain ⟨h2, h⟩ := He.ba h
  obtain ⟨h3, h4⟩ := He.ba h
  refine ⟨xfB_ok h1, (of_decide_eq_true h2 : PySem.W.findIn K (.ref (He.ga K C)) "tag" = some none), fun m e => ?_, of_decide_eq_true h4⟩
  subst e
  exact (of_decide_eq_true h3 : PySem.W.findIn K (.ref (He.ga K C)) m = some none)
section
variable {K : PySem.W.Frag} {C : Str} {n t : Str} {fs : List (Str × D)} {φ : Str → D → Prop} {v : D}
theorem why_of (W : WhyC K C (some n)) (h1 : fs.lookup ("tag" : Str) = some (D.str t)) (h2 : fldN t = some n) (h3 : fs.lookup n = some v) (q : φ t v) : whyX K (He.ga K C, fs) φ :=
  ⟨true, W.ex, fun _ => ⟨t, h1, W.xf, W.tg, by rw [h2]; exact ⟨W.fl n rfl, v, h3, q⟩⟩, (fun z => nomatch z)⟩
end
end Z
namespace Z
open PySem PySem.Spec PyProof.Rows L2

end Z
namespace Z
open PySem PySem.Spec PyProof.Rows L2
def oc (c : Nat) : Nat := if c = 76 then 82 else 76
theorem any_mem {t : Str} : ∀ l : List Str, (l.map PyData.str).any (fun z => PyData.eqv z (.str t)) = decide (t ∈ l)
  | [] => rfl
  | a :: l => by
    rw [List.map_cons, List.any_cons, any_mem l]
    simp only [PyData.eqv, List.mem_cons, Bool.decide_or]
    congr 1
    exact decide_eq_decide.mpr ⟨Eq.symm, Eq.symm⟩
theorem pdL_strs : ∀ l : List Str, pdL (l.map D.str) = some (l.map PyData.str)
  | [] => rfl
  | a :: l => by
    rw [List.map_cons, List.map_cons]
    unfold pdL
    rw [pdL_strs l]
    rfl
theorem inS {M : Sto} {t : Str} {φ : D → Prop} (l : List Str) (h : φ (.bl (decide (t ∈ l)))) : inD M (.str t) (.tup (l.map D.str)) φ := by
  unfold inD
  refine ⟨.str t, l.map PyData.str, rfl, pdL_strs l, ?_, rfl, ?_⟩
  · rw [List.all_map]
    exact List.all_eq_true.mpr fun _ _ => rfl
  · rw [any_mem]; exact h
end Z
namespace Z
open PySem PySem.Spec PyProof.Rows L2

structure Cap (X : Cx) (σ : L2.St) (H : Hp) (h : Heap) : Prop where
  ok : X.Ok
  len : σ.length = X.N.length
  loc : ∀ (i : Nat) (y : Str) (v : V), X.N[i]? = some y → σ[i]? = some (some v) → (X.env.scope.names.lookup y = some .cell ∨ X.env.scope.names.lookup y = some .free) → ∃ w, RelV v w ∧ ∃ c, X.env.cells.lookup y = some c ∧ h.IsCell c (some w)
  cell : ∀ y c, X.env.cells.lookup y = some c → H c = none ∧ ∃ v, h.IsCell c v
theorem Cap.of {X : Cx} {pins : List (Addr × Obj)} {σ : L2.St} {H : Hp} {s : Shared} (I : L2.Inv X pins σ H s) : Cap X σ H s.heap := by
  refine ⟨I.ok, I.len, fun i y v e1 e2 hk => ?_, fun y c e => ⟨I.freeC y c e, I.cell y c e⟩⟩
  obtain ⟨m0, hn, hl⟩ := I.loc
  obtain ⟨w, r, q⟩ := hl i y v e1 e2 (hk.elim (fun z => .inr (.inl z)) fun z => .inr (.inr z))
  rcases q with ⟨k', _⟩ | ⟨_, c, e, z⟩
  · have k' : X.env.scope.names.lookup y = some .local := k'
    rcases hk with k2 | k2 <;> rw [k2] at k' <;> cases k'
  · exact ⟨w, r, c, e, z⟩
theorem Cap.move {X : Cx} {σ : L2.St} {H H' : Hp} {h h' : Heap} {fs ex : List Addr} (C : Cap X σ H h) (u : Un fs ex H H' h h') (hx : ∀ y c, X.env.cells.lookup y = some c → c ∉ ex) : Cap X σ H' h' := by
  have mv : ∀ {y c v}, X.env.cells.lookup y = some c → h.IsCell c v → h'.IsCell c v := fun {y c v} e ⟨o, ho, hd⟩ => by
    obtain ⟨sl, q⟩ := u.any ho (C.cell y c e).1 (hx y c e)
    exact ⟨_, q, hd⟩
  refine ⟨C.ok, C.len, fun i y v e1 e2 hk => ?_, fun y c e => ?_⟩
  · obtain ⟨w, r, c, e, z⟩ := C.loc i y v e1 e2 hk
    exact ⟨w, r, c, e, mv e z⟩
  · obtain ⟨n, v, z⟩ := C.cell y c e
    obtain ⟨o, ho, hd⟩ := z
    exact ⟨u.free c o ho n (hx y c e), v, mv e ⟨o, ho, hd⟩⟩
theorem Cap.swap {X : Cx} {σ σ' : L2.St} {H : Hp} {h : Heap} {vs : List Nat} (C : Cap X σ H h) (e : L2.wipe σ' vs = L2.wipe σ vs) (hv : ∀ i ∈ vs, ∀ y, X.N[i]? = some y → ¬ (X.env.scope.names.lookup y = some .cell ∨ X.env.scope.names.lookup y = some .free)) : Cap X σ' H h := by
  refine ⟨C.ok, ?_, fun i y v e1 e2 hk => C.loc i y v e1 ?_ hk, C.cell⟩
  · have := congrArg List.length e
    rw [L2.wipe_length, L2.wipe_length] at this
    rw [this]; exact C.len
  · have hi : i ∉ vs := fun z => hv i z y e1 hk
    have : (L2.wipe σ' vs)[i]? = (L2.wipe σ vs)[i]? := by rw [e]
    rw [wipe_get, wipe_get, if_neg hi, if_neg hi] at this
    rw [← this]; exact e2
theorem Cap.kept {X : Cx} {σ : L2.St} {H : Hp} {h h' : Heap} (C : Cap X σ H h) (kp : ∀ b o, h.get? b = some o → h'.get? b = some o) : Cap X σ H h' :=
  C.move (fs := []) (ex := []) (Un.kept kp) fun _ _ _ => by simp
section
variable {X : Cx} {σ : L2.St} {H HZ : Hp} {s s1 : Shared} {l : Lam} {ps : List Str} {St : List Env}
theorem lam_startC {A : Around} {outer : List Env} {E : XK} {f c' : Addr} {h₁ : Heap} {tk : Nat} {m : Str → Option Value} (C : Cap X σ HZ s1.heap) (L : LamOk X l) (T : LamT X l ps) (e0 : Env0 X.prog X.w X.K X.mg X.base A outer s1 HZ) (hd : A.handled = none)
    (hns : h₁.Ns s1.heap.objs.size m) (kp : ∀ b o, s1.heap.get? b = some o → h₁.get? b = some o) :
    L2.Inv (LamX.lamCx X A outer s1 HZ E l.scope f c') [] σ HZ { s1 with heap := h₁, toks := tk } := by
  have C' := C.kept kp
  have hfree := L.has C.ok
  have same : ∀ {y c}, (cloFrom X.env.cells l.scope.names []).lookup y = some c → X.env.cells.lookup y = some c := fun {y c} e => by
    rcases cloFrom_mem (PySem.mem_of_lookup e) with z | ⟨h1, h2⟩
    · cases z
    · obtain ⟨c1, hc⟩ := hfree _ h1 rfl
      have hc : X.env.cells.lookup y = some c1 := hc
      rw [hc] at h2 ⊢
      rw [h2]; rfl
  have look : ∀ {y}, l.scope.names.lookup y = some .free → ∃ c, (cloFrom X.env.cells l.scope.names []).lookup y = some c := fun {y} hl => by
    have hy : (y, NameKind.free) ∈ l.scope.names := PySem.mem_of_lookup hl
    exact mem_lookup (cloFrom_has (cells := X.env.cells) (acc := []) hy)
  have nex : ∀ b : Addr, b ∉ (LamX.lamCx X A outer s1 HZ E l.scope f c').ex := fun b z => absurd (show b ∈ ([] : List Addr) from z) (by simp)
  have ok : (LamX.lamCx X A outer s1 HZ E l.scope f c').Ok := by
    refine ⟨e0.mod, T.kind, rfl, rfl, Nat.le_refl _, fun y z c e1 e2 => C.ok.inj y z c (same e1) (same e2), fun y hy => ?_, fun y c z _ => Bool.noConfusion (show false = true from z), fun _ => hd, Around.frames_deeper e0.frames, .inr ⟨rfl, rfl⟩, fun b z => absurd z (nex b), e0.bs, e0.bsz, fun b _ _ => nex b, fun b z => absurd z (nex b), e0.funs, e0.frf⟩
    have hy : l.scope.names.lookup y = some .cell ∨ l.scope.names.lookup y = some .free := hy
    rcases hy with hy | hy
    · exact absurd rfl (T.nocell _ (PySem.mem_of_lookup hy))
    · exact look hy
  refine ⟨ok, rfl, e0.bare, Un.kept kp, ⟨_, hns, fun i y v e1 e2 e3 => ?_⟩, fun y c e => ?_, e0.hok.fresh (Nat.le_refl _), fun y c e => (C.cell y c (same e)).1, fun q hq => absurd (show q ∈ ([] : List (Addr × Obj)) ++ [] from hq) (by simp), e0.hok.kept kp, C.len⟩
  · have e3 : Vis l.scope y := e3
    rcases e3 with k | k | k
    · exact absurd k (T.loc y (List.mem_of_getElem? e1))
    · exact absurd rfl (T.nocell _ (PySem.mem_of_lookup k))
    · obtain ⟨w', r, c1, h1, h2⟩ := C'.loc i y v e1 e2 (L.free _ (PySem.mem_of_lookup k) rfl)
      obtain ⟨c2, h3⟩ := look k
      have := same h3
      rw [h1] at this
      cases this
      exact ⟨w', r, .inr ⟨.inr k, c1, h3, h2⟩⟩
  · exact (C'.cell y c (same e)).2
end
section
variable {X : Cx} {σ : L2.St} {H G : Hp} {s : Shared} {l : Lam} {ps : List Str} {ns : List Int} {B : Bs} {r : En} {M : Sto} {k : Nat} {t : (XD → En → Sto → Prop) → DTE} {Ng : List Str} {qg : Str} {sg : Scope} {g : Addr} {cdg : Value} {Eg : XK} {CXg : CXT} {St : List Env}
theorem act_okC (C : Cap X σ H s.heap) (R : Rel X.K B r M σ H G) (L : LamOk X l) (T : LamT X l ps) (hn : ns.length = ps.length) (hr : Room (k + 1) (X.A.deeper (envOfC qg sg s.heap.objs.size g cdg))) (hb : LamBody X k l t) :
    ActOk (cxOf CXg X.prog X.w X.K X.mg X.base Ng qg sg g cdg X.A St s H Eg) (Bs.at H G M) (lamQ l ns) (fun MZ Ψ Ξ => t (fun x _ M' => Ξ x M') r MZ Ψ) := by
  intro a pn xe B1 Ξ p1 p2 hN hv hd hcd hG z
  refine ⟨fun pinsZ sZ σZ HZ Q IZ ⟨rZ, MZ, GZ, Ψ, RZ, hs, kk⟩ => ?_⟩
  obtain ⟨d, ed, ed2, Ψ', Ξ', ht, hΨ, hΞ⟩ := (show ∃ d, rZ[0]? = some (some d) ∧ d = .fn (lamQ l ns) ∧ ∃ (Ψ' : PD) (Ξ' : XD → Sto → Prop), t (fun x _ M' => Ξ' x M') r MZ Ψ' ∧ (∀ d M', Ψ' d M' → Ψ d M') ∧ ∀ x M', Ξ' x M' → Ξ x rZ M' from by
    obtain ⟨h1, h2⟩ := hs
    obtain ⟨d, e, e2⟩ := getS_some h1
    exact ⟨d, e, e2, h2⟩)
  subst ed2
  obtain ⟨v, ev, pv⟩ := RZ.slots _ _ ed
  cases pv with
  | @fn _ f G0 hsub hq =>
    obtain ⟨dV, pm, ctv, c', hf, hc, hdv⟩ := hq
    refine wpAny_Call_Name_kw (thn ((pe_var (X := (cxOf CXg X.prog X.w X.K X.mg X.base Ng qg sg g cdg X.A St s H Eg).tr pn xe) (pos := p1) (i := 0) hN hv hd hcd).run pinsZ sZ σZ HZ (fun v H1 => v = .ref f ∧ H1 = HZ) IZ ⟨.ref f, ev, rfl, rfl⟩) fun u s1 ⟨v, H1, I1, r1, q1⟩ => ?_)
    obtain ⟨ev', eH⟩ := q1
    subst ev'
    rw [eH] at I1
    obtain rfl : u = Value.ref f := r1
    have of1 : s1.heap.get? f = some (lamO l dV pm ctv c') := (I1.hok f _ (RZ.wd.sub _ _ (hsub _ _ hf))).1
    refine PySem.W.callWith_F0 ⟨_, _, _, _, of1⟩ ?_
    have un : Un (frs St) [] H HZ s.heap s1.heap := I1.base
    have C1 : Cap X σ HZ s1.heap := C.move un fun _ _ _ => by simp
    obtain ⟨⟨oc, vs, tq, hoc, hdc, hvc⟩, _, _⟩ := I1.hok c' _ (RZ.wd.sub _ _ (hsub _ _ hc))
    let E : XK := fun cls d H' => ∃ x M' G', Ξ' x M' ∧ Wd X.K M' H' G' ∧ Since HZ GZ MZ M' H' G' ∧ RepX X.K G' H' x cls d
    have RB : Rel X.K (Bs.at HZ GZ MZ) r MZ σ HZ GZ := ⟨RZ.wd, R.len, fun i d e => let ⟨v, h1, h2⟩ := R.slots i d e; ⟨v, h1, h2.mono (hG.tr RZ.sin.gsub)⟩, Since.refl⟩
    have hbd : BindsTo s1 (lamFd l dV pm (.ref c') ctv) ⟨[], []⟩ (ps.zip (ps.map fun _ => Value.none)) ∨ ∃ its : List Value, its.length = ps.length ∧ BindsTo s1 (lamFd l dV pm (.ref c') ctv) ⟨[], []⟩ (ps.zip its) := by
      rcases T.bind with ⟨e, h⟩ | ⟨e, h⟩
      · subst e
        rcases hdv with ⟨_, e2⟩ | ⟨T', e2, _⟩
        · subst e2
          exact .inl (.of_eq (h pm (.ref c') ctv))
        · exact absurd (List.length_eq_zero_iff.mp hn) e2
      · rcases hdv with ⟨e1, _⟩ | ⟨T', e1, e2, e3⟩
        · subst e1
          exact absurd (List.length_eq_zero_iff.mp hn.symm) e
        · subst e2
          obtain ⟨_, its, rv, o, ho, hcl, n, hdt⟩ := I1.hok T' _ (RZ.wd.sub _ _ (hsub _ _ e3))
          have hl : its.length = ps.length := by rw [← rv.length, List.length_map]; exact hn
          obtain ⟨kb, k1, k2⟩ := h T' pm (.ref c') ctv its hl
          refine .inr ⟨its, hl, fun M0 A0 Q0 E0 q => ?_⟩
          rw [k1]
          refine wpAny_bind (wpAny_seqItems ho hdt ?_)
          rw [k2]
          exact wpAny_pure q
    have par : ∀ {its : List Value}, ∀ y ∈ ps.zip its, l.scope.names.lookup y.1 = some .local := fun {its} y hy => T.par _ (List.of_mem_zip hy).1
    have rc : codeAny (model X.prog X.w) (X.A.deeper (envOfC qg sg s.heap.objs.size g cdg)) (.call (.ref f) ⟨[], []⟩) (CR (L2.CX X.prog X.w) (envOfC qg sg s.heap.objs.size g cdg :: St) X.prog X.w HZ s1 Q E) s1 := by
      obtain ⟨binds, hbinds, hpar⟩ : ∃ binds, BindsTo s1 (lamFd l dV pm (.ref c') ctv) ⟨[], []⟩ binds ∧ ∀ y ∈ binds, l.scope.names.lookup y.1 = some .local := by
        rcases hbd with h | ⟨its, _, h⟩
        · exact ⟨_, h, par⟩
        · exact ⟨_, h, par⟩
      refine PySem.W.kla_callFunE hr.depth of1 rfl T.co T.gen rfl ⟨c', oc, vs, tq, rfl, hoc, hdc, hvc⟩ ?_
      refine hbinds _ _ _ _ ?_
      refine wpAny_newFunctionEnv T.nocell hpar (fun h₁ hns hsb => ⟨I1.nolimit.fresh _ hsb, ?_⟩) T.kind
      have kp : ∀ b o, s1.heap.get? b = some o → h₁.get? b = some o := fun b o e => hsb.extBut b o (Nat.ne_of_lt (Heap.lt_size e)) (Heap.get?_push_of_some _ e)
      have J := lam_startC (E := E) (f := f) (c' := c') (tk := s1.toks + binds.length) C1 L T I1.env0 hr.hd hns kp
      have zb : Zx (LamX.lamCx X (X.A.deeper (envOfC qg sg s.heap.objs.size g cdg)) (envOfC qg sg s.heap.objs.size g cdg :: St) s1 HZ E l.scope f c') (Bs.at HZ GZ MZ) (fun x _ M' => Ξ' x M') :=
        ⟨(takes_of rfl rfl rfl rfl).imp fun cls d σ' H' ⟨x, r', M', G', q, R', rx⟩ => ⟨x, M', G', q, R'.wd, R'.sin, rx⟩, passes_of rfl⟩
      have pb := hb (X.A.deeper (envOfC qg sg s.heap.objs.size g cdg)) (envOfC qg sg s.heap.objs.size g cdg :: St) s1 HZ E f c' (Bs.at HZ GZ MZ) _ (hr.deeper _) zb
      have e1 : PySem.W.envX (X.env.qual ++ "<lambda>") l.scope s1.heap.objs.size f (.ref c') (cloFrom X.env.cells l.scope.names []) = newEnv l.scope s1.heap.objs.size mainGlobals l.cl (l.q ++ ".<locals>.") (some f) (.ref c') none builtinsNs := by
        rw [L.q, L.cl]; rfl
      show codeAny _ _ (.expr l.body (newEnv l.scope s1.heap.objs.size mainGlobals l.cl (l.q ++ ".<locals>.") (some f) (.ref c') none builtinsNs)) _ _
      rw [← e1]
      refine PySem.W.kla_codeExpr (wpAny_mono (pb.run [] _ _ HZ Q J ⟨r, MZ, GZ, Ψ', RB, ht, fun d' M' v H' G' q R' s' p => ?_⟩) (fun v s' hq => ?_) fun e s' hq => hq)
      · exact kk _ _ _ _ _ (hΨ _ _ q) (RZ.go R'.wd R'.sin) s' p
      · obtain ⟨w', H', J', rv, q⟩ := hq
        exact ⟨w', H', J'.os, J'.bare, J'.base, J'.hok, rv, q⟩
    refine wpAny_call (codeAny_mono rc fun fr s' hq => ?_)
    cases fr with
    | error e => exact z.tk e s' (XE.of_call I1 (W := wOf X.K B1 Ξ) (fun cls d H' ⟨x, M', G', q, w, sn, rx⟩ => ⟨x, rZ, M', G', hΞ _ _ q, RZ.go w sn, rx⟩) hq)
    | ok fl =>
      cases fl with
      | ret u => exact I1.after hq
      | next => exact False.elim hq
      | brk => exact False.elim hq
      | cont => exact False.elim hq
theorem why_coreC {j : Nat} {x : Str} {Q : VK} {Ψ : PD} {m : LamD} {v : V} {u : Value} {f : Addr} (W : WhyOk X.prog X.w X.K X.mg X.base x j) (hm : X.mg x = some (.ref f)) (hr : Room (j + 2) X.A) (e0 : Env0 X.prog X.w X.K X.mg X.base X.A St s H) (kin : X.K.In s.heap) (C : Cap X σ H s.heap) (R : Rel X.K B r M σ H G)
    (rv : RelV v u) (p : Rep X.K G (.fn (lamQ m.l m.ns)) v) (ok : m.Ok X j) (h : m.t (fun x _ M' => whyΞ X.K Ψ x M') r M (whyΨ Ψ)) (hQ : Post X.K H G M Ψ Q) :
    codeAny (model X.prog X.w) X.A (.call (.ref f) ⟨[u], []⟩) (CR (L2.CX X.prog X.w) St X.prog X.w H s Q (fun _ _ _ => False)) s := by
  obtain ⟨f', fd, N, a, qual, st, hm', hk, F, S, hbd, body⟩ := W.ex
  rw [hm] at hm'
  cases hm'
  obtain ⟨oc, od, dV, kV, doc, pm, an, cdv, ct, osl, rfl, lk, hcd, _, _⟩ := F.ex
  obtain ⟨hl, gl, gV, kb, rel⟩ := hbd
  have rr := rel G [.fn (lamQ m.l m.ns)] [v] [] [] (.cons p .nil) .nil
  refine LamX.run_ofS (N := N) (ps := [a]) (us := gl [u] []) (vs := gV [v] []) lk hcd S (k := j + 1) hr e0 (kb.to s [u] [] kin rfl rfl) (kb.rel (.cons rv .nil) .nil) (by rw [← rr.length]; rfl) fun hr' => ?_
  have z : Zx (cxOf (L2.CX X.prog X.w) X.prog X.w X.K X.mg X.base N qual (defScope st) f cdv X.A St s H (fun _ _ _ => False)) (Bs.at H G M) (exF M noX) :=
    ⟨(takes_of rfl rfl rfl rfl).imp (exF_take (B := Bs.at H G M) (Ξ := noX) (E := fun _ _ _ => False) fun _ _ _ _ _ _ z _ _ _ => z), passes_of rfl⟩
  obtain ⟨t, ht, q⟩ := body cdv X.A St s H (fun _ _ _ => False) (Bs.at H G M) (lamQ m.l m.ns) _ (hr'.mono (by omega)) z (act_okC C R ok.o ok.t ok.n hr' ok.b)
  refine ⟨_, ht, ent N.length [.fn (lamQ m.l m.ns)], M, G, _, rel_start R.wd rr, q Ψ h, ⟨fun r' M' σ' H' G' q' R' s' => ?_, fun d r' M' v σ' H' G' q' R' p => ?_, fun _ _ _ _ _ q' _ _ => q'.elim, fun _ _ _ _ _ q' _ _ => q'.elim⟩⟩
  · obtain ⟨d', M'', fr, q⟩ := q'
    cases fr with
    | same => exact hQ _ _ _ _ _ q R'.wd R'.sin .non
    | drop =>
      obtain ⟨w1, s1⟩ := frz_end R'.wd R'.sin
      exact hQ _ _ _ _ _ q w1 s1 .non
    | frz n =>
      obtain ⟨w1, s1⟩ := frz_end R'.wd R'.sin
      exact hQ _ _ _ _ _ q w1 s1 (Rep.sb (d := .non) (rep_frz R'.wd n) .non)
  · obtain ⟨d', M'', fr, q⟩ := q'
    cases fr with
    | same => exact hQ _ _ _ _ _ q R'.wd R'.sin p
    | drop =>
      obtain ⟨w1, s1⟩ := frz_end R'.wd R'.sin
      exact hQ _ _ _ _ _ q w1 s1 (p.mono frzG_sub)
    | frz n =>
      obtain ⟨w1, s1⟩ := frz_end R'.wd R'.sin
      exact hQ _ _ _ _ _ q w1 s1 ((p.mono frzG_sub).sb (rep_frz R'.wd n))
end
end Z
namespace Z
open PySem PySem.Spec PyProof.Rows L2

theorem lc_turns {Y : Cx} {tg iter elt : Expr} {scope : Scope} {pos : Pos} {it D : Addr} {tn : Nat → Heap → Prop} {J : It} {σw : L2.St} {vs : List Nat} {g : TG} {tt : TT} {te : TE} {ifs : List Expr} {R : Result → Shared → Prop} {W : Nat → Nat → Hp → Prop} {Fin : Hp → Prop}
    (T : Turn Y.prog Y.w Y.K tg J Y.ex it tn) (hc : Y.calm = true) (hp : Y.pn = []) (hw : L2.wipe σw vs = σw) (pg : PG Y tg g) (pt : PTs Y ifs tt)
    (pe : ∀ (pn : List (Addr × Obj)) (s : Shared) (σ : L2.St) (H : Hp) (Q : VK), L2.Inv Y pn σ H s → L2.wipe σ vs = σw → te σ H Q → wpAny (model Y.prog Y.w) Y.A (eval elt Y.env) (EP Y pn σ Q) (fun _ _ => False) s) (hxe : Y.xe = fun _ _ => False)
    (turn : ∀ i m H, W i m H → (J.stop i H ∧ Fin H) ∨ (J.go i H ∧ ∃ Nx : Hp → Prop, (∀ H', Nx H' → ∃ m', m' < m ∧ W (i + 1) m' H') ∧ ∀ x H', J.yld i H x H' → g x σw H' fun σ2 H2 => L2.wipe σ2 vs = σw ∧ tt σ2 H2 fun b H3 => if b = true then te σ2 H3 fun y H4 => ∃ acc, H4 D = some (.lst acc) ∧ acc.length < sizeLine ∧ Nx (upd H4 D (.lst (acc ++ [y]))) else Nx H3))
    (fin : ∀ s H, L2.Inv Y [] σw H s → Fin H → R (.ok .next) s) {s : Shared} {H : Hp} {m : Nat} (I : L2.Inv Y [] σw H s) (st : tn 0 s.heap) (nf : ∀ b ∈ Y.ex, H b = none) (w : W 0 m H) :
    codeAny (model Y.prog Y.w) Y.A (.compLoop (.ListComp elt [⟨tg, iter, ifs, 0⟩] scope pos) 0 (.ref it) (.ref D) Y.env) R s := by
  have own : ∀ {σ' : L2.St} {H' : Hp} {s' : Shared}, L2.Inv Y [] σ' H' s' → (∀ b ∈ Y.ex, H' b = none) → ∀ b ∈ Y.ex, FpOk Y [] H' b := fun {σ' H' s'} I' hn b hb =>
    ⟨hn b hb, (I'.ok.exf b hb).1, I'.ok.exfs b hb, .inl hb, fun x c e => (I'.ok.exf b hb).2 x c e, fun p hp' => absurd (show p ∈ Y.pn ++ [] from hp') (by rw [hp]; simp)⟩
  refine compLoop_any (fun n s' => ∃ i H', L2.Inv Y [] σw H' s' ∧ tn i s'.heap ∧ (∀ b ∈ Y.ex, H' b = none) ∧ W i n H') ?_ m ⟨0, H, I, st, nf, w⟩
  rintro n s5 ⟨i, H5, I5, st5, n5, w5⟩
  rcases turn i n H5 w5 with ⟨stop, q⟩ | ⟨go, Nx, hNx, step⟩
  · refine thnF (T.done Y rfl rfl rfl hc i [] s5 _ H5 (fun _ _ => False) I5 (own I5 n5) st5 stop) fun r s6 ⟨hr, I6⟩ => ?_
    subst hr
    exact fin _ _ I6 q
  · refine thnF (T.item Y rfl rfl rfl hc i [] s5 _ H5 (fun _ _ => False) I5 (own I5 n5) st5 go) fun r s6 ⟨u, hr, h6⟩ => ?_
    subst hr
    refine thnF h6 fun _ s7 ⟨x, H7, I7, r7, y7, st7, n7⟩ => ?_
    have hg := pg.run _ s7 _ H7 x u _ (I7.pinned (own I7 n7) (T.obj _ _ st7)) r7 (step x H7 y7)
    rw [hxe] at hg
    refine thnF hg fun _ s8 ⟨σ8, H8, I8, hw8, q8⟩ => ?_
    have ht := pt.run _ s8 σ8 H8 _ I8 q8
    rw [hxe] at ht
    refine thnF ht fun b s9 ⟨H9, I9, q9⟩ => ?_
    have back : ∀ {s' : Shared} {H' : Hp}, L2.Inv Y ([] ++ pinsAt Y.ex s7.heap) σ8 H' s' → Nx H' → ∃ m, m < n ∧ ∃ i H', L2.Inv Y [] σw H' s' ∧ tn i s'.heap ∧ (∀ b ∈ Y.ex, H' b = none) ∧ W i m H' := fun {s' H'} I' nx => by
      obtain ⟨m', hm, w'⟩ := hNx _ nx
      have pinned : ∀ b ∈ Y.ex, ∀ o, s7.heap.get? b = some o → s'.heap.get? b = some o ∧ H' b = none := fun b hb o e =>
        let z := I'.pin (b, o) (List.mem_append_right _ (List.mem_append_right _ (mem_pinsAt hb e)))
        ⟨z.1, z.2.1⟩
      refine ⟨m', hm, i + 1, _, (I'.unpinned (pins := [])).weak ?_ (fun j v e => ?_), T.keep _ _ _ st7 fun b hb o e => (pinned b hb o e).1, fun b hb => ?_, w'⟩
      · rw [← hw8, L2.wipe_length]
      · rw [← hw8] at e
        exact (wipe_some e).1
      · obtain ⟨o, e, _⟩ := T.obj _ _ st7 b hb
        exact (pinned b hb o e).2
    cases b with
    | false => exact back I9 q9
    | true =>
      rw [if_pos rfl] at q9 ⊢
      refine thnF (pe _ s9 σ8 _ _ I9 hw8 q9) fun z s10 ⟨yv, H10, I10, r10, acc, hD10, hz10, nx⟩ => ?_
      exact app_ok (X := Y) I10 hD10 hz10 r10 fun s11 I11 => back I11 nx
theorem lc_inv {X : Cx} {pins : List (Addr × Obj)} {s : Shared} {σ : L2.St} {H : Hp} {Q : VK} {elt tg iter : Expr} {scope : Scope} {own : List (Str × Nat)} {pos : Pos} {wi : TI} {g : TG} {tt : TT} {te : TE} {ifs : List Expr}
    (hc : X.calm = true) (hN : X.N.Nodup) (I : L2.Inv X pins σ H s) (hi : PI X tg iter wi) (ok : BlkOk X.N X.env.scope scope own)
    (hg : ∀ (s : Shared) (H : Hp) (C : Addr) (cl : List (Str × Addr)) (fp : List Addr), PG (X.blk s H scope (compEnvC scope cl C X.env) fp) tg g)
    (ht : ∀ (s : Shared) (H : Hp) (C : Addr) (cl : List (Str × Addr)) (fp : List Addr), PTs (X.blk s H scope (compEnvC scope cl C X.env) fp) ifs tt)
    (he : ∀ (s3 : Shared) (H3 : Hp) (C : Addr) (cl : List (Str × Addr)) (fp : List Addr), L2.Inv X pins σ H3 s3 → (∀ b ∈ fp, FpOk X pins H3 b) → ∀ (pn : List (Addr × Obj)) (s : Shared) (σ8 : L2.St) (H : Hp) (Q : VK), L2.Inv (X.blk s3 H3 scope (compEnvC scope cl C X.env) fp) pn σ8 H s → L2.wipe σ8 (own.map (·.2)) = L2.wipe σ (own.map (·.2)) → te σ8 H Q →
      wpAny (model X.prog X.w) X.A (eval elt (compEnvC scope cl C X.env)) (EP (X.blk s3 H3 scope (compEnvC scope cl C X.env) fp) pn σ8 Q) (fun _ _ => False) s)
    (h : tLc wi g tt te (own.map (·.2)) σ H Q) (hs : ∀ x, foldedSetIterable iter X.env x = pure x := by intro _; rfl) :
    wpAny (model X.prog X.w) X.A (eval (.ListComp elt [⟨tg, iter, ifs, 0⟩] scope pos) X.env) (EP X pins σ Q) X.xe s := by
  have hfree : ∀ y ∈ scope.names, y.2 = .free → ∃ c, X.env.cells.lookup y.1 = some c := fun y hy e => (ok.free y hy e).elim (fun k => I.ok.has _ (.inl k)) fun k => I.ok.has _ (.inr k)
  rw [eval_ListComp]
  refine wpAny_comprehension_free rfl hs (closure_ok hfree) ok.kind (fun y hy e => by rw [ok.uniq y hy, e]) (thn (hi.run pins s σ H _ I h) fun xv s1 hx => thn hx fun itv s2 h2 => ?_)
  obtain ⟨it, fp, tn, J, H2, e, I2, T, st2, f2, q⟩ := h2
  subst e
  refine wpAny_newObj_type (newEnv_comp ?_) (by show 0 ≤ sizeLine; decide)
  have hDn : H2 s2.heap.objs.size = none := I2.hok.fresh (Nat.le_refl _)
  obtain ⟨W, ⟨m0, w0⟩, turn⟩ := q s2.heap.objs.size hDn
  have I3 : L2.Inv X pins σ (upd H2 s2.heap.objs.size (.lst [])) { s2 with heap := s2.heap.push { cls := .type "list", data := .seq ([] : List Value).toArray } } :=
    I2.laid (t' := s2.toks) (fun b o e => Heap.get?_push_of_some _ e) (Nat.le_refl _) ⟨Nat.zero_le _, [], 0, .nil, Heap.get?_push_size _ rfl⟩
  have sz : ∀ b ∈ fp, b < s2.heap.objs.size := fun b hb => let ⟨o, e, _⟩ := T.obj _ _ st2 b hb; Heap.lt_size e
  have f3 : ∀ b ∈ fp, FpOk X pins (upd H2 s2.heap.objs.size (.lst [])) b := fun b hb => ⟨by rw [upd_ne (Nat.ne_of_lt (sz b hb))]; exact (f2 b hb).1, (f2 b hb).2⟩
  have st3 := T.keep _ _ (s2.heap.push { cls := .type "list", data := .seq ([] : List Value).toArray }) st2 fun b _ o e => Heap.get?_push_of_some _ e
  generalize hD : s2.heap.objs.size = D at *
  generalize hs3 : ({ s2 with heap := s2.heap.push { cls := .type "list", data := .seq ([] : List Value).toArray } } : Shared) = s3 at I3
  have h3 : s2.heap.push { cls := .type "list", data := .seq ([] : List Value).toArray } = s3.heap := by rw [← hs3]
  rw [h3] at st3
  have sz3 : ∀ b ∈ fp, b < s3.heap.objs.size := fun b hb => let ⟨o, e, _⟩ := T.obj _ _ st3 b hb; Heap.lt_size e
  generalize hH3 : upd H2 D (.lst []) = H3 at *
  have I4 := block_start I3 ok hN fun b hb => ⟨f3 b hb, sz3 b hb⟩
  have st4 : tn 0 (pushCells (s3.heap.push { cls := .type "dict", data := .dict #[] }) scope.names) := T.keep _ _ _ st3 fun b _ o e => pushCells_keeps _ _ _ _ (Heap.get?_push_of_some _ e)
  show codeAny _ _ (.compStart (.ListComp elt [⟨tg, iter, ifs, 0⟩] scope pos) 0 (.ref it) (.ref D) (compEnvC scope (cellsFrom (s3.heap.objs.size + 1) scope.names (cloFrom X.env.cells scope.names [])) s3.heap.objs.size X.env)) (compPost (model X.prog X.w) X.A X.xe none (EP X pins σ Q) (.ref D) s3.heap.objs.size) { s3 with heap := pushCells (s3.heap.push { cls := .type "dict", data := .dict #[] }) scope.names }
  have loop : codeAny (model X.prog X.w) X.A (.compLoop (.ListComp elt [⟨tg, iter, ifs, 0⟩] scope pos) 0 (.ref it) (.ref D) (compEnvC scope (cellsFrom (s3.heap.objs.size + 1) scope.names (cloFrom X.env.cells scope.names [])) s3.heap.objs.size X.env)) (compPost (model X.prog X.w) X.A X.xe none (EP X pins σ Q) (.ref D) s3.heap.objs.size) { s3 with heap := pushCells (s3.heap.push { cls := .type "dict", data := .dict #[] }) scope.names } := by
    refine lc_turns (Y := X.blk s3 H3 scope (compEnvC scope (cellsFrom (s3.heap.objs.size + 1) scope.names (cloFrom X.env.cells scope.names [])) s3.heap.objs.size X.env) fp) (W := W) (Fin := fun H => Q (.ref D) H) T hc rfl wipe_wipe (hg _ _ _ _ _) (ht _ _ _ _ _) (fun pn s' σ8 H' Q' I8 hw8 q8 => he s3 H3 _ _ fp I3 f3 pn s' σ8 H' Q' I8 hw8 q8) rfl (fun i m H' w' => ?_) (fun s6 H6 I6 q6 => ?_) I4 st4 (fun b hb => (f3 b hb).1) w0
    · rcases turn i m H' w' with z | ⟨z1, Nx, z2, z3⟩
      · exact .inl z
      · exact .inr ⟨z1, Nx, z2, z3⟩
    · obtain ⟨m, hn, _⟩ := I6.loc
      have nC : H6 s3.heap.objs.size = none := I6.free
      have I7 : L2.Inv X pins σ H6 s6 := I3.call' (ch := fp) I6.os I6.base I6.hok I6.bare fun b hb => ⟨(f3 b hb).2.2.2.1, (f3 b hb).2.1, (f3 b hb).2.2.2.2.1, (f3 b hb).2.2.2.2.2⟩
      refine ⟨m, hn, fun h'' sb => ?_⟩
      obtain ⟨g0, g1, g2, g3, g4, g5⟩ := I3.fpOk (Nat.le_refl _) nC
      exact ⟨.ref D, H6, I7.turned (t' := s6.toks) (fun b o hb e => (sb.2 b hb).trans e) g0 g1 g3 g4 g5, rfl, q6⟩
  exact codeAny_compStart_list loop (T.self X.A 0 _ _ _ st4 loop)
def ownB (N : List Str) (sc : Scope) (own : List (Str × Nat)) : Bool := own.all fun q => decide (N[q.2]? = some q.1) && (!decide (sc.names.lookup q.1 = some .cell) && !decide (sc.names.lookup q.1 = some .free))
theorem own_by {N : List Str} {sc : Scope} {own : List (Str × Nat)} (h : ownB N sc own = true) : ∀ q ∈ own, N[q.2]? = some q.1 ∧ ¬ (sc.names.lookup q.1 = some .cell ∨ sc.names.lookup q.1 = some .free) := fun q hq => by
  have := List.all_eq_true.mp h q hq
  simp only [Bool.and_eq_true, Bool.not_eq_true', decide_eq_true_eq, decide_eq_false_iff_not] at this
  exact ⟨this.1, fun z => z.elim this.2.1 this.2.2⟩
section
variable {X : Cx} {B : Bs} {j k : Nat} {x : Str} {e : Expr} {ga : DTA} {p cpos pos : Pos}
theorem de_lcW {tg iter : Expr} {ifs : List Expr} {scope : Scope} {own : List (Str × Nat)} {wi : DTI} {g : TG} {as : D → En → (En → Prop) → Prop} {tt : DTT} (W : WhyOk X.prog X.w X.K X.mg X.base x j) (hr : Room k X.A) (hc : X.calm = true) (hN : X.N.Nodup) (hi : DI X B tg iter wi) (ok : BlkOk X.N X.env.scope scope own) (tgk : TgOk X.K (own.map (·.2)) g as)
    (hg : ∀ (s : Shared) (H : Hp) (C : Addr) (cl : List (Str × Addr)) (fp : List Addr), PG (X.blk s H scope (compEnvC scope cl C X.env) fp) tg g)
    (ht : ∀ (B : Bs) (s : Shared) (H : Hp) (C : Addr) (cl : List (Str × Addr)) (fp : List Addr), PTs (X.blk s H scope (compEnvC scope cl C X.env) fp) ifs (liftT X.K B tt))
    (ha : ∀ (B : Bs) (s : Shared) (H : Hp) (C : Addr) (cl : List (Str × Addr)) (fp : List Addr), DA (X.blk s H scope (compEnvC scope cl C X.env) fp) B [e] ga) (hs : ∀ x, foldedSetIterable iter X.env x = pure x := by intro _; rfl)
    (hv' : ownB X.N X.env.scope own = true := by rfl) (hj : j + 2 ≤ k := by decide) (hdb : (x == ("__debug__" : Str)) = false := by decide)
    (hgl : ∀ (s : Shared) (H : Hp) (C : Addr) (cl : List (Str × Addr)) (fp : List Addr), Gl (X.blk s H scope (compEnvC scope cl C X.env) fp) x := by intros; rfl)
    (he : ∀ env : Env, starEach [e] env = (false, eval e env) :: starEach [] env := by intro _; rfl) (hpl : ∀ env : Env, (backTo cpos (starEach [] env)).any (·.1) = false := by intro _; rfl) :
    DE X B (.ListComp (.Call (.Name x p) [e] [] cpos) [⟨tg, iter, ifs, 0⟩] scope pos) (fun r M Ψ => compD (own.map (·.2)) wi as tt (fun r M Ψ => ga r M fun ds M1 => whyD X j r ds M1 Ψ) r M fun acc M' => Ψ (.lst acc) M') := by
  have hv := own_by hv'
  obtain ⟨f, hm, hk⟩ : ∃ f, X.mg x = some (.ref f) ∧ PySem.W.keepIn X.K (.ref f) = true := by
    obtain ⟨f, _, _, _, _, _, h1, h2, _⟩ := W.ex
    exact ⟨f, h1, h2⟩
  refine ⟨fun pins s σ H Q I ⟨r, M, G, Ψ, R, h, kk⟩ => ?_⟩
  refine lc_inv (tt := liftTAny X.K tt) (te := liftAny X.K _) hc hN I hi ok hg (fun s H C cl fp => ⟨fun pins s1 σ H1 Q I ⟨B', q⟩ => (ht B' s H C cl fp).run pins s1 σ H1 Q I q⟩) (fun s3 H3 C cl fp I3 hf pn s8 σ8 H8 Q8 I8 hw q8 => ?_) (comp_core tgk R h fun acc M' H' G' D us q R' s hL rl h0 hM hG => ?_) hs
  · obtain ⟨B', r8, M8, G8, Ψ8, R8, h8, k8⟩ := q8
    have C3 : Cap X σ8 H3 s3.heap := (Cap.of I3).swap hw fun i hi y hy => by
      obtain ⟨q, hq, rfl⟩ := List.mem_map.mp hi
      obtain ⟨h1, h2⟩ := hv q hq
      rw [hy] at h1
      cases h1
      exact h2
    have hx : ∀ y c, X.env.cells.lookup y = some c → c ∉ fp := fun y c e z => (hf c z).2.2.2.2.1 y c e rfl
    refine wpAny_Call_Name_kw (ld_glob I8 (hgl s3 H3 C cl fp) hm ?_ hdb)
    refine PySem.W.callWith_K (h₀ := X.base) I8.ok.mod.kin hk (thn ((ha B' s3 H3 C cl fp).run cpos pn s8 σ8 H8 (fun vs H1 => ∃ ds M1 G1, whyD X j r8 ds M1 Ψ8 ∧ Rel X.K B' r8 M1 σ8 H1 G1 ∧ Sub G8 G1 ∧ RepL X.K G1 ds vs) I8 ⟨r8, M8, G8, _, R8, h8, fun ds M1 vs H1 G1 q R1 s1 p1 => ⟨ds, M1, G1, q, R1, s1, p1⟩⟩) fun us s1 ⟨vs, H1, I1, rv, ds, M1, G1, q, R1, s1', p1⟩ => ⟨I1.kIn, ?_⟩) (he _) (hpl _)
    obtain ⟨m, hm', rfl, q⟩ := q
    have C1 : Cap X σ8 H1 s1.heap := C3.move I1.base hx
    cases p1 with
    | cons p1 p2 =>
      cases p2
      cases rv with
      | cons rv r2 =>
        cases r2
        refine wpAny_call (codeAny_mono (why_coreC W hm (hr.mono hj) I1.env0 I1.kIn C1 R1 rv p1 hm' q fun d M' v H' G' q w sn p => k8 _ _ _ _ _ q (R1.go w sn) (s1'.tr sn.gsub) p) fun fr s' hq => ?_)
        cases fr with
        | error e => exact LamX.takes0 e s' (XE.of_call I1 (W := fun _ _ _ _ => False) (fun _ _ _ h => h) hq)
        | ok fl =>
          cases fl with
          | ret u => exact I1.after hq
          | next => exact False.elim hq
          | brk => exact False.elim hq
          | cont => exact False.elim hq
  · obtain ⟨a1, a2, a3⟩ := frz_list R' hL rl h0 hM hG
    exact kk _ _ _ _ _ q a1 (s.tr a2) a3
end
end Z
namespace Z
open PySem PySem.Spec PyProof.Rows L2

inductive Two {α β : Type} (R : α → β → Prop) : List α → List β → Prop
  | nil : Two R [] []
  | cons {x : α} {y : β} {xs : List α} {ys : List β} (h : R x y) (r : Two R xs ys) : Two R (x :: xs) (y :: ys)
theorem Two.len {α β : Type} {R : α → β → Prop} : ∀ {xs : List α} {ys : List β}, Two R xs ys → xs.length = ys.length
  | _, _, .nil => rfl
  | _, _, .cons _ r => congrArg (· + 1) r.len
theorem Two.at {α β : Type} {R : α → β → Prop} : ∀ {xs : List α} {ys : List β}, Two R xs ys → ∀ (i : Nat) (d : α), xs[i]? = some d → ∃ y, ys[i]? = some y ∧ R d y
  | _, _, .cons h r, 0, d, e => by
    simp only [List.getElem?_cons_zero, Option.some.injEq] at e
    subst e
    exact ⟨_, rfl, h⟩
  | _, _, .cons h r, i + 1, d, e => by
    simp only [List.getElem?_cons_succ] at e ⊢
    exact r.at i d e
section
variable {vs : List Nat} {wi : DTI} {as : D → En → (En → Prop) → Prop} {fe : DTE} {r : En} {M : Sto} {Φ : List D → Sto → Prop}
theorem compD_two {xs ys : List D} {S : Sto → Prop} (hw : ∀ K : List D → (Sto → Prop) → Sto → Prop, K xs S M → wi r M K) (hS : S M) (hl : xs.length ≤ sizeLine) (h : Two (fun d y => ∀ Q : D → Sto → Prop, Q y M → as d (wipeD r vs) fun r2 => fe r2 M Q) xs ys) (fin : Φ ys M) :
    compD vs wi as (fun _ M Ψ => Ψ true M) fe r M Φ := by
  unfold compD
  refine hw _ ⟨fun i acc M' => M' = M ∧ acc = ys.take i, ⟨rfl, rfl⟩, fun i acc M' h => by rw [h.1]; exact hS, fun i d acc M' hd ⟨e1, e2⟩ => ?_, fun acc M' ⟨e1, e2⟩ => ?_⟩
  · subst e1 e2
    obtain ⟨y, hy, q⟩ := h.at i d hd
    obtain ⟨hi, ei⟩ := List.getElem?_eq_some_iff.mp hy
    obtain ⟨hx, _⟩ := List.getElem?_eq_some_iff.mp hd
    have hlt : (ys.take i).length < sizeLine := Nat.lt_of_le_of_lt (List.length_take_le _ _) (Nat.lt_of_lt_of_le hx hl)
    refine q _ ?_
    refine ⟨hlt, rfl, ?_⟩
    rw [List.take_add_one, hy]
    rfl
  · subst e1 e2
    rw [h.len, List.take_length]
    exact fin
end
theorem whyD_of {X : Cx} {j : Nat} {r : En} {M : Sto} {Ψ : PD} {l : Lam} {ps : List Str} {ns : List Int} {t : (XD → En → Sto → Prop) → DTE} (o : LamOk X l) (T : LamT X l ps) (n : ns.length = ps.length) (b : LamBody X j l t) (h : t (fun x _ M' => whyΞ X.K Ψ x M') r M (whyΨ Ψ)) : whyD X j r [.fn (lamQ l ns)] M Ψ :=
  ⟨⟨l, ps, ns, t⟩, ⟨o, T, n, b⟩, rfl, h⟩
theorem RepL.rep {K : PySem.W.Frag} {G : Hp} {a : List D} {us : List V} (r : RepL K G a us) : ∀ n : Nat, RepL K G (List.replicate n a).flatten (List.replicate n us).flatten
  | 0 => .nil
  | n + 1 => by
    rw [List.replicate_succ, List.replicate_succ, List.flatten_cons, List.flatten_cons]
    exact r.app (r.rep n)
end Z
namespace Z
open PySem PySem.Spec PyProof.Rows L2

section
variable {X : Cx} {B : Bs} {o e a b c : Expr} {es : List Expr} {fo : DTE} {ga : DTA} {apos pos p : Pos}
end
end Z
namespace Z
open PySem PySem.Spec PyProof.Rows L2

def PerF (f : Nat → Nat) (k : Nat) : Prop := ∀ i, f (i + k) = f i
theorem PerF.mul {f : Nat → Nat} {k : Nat} (h : PerF f k) (q i : Nat) : f (i + k * q) = f i := by
  induction q with
  | zero => rfl
  | succ q ih => rw [Nat.mul_succ, ← Nat.add_assoc, h, ih]
theorem PerF.sub {f : Nat → Nat} {a b : Nat} (ha : PerF f a) (hb : PerF f b) : PerF f (b % a) := fun i => by
  have := ha.mul (b / a) (i + b % a)
  rw [Nat.add_assoc, Nat.mod_add_div, hb] at this
  exact this.symm
theorem PerF.gcd {f : Nat → Nat} (a b : Nat) : PerF f a → PerF f b → PerF f (Nat.gcd a b) := by
  induction a, b using Nat.gcd.induction with
  | H0 n => intro _ hb; rw [Nat.gcd_zero_left]; exact hb
  | H1 m n hm ih =>
    intro ha hb
    rw [Nat.gcd_rec]
    exact ih (ha.sub hb) ha
end Z
namespace Z
open PySem PySem.Spec PyProof.Rows L2

theorem wlen {w : List Nat} : (⟨w.toArray⟩ : Str).length = w.length := List.size_toArray
theorem wapp {a b : List Nat} : (⟨a.toArray⟩ : Str) ++ ⟨b.toArray⟩ = ⟨(a ++ b).toArray⟩ := by
  show (⟨_ ++ _⟩ : Str) = _
  simp
end Z
namespace Z
open PySem PySem.Spec PyProof.Rows L2

end Z
namespace Z
open PySem PySem.Spec PyProof.Rows L2

section
variable {M : Sto} {w u : List Nat} {φ : D → Prop} {Φ : PD}
theorem add_w (h : w.length ≤ 400000) (h' : u.length ≤ 400000) (q : φ (.str ⟨(w ++ u).toArray⟩)) : addD M (.str ⟨w.toArray⟩) (.str ⟨u.toArray⟩) φ := by
  refine ⟨sz2 (n := 400000) (m := 400000) (by rw [wlen]; exact h) (by rw [wlen]; exact h') (by decide), ?_⟩
  rw [wapp]
  exact q
theorem one_w {c : Nat} : (⟨#[c]⟩ : Str) = ⟨[c].toArray⟩ := rfl
end
theorem PerF.least {f : Nat → Nat} {m k : Nat} (m0 : 0 < m) (pm : PerF f m) (hm : ∀ j, j < m → ¬ (0 < j ∧ PerF f j)) (p : PerF f k) : m ∣ k := by
  have g := PerF.gcd m k pm p
  have h1 : 0 < Nat.gcd m k := Nat.gcd_pos_of_pos_left _ m0
  have h2 : Nat.gcd m k = m := by
    have := Nat.le_of_dvd m0 (Nat.gcd_dvd_left m k)
    rcases Nat.lt_or_ge (Nat.gcd m k) m with z | z
    · exact absurd ⟨h1, g⟩ (hm _ z)
    · omega
  rw [← h2]
  exact Nat.gcd_dvd_right _ _
theorem LR.take {w : List Nat} (h : LR w) (k : Nat) : LR (w.take k) := fun c hc => h c (List.mem_of_mem_take hc)
theorem LR.drop {w : List Nat} (h : LR w) (k : Nat) : LR (w.drop k) := fun c hc => h c (List.mem_of_mem_drop hc)
theorem LR.app {w u : List Nat} (h : LR w) (h' : LR u) : LR (w ++ u) := fun c hc => (List.mem_append.mp hc).elim (h c) (h' c)
end Z
namespace Z
open PySem PySem.Spec PyProof.Rows L2

end Z
namespace Z
open PySem PySem.Spec PyProof.Rows L2

section
variable {X : Cx} {B : Bs} {a b : Expr} {fa fb : DTE} {pos : Pos}
end
theorem PerF.mod {f : Nat → Nat} {k : Nat} (h : PerF f k) (i : Nat) : f (i % k) = f i := by
  have := h.mul (i / k) (i % k)
  rw [Nat.mod_add_div] at this
  exact this.symm
theorem alike {f g : Nat → Nat} {p q : Nat} (hp : PerF f p) (hq : PerF g q) (p0 : 0 < p) (q0 : 0 < q) (h : ∀ i, i < p + q → f i = g i) (i : Nat) : f i = g i := by
  have fq : PerF f q := fun i => by
    have hm := Nat.mod_lt i p0
    have e1 : f (i + q) = f (i % p + q) := by
      have := hp.mul (i / p) (i % p + q)
      rw [← this]
      congr 1
      have := Nat.mod_add_div i p
      omega
    rw [e1, h _ (by omega), hq, ← h _ (by omega), hp.mod]
  have hm := Nat.mod_lt i q0
  rw [← fq.mod i, h _ (by omega), hq.mod]
theorem LR.oc {w : List Nat} (h : LR w) : LR (w.map Z.oc) := fun c hc => by
  obtain ⟨d, hd, rfl⟩ := List.mem_map.mp hc
  rcases h d hd with rfl | rfl
  · exact .inr rfl
  · exact .inl rfl
end Z
noncomputable section
namespace Z
open PySem PySem.W PySem.Calls PyProof.Rows HandSHeadRun

section
variable (st : SharedT → Thread → Option (SharedT × Thread)) (n0 : Nat) (ann : Option Value)
def segF (b : Nat) : Nat → SharedT → Thread → Option (Flow × SharedT × Code × Pos)
  | 0, _, _ => none
  | m + 1, s, t => match endAt b t with
    | some f => some (f, s, t.code, t.pos)
    | none => match stepOk n0 ann t with
      | false => none
      | true => match st s t with
        | some (s', t') => frS s' fun s' => segF b m s' t'
        | none => none
def preF : Nat → SharedT → Thread → Option (SharedT × Thread)
  | 0, s, t => some (s, t)
  | m + 1, s, t => match through t with
    | true => none
    | false => match stepOk n0 ann t with
      | false => none
      | true => match st s t with
        | some (s', t') => frS s' fun s' => preF m s' t'
        | none => none
end
theorem segF_eq {st : SharedT → Thread → Option (SharedT × Thread)} {n0 : Nat} {ann : Option Value} {b m : Nat} {s : SharedT} {t : Thread} : segF st n0 ann b (m + 1) s t = (match endAt b t with
    | some f => some (f, s, t.code, t.pos)
    | none => match stepOk n0 ann t with
      | false => none
      | true => match st s t with
        | some (s', t') => frS s' fun s' => segF st n0 ann b m s' t'
        | none => none) := rfl
theorem preF_eq {st : SharedT → Thread → Option (SharedT × Thread)} {n0 : Nat} {ann : Option Value} {m : Nat} {s : SharedT} {t : Thread} : preF st n0 ann (m + 1) s t = (match through t with
    | true => none
    | false => match stepOk n0 ann t with
      | false => none
      | true => match st s t with
        | some (s', t') => frS s' fun s' => preF st n0 ann m s' t'
        | none => none) := rfl
section
variable {tb : String → Option Builtin} {p : Program} {w : World} {n0 : Nat} {ann : Option Value}
theorem segF_ok {b : Nat} : ∀ {m : Nat} {s s' : SharedT} {t : Thread} {f : Flow} {c : Code} {q : Pos}, segF (stepT (denote tb) p w) n0 ann b m s t = some (f, s', c, q) → segRun tb p w n0 ann b m s.abs t = some (f, s'.abs, c, q)
  | 0, _, _, _, _, _, _, h => by cases h
  | m + 1, s, s', t, f, c, q, h => by
    rw [segF_eq] at h
    unfold segRun
    cases he : endAt b t with
    | some x =>
      rw [he] at h
      cases h
      rfl
    | none =>
      rw [he] at h
      cases hk : stepOk n0 ann t with
      | false =>
        rw [hk] at h
        cases h
      | true =>
        rw [hk] at h
        cases hs : stepT (denote tb) p w s t with
        | none =>
          rw [hs] at h
          cases h
        | some r =>
          obtain ⟨s2, t2⟩ := r
          rw [hs] at h
          have h3 : (frS s2 fun s' => segF (stepT (denote tb) p w) n0 ann b m s' t2) = some (f, s', c, q) := h
          rw [frS_eq] at h3
          have z := segF_ok h3
          show (match step (denote tb) p w s.abs t with
            | .go s' t' => segRun tb p w n0 ann b m s' t'
            | .halt _ _ => none) = _
          rw [stepT_spec hs]
          exact z
theorem preF_ok : ∀ {m : Nat} {s s' : SharedT} {t t' : Thread}, preF (stepT (denote tb) p w) n0 ann m s t = some (s', t') → topGo tb p w n0 ann m s.abs t = some (s'.abs, t')
  | 0, _, _, _, _, h => by cases h; rfl
  | m + 1, s, s', t, t', h => by
    rw [preF_eq] at h
    unfold topGo
    cases he : through t with
    | true =>
      rw [he] at h
      cases h
    | false =>
      rw [he] at h
      cases hk : stepOk n0 ann t with
      | false =>
        rw [hk] at h
        cases h
      | true =>
        rw [hk] at h
        cases hs : stepT (denote tb) p w s t with
        | none =>
          rw [hs] at h
          cases h
        | some r =>
          obtain ⟨s2, t2⟩ := r
          rw [hs] at h
          have h3 : (frS s2 fun s' => preF (stepT (denote tb) p w) n0 ann m s' t2) = some (s', t') := h
          rw [frS_eq] at h3
          have z := preF_ok h3
          show (match step (denote tb) p w s.abs t with
            | .go s' t' => topGo tb p w n0 ann m s' t'
            | .halt _ _ => none) = _
          rw [stepT_spec hs]
          exact z
end
def envT (p : Program) (cv : Value) (fr : Addr) : Env := { scope := p.main.scope, locals := mainNs, globals := mainNs, cells := [], code := cv, frame := some fr }
def codT (p : Program) (cv : Value) (fr : Addr) : Code := .body (behindTheImports p) (envT p cv fr)
def firstF (st : SharedT → Thread → Option (SharedT × Thread)) (p : Program) (w : World) (cv : Value) (fr : Addr) (q : Pos) (m0 mB m : Nat) (l : List Stmt) (os : OsState) : Option (Nat × Thread × Flow × Code × Flow × SharedT × Code × Pos) :=
  match putAll (boot_heap w.params).objs.toList .nil 0 with
  | some (t, n) => frNat n fun n0 => match preF st n0 (bootAnn w) m0 (bootT w os (t, n0)) (topStub p) with
    | some (sa, ta) => (match segF st n0 (bootAnn w) 1 mB sa (blockOf (behindTheImports p) (envT p cv fr) ta.code ta.pos [topFrame q]) with
      | some (f1, sb, c1, p1) => (match segF st n0 (bootAnn w) 1 m sb (piecesOf l (envT p cv fr) c1 p1 [topFrame q]) with
        | some (f2, s1, c2, p2) => some (n0, ta, f1, c1, f2, s1, c2, p2)
        | none => none)
      | none => none)
    | none => none
  | none => none
def lastF (st : SharedT → Thread → Option (SharedT × Thread)) (p : Program) (w : World) (cv : Value) (fr : Addr) (q : Pos) (n0 m mf : Nat) (l : List Stmt) (s : SharedT) (pos : Pos) : Option (Flow × Code × SharedT) :=
  match segF st n0 (bootAnn w) 1 m s (piecesOf l (envT p cv fr) (codT p cv fr) pos [topFrame q]) with
  | some (f, s1, c1, p1) => (match goF st n0 (bootAnn w) mf s1 ⟨doneF .next, c1, p1, [topFrame q]⟩ with
    | some sf => some (f, c1, sf)
    | none => none)
  | none => none
def RestOk (p q : Program) (loose : List PySem.Str) (Xt : Shared → Bool) {α : Type} (ob : SharedT → α) (val : World → α) (cv : Value) (fr : Addr) (qp : Pos) (n0 : Nat) (M : Nat) (S : World → OsState → SharedT) (l : List Stmt) (pos : Pos) : Prop :=
  ∀ (w : World) (os : OsState), ∃ sf : SharedT, topRun treeTable p w n0 (bootAnn w) M (S w os).abs (restOf l (envT p cv fr) (codT p cv fr) pos [topFrame qp]) = some sf.abs ∧
    (looksF p (boot_heap w.params) sf.abs, openSeen q loose (importedModules p.main.body) Xt true sf.abs, ob sf) = (true, openGood q loose, val w)
section
variable {p q : Program} {loose : List PySem.Str} {Xt : Shared → Bool} {α : Type} {ob : SharedT → α} {val : World → α} {cv : Value} {fr : Addr} {qp : Pos} {n0 M m mf : Nat} {S S' : World → OsState → SharedT} {l l' : List Stmt} {pos pos' : Pos}
abbrev stQ (p : Program) (w : World) : SharedT → Thread → Option (SharedT × Thread) := stepQ (denQ tabQ) p w
theorem stQ_eq {p : Program} {w : World} : stQ p w = stepT (denote treeTable) p w := by
  unfold stQ
  rw [← stepQ_eq, ← denQ_eq, ← tabQ_eq]
theorem rest_seg (h : ∀ (w : World) (os : OsState), segF (stQ p w) n0 (bootAnn w) 1 m (S w os) (piecesOf l (envT p cv fr) (codT p cv fr) pos [topFrame qp]) = some (.next, S' w os, codT p cv fr, pos'))
    (k : RestOk p q loose Xt ob val cv fr qp n0 M S' l' pos') : RestOk p q loose Xt ob val cv fr qp n0 (m + M) S (l ++ l') pos := fun w os => by
  obtain ⟨sf, h1, h2⟩ := k w os
  have z := h w os
  rw [stQ_eq] at z
  exact ⟨sf, piece_app (segF_ok z) h1, h2⟩
theorem rest_last (h : ∀ (w : World) (os : OsState), (lastF (stQ p w) p w cv fr qp n0 m mf l (S w os) pos).map (fun x => (x.1, x.2.1, looksF p (boot_heap w.params) x.2.2.abs, seenQ q loose (importedModules p.main.body) Xt x.2.2.abs, ob x.2.2)) = some (.next, codT p cv fr, true, openGood q loose, val w)) :
    RestOk p q loose Xt ob val cv fr qp n0 (m + mf) S l pos := fun w os => by
  obtain ⟨⟨f, c, sf⟩, e1, e2⟩ := Option.map_eq_some_iff.mp (h w os)
  have e2' : (f, c, looksF p (boot_heap w.params) sf.abs, seenQ q loose (importedModules p.main.body) Xt sf.abs, ob sf) = (.next, codT p cv fr, true, openGood q loose, val w) := e2
  simp only [Prod.mk.injEq] at e2'
  obtain ⟨rfl, rfl, a1, a2, a3⟩ := e2'
  rw [stQ_eq] at e1
  unfold lastF at e1
  cases z : segF (stepT (denote treeTable) p w) n0 (bootAnn w) 1 m (S w os) (piecesOf l (envT p cv fr) (codT p cv fr) pos [topFrame qp]) with
  | none => rw [z] at e1; cases e1
  | some r =>
    obtain ⟨f1, s1, c1, p1⟩ := r
    rw [z] at e1
    dsimp only at e1
    cases y : goF (stepT (denote treeTable) p w) n0 (bootAnn w) mf s1 ⟨doneF .next, c1, p1, [topFrame qp]⟩ with
    | none => rw [y] at e1; cases e1
    | some sf' =>
      rw [y] at e1
      cases e1
      refine ⟨sf, ?_, ?_⟩
      · have := piece_app (rest := []) (q := qp) (segF_ok z) (piece_nil (goF_ok y))
        rw [List.append_nil] at this
        exact this
      · rw [← seenQ_eq] at a2
        rw [a1, a2, a3]
theorem rest_last3 (h1 : ∀ (w : World) (os : OsState), (lastF (stQ p w) p w cv fr qp n0 m mf l (S w os) pos).map (fun x => (x.1, x.2.1, looksF p (boot_heap w.params) x.2.2.abs)) = some (.next, codT p cv fr, true))
    (h2 : ∀ (w : World) (os : OsState), (lastF (stQ p w) p w cv fr qp n0 m mf l (S w os) pos).map (fun x => seenQ q loose (importedModules p.main.body) Xt x.2.2.abs) = some (openGood q loose))
    (h3 : ∀ (w : World) (os : OsState), (lastF (stQ p w) p w cv fr qp n0 m mf l (S w os) pos).map (fun x => ob x.2.2) = some (val w)) :
    RestOk p q loose Xt ob val cv fr qp n0 (m + mf) S l pos := rest_last fun w os => by
  obtain ⟨⟨f, c, sf⟩, e1, e2⟩ := Option.map_eq_some_iff.mp (h1 w os)
  have a2 := h2 w os
  have a3 := h3 w os
  rw [e1] at a2 a3 ⊢
  have a2' : seenQ q loose (importedModules p.main.body) Xt sf.abs = openGood q loose := Option.some.inj a2
  have a3' : ob sf = val w := Option.some.inj a3
  have e2' : (f, c, looksF p (boot_heap w.params) sf.abs) = (.next, codT p cv fr, true) := e2
  simp only [Prod.mk.injEq] at e2'
  obtain ⟨z1, z2, z3⟩ := e2'
  show some (f, c, looksF p (boot_heap w.params) sf.abs, seenQ q loose (importedModules p.main.body) Xt sf.abs, ob sf) = _
  rw [z1, z2, z3, a2', a3']
theorem left_cut {N : Nat} {m0 mB : Nat} {pos0 : Pos} (e : opening p = plainProg p.main.scope.names) (hN : Nat.ble 600 N = true) (f : ∀ s, fenceModules? p s = some s) (hb : behindTheImports p = l ++ l')
    (first : ∀ (w : World) (os : OsState), firstF (stQ p w) p w cv fr qp m0 mB m l os = some (n0, ⟨denQ tabQ (codT p cv fr), codT p cv fr, pos0, [topFrame qp]⟩, .next, codT p cv fr, .next, S w os, codT p cv fr, pos))
    (k : RestOk p q loose Xt ob val cv fr qp n0 M S l' pos) (le : Nat.ble (m0 + (mB + (m + M))) N = true) {obs : Shared → α} (ho : ∀ s : SharedT, ob s = obs s.abs) :
    LeftO p q loose Xt obs val N true := fun w => by
  obtain ⟨⟨h, gs, d, kk, os⟩, a, a'⟩ := Option.map_eq_some_iff.mp (boot_open e hN f w)
  obtain ⟨rfl, rfl, rfl, rfl⟩ : h = boot_heap w.params ∧ gs = Array.mk [] ∧ d = boot_drawn ∧ kk = boot_toks := by simpa using a'
  obtain ⟨sf, hr, hv⟩ := k w os
  have hv' : (looksF p (boot_heap w.params) sf.abs, openSeen q loose (importedModules p.main.body) Xt true sf.abs, ob sf) = (true, openGood q loose, val w) := hv
  simp only [Prod.mk.injEq] at hv'
  obtain ⟨l1, l2, l3⟩ := hv'
  have F := first w os
  rw [stQ_eq, show denQ tabQ = denote treeTable by rw [denQ_eq, tabQ_eq]] at F
  unfold firstF at F
  cases e0 : putAll (boot_heap w.params).objs.toList .nil 0 with
  | none => rw [e0] at F; cases F
  | some r0 =>
    obtain ⟨t, n⟩ := r0
    rw [e0] at F
    dsimp only at F
    rw [frNat_eq] at F
    have eh := putAll_heap e0
    have en : (boot_heap w.params).objs.size = n := by
      rw [← eh]
      exact absHeap_size t n _
    have eb : (bootT w os (t, n)).abs = ⟨boot_heap w.params, #[], boot_drawn, boot_toks, os⟩ := by
      show (⟨absHeap t n (boot_heap w.params).life, #[], boot_drawn, boot_toks, os⟩ : Shared) = _
      rw [eh]
    cases e1 : preF (stepT (denote treeTable) p w) n (bootAnn w) m0 (bootT w os (t, n)) (topStub p) with
    | none => rw [e1] at F; cases F
    | some r1 =>
      obtain ⟨sa, ta⟩ := r1
      rw [e1] at F
      dsimp only at F
      cases e2 : segF (stepT (denote treeTable) p w) n (bootAnn w) 1 mB sa (blockOf (behindTheImports p) (envT p cv fr) ta.code ta.pos [topFrame qp]) with
      | none => rw [e2] at F; cases F
      | some r2 =>
        obtain ⟨f1, sb, c1, p1⟩ := r2
        rw [e2] at F
        dsimp only at F
        cases e3 : segF (stepT (denote treeTable) p w) n (bootAnn w) 1 m sb (piecesOf l (envT p cv fr) c1 p1 [topFrame qp]) with
        | none => rw [e3] at F; cases F
        | some r3 =>
          obtain ⟨f2, s1, c2, p2⟩ := r3
          rw [e3] at F
          dsimp only at F
          have F2 := Option.some.inj F
          simp only [Prod.mk.injEq] at F2
          obtain ⟨rfl, rfl, rfl, rfl, rfl, rfl, rfl, rfl⟩ := F2
          have r2 := piece_app (segF_ok e3) hr
          rw [← hb] at r2
          have r1 := piece_block (segF_ok e2) r2
          have r0 := go_top (preF_ok e1) r1
          rw [eb] at r0
          have r := topRun_mono (N - (m0 + (mB + (m + M)))) _ _ _ _ r0
          rw [show m0 + (mB + (m + M)) + (N - (m0 + (mB + (m + M)))) = N by have := Nat.le_of_ble_eq_true le; omega] at r
          have l1' : (staticsOk (importedModules p.main.body) (boot_heap w.params) sf.abs.heap && namesBound p sf.abs.heap && gensDone sf.abs && laidKept (boot_heap w.params) sf.abs.heap) = true := l1
          have tt : topFrom treeTable p w N ⟨boot_heap w.params, Array.mk [], boot_drawn, boot_toks, os⟩ = some sf.abs := by
            unfold topFrom
            dsimp only
            rw [boot_ns]
            show (topRun treeTable p w (boot_heap w.params).objs.size (bootAnn w) N ⟨boot_heap w.params, #[], boot_drawn, boot_toks, os⟩ (topStub p)).bind _ = _
            rw [en, r]
            show (match staticsOk (importedModules p.main.body) (boot_heap w.params) sf.abs.heap && namesBound p sf.abs.heap && gensDone sf.abs && laidKept (boot_heap w.params) sf.abs.heap with | true => some sf.abs | false => none) = _
            rw [l1']
          unfold openEnds
          rw [a]
          show (topFrom treeTable p w N _).map _ = _
          rw [tt, ← l3, ho sf]
          exact congrArg some (Prod.ext l2 rfl)
end
theorem head_cut {r : OpenRow} {q : Program} {H : Hook} {ob : SharedT → H.α} {loose : List PySem.Str} {d : DefRec} {kwd : List (PySem.Str × PySem.Expr)} {cv : Value} {fr : Addr} {qp : Pos} {n0 M m m0 mB : Nat} {S : World → OsState → SharedT} {l l' : List Stmt} {pos pos0 : Pos}
    (ho : ∀ s : SharedT, ob s = H.obs s.abs) (e : opening r.prog = plainProg r.prog.main.scope.names) (f : ∀ s, fenceModules? r.prog s = some s) (hbd : behindTheImports r.prog = l ++ l')
    (first : ∀ (w : World) (os : OsState), firstF (stQ r.prog w) r.prog w cv fr qp m0 mB m l os = some (n0, ⟨denQ tabQ (codT r.prog cv fr), codT r.prog cv fr, pos0, [topFrame qp]⟩, .next, codT r.prog cv fr, .next, S w os, codT r.prog cv fr, pos))
    (k : RestOk r.prog q loose (fun s => xlAt q [] s && recOk r.toRowW.records s) ob H.val cv fr qp n0 M S l' pos)
    (hdef : defOf q r.name = some (d, kwd)) (hp : r.prog.theDef r.name = some (d.params, d.body, d.scope)) (hk : kwWritten? d.params.kwonlyargs d.params.kw_defaults = some kwd)
    (hwr : (!r.writes || r.records.isEmpty) = true) (k1 : r.wellSaid = true) (ok : (chainsOk q && opensWell r.prog && (frees r.toRowW && r.within.isEmpty)) = true) (hb : r.prog.bare) (hw : r.toRowW.promised)
    (call : WalkO q loose (XL q []) H.says r.toRowW d kwd fun f vs => PySem.call f vs) : r.Holds :=
  holds_open (r := r) (q := q) (loose := loose) (XP := XL q []) (YP := H.says) (d := d) (kwd := kwd) (left_cut (N := m0 + (mB + (m + M)) + 600) e (Nat.ble_eq_true_of_le (by omega)) f hbd first k (Nat.ble_eq_true_of_le (by omega)) ho) H.of H.keeps (fun s z => xl_of s (Bool.and_eq_true_iff.mp z).1) XL.keeps hdef hp hk (fun s z => recFacts_of (Bool.and_eq_true_iff.mp z).2) hwr k1 ok hb hw call
end Z
namespace Z
open PySem PySem.Spec PyProof.Rows L2

mutual
inductive Pl : Nat → D → Prop
  | non {n : Nat} : Pl n .non
  | int {n : Nat} (i : Int) : Pl n (.int i)
  | str {n : Nat} {x : Str} (h : PyData.strOk x = true) : Pl n (.str x)
  | tup {n : Nat} {l : List D} (h : PlL n l) : Pl (n + 1) (.tup l)
  | lst {n : Nat} {l : List D} (h : PlL n l) : Pl (n + 1) (.lst l)
inductive PlL : Nat → List D → Prop
  | nil {n : Nat} : PlL n []
  | cons {n : Nat} {d : D} {l : List D} (h : Pl n d) (r : PlL n l) : PlL n (d :: l)
end
theorem PlL.of {n : Nat} : ∀ {l : List D}, (∀ d ∈ l, Pl n d) → PlL n l
  | [], _ => .nil
  | d :: l, h => .cons (h d List.mem_cons_self) (PlL.of fun e he => h e (List.mem_cons_of_mem _ he))
mutual
theorem Pl.data : ∀ {n : Nat} {d : D}, Pl n d → ∃ p, pd d = some p ∧ PyData.canLay0 p = true ∧ PyData.depth p ≤ n ∧ ∀ (e : D) (m : Nat) (q : PyData), Pl m e → pd e = some q → (PyData.eqv p q = true ↔ d = e)
  | _, _, .non => ⟨.none, rfl, rfl, Nat.zero_le _, fun e m q h eq => by
      cases h with
      | non => cases eq; exact ⟨fun _ => rfl, fun _ => rfl⟩
      | int => cases eq; exact ⟨(fun h => by cases h), (fun h => by cases h)⟩
      | str => cases eq; exact ⟨(fun h => by cases h), (fun h => by cases h)⟩
      | tup => obtain ⟨_, _, rfl⟩ := Option.map_eq_some_iff.mp (show (pdL _).map PyData.tuple = some _ from eq); exact ⟨(fun h => by cases h), (fun h => by cases h)⟩
      | lst => obtain ⟨_, _, rfl⟩ := Option.map_eq_some_iff.mp (show (pdL _).map PyData.list = some _ from eq); exact ⟨(fun h => by cases h), (fun h => by cases h)⟩⟩
  | _, _, .int i => ⟨.int i, rfl, rfl, Nat.zero_le _, fun e m q h eq => by
      cases h with
      | non => cases eq; exact ⟨(fun h => by cases h), (fun h => by cases h)⟩
      | int => cases eq; exact ⟨fun h => by rw [show i = _ from by simpa [PyData.eqv] using h], fun h => by cases h; simp [PyData.eqv]⟩
      | str => cases eq; exact ⟨(fun h => by cases h), (fun h => by cases h)⟩
      | tup => obtain ⟨_, _, rfl⟩ := Option.map_eq_some_iff.mp (show (pdL _).map PyData.tuple = some _ from eq); exact ⟨(fun h => by cases h), (fun h => by cases h)⟩
      | lst => obtain ⟨_, _, rfl⟩ := Option.map_eq_some_iff.mp (show (pdL _).map PyData.list = some _ from eq); exact ⟨(fun h => by cases h), (fun h => by cases h)⟩⟩
  | _, _, .str (x := x) hx => ⟨.str x, rfl, hx, Nat.zero_le _, fun e m q h eq => by
      cases h with
      | non => cases eq; exact ⟨(fun h => by cases h), (fun h => by cases h)⟩
      | int => cases eq; exact ⟨(fun h => by cases h), (fun h => by cases h)⟩
      | str => cases eq; exact ⟨fun h => by rw [show x = _ from by simpa [PyData.eqv] using h], fun h => by cases h; simp [PyData.eqv]⟩
      | tup => obtain ⟨_, _, rfl⟩ := Option.map_eq_some_iff.mp (show (pdL _).map PyData.tuple = some _ from eq); exact ⟨(fun h => by cases h), (fun h => by cases h)⟩
      | lst => obtain ⟨_, _, rfl⟩ := Option.map_eq_some_iff.mp (show (pdL _).map PyData.list = some _ from eq); exact ⟨(fun h => by cases h), (fun h => by cases h)⟩⟩
  | _, _, .tup (l := l) hl => by
    obtain ⟨ps, e1, c1, d1, k⟩ := hl.pds
    refine ⟨.tuple ps, by show (pdL l).map PyData.tuple = _; rw [e1]; rfl, c1, Nat.succ_le_succ d1, fun e m q h eq => ?_⟩
    cases h with
    | non => cases eq; exact ⟨(fun h => by cases h), (fun h => by cases h)⟩
    | int => cases eq; exact ⟨(fun h => by cases h), (fun h => by cases h)⟩
    | str => cases eq; exact ⟨(fun h => by cases h), (fun h => by cases h)⟩
    | tup h' =>
      obtain ⟨qs, e2, rfl⟩ := Option.map_eq_some_iff.mp (show (pdL _).map PyData.tuple = some _ from eq)
      exact (k _ _ _ h' e2).trans ⟨fun h => by rw [h], fun h => by injection h⟩
    | lst => obtain ⟨_, _, rfl⟩ := Option.map_eq_some_iff.mp (show (pdL _).map PyData.list = some _ from eq); exact ⟨(fun h => by cases h), (fun h => by cases h)⟩
  | _, _, .lst (l := l) hl => by
    obtain ⟨ps, e1, c1, d1, k⟩ := hl.pds
    refine ⟨.list ps, by show (pdL l).map PyData.list = _; rw [e1]; rfl, c1, Nat.succ_le_succ d1, fun e m q h eq => ?_⟩
    cases h with
    | non => cases eq; exact ⟨(fun h => by cases h), (fun h => by cases h)⟩
    | int => cases eq; exact ⟨(fun h => by cases h), (fun h => by cases h)⟩
    | str => cases eq; exact ⟨(fun h => by cases h), (fun h => by cases h)⟩
    | tup => obtain ⟨_, _, rfl⟩ := Option.map_eq_some_iff.mp (show (pdL _).map PyData.tuple = some _ from eq); exact ⟨(fun h => by cases h), (fun h => by cases h)⟩
    | lst h' =>
      obtain ⟨qs, e2, rfl⟩ := Option.map_eq_some_iff.mp (show (pdL _).map PyData.list = some _ from eq)
      exact (k _ _ _ h' e2).trans ⟨fun h => by rw [h], fun h => by injection h⟩
theorem PlL.pds : ∀ {n : Nat} {l : List D}, PlL n l → ∃ ps, pdL l = some ps ∧ PyData.canLayAll0 ps = true ∧ PyData.depthAll ps ≤ n ∧ ∀ (l' : List D) (m : Nat) (qs : List PyData), PlL m l' → pdL l' = some qs → (PyData.eqvAll ps qs = true ↔ l = l')
  | _, _, .nil => ⟨[], rfl, rfl, Nat.zero_le _, fun l' m qs h eq => by
      cases h with
      | nil => cases eq; exact ⟨fun _ => rfl, fun _ => rfl⟩
      | cons h r =>
        unfold pdL at eq
        split at eq
        · cases eq
          exact ⟨(fun h => by cases h), (fun h => by cases h)⟩
        · cases eq⟩
  | _, _, .cons h r => by
    obtain ⟨p, e1, c1, d1, k1⟩ := h.data
    obtain ⟨ps, e2, c2, d2, k2⟩ := r.pds
    refine ⟨p :: ps, by unfold pdL; rw [e1, e2], by show (_ && _) = true; rw [c1, c2]; rfl, Nat.max_le.mpr ⟨d1, d2⟩, fun l' m qs h' eq => ?_⟩
    cases h' with
    | nil => cases eq; exact ⟨(fun h => by cases h), (fun h => by cases h)⟩
    | cons h' r' =>
      unfold pdL at eq
      split at eq
      case h_2 => cases eq
      rename_i p' ps' e1' e2'
      cases eq
      show (PyData.eqv p p' && PyData.eqvAll ps ps') = true ↔ _
      rw [Bool.and_eq_true, k1 _ _ _ h' e1', k2 _ _ _ r' e2', List.cons.injEq]
end
theorem Pl.shaped {n : Nat} {d : D} {p : PyData} (h : Pl n d) (e : pd d = some p) (hn : n ≤ 64) : SeqAt.shaped p = true := by
  obtain ⟨q, e1, c1, d1, _⟩ := h.data
  rw [e] at e1
  cases e1
  unfold SeqAt.shaped
  rw [c1, decide_eq_true (Nat.le_trans d1 hn)]
  rfl
theorem eqv_pl {M : Sto} {n m : Nat} {x y dx dy : D} {φ : Bool → Prop} (hx : Pl n dx) (hy : Pl m dy) (hn : n ≤ 64) (hm : m ≤ 64) (ex : toPd M x = pd dx) (ey : toPd M y = pd dy) (nt : ∀ i j, x = .int i → y = .int j → dx = x ∧ dy = y) (ns : ∀ i j, x = .str i → y = .str j → dx = x ∧ dy = y) (nb : ∀ i, x ≠ .bl i)
    (q : ∀ b : Bool, (b = true ↔ dx = dy) → φ b) : eqvD M x y φ := by
  have gen : ∃ p q, toPd M x = some p ∧ toPd M y = some q ∧ SeqAt.shaped p = true ∧ SeqAt.shaped q = true ∧ φ (PyData.eqv p q) := by
    obtain ⟨p, e1, _, _, k⟩ := hx.data
    obtain ⟨p', e2, _⟩ := hy.data
    exact ⟨p, p', ex.trans e1, ey.trans e2, hx.shaped e1 hn, hy.shaped e2 hm, q _ (k _ _ _ hy e2)⟩
  unfold eqvD
  split
  · obtain ⟨rfl, rfl⟩ := nt _ _ rfl rfl
    refine q _ ⟨fun h => by rw [of_decide_eq_true h], fun h => by cases h; exact decide_eq_true rfl⟩
  · obtain ⟨rfl, rfl⟩ := ns _ _ rfl rfl
    refine q _ ⟨fun h => by rw [of_decide_eq_true h], fun h => by cases h; exact decide_eq_true rfl⟩
  · exact absurd rfl (nb _)
  · exact gen
theorem toPd_pl {M : Sto} {n : Nat} {d : D} (h : Pl n d) : toPd M d = pd d := by
  unfold toPd
  cases h with
  | lst h => rfl
  | _ => rfl
theorem toPd_ref {M : Sto} {d : D} {l : List D} (h : lstOf M d = some l) : toPd M d = pd (.lst l) := by
  unfold toPd
  rw [h]
  rfl
theorem lstOf_no {M : Sto} {d : D} {l : List D} (h : lstOf M d = some l) : (∀ i, d ≠ .int i) ∧ (∀ i, d ≠ .str i) ∧ ∀ i, d ≠ .bl i := by
  cases d <;> first | cases h | skip
  all_goals exact ⟨fun _ => nofun, fun _ => nofun, fun _ => nofun⟩
theorem eqPl {M : Sto} {n m : Nat} {x y : D} {φ : D → Prop} (hx : Pl n x) (hy : Pl m y) (q : ∀ b : Bool, (b = true ↔ x = y) → φ (.bl b)) (hn : n ≤ 64 := by decide) (hm : m ≤ 64 := by decide) : eqD M x y φ := by
  unfold eqD
  exact eqv_pl (φ := fun b => φ (.bl b)) hx hy hn hm (toPd_pl hx) (toPd_pl hy) (fun _ _ _ _ => ⟨rfl, rfl⟩) (fun _ _ _ _ => ⟨rfl, rfl⟩) (fun i e => by subst e; cases hx) q
theorem nePl {M : Sto} {n m : Nat} {x y : D} {φ : D → Prop} (hx : Pl n x) (hy : Pl m y) (q : ∀ b : Bool, (b = true ↔ x = y) → φ (.bl (!b))) (hn : n ≤ 64 := by decide) (hm : m ≤ 64 := by decide) : neD M x y φ := by
  unfold neD
  exact eqv_pl (φ := fun b => φ (.bl (!b))) hx hy hn hm (toPd_pl hx) (toPd_pl hy) (fun _ _ _ _ => ⟨rfl, rfl⟩) (fun _ _ _ _ => ⟨rfl, rfl⟩) (fun i e => by subst e; cases hx) q
theorem eqPlL {M : Sto} {n m : Nat} {x y : D} {l l' : List D} {φ : D → Prop} (ex : lstOf M x = some l) (ey : lstOf M y = some l') (hx : PlL n l) (hy : PlL m l') (q : ∀ b : Bool, (b = true ↔ l = l') → φ (.bl b)) (hn : n ≤ 63 := by decide) (hm : m ≤ 63 := by decide) : eqD M x y φ := by
  unfold eqD
  have n1 := lstOf_no ex
  exact eqv_pl (φ := fun b => φ (.bl b)) (.lst hx) (.lst hy) (Nat.succ_le_succ hn) (Nat.succ_le_succ hm) (toPd_ref ex) (toPd_ref ey) (fun _ _ e _ => absurd e (n1.1 _)) (fun _ _ e _ => absurd e (n1.2.1 _)) (fun i e => n1.2.2 _ e) fun b h => q b (h.trans ⟨fun e => by injection e, fun e => by rw [e]⟩)
theorem nePlL {M : Sto} {n m : Nat} {x y : D} {l l' : List D} {φ : D → Prop} (ex : lstOf M x = some l) (ey : lstOf M y = some l') (hx : PlL n l) (hy : PlL m l') (q : ∀ b : Bool, (b = true ↔ l = l') → φ (.bl (!b))) (hn : n ≤ 63 := by decide) (hm : m ≤ 63 := by decide) : neD M x y φ := by
  unfold neD
  have n1 := lstOf_no ex
  exact eqv_pl (φ := fun b => φ (.bl (!b))) (.lst hx) (.lst hy) (Nat.succ_le_succ hn) (Nat.succ_le_succ hm) (toPd_ref ex) (toPd_ref ey) (fun _ _ e _ => absurd e (n1.1 _)) (fun _ _ e _ => absurd e (n1.2.1 _)) (fun i e => n1.2.2 _ e) fun b h => q b (h.trans ⟨fun e => by injection e, fun e => by rw [e]⟩)

section
variable {X : Cx} {B : Bs} {o e : Expr} {es : List Expr} {fo : DTE} {ga : DTA} {apos pos : Pos}
end
end Z
namespace Z
open PySem PySem.Spec PyProof.Rows L2

section
variable {M : Sto} {p : Addr} {l : List D}
theorem lstOf_at (h : M p = some (.lst l)) : lstOf M (.ref p) = some l := by
  show (match M p with | some (.lst l) => some l | _ => none) = _
  rw [h]
end
end Z
namespace Z
open PySem PySem.Spec PyProof.Rows L2

section
variable {M : Sto} {φ : Bool → Prop}
end
section
variable {X : Cx} {B : Bs} {pos : Pos} {a b : Expr} {es : List Expr} {fa fb : DTE}
end
theorem Same.L {M : Sto} {n : Nat} {a b : D} {xs ys : List D} (ea : lstOf M a = some xs) (eb : lstOf M b = some ys) (h : SameL M n xs ys) (hl : xs.length ≤ 1000000) : Same M (n + 1) a b :=
  .inr (.inr (.inr (.inr ⟨xs, ys, .inl ⟨ea, eb⟩, h.len, hl, h.get⟩)))
theorem HandAt.upd {M : Sto} {p u : Addr} {c : Cell} (h : HandAt M p) (hu : M u = none) : HandAt (updM M u c) p := by
  obtain ⟨k, e, a, b⟩ := h
  exact ⟨k, by rw [updM_ne fun z => by rw [z, hu] at e; cases e]; exact e, a, b⟩
theorem HandAt.put {M : Sto} {p u : Addr} {c : Cell} {l : List D} (h : HandAt M p) (hu : p ≠ u) : HandAt (updM M u c) p := by
  obtain ⟨k, e, a, b⟩ := h
  exact ⟨k, by rw [updM_ne hu]; exact e, a, b⟩
theorem HandAt.ne {M : Sto} {p u : Addr} (h : HandAt M p) (hu : M u = none) : p ≠ u := fun z => by
  obtain ⟨k, e, _⟩ := h
  rw [z, hu] at e
  cases e
end Z
namespace Z
open PySem PySem.Spec PyProof.Rows L2

section
variable {X : Cx} {B : Bs} {Ξ : XD → En → Sto → Prop} {k j n : Nat} {c : Ct} {pos apos p : Pos} {e : Expr} {es : List Expr} {kws : List Keyword} {ga gk : DTA} {C : Addr} {m x : Str} {ks : List Str} {g : List D → List D → List D} {bs : List (Nat × List Str × (List D → List D → List D))}
end
end Z
namespace Z
open PySem PySem.Spec PyProof.Rows L2

section
variable {X : Cx} {B : Bs} {pos : Pos} {es : List Expr}
end
section
variable {ts : List DTE} {a w : List Nat} {r : En} {M : Sto} {φ : Str → Sto → Prop}
end
end Z
namespace Z
open PySem PySem.Spec PyProof.Rows L2

open Classical in
noncomputable def dlook (l : List (D × D)) (c : D) : Option D := (l.find? fun kv => decide (kv.1 = c)).map (·.2)
open Classical in
noncomputable def dput (l : List (D × D)) (c d : D) : List (D × D) := if (dlook l c).isSome = true then l.map (fun kv => if kv.1 = c then (kv.1, d) else kv) else l ++ [(c, d)]
def ckey : D → D
  | .tpl l => .tup l
  | d => d
theorem keyD_inj : ∀ {c c' : D} {k : Key}, keyD c = some k → keyD c' = some k → c = c'
  | .int _, .int _, _, h, h' => by cases h; cases h'; rfl
  | .str _, .str _, _, h, h' => by cases h; cases h'; rfl
  | .int _, .str _, _, h, h' => by cases h; cases h'
  | .str _, .int _, _, h, h' => by cases h; cases h'
theorem keysD_inj : ∀ {l l' : List D} {ks : List Key}, keysD l = some ks → keysD l' = some ks → l = l'
  | [], [], _, _, _ => rfl
  | [], d :: l', ks, h, h' => by
    cases h
    unfold keysD at h'
    split at h' <;> cases h'
  | d :: l, [], ks, h, h' => by
    cases h'
    unfold keysD at h
    split at h <;> cases h
  | d :: l, d' :: l', ks, h, h' => by
    unfold keysD at h h'
    split at h
    · rename_i k1 ks1 e1 e2
      split at h'
      · rename_i k2 ks2 e3 e4
        cases h
        injection h' with h'
        injection h' with a b
        subst a b
        rw [keyD_inj e1 e3, keysD_inj e2 e4]
      · cases h'
    · cases h
theorem keyT_inj {c c' : D} {ks : List Key} (h : keyT c = some ks) (h' : keyT c' = some ks) : c = c' := by
  cases c <;> first | cases h | skip
  cases c' <;> first | cases h' | skip
  exact congrArg D.tup (keysD_inj h h')
section
variable {K : PySem.W.Frag} {G : Hp} {c d : D} {l : List (D × D)}
theorem dlook_pos {q : D × D} (e : q.1 = c) : dlook (q :: l) c = some q.2 := by simp [dlook, List.find?_cons, e]
theorem dlook_neg {q : D × D} (e : ¬ q.1 = c) : dlook (q :: l) c = dlook l c := by simp [dlook, List.find?_cons, e]
theorem repD_look {k : Key} (hk : keyD c = some k) : ∀ {l : List (D × D)} {kvs : List (Key × V)}, RepD K G l kvs → (dlook l c = none ∧ valV kvs k = none) ∨ ∃ d v, dlook l c = some d ∧ valV kvs k = some v ∧ Rep K G d v
  | _, _, .nil => .inl ⟨rfl, rfl⟩
  | _, _, .cons (c := c0) (k := k0) e p r => by
    by_cases h : c0 = c
    · have hk0 : k0 = k := by rw [h, hk] at e; exact (Option.some.inj e).symm
      exact .inr ⟨_, _, dlook_pos h, valV_pos hk0, p⟩
    · have hk0 : ¬ k0 = k := fun z => h (keyD_inj e (by rw [z]; exact hk))
      rw [dlook_neg h, valV_neg hk0]
      exact repD_look hk r
theorem repT_look {k : List Key} (hk : keyT c = some k) : ∀ {l : List (D × D)} {kvs : List (List Key × V)}, RepT K G l kvs → (dlook l c = none ∧ valV kvs k = none) ∨ ∃ d v, dlook l c = some d ∧ valV kvs k = some v ∧ Rep K G d v
  | _, _, .nil => .inl ⟨rfl, rfl⟩
  | _, _, .cons (c := c0) (k := k0) e p r => by
    by_cases h : c0 = c
    · have hk0 : k0 = k := by rw [h, hk] at e; exact (Option.some.inj e).symm
      exact .inr ⟨_, _, dlook_pos h, valV_pos hk0, p⟩
    · have hk0 : ¬ k0 = k := fun z => h (keyT_inj e (by rw [z]; exact hk))
      rw [dlook_neg h, valV_neg hk0]
      exact repT_look hk r
theorem repD_app {k : Key} {v : V} (hk : keyD c = some k) (p : Rep K G d v) : ∀ {l : List (D × D)} {kvs : List (Key × V)}, RepD K G l kvs → RepD K G (l ++ [(c, d)]) (kvs ++ [(k, v)])
  | _, _, .nil => .cons hk p .nil
  | _, _, .cons e q r => .cons e q (repD_app hk p r)
theorem repT_app {k : List Key} {v : V} (hk : keyT c = some k) (p : Rep K G d v) : ∀ {l : List (D × D)} {kvs : List (List Key × V)}, RepT K G l kvs → RepT K G (l ++ [(c, d)]) (kvs ++ [(k, v)])
  | _, _, .nil => .cons hk p .nil
  | _, _, .cons e q r => .cons e q (repT_app hk p r)
open Classical in
theorem repD_map {k : Key} {v : V} (hk : keyD c = some k) (p : Rep K G d v) : ∀ {l : List (D × D)} {kvs : List (Key × V)}, RepD K G l kvs → RepD K G (l.map fun kv => if kv.1 = c then (kv.1, d) else kv) (kvs.map fun kv => if kv.1 = k then (kv.1, v) else kv)
  | _, _, .nil => .nil
  | _, _, .cons (c := c0) (k := k0) (d := d0) (v := v0) e q r => by
    rw [List.map_cons, List.map_cons]
    by_cases h : c0 = c
    · have hk0 : k0 = k := by rw [h, hk] at e; exact (Option.some.inj e).symm
      rw [if_pos (show (c0, d0).1 = c from h), if_pos (show (k0, v0).1 = k from hk0)]
      exact .cons e p (repD_map hk p r)
    · have hk0 : ¬ k0 = k := fun z => h (keyD_inj e (by rw [z]; exact hk))
      rw [if_neg (show ¬ (c0, d0).1 = c from h), if_neg (show ¬ (k0, v0).1 = k from hk0)]
      exact .cons e q (repD_map hk p r)
open Classical in
theorem repT_map {k : List Key} {v : V} (hk : keyT c = some k) (p : Rep K G d v) : ∀ {l : List (D × D)} {kvs : List (List Key × V)}, RepT K G l kvs → RepT K G (l.map fun kv => if kv.1 = c then (kv.1, d) else kv) (kvs.map fun kv => if kv.1 = k then (kv.1, v) else kv)
  | _, _, .nil => .nil
  | _, _, .cons (c := c0) (k := k0) (d := d0) (v := v0) e q r => by
    rw [List.map_cons, List.map_cons]
    by_cases h : c0 = c
    · have hk0 : k0 = k := by rw [h, hk] at e; exact (Option.some.inj e).symm
      rw [if_pos (show (c0, d0).1 = c from h), if_pos (show (k0, v0).1 = k from hk0)]
      exact .cons e p (repT_map hk p r)
    · have hk0 : ¬ k0 = k := fun z => h (keyT_inj e (by rw [z]; exact hk))
      rw [if_neg (show ¬ (c0, d0).1 = c from h), if_neg (show ¬ (k0, v0).1 = k from hk0)]
      exact .cons e q (repT_map hk p r)
theorem repD_put {k : Key} {v : V} {kvs : List (Key × V)} (hk : keyD c = some k) (p : Rep K G d v) (r : RepD K G l kvs) : RepD K G (dput l c d) (putK kvs k v) := by
  unfold dput putK
  rw [valV_any]
  rcases repD_look hk r with ⟨h1, h2⟩ | ⟨_, _, h1, h2, _⟩
  · rw [h1, h2, if_neg (by simp), if_neg (by simp)]
    exact repD_app hk p r
  · rw [h1, h2]
    exact repD_map hk p r
theorem repT_put {k : List Key} {v : V} {kvs : List (List Key × V)} (hk : keyT c = some k) (p : Rep K G d v) (r : RepT K G l kvs) : RepT K G (dput l c d) (putK kvs k v) := by
  unfold dput putK
  rw [valV_any]
  rcases repT_look hk r with ⟨h1, h2⟩ | ⟨_, _, h1, h2, _⟩
  · rw [h1, h2, if_neg (by simp), if_neg (by simp)]
    exact repT_app hk p r
  · rw [h1, h2]
    exact repT_map hk p r
theorem key_v {k : Key} {v : V} (r : Rep K G c v) (hk : keyD c = some k) : v = kV k := by
  cases r <;> cases hk <;> rfl
theorem keys_v : ∀ {l : List D} {vs : List V} {ks : List Key}, RepL K G l vs → keysD l = some ks → vs = ks.map kV
  | _, _, _, .nil, e => by cases e; rfl
  | _, _, _, .cons r rs, e => by
    unfold keysD at e
    split at e
    · rename_i k ks e1 e2
      cases e
      rw [key_v r e1, keys_v rs e2]
      rfl
    · cases e
end
def dgetQ (M : Sto) (x y : D) (φ : D → Prop) : Prop := ∃ l d, dicOf M x = some l ∧ dlook l (ckey y) = some d ∧ ((∃ k, keyD y = some k) ∨ ∃ l' ks, y = .tpl l' ∧ keysD l' = some ks) ∧ φ d
def dinQ (M : Sto) (x y : D) (φ : Bool → Prop) : Prop := ∃ p l, x = .ref p ∧ ((M p = some (.dic l) ∧ ∃ k, keyD y = some k) ∨ (M p = some (.dit l) ∧ ∃ l' ks, y = .tpl l' ∧ keysD l' = some ks)) ∧ φ (dlook l (ckey y)).isSome
def dputQ (M : Sto) (x y v : D) (φ : Sto → Prop) : Prop := ∃ p l, x = .ref p ∧ l.length < sizeLine ∧ ((M p = some (.dic l) ∧ (∃ k, keyD y = some k) ∧ φ (updM M p (.dic (dput l y v)))) ∨ (M p = some (.dit l) ∧ (∃ l' ks, y = .tpl l' ∧ keysD l' = some ks) ∧ φ (updM M p (.dit (dput l (ckey y) v)))))
section
variable {K : PySem.W.Frag} {M : Sto} {H G : Hp} {x y d : D} {v u t : V}
theorem dget_x {φ : D → Prop} (w : Wd K M H G) (rx : Rep K G x v) (ry : Rep K G y u) (h : dgetQ M x y φ) : ∃ a z d, v = .ref a ∧ DGet H a u (some z) ∧ Rep K G d z ∧ φ d := by
  obtain ⟨l, d, e, el, hk, h⟩ := h
  obtain ⟨a, rfl, hh⟩ := dic_rep w rx e
  rcases hk with ⟨k, hk⟩ | ⟨l', ks, rfl, hk⟩
  · have ec : ckey y = y := by cases y <;> first | rfl | cases hk
    rw [ec] at el
    rcases hh with ⟨kvs, hh, r⟩ | ⟨kvs, hh, r⟩
    · rcases repD_look hk r with ⟨z, _⟩ | ⟨d', v', z, e2, p⟩
      · rw [z] at el; cases el
      · rw [z] at el
        cases el
        rw [key_v ry hk]
        exact ⟨a, v', _, rfl, .inl ⟨kvs, k, hh, rfl, e2.symm⟩, p, h⟩
    · exfalso
      have : ∀ {l : List (D × D)} {kvs : List (List Key × V)}, RepT K G l kvs → dlook l y = none := fun {l kvs} r => by
        induction l generalizing kvs with
        | nil => rfl
        | cons q l ih =>
          cases r with
          | @cons c0 _ _ _ _ _ e0 p r =>
            rw [dlook_neg (fun z : c0 = y => by rw [z] at e0; cases y <;> first | cases e0 | cases hk)]
            exact ih r
      rw [this r] at el
      cases el
  · cases ry with
    | tpl hb rl =>
      have ev := keys_v rl hk
      subst ev
      rcases hh with ⟨kvs, hh, r⟩ | ⟨kvs, hh, r⟩
      · exfalso
        have : ∀ {l : List (D × D)} {kvs : List (Key × V)}, RepD K G l kvs → dlook l (.tup l') = none := fun {l kvs} r => by
          induction l generalizing kvs with
          | nil => rfl
          | cons q l ih =>
            cases r with
            | @cons c0 _ _ _ _ _ e0 p r =>
              rw [dlook_neg (fun z : c0 = .tup l' => by rw [z] at e0; cases e0)]
              exact ih r
        rw [show ckey (.tpl l') = .tup l' from rfl, this r] at el
        cases el
      · rcases repT_look (c := .tup l') hk r with ⟨z, _⟩ | ⟨d', v', z, e2, p⟩
        · rw [show ckey (.tpl l') = .tup l' from rfl, z] at el; cases el
        · rw [show ckey (.tpl l') = .tup l' from rfl, z] at el
          cases el
          exact ⟨a, v', _, rfl, by rw [← e2]; exact DGet.t hh (w.sub _ _ hb), p, h⟩
theorem din_x {φ : Bool → Prop} (w : Wd K M H G) (rx : Rep K G x v) (ry : Rep K G y u) (h : dinQ M x y φ) : ∃ a o, v = .ref a ∧ DGet H a u o ∧ φ o.isSome := by
  obtain ⟨p, l, rfl, hk, h⟩ := h
  cases rx
  rcases hk with ⟨hp, k, hk⟩ | ⟨hp, l', ks, rfl, hk⟩
  · obtain ⟨kvs, hh, r⟩ := (w.cells _ _ hp).2
    have ec : ckey y = y := by cases y <;> first | rfl | cases hk
    rw [ec] at h
    rw [key_v ry hk]
    refine ⟨p, _, rfl, DGet.k (k := k) hh, ?_⟩
    rcases repD_look hk r with ⟨z1, z2⟩ | ⟨_, _, z1, z2, _⟩ <;> (rw [z1] at h; rw [z2]; exact h)
  · obtain ⟨kvs, hh, r⟩ := (w.cells _ _ hp).2
    cases ry with
    | tpl hb rl =>
      have ev := keys_v rl hk
      subst ev
      refine ⟨p, _, rfl, DGet.t (k := ks) hh (w.sub _ _ hb), ?_⟩
      rcases repT_look (c := .tup l') hk r with ⟨z1, z2⟩ | ⟨_, _, z1, z2, _⟩ <;> (rw [show ckey (.tpl l') = .tup l' from rfl, z1] at h; rw [z2]; exact h)
theorem dput_x {φ : Sto → Prop} (w : Wd K M H G) (rx : Rep K G x v) (ry : Rep K G y u) (rd : Rep K G d t) (h : dputQ M x y d φ) : ∃ a H' M', v = .ref a ∧ DPut H a u t H' ∧ φ M' ∧ Wd K M' H' G ∧ Since H G M M' H' G := by
  obtain ⟨p, l, rfl, hl, hk⟩ := h
  cases rx
  rcases hk with ⟨hp, ⟨k, hk⟩, h⟩ | ⟨hp, ⟨l', ks, rfl, hk⟩, h⟩
  · obtain ⟨kvs, hh, r⟩ := (w.cells _ _ hp).2
    rw [key_v ry hk]
    obtain ⟨w1, s1⟩ := cell_put (c := .dic (dput l y d)) (o := .dK (putK kvs k t)) w hp ⟨_, upd_same, repD_put hk rd r⟩
    exact ⟨p, _, _, rfl, DPut.k hh (by rw [← r.length]; exact hl), h, w1, s1⟩
  · obtain ⟨kvs, hh, r⟩ := (w.cells _ _ hp).2
    cases ry with
    | tpl hb rl =>
      have ev := keys_v rl hk
      subst ev
      obtain ⟨w1, s1⟩ := cell_put (c := .dit (dput l (.tup l') d)) (o := .dT (putK kvs ks t)) w hp ⟨_, upd_same, repT_put (c := .tup l') hk rd r⟩
      exact ⟨p, _, _, rfl, DPut.t hh (w.sub _ _ hb) (by rw [← r.length]; exact hl), h, w1, s1⟩
end
theorem units1 {k : Nat} {A : Around} (r : Room k A) : A.units + 1 < cLine := by have := room65 r; omega
section
variable {X : Cx} {B : Bs} {pos p3 : Pos} {a b : Expr} {es : List Expr} {fa fb fc : DTE} {ga : DTA} {k : Nat}
theorem de_dget (hr : Room k X.A) (ha : DE X B a fa) (hb : DE X B b fb) (hs : NoSl b := by exact fun _ _ => rfl) : DE X B (.Subscript a b pos) (fun r M Ψ => fa r M fun x M1 => fb r M1 fun y M2 => dgetQ M2 x y fun d => Ψ d M2) :=
  PE_imp (pe_dget (units1 hr) ha hb hs) fun σ H Q ⟨r, M, G, Ψ, R, h, k⟩ => by
    refine ⟨r, M, G, _, R, h, fun x M1 v H1 G1 q1 R1 s1 p1 => ⟨r, M1, G1, _, R1, q1, fun y M2 u H2 G2 q2 R2 s2 p2 => ?_⟩⟩
    obtain ⟨c, z, d, e, g, p, q⟩ := dget_x R2.wd (p1.mono s2) p2 q2
    exact ⟨c, z, e, g, k _ _ _ _ _ q R2 (s1.tr s2) p⟩
theorem ds_dput {value : Expr} (hr : Room k X.A) (hv : DE X B value fc) (ha : DE X B a fa) (hb : DE X B b fb) (hs : swapsWith value (some (.Subscript a b p3)) pos.line X.env = pure false := by rfl) :
    DS X B (.Assign [.Subscript a b p3] value pos) (fun E r M => fc r M fun d M1 => fa r M1 fun x M2 => fb r M2 fun y M3 => dputQ M3 x y d fun M4 => E.nx r M4) :=
  PS_imp (ps_dput (units1 hr) ha hb hv hs) fun D' σ H h => by
    obtain ⟨r, M, G, E, R, q, k⟩ := EkOk.of h
    refine ⟨r, M, G, _, R, q, fun d M1 v H1 G1 q1 R1 s1 p1 => ?_⟩
    refine ⟨r, M1, G1, _, R1, q1, fun x M2 u H2 G2 q2 R2 s2 p2 => ?_⟩
    refine ⟨r, M2, G2, _, R2, q2, fun y M3 t H3 G3 q3 R3 s3 p3 => ?_⟩
    obtain ⟨c, H', M', e, g, q, w, s⟩ := dput_x R3.wd (p2.mono s3) p3 ((p1.mono s2).mono s3) q3
    exact ⟨c, H', e, g, k.nx _ _ _ _ _ q (R3.go w s) ((s1.tr s2).tr s3)⟩
theorem de_dnewK : DE X B (.Dict [] [] pos) (fun _ M Ψ => ∀ p, M p = none → Ψ (.ref p) (updM M p (.dic []))) :=
  PE_imp pe_dnewK fun σ H Q ⟨r, M, G, Ψ, R, h, k⟩ => fun p hp => by
    obtain ⟨w, s⟩ := cell_new (c := .dic []) (o := .dK []) R.wd hp ⟨_, upd_same, .nil⟩
    exact k _ _ _ _ _ (h p (R.wd.nomem hp)) (R.go w s) Sub.rfl' .ref
end
end Z
namespace L2
open PySem PySem.Spec PyProof.Rows
end L2
namespace Z
open PySem PySem.Spec PyProof.Rows L2
section
variable {X : Cx} {B : Bs} {pos : Pos} {a b : Expr} {fk fv : DTE} {k : Nat}
theorem dt_dnin {fb fa : DTE} (hr : Room k X.A) (hb : DE X B b fb) (ha : DE X B a fa) (h1 : behindInMarks .NotIn a = false := by rfl) : DT X B (.Compare b [.NotIn] [a] pos) (fun r M Ψ => fb r M fun y M1 => fa r M1 fun x M2 => dinQ M2 x y fun c => Ψ (!c) M2) :=
  PT_imp (pt_cmp (pc_dnotin (units1 hr) hb ha) h1) fun σ H Q ⟨r, M, G, Ψ, R, h, k⟩ => by
    refine ⟨r, M, G, _, R, h, fun y M1 v H1 G1 q1 R1 s1 p1 => ⟨r, M1, G1, _, R1, q1, fun x M2 u H2 G2 q2 R2 s2 p2 => ?_⟩⟩
    obtain ⟨c, o, e, g, q⟩ := din_x R2.wd p2 (p1.mono s2) q2
    exact ⟨c, o, e, g, _, rfl, k _ _ _ _ q R2 (s1.tr s2)⟩
end
end Z
namespace Z
open PySem PySem.Spec PyProof.Rows L2

noncomputable def wd (t : T4) : List Nat := Classical.epsilon fun w => ∃ u, Tk t w u
noncomputable def lf (t : T4) : T4 := Classical.epsilon fun u => ∃ w, Tk t w u
theorem wd_lf {t u : T4} {w : List Nat} (hd : 0 < det4 t) (h : Tk t w u) : wd t = w ∧ lf t = u := by
  have h1 : ∃ u, Tk t (wd t) u := Classical.epsilon_spec (p := fun w => ∃ u, Tk t w u) ⟨w, u, h⟩
  have h2 : ∃ w, Tk t w (lf t) := Classical.epsilon_spec (p := fun u => ∃ w, Tk t w u) ⟨u, w, h⟩
  obtain ⟨u', h1⟩ := h1
  obtain ⟨w', h2⟩ := h2
  exact ⟨(Tk.uniq hd h1 h).1, (Tk.uniq hd h2 h).2⟩
def tother (c : Nat) : Nat := if c = 76 then 82 else 76
def trn (tu : Bool) (c : Nat) : Nat := if tu = true then tother c else c
noncomputable def gol (tu : Bool) (u : T4) (c : Nat) : T4 := lf (mul4 u (turnT (trn tu c)))
noncomputable def tld (tu : Bool) (u : T4) (c : Nat) : List Nat := wd (mul4 u (turnT (trn tu c)))
open Classical in
noncomputable def insR (l : List T4) (g : T4) : List T4 := if g ∈ l then l else l ++ [g]
noncomputable def stD (tu : Bool) (u : T4) (l : List T4) (c : Nat) : D := .tup [.str ⟨(tld tu u c).toArray⟩, .int (l.idxOf (gol tu u c) : Nat)]
theorem tk_ex : ∀ (n : Nat) {t : T4}, sum4 t ≤ n → Nn t → 0 < det4 t → ∃ w u, Tk t w u
  | 0, t, hs, hn, hd => by
    exfalso
    obtain ⟨a, b, c, d⟩ := t
    unfold sum4 at hs
    unfold det4 at hd
    dsimp only at hs hd
    have e1 : a = 0 := by omega
    have e2 : b = 0 := by omega
    subst e1 e2
    simp at hd
  | n + 1, t, hs, hn, hd => by
    cases hb : bR t with
    | true =>
      obtain ⟨k, _, k1, hn2, hs2⟩ := stepR_ok hn hd hb
      have e := mul_subR k t
      have hd2 : det4 (subR k t) = det4 t := det_w e
      obtain ⟨w, u, h⟩ := tk_ex n (t := subR k t) (by omega) hn2 (by rw [hd2]; exact hd)
      refine ⟨List.replicate k 82 ++ w, u, ⟨fun d hd => ?_, ?_, h.nn, h.bal⟩⟩
      · rcases List.mem_append.mp hd with z | z
        · exact .inr (List.eq_of_mem_replicate z)
        · exact h.lr d z
      · rw [wL_app, mul_assoc4, h.eq, e]
    | false =>
      cases hb2 : bL t with
      | true =>
        obtain ⟨k, _, k1, hn2, hs2⟩ := stepL_ok hn hd hb2
        have e := mul_subL k t
        have hd2 : det4 (subL k t) = det4 t := det_w e
        obtain ⟨w, u, h⟩ := tk_ex n (t := subL k t) (by omega) hn2 (by rw [hd2]; exact hd)
        refine ⟨List.replicate k 76 ++ w, u, ⟨fun d hd => ?_, ?_, h.nn, h.bal⟩⟩
        · rcases List.mem_append.mp hd with z | z
          · exact .inl (List.eq_of_mem_replicate z)
          · exact h.lr d z
        · rw [wL_app, mul_assoc4, h.eq, e]
      | false => exact ⟨[], t, Tk.bal_self hn ⟨hb, hb2⟩⟩
theorem tk_lf {t : T4} (hn : Nn t) (hd : 0 < det4 t) : Tk t (wd t) (lf t) := by
  obtain ⟨w, u, h⟩ := tk_ex _ (Nat.le_refl _) hn hd
  obtain ⟨e1, e2⟩ := wd_lf hd h
  rw [e1, e2]; exact h
def pr4 (t : T4) : T4 := (t.1.fdiv (gN (iL t)), t.2.1.fdiv (gN (iL t)), t.2.2.1.fdiv (gN (iL t)), t.2.2.2.fdiv (gN (iL t)))
theorem dv_pr4 (t : T4) : D.tup ((dvL (gN (iL t)) (iL t)).map .int) = tD (pr4 t) := rfl
theorem gN_sm {t : T4} {n : Nat} (hs : Sm n t) (hd : det4 t ≠ 0) : 0 < gN (iL t) ∧ gN (iL t) < 2 ^ n := by
  obtain ⟨x, hx, h0⟩ := det_ne hd
  have h1 := gN_dvd hx
  have h2 : gN (iL t) ≠ 0 := fun z => h0 (gN_zero z x hx)
  have h3 := Nat.le_of_dvd (by omega) h1
  have h4 : x.natAbs < 2 ^ n := by
    unfold iL at hx
    simp only [List.mem_cons, List.not_mem_nil, or_false] at hx
    rcases hx with rfl | rfl | rfl | rfl
    · exact hs.1
    · exact hs.2.1
    · exact hs.2.2.1
    · exact hs.2.2.2
  exact ⟨Nat.pos_of_ne_zero h2, Nat.lt_of_le_of_lt h3 h4⟩
theorem gN_pos {t : T4} (hd : det4 t ≠ 0) : 0 < gN (iL t) := by
  obtain ⟨x, hx, h0⟩ := det_ne hd
  exact Nat.pos_of_ne_zero fun z => h0 (gN_zero z x hx)
theorem pr4_sc {t : T4} (hd : det4 t ≠ 0) : sc (gN (iL t)) (pr4 t) = t := by
  have hg := gN_pos hd
  have e : ∀ x ∈ iL t, (gN (iL t) : Int) * x.fdiv (gN (iL t)) = x := fun x hx => fdiv_ex hg (gN_dvd hx)
  show (_, _, _, _) = t
  obtain ⟨a, b, c, d⟩ := t
  dsimp only [pr4]
  rw [e a (by simp [iL]), e b (by simp [iL]), e c (by simp [iL]), e d (by simp [iL])]
theorem det_sc (m : Int) (t : T4) : det4 (sc m t) = m * m * det4 t := by unfold det4 sc; simp only; grind
theorem pr4_det {t : T4} (hd : det4 t ≠ 0) : det4 (pr4 t) ≠ 0 ∧ (0 < det4 (pr4 t) ↔ 0 < det4 t) := by
  have e : det4 t = (gN (iL t) : Int) * gN (iL t) * det4 (pr4 t) := by
    conv => lhs; rw [← pr4_sc hd]
    exact det_sc _ _
  have hg : (0 : Int) < (gN (iL t) : Int) * gN (iL t) := Int.mul_pos (by have := gN_pos hd; omega) (by have := gN_pos hd; omega)
  refine ⟨fun z => hd (by rw [e, z, Int.mul_zero]), ⟨fun h => by rw [e]; exact Int.mul_pos hg h, fun h => ?_⟩⟩
  rcases Int.lt_or_le 0 (det4 (pr4 t)) with z | z
  · exact z
  · have := Int.mul_nonpos_of_nonneg_of_nonpos (show (0 : Int) ≤ (gN (iL t) : Int) * gN (iL t) by omega) z
    omega
theorem fdiv_le_abs {x : Int} {g : Nat} (hg : 0 < g) (h : g ∣ x.natAbs) : (x.fdiv g).natAbs ≤ x.natAbs := by
  have e := fdiv_ex hg h
  conv => rhs; rw [← e]
  rw [Int.natAbs_mul, Int.natAbs_natCast]
  exact Nat.le_mul_of_pos_left _ hg
theorem pr4_le {t : T4} (hd : det4 t ≠ 0) : (pr4 t).1.natAbs ≤ t.1.natAbs ∧ (pr4 t).2.1.natAbs ≤ t.2.1.natAbs ∧ (pr4 t).2.2.1.natAbs ≤ t.2.2.1.natAbs ∧ (pr4 t).2.2.2.natAbs ≤ t.2.2.2.natAbs := by
  have hg := gN_pos hd
  refine ⟨fdiv_le_abs hg (gN_dvd ?_), fdiv_le_abs hg (gN_dvd ?_), fdiv_le_abs hg (gN_dvd ?_), fdiv_le_abs hg (gN_dvd ?_)⟩ <;> simp [iL]
theorem pr4_sum {t : T4} (hd : det4 t ≠ 0) : sum4 (pr4 t) ≤ sum4 t := by
  obtain ⟨a, b, c, d⟩ := pr4_le hd
  unfold sum4
  omega
theorem fdiv_nn {x : Int} (g : Nat) (h : 0 ≤ x) : 0 ≤ x.fdiv g := Int.fdiv_nonneg h (by omega)
theorem pr4_nn {t : T4} (h : Nn t) : Nn (pr4 t) := ⟨fdiv_nn _ h.1, fdiv_nn _ h.2.1, fdiv_nn _ h.2.2.1, fdiv_nn _ h.2.2.2⟩
theorem iL_scm (m : Int) (t : T4) : iL (sc m t) = (iL t).map (m * ·) := rfl
theorem pr4_scale {t : T4} (k : Nat) (hk : 0 < k) (hd : det4 t ≠ 0) : pr4 (sc k t) = pr4 t := by
  have hg := gN_pos hd
  have e : gN (iL (sc k t)) = k * gN (iL t) := by rw [iL_scm, gN_mul, Int.natAbs_natCast]
  have q : ∀ x ∈ iL t, ((k : Int) * x).fdiv ((k * gN (iL t) : Nat)) = x.fdiv (gN (iL t)) := fun x hx => by
    have h1 := fdiv_ex hg (gN_dvd hx)
    have h2 : 0 < k * gN (iL t) := Nat.mul_pos hk hg
    have h3 := fdiv_ex (g := k * gN (iL t)) (x := (k : Int) * x) h2 (by rw [Int.natAbs_mul, Int.natAbs_natCast]; exact Nat.mul_dvd_mul_left k (gN_dvd hx))
    refine Int.eq_of_mul_eq_mul_left (a := ((k * gN (iL t) : Nat) : Int)) (by omega) ?_
    rw [h3]
    rw [Int.natCast_mul, Int.mul_assoc, h1]
  show (_, _, _, _) = (_, _, _, _)
  rw [e]
  obtain ⟨a, b, c, d⟩ := t
  dsimp only [sc]
  rw [q a (by simp [iL]), q b (by simp [iL]), q c (by simp [iL]), q d (by simp [iL])]
def swC (t : T4) : T4 := (t.2.1, t.1, t.2.2.2, t.2.2.1)
theorem det_swC (t : T4) : det4 (swC t) = - det4 t := by unfold det4 swC; simp only; grind
def mtu (t : T4) : Bool := decide (det4 (pr4 t) < 0)
def mpl (t : T4) : T4 := if mtu t = true then swC (pr4 t) else pr4 t
theorem mpl_ok {t : T4} (hn : Nn t) (hd : det4 t ≠ 0) : Nn (mpl t) ∧ det4 (mpl t) = ((det4 (pr4 t)).natAbs : Nat) ∧ 0 < det4 (mpl t) ∧ sum4 (mpl t) ≤ sum4 t := by
  have h1 := pr4_nn hn
  have h2 := (pr4_det hd).1
  have h3 := pr4_sum hd
  unfold mpl
  cases e : mtu t with
  | true =>
    have := of_decide_eq_true e
    rw [if_pos rfl, det_swC]
    refine ⟨⟨h1.2.1, h1.1, h1.2.2.2, h1.2.2.1⟩, by omega, by omega, ?_⟩
    unfold sum4 at h3 ⊢
    unfold swC
    dsimp only
    omega
  | false =>
    have := of_decide_eq_false e
    rw [if_neg (by simp)]
    exact ⟨h1, by omega, by omega, h3⟩
end Z
namespace Z
open PySem PySem.Spec PyProof.Rows L2

variable {M0 M : Sto} {tu : Bool} {p1 p2 p3 p4 : Addr} {l : List T4} {ps : List Addr} {u g : T4}
def cI (i : Nat) : Nat := if i = 0 then 76 else 82
noncomputable def lI (tu : Bool) (l : List T4) (v : T4) : Nat → List T4
  | 0 => l
  | i + 1 => insR (lI tu l v i) (gol tu v (cI i))
noncomputable def rI (tu : Bool) (l : List T4) (v : T4) : Nat → List (D × D)
  | 0 => []
  | i + 1 => dput (rI tu l v i) (.str ⟨#[cI i]⟩) (stD tu v (lI tu l v (i + 1)) (cI i))
end Z
namespace Z
open PySem PySem.Spec PyProof.Rows L2

theorem gN_sw (t : T4) : gN (iL (sw4' t)) = gN (iL t) := by
  obtain ⟨a, b, c, d⟩ := t
  show Nat.gcd (Nat.gcd (Nat.gcd (Nat.gcd 0 b.natAbs) a.natAbs) d.natAbs) c.natAbs = Nat.gcd (Nat.gcd (Nat.gcd (Nat.gcd 0 a.natAbs) b.natAbs) c.natAbs) d.natAbs
  rw [Nat.gcd_zero_left, Nat.gcd_zero_left, Nat.gcd_comm b.natAbs, Nat.gcd_assoc _ d.natAbs, Nat.gcd_comm d.natAbs, ← Nat.gcd_assoc]
theorem pr4_sw (t : T4) : pr4 (sw4' t) = sw4' (pr4 t) := by
  unfold pr4
  rw [gN_sw]
  rfl
theorem sw_swC (t : T4) : swC (sw4' t) = t := rfl
theorem Tk.sc {t u : T4} {w : List Nat} {m : Int} (hm : 0 < m) (h : Tk t w u) : Tk (Z.sc m t) w (Z.sc m u) := by
  refine ⟨h.lr, by rw [mul_sc4, h.eq], nn_sc' (by omega) h.nn, ?_⟩
  obtain ⟨a, b, c, d⟩ := u
  have e : ∀ x y : Int, (decide (m * x ≤ m * y)) = decide (x ≤ y) := fun x y => by
    by_cases z : x ≤ y
    · rw [decide_eq_true z, decide_eq_true (Int.mul_le_mul_of_nonneg_left z (by omega))]
    · rw [decide_eq_false z, decide_eq_false fun q => z (Int.le_of_mul_le_mul_left q hm)]
  obtain ⟨r, l⟩ := h.bal
  refine ⟨?_, ?_⟩
  · unfold bR Z.sc at *
    dsimp only at *
    rw [e, e]; exact r
  · unfold bL Z.sc at *
    dsimp only at *
    rw [e, e]; exact l
theorem pr4_size {t : T4} (hd : det4 t ≠ 0) : (det4 (pr4 t)).natAbs ≤ (det4 t).natAbs := by
  have e : det4 t = (gN (iL t) : Int) * gN (iL t) * det4 (pr4 t) := by
    conv => lhs; rw [← pr4_sc hd]
    exact Z.det_sc _ _
  have hg := gN_pos hd
  rw [e, Int.natAbs_mul]
  refine Nat.le_mul_of_pos_left _ ?_
  rw [Int.natAbs_mul, Int.natAbs_natCast]
  exact Nat.mul_pos hg hg
structure Mil1 (cap : Nat) (t : T4) : Prop where
  nn : Nn t
  det : det4 t ≠ 0
  sm : Sm 20 t
  size : (det4 (pr4 t)).natAbs ≤ cap
  sum : sum4 (pr4 t) ≤ 144 * cap
  lead : ∀ w u, Tk (mpl t) w u → w.length ≤ 3 + 24 * cap
theorem Mil1.ex {cap : Nat} {t : T4} (h : Mil1 cap t) : Tk (mpl t) (wd (mpl t)) (lf (mpl t)) := by
  obtain ⟨a, b, c, d⟩ := mpl_ok h.nn h.det
  exact tk_lf a c
theorem mil1_mk {cap : Nat} {w1 : List Nat} {c : T4} {m : Int} {t : T4} (hw : LR w1) (hl : w1.length ≤ 3) (hn : Nn c) (hd : 0 < det4 c) (hdc : det4 c ≤ cap) (hs : sum4 c ≤ 24 * cap) (le : Le4 (36 * cap) (mul4 (wL w1) c)) (hc : cap ≤ 60) (m1 : 1 ≤ m) (m3 : m ≤ 3)
    (ht : t = sc m (mul4 (wL w1) c) ∨ t = sw4' (sc m (mul4 (wL w1) c))) : Mil1 cap t := by
  have nn0 : Nn (mul4 (wL w1) c) := (nn_wL w1).mul hn
  have d0 : det4 (mul4 (wL w1) c) = det4 c := by rw [det_mul, det_wL, Int.one_mul]
  have tk0 : ∀ w u, Tk (pr4 (mul4 (wL w1) c)) w u → w.length ≤ 3 + 24 * cap := fun w u h => by
    have hne : det4 (mul4 (wL w1) c) ≠ 0 := by omega
    have hg := gN_pos hne
    have h1 := h.sc (m := (gN (iL (mul4 (wL w1) c)) : Int)) (by omega)
    rw [pr4_sc hne] at h1
    obtain ⟨w', u', h2⟩ := tk_ex _ (Nat.le_refl _) hn hd
    have h3 := h2.app hw
    obtain ⟨e, _⟩ := Tk.uniq (by omega) h1 h3
    have := len_sum h2.lr h2.nn hd h2.eq
    rw [e, List.length_append]
    omega
  have s0 := le.sum (n := 36 * cap) nn0
  generalize mul4 (wL w1) c = t0 at *
  have hne : det4 t0 ≠ 0 := by omega
  obtain ⟨k, rfl⟩ : ∃ k : Nat, m = (k : Int) := ⟨m.toNat, by omega⟩
  have ep : pr4 (sc k t0) = pr4 t0 := pr4_scale k (by omega) hne
  have nns : Nn (sc k t0) := nn_sc' (by omega) nn0
  have dts : det4 (sc k t0) ≠ 0 := by have := det_sc_pos m1 (show 0 < det4 t0 by omega); omega
  have hsum : sum4 (pr4 t0) ≤ 144 * cap := by have := pr4_sum hne; omega
  have hsize : (det4 (pr4 t0)).natAbs ≤ cap := by have := pr4_size hne; omega
  have hp : 0 < det4 (pr4 t0) := (pr4_det hne).2.mpr (by omega)
  have hsm : Sm 20 (sc k t0) := by
    refine sm_of_sum ?_
    rw [sum_sc, Int.natAbs_natCast]
    have : k * sum4 t0 ≤ 3 * (4 * (36 * cap)) := Nat.mul_le_mul (by omega) s0
    show _ < 1048576
    omega
  rcases ht with rfl | rfl
  · refine ⟨nns, dts, hsm, by rw [ep]; exact hsize, by rw [ep]; exact hsum, ?_⟩
    have : mtu (sc k t0) = false := decide_eq_false (by rw [ep]; omega)
    unfold mpl
    rw [this, if_neg (by simp), ep]
    exact tk0
  · have eq : pr4 (sw4' (sc k t0)) = sw4' (pr4 t0) := by rw [pr4_sw, ep]
    refine ⟨⟨nns.2.1, nns.1, nns.2.2.2, nns.2.2.1⟩, by rw [det_sw']; omega, ⟨hsm.2.1, hsm.1, hsm.2.2.2, hsm.2.2.1⟩, ?_, ?_, ?_⟩
    · rw [eq, det_sw', Int.natAbs_neg]; exact hsize
    · rw [eq, sum_sw]; exact hsum
    have : mtu (sw4' (sc k t0)) = true := decide_eq_true (by rw [eq, det_sw']; omega)
    unfold mpl
    rw [this, if_pos rfl, eq, sw_swC]
    exact tk0
end Z
namespace Z
open PySem PySem.Spec PyProof.Rows L2

def dvT : Nat := 37485562550860801354687163075825346001665536278441408020185359110537005694952035139974393805141521898897840357502821027836518371041816271764193536
def dv (m : Nat) : Nat := (dvT >>> (8 * m)) % 256
def u4 (t : T4) : Nat × Nat × Nat × Nat := (t.1.toNat, t.2.1.toNat, t.2.2.1.toNat, t.2.2.2.toNat)
end Z
namespace Z
open PySem PySem.Spec PyProof.Rows L2

mutual
def nb : D → D
  | .bl b => .int (if b = true then 1 else 0)
  | .tup l => .tup (nbL l)
  | .tpl l => .tup (nbL l)
  | .lst l => .lst (nbL l)
  | d => d
def nbL : List D → List D
  | [] => []
  | d :: r => nb d :: nbL r
end
section
variable {X : Cx} {B : Bs} {pos p : Pos} {a b : Expr} {ga : DTA} {C C2 : Addr}
end

section
variable {X : Cx} {B : Bs} {k j n : Nat} {c : Ct} {pos : Pos} {a b : Expr} {fa fb : DTE} {C C2 : Addr} {bs : List (Nat × List Str × (List D → List D → List D))}
end
end Z
namespace Z
open PySem PySem.Spec PyProof.Rows L2

section
variable {X : Cx} {B : Bs} {k : Nat} {o e : Expr} {es : List Expr} {fo : DTE} {ga : DTA} {apos pos p : Pos}
end
end Z
namespace Z
open PySem PySem.Spec PyProof.Rows L2

variable {M0 M : Sto} {tu : Bool} {p1 p3 p4 : Addr} {l : List T4} {ps : List Addr} {u g : T4}
end Z
namespace Z
open PySem PySem.Spec PyProof.Rows L2

def tab (C : Addr) (t : T4) : D := .obj C [("whole", tD t)]
theorem dok_gm {t : T4} {n : Nat} (hs : Sm n t) (hd : det4 t ≠ 0) (hn : n ≤ 8000) : Dok (gN (iL t)) := by
  obtain ⟨h1, h2⟩ := gN_sm hs hd
  exact dok_of (n := n) (by omega) (by rw [Int.natAbs_natCast]; exact h2) (by omega)
end Z
namespace Z
open PySem PySem.Spec PyProof.Rows L2

section
variable {n : Int} {tu : Bool}
end
end Z
namespace Z
open PySem PySem.Spec PyProof.Rows L2

end Z
namespace Z
open PySem PySem.Spec PyProof.Rows L2

def row (C : Addr) (x y : List Nat) : D := .obj C [("whole", .tup [.str ⟨x.toArray⟩, .str ⟨y.toArray⟩])]
end Z
namespace Z
open PySem PySem.Spec PyProof.Rows L2

end Z
namespace Z
open PySem PySem.Spec PyProof.Rows L2

end Z
namespace Z
open PySem PySem.Spec PyProof.Rows L2

end Z
namespace Z
open PySem PySem.Spec PyProof.Rows L2
def obsF (ts : Tbs) (as : List Addr) (fa : List FF) (fn : List DefZ) (g : Addr → Option Obj) : He.AlD := ((obsZ fa fn (He.frG g as)).1 && tabB ts g (He.frG g as), (obsZ fa fn (He.frG g as)).2)
def hookF (ts : Tbs) (as : List Addr) (fa : List FF) (fn : List DefZ) : PySem.W.Hook where
  α := He.AlD
  obs := fun s => obsF ts as fa fn s.heap.get?
  val := fun _ => valZ fn
  says := fun _ h => ∃ K : PySem.W.Frag, K.In h ∧ SaysZ fa fn K ∧ TabZ ts K h
  of := fun _ s e => ⟨He.frG s.heap.get? as, He.frG_in, by
    have e1 : ((obsZ fa fn (He.frG s.heap.get? as)).1 && tabB ts s.heap.get? (He.frG s.heap.get? as)) = true := congrArg (fun z : He.AlD => z.1) e
    have e2 : (obsZ fa fn (He.frG s.heap.get? as)).2 = fn.map DefZ.val := congrArg (fun z : He.AlD => z.2) e
    obtain ⟨h1, h2⟩ := He.ba e1
    exact ⟨Prod.ext h1 e2, tabB_ok h2⟩⟩
  keeps := fun _ _ _ ⟨K, hK, c, t⟩ k => ⟨K, PySem.W.Frag.In.keeps hK k, c, fun q hq => let ⟨a, b⟩ := t.ok q hq; ⟨k _ _ a, b⟩, t.nd⟩
theorem obsF_eq {ts : Tbs} {as : List Addr} {fa : List FF} {fn : List DefZ} {g : Addr → Option Obj} {s : Shared} (h : ∀ a, g a = s.heap.get? a) : obsF ts as fa fn g = (hookF ts as fa fn).obs s := by
  have e : g = s.heap.get? := funext h
  rw [e] <;> rfl
end Z
namespace Z
open PySem PySem.Spec PyProof.Rows L2

section
variable {X : Cx} {B : Bs} {Ξ : XD → En → Sto → Prop}
end

section
variable {X : Cx} {B : Bs} {o : Expr} {fn : Str} {pos : Pos} {C : Addr} {fo : DTE} {to : TE}
end

section
variable {X : Cx} {B : Bs} {Ξ : XD → En → Sto → Prop} {k j : Nat} {c : Ct} {pos apos : Pos} {e o : Expr} {es : List Expr} {ga : DTA} {fo : DTE} {C : Addr} {m : Str}
end

section
variable {X : Cx} {tg : Expr}
end
end Z
namespace Z
open PySem PySem.Spec PyProof.Rows L2

end Z
namespace Z
open PySem PySem.Spec PyProof.Rows L2

end Z
namespace Z
open PySem PySem.Spec PyProof.Rows L2

end Z
namespace Z
open PySem PySem.Spec PyProof.Rows L2

end Z
namespace Z
open PySem PySem.Spec PyProof.Rows L2

theorem neSelf {M : Sto} {n : Nat} {d : D} {φ : D → Prop} (h : Pl n d) (q : φ (.bl false)) (hn : n ≤ 64 := by decide) : neD M d d φ := nePl h h (fun b hb => by
  obtain rfl : b = true := hb.mpr rfl
  exact q) hn hn
theorem eqSelf {M : Sto} {n : Nat} {d : D} {φ : D → Prop} (h : Pl n d) (q : φ (.bl true)) (hn : n ≤ 64 := by decide) : eqD M d d φ := eqPl h h (fun b hb => by
  obtain rfl : b = true := hb.mpr rfl
  exact q) hn hn
end Z
namespace Z
open PySem PySem.Spec PyProof.Rows L2

section
variable {prog : Program} {w : World} {A : Around} {E : Value → Shared → Prop} {s : Shared}
theorem unpackS {t : Addr} {items : Array Value} {k : Nat} {Q : List Value → Shared → Prop} (hh : A.handled = none) (hl : IsTup s.heap t items) (hk : k ≤ items.size) (hz : items.size ≤ 16384)
    (h : ∀ (h' : Heap) (tk : Nat), (∀ b o, s.heap.get? b = some o → h'.get? b = some o) → Q (items.toList.take k ++ [.ref h'.objs.size]) { s with heap := h'.push { cls := .type "list", data := .seq (items.toList.drop k).toArray }, toks := tk }) : wpAny (model prog w) A (unpackItems (.ref t) (k + 1) (some k)) Q E s := by
  have hlt : t ≠ s.heap.objs.size := by obtain ⟨o, ho, _⟩ := hl; exact Nat.ne_of_lt (Heap.lt_size ho)
  unfold unpackItems
  refine wpAny_bind ?_
  unfold notIterableAtAll
  refine wpAny_bind (wpAny_specialOf hl.typeIs slot_tuple_iter.lookup ?_)
  refine wpAny_pure ?_
  simp only [Bool.false_eq_true, if_false]
  refine wpAny_bind (wpAny_holding (iter_tuple hl ?_))
  refine wpAny_bind (wpAny_holding (draw_tuple hlt k 0 _ _ ⟨_, Heap.get?_push_size _ rfl, rfl, rfl⟩ (hl.push _) (by omega) fun h₁ hit₁ hs₁ => ?_))
  have hl₁ : IsTup h₁ t items := (hl.push _).extBut hs₁.extBut hlt
  rw [Nat.zero_add] at hit₁
  have hit₁' := hit₁
  obtain ⟨oi, hoi, _⟩ := hit₁'
  have hl₁' := hl₁
  obtain ⟨ol, hol, _⟩ := hl₁'
  rw [List.drop_zero]
  have hfl : (items.toList.take k).length = k := by rw [List.length_take, Array.length_toList]; omega
  rw [if_neg (show ¬ ((items.toList.take k).length < k) by rw [hfl]; omega)]
  refine wpAny_bind (wpAny_holding (PySem.W.kun_collect (s := { s with heap := h₁ }) (T := "tuple_iterator") (.inr (.inr (.inr rfl))) (Walks.tuple (A := A.in1) hh s.heap.objs.size t hlt items) (fun j u st => st.1.typeIs) (k := k) hk ⟨hit₁, hl₁⟩ (Heap.lt_size hoi) (Heap.lt_size hol) (fun h₂ tk hk2 => ?_) (by rw [sizeLine_eq]; omega)))
  have hrl : (items.toList.drop k).length = items.size - k := by rw [List.length_drop, Array.length_toList]
  show wpAny _ _ (if (items.toList.drop k).length < k + 1 - 1 - k then _ else _) _ _ _
  rw [if_neg (by omega)]
  show wpAny _ _ (newList ((items.toList.drop k).take ((items.toList.drop k).length - (k + 1 - 1 - k))) >>= fun d => pure (items.toList.take k ++ [d] ++ (items.toList.drop k).drop ((items.toList.drop k).length - (k + 1 - 1 - k)))) _ _ _
  rw [show (items.toList.drop k).length - (k + 1 - 1 - k) = (items.toList.drop k).length by omega, List.take_length, List.drop_length]
  refine wpAny_bind (wpAny_newList ?_ (by rw [hrl, sizeLine_eq]; omega))
  refine wpAny_pure ?_
  rw [List.append_nil]
  have he : ∀ b o, s.heap.get? b = some o → h₂.get? b = some o := fun b o e => by
    have hb : b ≠ s.heap.objs.size := Nat.ne_of_lt (Heap.lt_size e)
    exact hk2 b o hb (hs₁.extBut b o hb (Heap.get?_push_of_some _ e))
  exact h h₂ tk he
end
inductive Bds (N : List Str) (K : PySem.W.Frag) (G : Hp) : List Nat → List D → List (Str × Value) → Prop
  | nil : Bds N K G [] [] []
  | cons {i : Nat} {is : List Nat} {x : Str} {d : D} {ds : List D} {v : V} {u : Value} {bs : List (Str × Value)} : N[i]? = some x → Rep K G d v → RelV v u → Bds N K G is ds bs → Bds N K G (i :: is) (d :: ds) ((x, u) :: bs)
theorem Bds.mono {N : List Str} {K : PySem.W.Frag} {G G' : Hp} (s : Sub G G') : ∀ {is : List Nat} {ds : List D} {bs : List (Str × Value)}, Bds N K G is ds bs → Bds N K G' is ds bs
  | _, _, _, .nil => .nil
  | _, _, _, .cons a b c r => .cons a (b.mono s) c (r.mono s)
theorem Bds.app {N : List Str} {K : PySem.W.Frag} {G : Hp} : ∀ {is js : List Nat} {ds es : List D} {bs cs : List (Str × Value)}, Bds N K G is ds bs → Bds N K G js es cs → Bds N K G (is ++ js) (ds ++ es) (bs ++ cs)
  | _, _, _, _, _, _, .nil, h => h
  | _, _, _, _, _, _, .cons a b c r, h => .cons a b c (r.app h)
abbrev DPat := D → Sto → (Option (List D) → Prop) → Prop
abbrev DPats := List D → Sto → (Option (List D) → Prop) → Prop
abbrev litP (x : Str) : DPat := fun d M Φ => eqD M d (.str x) fun z => ∃ b : Bool, z = .bl b ∧ Φ (if b = true then some [] else none)
abbrev capP : DPat := fun d _ Φ => Φ (some [d])
abbrev wildP : DPat := fun _ _ Φ => Φ (some [])
abbrev nilP : DPats := fun _ _ Φ => Φ (some [])
abbrev consP (f : DPat) (g : DPats) : DPats := fun l M Φ => match l with
  | [] => False
  | d :: l => f d M fun o => match o with
    | none => Φ none
    | some as => g l M fun o' => match o' with
      | none => Φ none
      | some bs => Φ (some (as ++ bs))
abbrev starP : DPats := fun l _ Φ => match l with
  | [d] => Φ (some [d])
  | _ => False
def seqP (n : Nat) (g : DPats) : DPat := fun d M Φ => ∃ l, tupOf d = some l ∧ if l.length = n then g l M Φ else Φ none
def seqSP (k : Nat) (g : DPats) : DPat := fun d M Φ => ∃ l, tupOf d = some l ∧ l.length ≤ 16384 ∧ if k ≤ l.length then g (l.take k ++ [.lst (l.drop k)]) M Φ else Φ none
def setL : En → List Nat → List D → En
  | r, i :: is, d :: ds => setL (r.set i (some d)) is ds
  | r, _, _ => r
def caseD (f : DPat) (is : List Nat) (g : DTS) (h : D → DTS) (d : D) (E : Ek) (r : En) (M : Sto) : Prop := f d M fun o => match o with
  | none => h d E r M
  | some ds => g E (setL r is ds) M
section
variable {f : DPat} {g' : DPats} {is : List Nat} {g : DTS} {h : D → DTS} {E : Ek} {r : En} {M : Sto} {l : List D} {n k : Nat} {i j : Str}
theorem caseLen (hl : ¬ l.length = n) (q : h (.tup l) E r M) : caseD (seqP n g') is g h (.tup l) E r M := ⟨l, rfl, by rw [if_neg hl]; exact q⟩
theorem caseTag (e : decide (i = j) = false) (hl : (D.str i :: l).length = n) (q : h (.tup (.str i :: l)) E r M) : caseD (seqP n (consP (litP j) g')) is g h (.tup (.str i :: l)) E r M := ⟨_, rfl, by
  rw [if_pos hl]
  unfold litP eqD
  exact ⟨false, by rw [e], q⟩⟩
theorem caseHit (e : decide (i = j) = true) (hl : (D.str i :: l).length = n) (q : g' l M fun o => match o with | none => h (.tup (.str i :: l)) E r M | some ds => g E (setL r is ds) M) :
    caseD (seqP n (consP (litP j) g')) is g h (.tup (.str i :: l)) E r M := ⟨_, rfl, by
  rw [if_pos hl]
  unfold litP eqD
  refine ⟨true, by rw [e], ?_⟩
  have e2 : (fun o' : Option (List D) => match o' with
      | none => h (.tup (.str i :: l)) E r M
      | some bs => g E (setL r is ([] ++ bs)) M) = (fun o => match o with | none => h (.tup (.str i :: l)) E r M | some ds => g E (setL r is ds) M) := by
    funext o
    cases o <;> rfl
  rw [← e2] at q
  exact q⟩
theorem caseSLen (hl : l.length < k) (h16 : l.length ≤ 16384) (q : h (.tup l) E r M) : caseD (seqSP k g') is g h (.tup l) E r M := ⟨l, rfl, h16, by rw [if_neg (by omega)]; exact q⟩
theorem caseSTag (e : decide (i = j) = false) (hl : k ≤ l.length) (h16 : (D.str i :: l).length ≤ 16384) (q : h (.tup (.str i :: l)) E r M) : caseD (seqSP (k + 1) (consP (litP j) g')) is g h (.tup (.str i :: l)) E r M := ⟨_, rfl, h16, by
  rw [if_pos (by rw [List.length_cons]; omega), List.take_succ_cons, List.drop_succ_cons, List.cons_append]
  unfold litP eqD
  exact ⟨false, by rw [e], q⟩⟩
theorem caseSHit (e : decide (i = j) = true) (hl : k ≤ l.length) (h16 : (D.str i :: l).length ≤ 16384) (q : g' (l.take k ++ [.lst (l.drop k)]) M fun o => match o with | none => h (.tup (.str i :: l)) E r M | some ds => g E (setL r is ds) M) :
    caseD (seqSP (k + 1) (consP (litP j) g')) is g h (.tup (.str i :: l)) E r M := ⟨_, rfl, h16, by
  rw [if_pos (by rw [List.length_cons]; omega), List.take_succ_cons, List.drop_succ_cons, List.cons_append]
  unfold litP eqD
  refine ⟨true, by rw [e], ?_⟩
  have e2 : (fun o' : Option (List D) => match o' with
      | none => h (.tup (.str i :: l)) E r M
      | some bs => g E (setL r is ([] ++ bs)) M) = (fun o => match o with | none => h (.tup (.str i :: l)) E r M | some ds => g E (setL r is ds) M) := by
    funext o
    cases o <;> rfl
  rw [← e2] at q
  exact q⟩
end
structure PEnd (X : Cx) (B : Bs) (pins : List (Addr × Obj)) (is : List Nat) (σ : L2.St) (r : En) (M : Sto) (G : Hp) (Φ : Option (List D) → Prop) (Q : Option (List (Str × Value)) → Shared → Prop) : Prop where
  miss : ∀ s' H' G', Φ none → L2.Inv X pins σ H' s' → Rel X.K B r M σ H' G' → Sub G G' → Q none s'
  hit : ∀ ds bs s' H' G', Φ (some ds) → L2.Inv X pins σ H' s' → Rel X.K B r M σ H' G' → Sub G G' → Bds X.N X.K G' is ds bs → Q (some bs) s'
structure DP (X : Cx) (B : Bs) (p : Pattern) (is : List Nat) (f : DPat) : Prop where
  run : ∀ (pins : List (Addr × Obj)) (s : Shared) (σ : L2.St) (H : Hp) (r : En) (M : Sto) (G : Hp) (d : D) (v : V) (u : Value) (Φ : Option (List D) → Prop) (Q : Option (List (Str × Value)) → Shared → Prop), L2.Inv X pins σ H s → Rel X.K B r M σ H G → Rep X.K G d v → RelV v u → f d M Φ → PEnd X B pins is σ r M G Φ Q → wpAny (model X.prog X.w) X.A (matchPattern p X.env u) Q X.xe s
structure DPs (X : Cx) (B : Bs) (ps : List Pattern) (is : List Nat) (f : DPats) : Prop where
  run : ∀ (pins : List (Addr × Obj)) (s : Shared) (σ : L2.St) (H : Hp) (r : En) (M : Sto) (G : Hp) (ds : List D) (vs : List V) (us : List Value) (Φ : Option (List D) → Prop) (Q : Option (List (Str × Value)) → Shared → Prop), L2.Inv X pins σ H s → Rel X.K B r M σ H G → RepL X.K G ds vs → Vals vs us → f ds M Φ → PEnd X B pins is σ r M G Φ Q → wpAny (model X.prog X.w) X.A (matchEach ps X.env us) Q X.xe s
section
variable {X : Cx} {B : Bs} {pos : Pos}
theorem dp_cap {x : Str} {i : Nat} (hi : X.N[i]? = some x := by rfl) : DP X B (.MatchAs none (some x) pos) [i] capP :=
  ⟨fun pins s σ H r M G d v u Φ Q I R rd rv h k => wpAny_matchPattern_Capture (k.hit _ _ _ _ _ h I R Sub.rfl' (.cons hi rd rv .nil))⟩
theorem dp_wild : DP X B (.MatchAs none none pos) [] wildP :=
  ⟨fun pins s σ H r M G d v u Φ Q I R rd rv h k => wpAny_matchPattern_Capture (k.hit _ _ _ _ _ h I R Sub.rfl' .nil)⟩
theorem dp_lit {k : Nat} {x : Str} {j} {p1 : Pos} (hr : Room k X.A) : DP X B (.MatchValue (.Constant (.str x) j p1) pos) [] (litP x) :=
  ⟨fun pins s σ H r M G d v u Φ Q I R rd rv h kk => by
    refine wpAny_matchPattern_Value (thn ((pe_str (x := x) (j := j) (pos := p1)).run pins s σ H (fun v' H' => v' = .str x ∧ H' = H) I ⟨rfl, rfl⟩) fun u2 s1 ⟨v2, H1, I1, rv2, e1, e2⟩ => ?_)
    subst e1 e2
    refine thn ((op_eq.or (op_eqD hr.units)) pins s1 σ H1 v (.str x) u u2 (fun w H2 => ∃ (b : Bool) (G2 : Hp), w = .bl b ∧ Φ (if b = true then some [] else none) ∧ Rel X.K B r M σ H2 G2 ∧ Sub G G2) I1 rv rv2 (ok_eq (K := X.K) M H1 G d (.str x) v (.str x) _ _ R.wd rd .str h fun z w H2 G2 ⟨b, e, q⟩ g rz => ?_)) fun u3 s2 ⟨v3, H2, I2, rv3, b, G2, e, q, R2, s2'⟩ => ?_
    · subst e
      cases rz
      exact ⟨b, G2, rfl, q, R.grow g, g.gsub⟩
    · subst e
      cases rv3
      refine wpAny_truthy_bool ?_
      cases b with
      | true => exact kk.hit _ _ _ _ _ q I2 R2 s2' .nil
      | false => exact kk.miss _ _ _ q I2 R2 s2'⟩
theorem dps_nil : DPs X B [] [] nilP :=
  ⟨fun pins s σ H r M G ds vs us Φ Q I R rd rv h k => wpAny_matchEach_nil (k.hit _ _ _ _ _ h I R Sub.rfl' .nil)⟩
theorem dps_cons {p : Pattern} {ps : List Pattern} {is js : List Nat} {f : DPat} {g : DPats} (h1 : DP X B p is f) (h2 : DPs X B ps js g) (hp : p.isStar = false := by rfl) :
    DPs X B (p :: ps) (is ++ js) (consP f g) :=
  ⟨fun pins s σ H r M G ds vs us Φ Q I R rd rv h k => by
    cases rd with
    | nil => exact h.elim
    | cons r1 r2 =>
      cases rv with
      | cons q1 q2 =>
        refine wpAny_matchEach_cons (h1.run pins s σ H r M G _ _ _ _ _ I R r1 q1 h ⟨fun s1 H1 G1 q I1 R1 t1 => ?_, fun ds1 bs1 s1 H1 G1 q I1 R1 t1 b1 => ?_⟩) hp
        · exact k.miss _ _ _ q I1 R1 t1
        · refine h2.run pins s1 σ H1 r M G1 _ _ _ _ _ I1 R1 (r2.mono t1) q2 q ⟨fun s2 H2 G2 q' I2 R2 t2 => ?_, fun ds2 bs2 s2 H2 G2 q' I2 R2 t2 b2 => ?_⟩
          · exact k.miss _ _ _ q' I2 R2 (t1.tr t2)
          · exact k.hit _ _ _ _ _ q' I2 R2 (t1.tr t2) ((b1.mono t2).app b2)⟩
theorem dps_star {x : Str} {i : Nat} {p1 : Pos} (hi : X.N[i]? = some x := by rfl) : DPs X B [.MatchStar (some x) p1] [i] starP :=
  ⟨fun pins s σ H r M G ds vs us Φ Q I R rd rv h k => by
    cases rd with
    | nil => exact h.elim
    | cons r1 r2 =>
      cases r2 with
      | cons _ _ => exact h.elim
      | nil =>
        cases rv with
        | cons q1 q2 =>
          cases q2
          refine PySem.W.kun_each (wpAny_matchEach_nil ?_)
          exact k.hit _ _ _ _ _ h I R Sub.rfl' (.cons hi r1 q1 .nil)⟩
theorem dp_seq {ps : List Pattern} {is : List Nat} {g : DPats} {n : Nat} (hc : X.calm = true) (h : DPs X B ps is g) (hn : ps.length = n := by rfl) (hstar : ps.findIdx? (·.isStar) = none := by rfl)
    (hwild : (ps.all fun p => p.isWildcard || (p.isStar && p.names.isEmpty)) = false := by rfl) : DP X B (.MatchSequence ps pos) is (seqP n g) :=
  ⟨fun pins s σ H r M G d v u Φ Q I R rd rv ⟨l, hl, h'⟩ k => by
    subst hn
    obtain ⟨a, vs, e1, hq, rl⟩ : ∃ a vs, v = .ref a ∧ SqT X.K H a vs ∧ RepL X.K G l vs := by
      cases rd with
      | tup h1 r1 => cases hl; exact ⟨_, _, rfl, R.wd.sub.sqT h1, r1⟩
      | tpl h1 r1 => cases hl; exact ⟨_, _, rfl, R.wd.sub.sqT (SqT.of h1), r1⟩
      | _ => cases hl
    subst e1
    cases rv
    obtain ⟨its, rv, ht, hz⟩ := I.tuple hq
    obtain ⟨arr, harr⟩ : ∃ arr, arr = its.toArray := ⟨_, rfl⟩
    have hel : arr.toList = its := by rw [harr]
    rw [← harr] at ht
    have hlen : arr.size = l.length := by rw [harr, List.size_toArray, rl.length, rv.length]
    have hsl : arr.size ≤ sizeLine := by rw [hlen, rl.length]; exact hz
    have hfit : (arr.size : Int) < 2 ^ 63 := by
      rw [sizeLine_eq] at hsl
      omega
    have I0 : ∀ t, L2.Inv X pins σ H { s with toks := t } := fun t => I.kept (h' := s.heap) (t' := t) fun b o e => e
    by_cases e : l.length = ps.length
    · rw [if_pos e] at h'
      refine matchSeq_tuple_hit ht hfit (by rw [hlen]; exact e) ?_ hstar hwild
      rw [show ps.length = arr.size by rw [hlen, e]]
      refine unpackItems_tuple (s := { s with toks := _ }) (I.ok.hd hc) ht fun h1 hx => ?_
      have I1 : L2.Inv X pins σ H { s with heap := h1, toks := s.toks + 1 + 1 } := I.kept fun b o e => hx b o (Nat.ne_of_lt (Heap.lt_size e)) e
      rw [hel]
      exact h.run pins _ σ H r M G l vs _ Φ Q I1 R rl rv h' k
    · rw [if_neg e] at h'
      exact matchSeq_tuple_miss ht hfit (by rw [hlen]; exact e) (k.miss _ _ _ h' (I0 _) R Sub.rfl') hstar hwild⟩
end
section
variable {prog : Program} {w : World} {A : Around} {E : Value → Shared → Prop} {s : Shared}
theorem seq_star {ps : List Pattern} {pos : Pos} {env : Env} {t : Addr} {items : Array Value} {k : Nat} {Q : Option (List (Str × Value)) → Shared → Prop} (ht : IsTup s.heap t items) (hfit : (items.size : Int) < 2 ^ 63) (hl : ps.length = k + 1) (h0 : 0 < k)
    (hst : ps.findIdx? (·.isStar) = some k) (hnm : (ps[k]?.elim [] (·.names)).isEmpty = false) (hwild : (ps.all fun p => p.isWildcard || (p.isStar && p.names.isEmpty)) = false)
    (h1 : items.size < k → Q none { s with toks := s.toks + 1 + 1 })
    (h2 : k ≤ items.size → wpAny (model prog w) A (unpackItems (.ref t) (k + 1) (some k)) (fun vs s₃ => wpAny (model prog w) A (matchEach ps env vs) Q E s₃) E { s with toks := s.toks + 1 + 1 }) :
    wpAny (model prog w) A (matchPattern (.MatchSequence ps pos) env (.ref t)) Q E s := by
  rw [arm_matchPattern_MatchSequence]
  refine wpAny_bind (wpAny_standAt (wpAny_bind (wpAny_collectionFlag ht.typeIs flag_seq_tuple ?_)))
  simp only [hst, hwild, hl, hnm, Bool.not_true, Bool.false_eq_true, if_false]
  rw [if_pos (by omega)]
  refine wpAny_bind ?_
  refine pyLen_tuple ht hfit ?_
  by_cases e : items.size < k
  · rw [if_pos (by omega)]
    exact wpAny_pure (h1 e)
  · rw [if_neg (by omega)]
    exact wpAny_bind (h2 (by omega))
end
section
variable {X : Cx} {B : Bs} {pos : Pos}
theorem dp_seqS {ps : List Pattern} {is : List Nat} {g : DPats} {k : Nat} (hc : X.calm = true) (h : DPs X B ps is g) (hl : ps.length = k + 1 := by rfl) (h0 : 0 < k := by decide) (hstar : ps.findIdx? (·.isStar) = some k := by rfl)
    (hnm : (ps[k]?.elim [] (·.names)).isEmpty = false := by rfl) (hwild : (ps.all fun p => p.isWildcard || (p.isStar && p.names.isEmpty)) = false := by rfl) :
    DP X B (.MatchSequence ps pos) is (seqSP k g) :=
  ⟨fun pins s σ H r M G d v u Φ Q I R rd rv ⟨l, htl, hl16, h'⟩ kk => by
    obtain ⟨a, vs, e1, hq, rl⟩ : ∃ a vs, v = .ref a ∧ SqT X.K H a vs ∧ RepL X.K G l vs := by
      cases rd with
      | tup h1 r1 => cases htl; exact ⟨_, _, rfl, R.wd.sub.sqT h1, r1⟩
      | tpl h1 r1 => cases htl; exact ⟨_, _, rfl, R.wd.sub.sqT (SqT.of h1), r1⟩
      | _ => cases htl
    subst e1
    cases rv
    obtain ⟨its, rv, ht, hz⟩ := I.tuple hq
    obtain ⟨arr, harr⟩ : ∃ arr, arr = its.toArray := ⟨_, rfl⟩
    have hel : arr.toList = its := by rw [harr]
    rw [← harr] at ht
    have hlen : arr.size = l.length := by rw [harr, List.size_toArray, rl.length, rv.length]
    have I0 : ∀ t, L2.Inv X pins σ H { s with toks := t } := fun t => I.kept (h' := s.heap) (t' := t) fun b o e => e
    refine seq_star ht (by omega) hl h0 hstar hnm hwild (fun e => ?_) (fun e => ?_)
    · rw [if_neg (by omega)] at h'
      exact kk.miss _ _ _ h' (I0 _) R Sub.rfl'
    · rw [if_pos (by omega)] at h'
      refine unpackS (s := { s with toks := _ }) (I.ok.hd hc) ht (by omega) (by omega) fun h1 tk hx => ?_
      rw [hel]
      have rvd : Vals (vs.drop k) (its.drop k) := rv.drop k
      have rvt : Vals (vs.take k) (its.take k) := rv.take k
      have I1 : L2.Inv X pins σ H ⟨h1, s.gens, s.drawn, tk, s.os⟩ := I.kept (t' := tk) hx
      have hf : H h1.objs.size = none := I1.hok.fresh (Nat.le_refl _)
      have hz2 : (vs.drop k).length ≤ sizeLine := by rw [List.length_drop]; omega
      have I2 := I1.laid (t' := tk) (h' := h1.push { cls := .type "list", data := .seq (its.drop k).toArray }) (fun b u e => Heap.get?_push_of_some _ e) (Nat.le_refl _) (o := .lst (vs.drop k)) ⟨hz2, its.drop k, 0, rvd, Heap.get?_push_size _ rfl⟩
      have gr : Grow H G (upd H h1.objs.size (.lst (vs.drop k))) (upd G h1.objs.size (.lst (vs.drop k))) := grow_upd R.wd.sub hf
      have rr : RepL X.K (upd G h1.objs.size (.lst (vs.drop k))) (l.take k ++ [.lst (l.drop k)]) (vs.take k ++ [.ref h1.objs.size]) :=
        ((rl.take k).mono gr.gsub).app (.cons (.lst (.inl upd_same) ((rl.drop k).mono gr.gsub)) .nil)
      exact h.run pins _ σ _ r M _ _ _ _ Φ Q I2 (R.grow gr) rr (rvt.append (.cons rfl .nil)) h' ⟨fun s' H' G' q I' R' t' => kk.miss _ _ _ q I' R' (gr.gsub.tr t'), fun ds bs s' H' G' q I' R' t' b => kk.hit _ _ _ _ _ q I' R' (gr.gsub.tr t') b⟩⟩
theorem binds_ok {pins : List (Addr × Obj)} {Q : Unit → Shared → Prop} {E : Value → Shared → Prop} {A : Around} {N0 : X.N.Nodup} {M : Sto} {H G : Hp} : ∀ {is : List Nat} {ds : List D} {bs : List (Str × Value)} {s : Shared} {σ : L2.St} {r : En},
    (∀ i ∈ is, ∀ x, X.N[i]? = some x → Loc X.env.scope x ∧ (X.fn x = true ∨ X.env.scope.names.lookup x = some .local)) → Bds X.N X.K G is ds bs → L2.Inv X pins σ H s → Rel X.K B r M σ H G →
    (∀ s' σ', L2.Inv X pins σ' H s' → Rel X.K B (setL r is ds) M σ' H G → Q () s') → wpAny (model X.prog X.w) A (assignInOrder (bs.map fun (n, _) => bindName X.env n) (bs.map (·.2))) Q E s
  | _, _, _, _, _, _, _, .nil, I, R, h => wpAny_assignInOrder_none (h _ _ I R)
  | i :: is, d :: ds, (x, u) :: bs, s, σ, r, hl, .cons hi rd rv b, I, R, h => by
    obtain ⟨l1, l2⟩ := hl i List.mem_cons_self x hi
    refine wpAny_assignInOrder_more (wpAny_bindName (store_ok I N0 hi l1 rv (fun s' I' => ?_) l2))
    exact binds_ok (N0 := N0) (fun j hj => hl j (List.mem_cons_of_mem _ hj)) b I' (R.set rd i) h
inductive LocsOk (X : Cx) : List Nat → Prop
  | nil : LocsOk X []
  | cons {i : Nat} {is : List Nat} {x : Str} : X.N[i]? = some x → Loc X.env.scope x → (X.fn x = true ∨ X.env.scope.names.lookup x = some .local) → LocsOk X is → LocsOk X (i :: is)
theorem LocsOk.all : ∀ {is : List Nat}, LocsOk X is → ∀ i ∈ is, ∀ x, X.N[i]? = some x → Loc X.env.scope x ∧ (X.fn x = true ∨ X.env.scope.names.lookup x = some .local)
  | _, .cons a b c r, i, hi, x, hx => by
    rcases List.mem_cons.mp hi with rfl | hi
    · rw [a] at hx
      cases hx
      exact ⟨b, c⟩
    · exact r.all i hi x hx
structure DCs (X : Cx) (B : Bs) (cs : List MatchCase) (f : D → DTS) : Prop where
  run : ∀ (pins : List (Addr × Obj)) (s : Shared) (σ : L2.St) (H : Hp) (r : En) (M : Sto) (G : Hp) (d : D) (v : V) (u : Value) (E : Ek) (Ds : Ends) (first : Bool), L2.Inv X pins σ H s → Rel X.K B r M σ H G → Rep X.K G d v → RelV v u → EkOk X.K B G E Ds → f d E r M → wpAny (model X.prog X.w) X.A (matchCases cs X.env u first) (SP X pins Ds) X.xe s
theorem dc_nil : DCs X B [] (fun _ E r M => E.nx r M) :=
  ⟨fun pins s σ H r M G d v u E Ds first I R rd rv k h => wpAny_matchCases_nil ⟨σ, H, I, k.nx _ _ _ _ _ h R Sub.rfl'⟩⟩
theorem dc_cons {p : Pattern} {body : List Stmt} {cs : List MatchCase} {is : List Nat} {f : DPat} {g : DTS} {h : D → DTS} (hN : X.N.Nodup) (hp : DP X B p is f) (hb : DSs X B body g) (hr : DCs X B cs h) (lk : LocsOk X is) :
    DCs X B (⟨p, none, body⟩ :: cs) (caseD f is g h) :=
  ⟨fun pins s σ H r M G d v u E Ds first I R rd rv k q => wpAny_matchCases_cons (hp.run pins s σ H r M G d v u _ _ I R rd rv q ⟨fun s1 H1 G1 q1 I1 R1 t1 => hr.run pins s1 σ H1 r M G1 d v u E Ds false I1 R1 (rd.mono t1) rv (k.mono t1) q1,
    fun ds bs s1 H1 G1 q1 I1 R1 t1 b1 => binds_ok (N0 := hN) lk.all b1 I1 R1 fun s2 σ2 I2 R2 => hb.run pins s2 σ2 H1 Ds I2 ⟨_, M, G1, E, R2, q1, k.mono t1⟩⟩)⟩
theorem ds_match {e : Expr} {fe : DTE} {cs : List MatchCase} {fc : D → DTS} (he : DE X B e fe) (hc : DCs X B cs fc) : DS X B (.Match e cs pos) (fun E r M => fe r M fun d M1 => fc d E r M1) :=
  ⟨fun pins s σ H Ds I hh => by
    obtain ⟨r, M, G, E, R, q, k⟩ := EkOk.of hh
    refine wpAny_Match (thn (he.run pins s σ H (fun v H1 => ∃ d M1 G1, fc d E r M1 ∧ Rel X.K B r M1 σ H1 G1 ∧ Sub G G1 ∧ Rep X.K G1 d v) I ⟨r, M, G, _, R, q, fun d M1 v H1 G1 q1 R1 s1 p1 => ⟨d, M1, G1, q1, R1, s1, p1⟩⟩) fun u s1 ⟨v, H1, I1, rv, d, M1, G1, q1, R1, s1', p1⟩ => ?_)
    exact hc.run pins s1 σ H1 r M1 G1 d v u E Ds true I1 R1 p1 rv (k.mono s1') q1⟩
end
end Z
namespace Z
open PySem PySem.Spec PyProof.Rows L2

section
variable {X : Cx} {B : Bs} {pos p p1 p2 p3 : Pos} {e o : Expr} {es : List Expr} {fa fo : DTE} {ga : DTA} {k : Nat}
theorem RepL.reverse {K : PySem.W.Frag} {G : Hp} : ∀ {ds : List D} {vs : List V}, RepL K G ds vs → RepL K G ds.reverse vs.reverse
  | _, _, .nil => .nil
  | d :: ds, v :: vs, .cons h r => by
    rw [List.reverse_cons, List.reverse_cons]
    exact r.reverse.app (.cons h .nil)
theorem de_revL (he : DE X B e fa) : DE X B (.Subscript e (.Slice none none (some (.UnaryOp .USub (.Constant (.int 1) k p1) p2)) p3) pos) (fun r M Ψ => fa r M fun d M1 => ∃ l, lstOf M1 d = some l ∧ Ψ (.lst l.reverse) M1) :=
  PE_imp (pe_revL he) fun σ H Q ⟨r, M, G, Ψ, R, h, kk⟩ => by
    refine ⟨r, M, G, _, R, h, fun d M1 v H1 G1 ⟨l, hl, q⟩ R1 s1 p1 => ?_⟩
    obtain ⟨a, vs, e1, h1, r1⟩ := lst_rep' R1.wd p1 hl
    refine ⟨a, vs, e1, h1, fun c hc => ?_⟩
    have g : Grow H1 G1 (upd H1 c (.lst vs.reverse)) (upd G1 c (.lst vs.reverse)) := grow_upd R1.wd.sub hc
    exact kk _ _ _ _ _ q (R1.grow g) (s1.tr g.gsub) (.lst (.inl upd_same) (RepL.reverse (r1.mono g.gsub)))
def rExtS (K : PySem.W.Frag) : V → List V → Hp → VK → Prop := fun x vs H Q => ∃ l b xs zs, x = .ref l ∧ vs = [.ref b] ∧ H l = some (.lst xs) ∧ Rd H b (.lst zs) ∧ xs.length + zs.length ≤ sizeLine ∧ Q .non (upd H l (.lst (xs ++ zs)))
theorem mt_extS : MtM X "list.extend" (rExtS X.K) := by
  intro pins s σ H x vs v us Q I rx rv h
  obtain ⟨l, b, xs, zs, rfl, rfl, hH, hB, hz, q⟩ := h
  cases rx
  obtain ⟨u, rfl, ru⟩ := rv.one
  cases ru
  obtain ⟨z, its, n, r, hl, e⟩ := I.lstM hH
  obtain ⟨z2, its2, n2, r2, e2⟩ := hB.ok I.hok
  have l2 : its2.length ≤ sizeLine := by rw [← r2.length]; exact z2
  have l1 : its.length = xs.length := r.length.symm
  have l3 : its2.length = zs.length := r2.length.symm
  have tot : its.toArray.size + its2.toArray.size ≤ sizeLine := by rw [List.size_toArray, List.size_toArray, l1, l3]; exact hz
  have few : ¬ (!its.toArray.isEmpty && Builtin.List.listTooLong (its.toArray.size + its2.toArray.size)) = true := by
    rw [notLongL tot, Bool.and_false]
    simp
  refine call_meets PySem.F.slot_list_extend ⟨_, e, rfl⟩ PySem.F.entry_list_extend (PySem.F.args_list_extend_2 _ _)
    (AutoSeq1.list_extend_list_list_0 l its.toArray n b its2.toArray n2 few (by simp only [List.size_toArray] at *; omega) (by simp only [List.size_toArray] at *; omega)) ⟨e, e2, ⟨.non, _, I.lset (its' := its ++ its2) hH e (by simp) (r.append r2) (by rw [List.length_append]; omega), rfl, q⟩⟩
def extendD (M : Sto) (x : D) (ds : List D) (φ : PD) : Prop := match ds with
  | [d] => lstAt M x fun p l => ∃ l2, lstOf M d = some l2 ∧ l.length + l2.length ≤ sizeLine ∧ φ .non (updM M p (.lst (l ++ l2)))
  | _ => False
theorem ok_extS {K : PySem.W.Frag} : OkM K (rExtS K) extendD := fun M H G x v ds vs φ Q w r rs h k => by
  unfold extendD at h
  split at h
  · obtain ⟨p, l, rfl, e, l2, h2, hl, h⟩ := lstAt_some h
    cases r
    cases rs with
    | cons r1 rs =>
      cases rs
      obtain ⟨b, zs, eb, hb, rz⟩ := lst_rep w r1 h2
      subst eb
      obtain ⟨gp, us, hp, rl⟩ := w.cells _ _ e
      obtain ⟨w1, s1⟩ := cell_put (c := .lst (l ++ l2)) (o := .lst (us ++ zs)) w e ⟨_, upd_same, rl.app rz⟩
      exact ⟨p, b, us, zs, rfl, rfl, hp, hb, by rw [← rl.length, ← rz.length]; exact hl, k _ _ _ _ _ h w1 s1 .non⟩
  · exact h.elim
theorem de_extend {apos : Pos} (ho : DE X B o fo) (ha : DA X B [e] ga) (hbase : attributeBase o "extend" X.env (eval o X.env) = eval o X.env := by rfl) (hline : (apos.endLine == pos.line) = true := by rfl) (hs : starEach [e] X.env = (false, eval e X.env) :: starEach [] X.env := by rfl)
    (hfew : ((backTo pos (starEach [e] X.env)).all (fun x => !x.1) && (backToKw pos (keywordEach [] X.env)).all (fun x => x.1.isSome)
      && decide ([e].length + ([] : List Keyword).length + (if ([] : List Keyword).isEmpty then 0 else 1) < 30)) = true := by rfl) :
    DE X B (.Call (.Attribute o "extend" apos) [e] [] pos) (fun r M Ψ => fo r M fun x M1 => (∃ l, lstOf M1 x = some l) ∧ ga r M1 fun ds M2 => extendD M2 x ds Ψ) := de_lm1 PySem.F.slot_list_extend PySem.F.type_list_extend mt_extS ok_extS ho ha hbase hfew hline hs rfl
theorem keyD_rep {K : PySem.W.Frag} {G : Hp} {c : D} {k : Key} (h : keyD c = some k) : Rep K G c (kV k) := by
  cases c with
  | int i => cases h; exact .int
  | str x => cases h; exact .str
  | _ => cases h
theorem repD_keys {K : PySem.W.Frag} {G : Hp} : ∀ {l : List (D × D)} {kvs : List (Key × V)}, RepD K G l kvs → RepL K G (l.map (·.1)) (kvs.map fun kv => kV kv.1)
  | _, _, .nil => .nil
  | _, _, .cons hk _ r => .cons (keyD_rep hk) (repD_keys r)
def dkOf (M : Sto) : D → Option (List (D × D))
  | .dic l => if l.all (fun kv => (keyD kv.1).isSome) then some l else none
  | .ref p => match M p with
    | some (.dic l) => some l
    | _ => none
  | _ => none
def rListA (K : PySem.W.Frag) : List V → Hp → VK → Prop := fun xs H Q => rListD xs H Q ∨ (∃ d kvs, xs = [V.ref d] ∧ Rd H d (.dT kvs) ∧ ∀ p bs, H p = none → IsKeys H kvs bs → Q (.ref p) (upd H p (.lst (bs.map V.ref))))
def listKD (M : Sto) (ds : List D) (φ : PD) : Prop := match ds with
  | [d] => ∃ l, dkOf M d = some l ∧ φ (.lst (l.map (·.1))) M
  | _ => False
theorem key_not {c : D} {k : List Key} (h : keyT c = some k) (h1 : (keyD c).isSome = true) : False := by
  cases c with
  | tup l => cases h1
  | int i => cases h
  | str x => cases h
  | _ => cases h1
theorem ok_listK {K : PySem.W.Frag} : OkC K (rListA K) listKD := fun M H G ds vs φ Q w r h k => by
  unfold listKD at h
  split at h
  · obtain ⟨l, hl, h⟩ := h
    cases r with
    | cons r1 r2 =>
      cases r2
      have main : ∀ p kvs, H p = some (.dK kvs) → RepL K G (l.map (·.1)) (kvs.map fun kv => kV kv.1) → rListA K [.ref p] H Q := fun p kvs hp rk => .inl ⟨p, kvs, rfl, hp, fun q hq => by
        have g := grow_upd (o := .lst (kvs.map fun kv => kV kv.1)) w.sub hq
        exact k.grow w g h (.lst (.inl upd_same) (rk.mono g.gsub))⟩
      unfold dkOf at hl
      split at hl
      · rename_i l0
        split at hl
        · rename_i hall
          cases hl
          cases r1 with
          | dic h1 rd => exact main _ _ (w.sub _ _ h1) (repD_keys rd)
          | dit h1 rd =>
            cases rd with
            | nil =>
              refine .inr ⟨_, _, rfl, .inl (w.sub _ _ h1), fun p bs hp hk => ?_⟩
              have eb : bs = [] := by cases hk; rfl
              subst eb
              have g := grow_upd (o := .lst []) w.sub hp
              exact k.grow w g h (.lst (.inl upd_same) .nil)
            | cons hk _ _ =>
              exfalso
              rw [List.all_cons] at hall
              have h1 := (Bool.and_eq_true_iff.mp hall).1
              exact key_not hk h1
        · cases hl
      · rename_i p
        split at hl
        · rename_i l0 e
          cases hl
          cases r1
          obtain ⟨gp, kvs, hp, rd⟩ := w.cells _ _ e
          exact main _ _ hp (repD_keys rd)
        · cases hl
      · cases hl
  · exact h.elim
theorem de_listK (hc : X.calm = true) (hm : X.mg "list" = none) (ha : DA X B [e] ga) (hg : Gl X "list" := by rfl) (he : starEach [e] X.env = (false, eval e X.env) :: starEach [] X.env := by rfl) : DE X B (.Call (.Name "list" p) [e] [] pos) (fun r M Ψ => ga r M fun ds M1 => listKD M1 ds Ψ) :=
  de_callT (CallR_or (call_list_dK hc) (call_list_dT hc)) ok_listK hm bt_list ha hg (by decide) (by decide) he rfl
end
end Z
namespace Z
open PySem PySem.Spec PyProof.Rows L2

def rDictL (K : PySem.W.Frag) : List V → Hp → VK → Prop := fun xs H Q => ∃ (p : Addr) (ts : List Addr) (kvs : List (Key × V)), xs = [.ref p] ∧ SqL K H p (ts.map V.ref) ∧ Paired (fun t (kv : Key × V) => SqT K H t [kV kv.1, kv.2]) ts kvs ∧ ∀ q, H q = none → Q (.ref q) (upd H q (.dK (mergeK [] kvs)))
theorem vals_refs : ∀ {ts : List Addr} {us : List Value}, Vals (ts.map V.ref) us → us = ts.map Value.ref
  | [], _, h => by cases h; rfl
  | t :: ts, _, h => by
    cases h with
    | cons h1 h2 =>
      cases h1
      rw [vals_refs h2]
      rfl
theorem pairs_of {X : Cx} {pins : List (Addr × Obj)} {σ : L2.St} {H : Hp} {s : Shared} (I : L2.Inv X pins σ H s) : ∀ {ts : List Addr} {kvs : List (Key × V)}, Paired (fun t (kv : Key × V) => SqT X.K H t [kV kv.1, kv.2]) ts kvs →
    ∃ (rs : List (Key × Value)) (ps : List (Value × Value)), KV kvs rs ∧ ps.length = ts.length ∧ rs.length = ps.length ∧ ∀ (j : Nat) k v, ps[j]? = some (k, v) → ∃ t kk, ts[j]? = some t ∧ IsTup s.heap t #[k, v] ∧ rs[j]? = some (kk, v) ∧ (mixKind X.prog X.w).is kk k = true
  | _, _, .nil => ⟨[], [], .nil, rfl, rfl, fun j k v h => by simp at h⟩
  | t :: ts, kv :: kvs, .cons h r => by
    obtain ⟨rs, ps, h1, h2, h3, h4⟩ := pairs_of I r
    obtain ⟨its, rv, ht, _⟩ := I.tuple h
    cases rv with
    | cons a1 rv =>
      cases rv with
      | cons a2 rv =>
        cases rv
        rename_i x y
        refine ⟨(kv.1, y) :: rs, (x, y) :: ps, .cons ⟨rfl, a2⟩ h1, by simp [h2], by simp [h3], fun j k v hj => ?_⟩
        cases j with
        | zero =>
          simp only [List.getElem?_cons_zero, Option.some.injEq, Prod.mk.injEq] at hj
          obtain ⟨rfl, rfl⟩ := hj
          exact ⟨t, kv.1, rfl, ht, rfl, kV_is a1⟩
        | succ j =>
          obtain ⟨t', kk, g1, g2, g3, g4⟩ := h4 j k v (by simpa using hj)
          exact ⟨t', kk, by simpa using g1, g2, by simpa using g3, g4⟩
theorem call_dictL {X : Cx} (hc : X.calm = true) : CallR X (.type "dict") (rDictL X.K) := by
  intro pins s σ H xs us Q I r h
  obtain ⟨p, ts, kvs, e, hp, hps, q⟩ := h
  subst e
  obtain ⟨u, eu, rx⟩ := vals1 r
  subst eu
  obtain rfl : u = Value.ref p := rx
  obtain ⟨its, ri, ⟨o, n, e, hcls, hd, hs⟩, hz⟩ := I.list hp
  obtain rfl := vals_refs ri
  obtain ⟨rs, ps, h1, h2, h3, h4⟩ := pairs_of I hps
  have hz' : ts.length ≤ sizeLine := by rw [List.length_map] at hz; exact hz
  have hrk : rs.length = kvs.length := (Paired.length h1).symm
  refine call_dict_pairs (knd := mixKind X.prog X.w) (kvs := rs) (PairArg.list p (ts.map Value.ref).toArray (fun j => ts.getD j 0) ps) (I.ok.hd hc) ⟨⟨o, n, e, hcls, hd, hs⟩, by simp [h2], fun j k v hj => ?_⟩ ⟨h3, fun j k v hj => ?_⟩ (by rw [h2]; exact hz') fun h' tk hD hk => ?_
  · obtain ⟨t, kk, g1, g2, _, _⟩ := h4 j k v hj
    have eg : ts.getD j 0 = t := by rw [List.getD_eq_getElem?_getD, g1]; rfl
    refine ⟨by rw [List.getElem?_toArray, List.getElem?_map, g1]; exact congrArg (fun z => some (Value.ref z)) eg.symm, .inl ?_⟩
    dsimp only
    rw [eg]
    exact g2
  · obtain ⟨t, kk, _, _, g3, g4⟩ := h4 j k v hj
    exact ⟨kk, g3, g4⟩
  · refine ⟨.ref s.heap.objs.size, upd H s.heap.objs.size (.dK (mergeK [] kvs)), I.laid (fun b o e => hk b o (by simp) e) (Nat.le_refl _) ⟨?_, beq_eq_false_iff_ne.mpr (Ne.symm (Nat.ne_of_lt I.big)), merged [] rs, KV.merge h1 (by exact .nil), hD⟩, rfl, q _ (I.hok.fresh (Nat.le_refl _))⟩
    have := length_mergeK kvs []
    simp only [List.length_nil, Nat.zero_add] at this
    have h5 := Paired.length hps
    omega
noncomputable def dmerge (l : List (D × D)) (xs : List (D × D)) : List (D × D) := xs.foldl (fun acc kv => dput acc kv.1 kv.2) l
theorem repD_merge {K : PySem.W.Frag} {G : Hp} : ∀ {xs l : List (D × D)} {kvs kvs0 : List (Key × V)}, RepD K G xs kvs → RepD K G l kvs0 → RepD K G (dmerge l xs) (mergeK kvs0 kvs)
  | [], _, _, _, r, h => by cases r; exact h
  | kv :: xs, _, _, _, r, h => by
    cases r with
    | cons hk p r =>
      have z := repD_merge r (repD_put hk p h)
      exact z
def pairOf : D → Option (D × D)
  | .tup [k, v] => if (keyD k).isSome then some (k, v) else none
  | _ => none
theorem pairOf_inv {d : D} {q : D × D} (h : pairOf d = some q) : d = .tup [q.1, q.2] ∧ (keyD q.1).isSome = true := by
  unfold pairOf at h
  split at h
  · rename_i k v
    split at h
    · rename_i hk
      cases h
      exact ⟨rfl, hk⟩
    · cases h
  · cases h
def pairsOf : List D → Option (List (D × D))
  | [] => some []
  | d :: r => match pairOf d, pairsOf r with
    | some q, some l => some (q :: l)
    | _, _ => none
theorem pairs_rep {K : PySem.W.Frag} {G : Hp} : ∀ {ds : List D} {vs : List V} {l : List (D × D)}, RepL K G ds vs → pairsOf ds = some l → ∃ (ts : List Addr) (kvs : List (Key × V)), vs = ts.map V.ref ∧ RepD K G l kvs ∧ Paired (fun t (kv : Key × V) => SqT K G t [kV kv.1, kv.2]) ts kvs
  | [], _, _, .nil, h => by cases h; exact ⟨[], [], rfl, .nil, .nil⟩
  | d :: ds, _, l, .cons p r, h => by
    cases ep : pairOf d with
    | none => simp [pairsOf, ep] at h
    | some qq =>
      cases er : pairsOf ds with
      | none => simp [pairsOf, ep, er] at h
      | some l' =>
        simp only [pairsOf, ep, er, Option.some.injEq] at h
        subst h
        obtain ⟨e1, hk⟩ := pairOf_inv ep
        obtain ⟨kk, hkk⟩ := Option.isSome_iff_exists.mp hk
        obtain ⟨ts, kvs, a1, a2, a3⟩ := pairs_rep r er
        subst e1
        cases p with
        | tup hq rq =>
          cases rq with
          | cons q1 rq =>
            cases rq with
            | cons q2 rq =>
              cases rq
              rename_i t v1 v2
              obtain rfl := key_v q1 hkk
              exact ⟨t :: ts, (kk, v2) :: kvs, by rw [a1]; rfl, .cons hkk q2 a2, .cons hq a3⟩
def dictLD (M : Sto) (ds : List D) (φ : PD) : Prop := match ds with
  | [.lst xs] => ∃ l, pairsOf xs = some l ∧ ∀ p, M p = none → φ (.ref p) (updM M p (.dic (dmerge [] l)))
  | _ => False
theorem sqT_sub {K : PySem.W.Frag} {G H : Hp} (s : Sub G H) : ∀ {ts : List Addr} {kvs : List (Key × V)}, Paired (fun t (kv : Key × V) => SqT K G t [kV kv.1, kv.2]) ts kvs → Paired (fun t (kv : Key × V) => SqT K H t [kV kv.1, kv.2]) ts kvs
  | _, _, .nil => .nil
  | _, _, .cons h r => .cons (s.sqT h) (sqT_sub s r)
theorem ok_dictL {K : PySem.W.Frag} : OkC K (rDictL K) dictLD := fun M H G ds vs φ Q w r h k => by
  unfold dictLD at h
  split at h
  · obtain ⟨l, hl, h⟩ := h
    cases r with
    | cons r1 r2 =>
      cases r2
      cases r1 with
      | lst h1 rl =>
        obtain ⟨ts, kvs, e1, e2, e3⟩ := pairs_rep rl hl
        subst e1
        refine ⟨_, ts, kvs, rfl, .inl (w.sub.rd h1), sqT_sub w.sub e3, fun q hq => ?_⟩
        obtain ⟨w2, s2⟩ := cell_new (c := .dic (dmerge [] l)) (o := .dK (mergeK [] kvs)) w hq ⟨_, upd_same, repD_merge e2 .nil⟩
        exact k _ _ _ _ _ (h q (w.nomem hq)) w2 s2 .ref
  · exact h.elim
def sortSD (M : Sto) (ds : List D) (φ : PD) : Prop := match ds with
  | [.lst l] => ∃ xs : List Str, l = xs.map .str ∧ xs.length < 64 ∧ ∀ ys, ys.Perm xs → sortedS ys = true → φ (.lst (ys.map .str)) M
  | _ => False
theorem strs_of {K : PySem.W.Frag} {G : Hp} : ∀ {xs : List Str} {vs : List V}, RepL K G (xs.map .str) vs → vs = xs.map V.str
  | [], _, h => by cases h; rfl
  | x :: xs, _, h => by
    cases h with
    | cons h1 h2 =>
      cases h1
      rw [strs_of h2]
      rfl
theorem strs_repL {K : PySem.W.Frag} {G : Hp} : ∀ xs : List Str, RepL K G (xs.map .str) (xs.map V.str)
  | [] => .nil
  | x :: xs => .cons .str (strs_repL xs)
theorem ok_sortS {K : PySem.W.Frag} : OkC K (rSortedS K) sortSD := fun M H G ds vs φ Q w r h k => by
  unfold sortSD at h
  split at h
  · obtain ⟨xs, rfl, h64, h⟩ := h
    cases r with
    | cons r1 r2 =>
      cases r2
      cases r1 with
      | lst h1 rl =>
        obtain rfl := strs_of rl
        refine ⟨_, xs, rfl, .inl (w.sub.rd h1), h64, fun ys p h2 h3 hp => ?_⟩
        have g := grow_upd (o := .lst (ys.map V.str)) w.sub hp
        exact k.grow w g (h ys h2 h3) (.lst (.inl upd_same) (strs_repL ys))
  · exact h.elim
section
variable {X : Cx} {B : Bs} {pos p : Pos} {e : Expr} {ga : DTA}
theorem de_dictL (hc : X.calm = true) (hm : X.mg "dict" = none) (ha : DA X B [e] ga) (hg : Gl X "dict" := by rfl) (he : starEach [e] X.env = (false, eval e X.env) :: starEach [] X.env := by rfl) : DE X B (.Call (.Name "dict" p) [e] [] pos) (fun r M Ψ => ga r M fun ds M1 => dictLD M1 ds Ψ) :=
  de_callT (call_dictL hc) ok_dictL hm rfl ha hg (by decide) (by decide) he rfl
theorem de_sortS (hm : X.mg "sorted" = none) (ha : DA X B [e] ga) (hg : Gl X "sorted" := by rfl) (he : starEach [e] X.env = (false, eval e X.env) :: starEach [] X.env := by rfl) : DE X B (.Call (.Name "sorted" p) [e] [] pos) (fun r M Ψ => ga r M fun ds M1 => sortSD M1 ds Ψ) :=
  de_callB cr_sortedS ok_sortS hm rfl ha hg (by decide) (by decide) he rfl
theorem de_whyL1 {q x y : Str} {j k : Nat} {params : Arguments} {body : Expr} {scope : Scope} {cl : List (Str × Addr)} {P c : Addr} {lpos p1 : Pos} {n : Int} {jj} {t : (XD → En → Sto → Prop) → DTE} (W : WhyOk X.prog X.w X.K X.mg X.base x j) (hr : Room k X.A) (TB : LamX.TabB X.base X.mg c P) (hcode : X.env.code = .ref c)
    (L : LamOk X ⟨q, params, body, scope, cl⟩) (hdef : defaultsOf params X.env = ([eval (.Constant (.int n) jj p1) X.env], [])) (T : LamT X ⟨q, params, body, scope, cl⟩ [y]) (hb : LamBody X j ⟨q, params, body, scope, cl⟩ t) (hj : j + 2 ≤ k := by decide) (hg : Gl X x := by rfl) (hdb : (x == ("__debug__" : Str)) = false := by decide)
    (he : starEach [Expr.Lambda params body scope lpos] X.env = (false, eval (.Lambda params body scope lpos) X.env) :: starEach [] X.env := by rfl) (hpl : (backTo pos (starEach [] X.env)).any (·.1) = false := by rfl) :
    DE X B (.Call (.Name x p) [.Lambda params body scope lpos] [] pos) (fun r M Ψ => M P = some (.tab q) ∧ t (fun x _ M' => whyΞ X.K Ψ x M') r M (whyΨ Ψ)) :=
  PE_imp (de_why (B := B) W hr (da_cons (de_lam1 TB hcode L hdef) da_nil he) hj hg hdb he hpl) fun σ H Q ⟨r, M, G, Ψ, R, ⟨h1, h2⟩, kk⟩ =>
    ⟨r, M, G, Ψ, R, ⟨h1, ⟨⟨q, params, body, scope, cl⟩, [y], [n], t⟩, ⟨L, T, rfl, hb⟩, rfl, h2⟩, kk⟩
end
def catMD (M : Sto) (x y : D) (φ : PD) : Prop := ∃ l l', lstOf M x = some l ∧ lstOf M y = some l' ∧ l.length + l'.length ≤ sizeLine ∧ ∀ p, M p = none → φ (.ref p) (updM M p (.lst (l ++ l')))
theorem ok_catM {K : PySem.W.Frag} : OkP2 K rCatL catMD := fun M H G x y v u φ Q w rx ry ⟨l, l', e1, e2, z, h⟩ k => by
  obtain ⟨p, vs, rfl, h1, r1⟩ := lst_rep w rx e1
  obtain ⟨q', us, rfl, h2, r2⟩ := lst_rep w ry e2
  refine ⟨p, q', vs, us, rfl, rfl, h1, h2, by rw [← r1.length, ← r2.length]; exact z, fun q hq => ?_⟩
  obtain ⟨w2, s2⟩ := cell_new (c := .lst (l ++ l')) (o := .lst (vs ++ us)) w hq ⟨_, upd_same, r1.app r2⟩
  exact k _ _ _ _ _ (h q (w.nomem hq)) w2 s2 .ref
section
variable {X : Cx} {B : Bs} {pos : Pos} {a b : Expr} {fa fb : DTE}
theorem de_addM (ha : DE X B a fa) (hb : DE X B b fb) : DE X B (.BinOp a .Add b pos) (fun r M Ψ => fa r M fun x M1 => fb r M1 fun y M2 => catMD M2 x y Ψ) := PE_imp (pe_op op_catL ha hb) fun σ H Q h => tOp_okP ok_catM h
end
theorem upd_upd' {H : Hp} {a : Addr} {u v : HO} : upd (upd H a u) a v = upd H a v := by
  funext b
  by_cases e : b = a
  · rw [e, upd_same, upd_same]
  · rw [upd_ne e, upd_ne e, upd_ne e]
def rDictF (K : PySem.W.Frag) : List V → Hp → VK → Prop := fun xs H Q => ∃ (p : Addr) (ts : List Addr) (kvs : List (Key × V)), xs = [.ref p] ∧ SqL K H p (ts.map V.ref) ∧ Paired (fun t (kv : Key × V) => SqT K H t [kV kv.1, kv.2]) ts kvs ∧ ∀ q o, H q = none → Q (.ref q) (upd H q (.frz o (.dK (mergeK [] kvs))))
theorem call_dictF {X : Cx} (hc : X.calm = true) : CallR X (.type "dict") (rDictF X.K) := fun pins s σ H xs us Q I r ⟨p, ts, kvs, e, hp, hps, q⟩ =>
  thn (call_dictL hc pins s σ H xs us (fun v H' => ∃ qq, H qq = none ∧ v = .ref qq ∧ H' = upd H qq (.dK (mergeK [] kvs))) I r ⟨p, ts, kvs, e, hp, hps, fun qq hq => ⟨qq, hq, rfl, rfl⟩⟩) fun u s1 ⟨v, H1, I1, rv, qq, hn, ev, eH⟩ => by
    subst ev eH
    obtain ⟨od, I2⟩ := I1.lock (d := qq) upd_same trivial
    rw [upd_upd'] at I2
    exact ⟨.ref qq, _, I2, rv, q qq od hn⟩
def dictFD (M : Sto) (ds : List D) (φ : PD) : Prop := match ds with
  | [.lst xs] => ∃ l, pairsOf xs = some l ∧ φ (.dlk (dmerge [] l)) M
  | _ => False
theorem ok_dictF {K : PySem.W.Frag} : OkC K (rDictF K) dictFD := fun M H G ds vs φ Q w r h k => by
  unfold dictFD at h
  split at h
  · obtain ⟨l, hl, h⟩ := h
    cases r with
    | cons r1 r2 =>
      cases r2
      cases r1 with
      | lst h1 rl =>
        obtain ⟨ts, kvs, e1, e2, e3⟩ := pairs_rep rl hl
        subst e1
        refine ⟨_, ts, kvs, rfl, .inl (w.sub.rd h1), sqT_sub w.sub e3, fun q o hq => ?_⟩
        have g := grow_upd (o := .frz o (.dK (mergeK [] kvs))) w.sub hq
        exact k.grow w g h (.dlk upd_same ((repD_merge e2 .nil).mono g.gsub))
  · exact h.elim
def rListF : List V → Hp → VK → Prop := fun xs H Q => ∃ p o kvs, xs = [.ref p] ∧ H p = some (.frz o (.dK kvs)) ∧ ∀ q, H q = none → Q (.ref q) (upd H q (.lst (kvs.map fun kv => kV kv.1)))
theorem call_listF {X : Cx} (hc : X.calm = true) : CallR X (.type "list") rListF := by
  intro pins s σ H xs us Q I r h
  obtain ⟨p, o, kvs, e, hk, q⟩ := h
  subst e
  obtain ⟨u, eu, rx⟩ := vals1 r
  subst eu
  obtain rfl : u = Value.ref p := rx
  obtain ⟨_, z, lo, vs, rk, hd⟩ := (show ObjOk X.prog X.w H s.heap p (.frz o (.dK kvs)) from I.hok p _ hk)
  obtain ⟨ep, hat⟩ := hd.dictAt
  have hl : kvs.length = vs.length := Paired.length rk
  refine PySem.W.kdl_call (PySem.W.kdl_dict (knd := mixKind X.prog X.w) (kvs := vs) (ep := ep) lo) (I.ok.hd hc) hat (by rw [← hl]; exact z) fun h' tk acc' c' hkeep hS hacc => ?_
  refine ⟨.ref s.heap.objs.size, upd H s.heap.objs.size (.lst (kvs.map fun kv => kV kv.1)), I.laid hkeep (Nat.le_refl _) ⟨by rw [List.length_map]; exact z, acc'.toList, c', ?_, ?_⟩, rfl, q _ (I.hok.fresh (Nat.le_refl _))⟩
  · have el : acc'.toList.length = acc'.size := by simp
    refine vals_of_at (by rw [List.length_map, el, hacc.1, hl]) fun j x w h1 h2 => ?_
    obtain ⟨k, y, hky, hi⟩ := hacc.2 j w (by rw [← Array.getElem?_toList]; exact h2)
    have e1 : (kvs.map (·.1))[j]? = some k := by
      rw [KV.keys rk, List.getElem?_map, hky] <;> rfl
    have e2 : (kvs.map fun kv => kV kv.1)[j]? = some (kV k) := by
      rw [show (kvs.map fun kv => kV kv.1) = (kvs.map (·.1)).map kV by rw [List.map_map] <;> rfl, List.getElem?_map, e1] <;> rfl
    rw [e2] at h1
    cases h1
    exact keyIs_rel hi
  · rw [Array.toArray_toList]
    exact hS
def listFD (M : Sto) (ds : List D) (φ : PD) : Prop := match ds with
  | [.dlk l] => φ (.lst (l.map (·.1))) M
  | _ => False
theorem ok_listF {K : PySem.W.Frag} : OkC K rListF listFD := fun M H G ds vs φ Q w r h k => by
  unfold listFD at h
  split at h
  · cases r with
    | cons r1 r2 =>
      cases r2
      cases r1 with
      | @dlk _ _ _ kvs h1 rd =>
        refine ⟨_, _, _, rfl, w.sub _ _ h1, fun q hq => ?_⟩
        have g := grow_upd (o := .lst (kvs.map fun kv => kV kv.1)) w.sub hq
        exact k.grow w g h (.lst (.inl upd_same) ((repD_keys rd).mono g.gsub))
  · exact h.elim
theorem keys_at {K : PySem.W.Frag} {G : Hp} : ∀ {l : List (D × D)} {kvs : List (Key × V)}, RepD K G l kvs → ∀ (i : Nat) k v, kvs[i]? = some (k, v) → ∃ d, (l.map (·.1))[i]? = some d ∧ Rep K G d (kV k)
  | _, _, .nil, i, k, v, h => by simp at h
  | _, _, .cons hk p r, 0, k, v, h => by
    simp only [List.getElem?_cons_zero, Option.some.injEq, Prod.mk.injEq] at h
    obtain ⟨rfl, rfl⟩ := h
    exact ⟨_, rfl, keyD_rep hk⟩
  | _, _, .cons hk p r, i + 1, k, v, h => by
    obtain ⟨d, e, q⟩ := keys_at r i k v (by simpa using h)
    exact ⟨d, by simpa using e, q⟩
section
variable {X : Cx} {B : Bs} {pos p : Pos} {e : Expr} {ga : DTA} {fa : DTE}
theorem de_dictF (hc : X.calm = true) (hm : X.mg "dict" = none) (ha : DA X B [e] ga) (hg : Gl X "dict" := by rfl) (he : starEach [e] X.env = (false, eval e X.env) :: starEach [] X.env := by rfl) : DE X B (.Call (.Name "dict" p) [e] [] pos) (fun r M Ψ => ga r M fun ds M1 => dictFD M1 ds Ψ) :=
  de_callT (call_dictF hc) ok_dictF hm rfl ha hg (by decide) (by decide) he rfl
theorem de_listF (hc : X.calm = true) (hm : X.mg "list" = none) (ha : DA X B [e] ga) (hg : Gl X "list" := by rfl) (he : starEach [e] X.env = (false, eval e X.env) :: starEach [] X.env := by rfl) : DE X B (.Call (.Name "list" p) [e] [] pos) (fun r M Ψ => ga r M fun ds M1 => listFD M1 ds Ψ) :=
  de_callT (call_listF hc) ok_listF hm rfl ha hg (by decide) (by decide) he rfl
theorem di_keys {l : Expr} {tg : Expr} (hl : DE X B l fa) : DI X B tg l (fun r M Ψ => fa r M fun d M1 => ∃ l, d = .dlk l ∧ Ψ (l.map (·.1)) (fun _ => True) M1) := PI_imp (pi_keys hl) fun σ H Q ⟨r, M, G, Ψ, R, h, k⟩ => by
  refine ⟨r, M, G, _, R, h, fun d M1 v H1 G1 ⟨l, e, q⟩ R1 s1 p => ?_⟩
  subst e
  cases p with
  | dlk hG rd =>
    rename_i a o kvs
    refine ⟨a, o, rfl, .inl ⟨kvs, R1.wd.sub _ _ hG, k _ _ M1 _ H1 G1 q R1 s1 fun i r2 M2 σ2 H2 G2 R2 t2 _ => ?_⟩⟩
    have hH := R2.wd.sub _ _ (t2 _ _ hG)
    have hl := rd.length
    refine ⟨fun hi => ⟨⟨hH, by rw [List.length_map] at hi; omega⟩, fun y H' hy => ?_⟩, fun hi => ⟨hH, by rw [List.length_map] at hi; omega⟩⟩
    obtain ⟨e3, kk, vv, hkv, e4⟩ := hy
    subst e3 e4
    obtain ⟨d', hd, pd⟩ := keys_at rd i kk vv hkv
    exact ⟨G2, d', Grow.refl R2.wd.sub, hd, pd.mono t2⟩
end
section
variable {vs : List Nat} {wi : DTI} {as : D → En → (En → Prop) → Prop} {fe : DTE} {r : En} {M : Sto} {Φ : List D → Sto → Prop}
theorem compD_twoS {xs ys : List D} {S : Sto → Prop} (I : Sto → Prop) (hw : ∀ K : List D → (Sto → Prop) → Sto → Prop, K xs S M → wi r M K) (h0 : I M) (hS : ∀ M', I M' → S M') (hl : xs.length ≤ sizeLine) (h : Two (fun d y => ∀ M', I M' → ∀ Q : D → Sto → Prop, (∀ M4, I M4 → Q y M4) → as d (wipeD r vs) fun r2 => fe r2 M' Q) xs ys) (fin : ∀ M', I M' → Φ ys M') :
    compD vs wi as (fun _ M Ψ => Ψ true M) fe r M Φ := by
  unfold compD
  refine hw _ ⟨fun i acc M' => I M' ∧ acc = ys.take i, ⟨h0, rfl⟩, fun i acc M' h => hS _ h.1, fun i d acc M' hd ⟨e1, e2⟩ => ?_, fun acc M' ⟨e1, e2⟩ => ?_⟩
  · subst e2
    obtain ⟨y, hy, q⟩ := h.at i d hd
    obtain ⟨hi, ei⟩ := List.getElem?_eq_some_iff.mp hy
    obtain ⟨hx, _⟩ := List.getElem?_eq_some_iff.mp hd
    have hlt : (ys.take i).length < sizeLine := Nat.lt_of_le_of_lt (List.length_take_le _ _) (Nat.lt_of_lt_of_le hx hl)
    refine q M' e1 _ fun M4 i4 => ?_
    refine ⟨hlt, i4, ?_⟩
    rw [List.take_add_one, hy]
    rfl
  · subst e2
    rw [h.len, List.take_length]
    exact fin _ e1
end
end Z
namespace Z
open PySem PySem.Spec PyProof.Rows L2

theorem gs0 {d : D} {l : En} {φ : D → Prop} (h : φ d) : getS (some d :: l) 0 φ := h
theorem ifp {c p q : Prop} [Decidable c] (h : c) (x : p) : if c then p else q := by rw [if_pos h]; exact x
theorem cutD_tail {α : Type} (d : α) (l : List α) : cutD (d :: l) (some 1) none = l := by
  unfold cutD
  have h1 : HT.sIx (d :: l).length 0 (some 1) = 1 := by
    simp [HT.sIx, List.length_cons]
  have h2 : HT.sIx (d :: l).length (d :: l).length none = (d :: l).length := rfl
  rw [h1, h2]
  simp
inductive Pg where
  | tab (t : T4) | trn (w : Str) | swp | thn (l : List Pg) | tms (n : Int) (p : Pg) | use (x : Str)
mutual
def pgD : Pg → D
  | .tab t => .tup [.str "table", tD t]
  | .trn w => .tup [.str "turns", .str w]
  | .swp => .tup [.str "swap"]
  | .thn l => .tup (.str "then" :: pgDs l)
  | .tms n p => .tup [.str "times", .int n, pgD p]
  | .use x => .tup [.str "use", .str x]
def pgDs : List Pg → List D
  | [] => []
  | p :: l => pgD p :: pgDs l
end
theorem pgDs_map : ∀ l : List Pg, pgDs l = l.map pgD
  | [] => by simp [pgDs]
  | p :: l => by simp [pgDs, pgDs_map l]
mutual
/-- how deep it is nested -/
def pgK : Pg → Nat
  | .thn l => pgKs l + 1
  | .tms _ p => pgK p + 1
  | _ => 1
def pgKs : List Pg → Nat
  | [] => 0
  | p :: l => max (pgK p) (pgKs l)
end
theorem pgK_pos (p : Pg) : 0 < pgK p := by cases p <;> simp [pgK]
theorem pgKs_mem : ∀ {l : List Pg} {p : Pg}, p ∈ l → pgK p ≤ pgKs l
  | q :: l, p, h => by
    rw [pgKs]
    rcases List.mem_cons.mp h with rfl | h
    · exact Nat.le_max_left _ _
    · exact Nat.le_trans (pgKs_mem h) (Nat.le_max_right _ _)
theorem pgKs_le {l : List Pg} {k : Nat} (h : ∀ p ∈ l, pgK p ≤ k) : pgKs l ≤ k := by
  induction l with
  | nil => exact Nat.zero_le _
  | cons p l ih =>
    rw [pgKs]
    exact Nat.max_le.mpr ⟨h p List.mem_cons_self, ih fun q hq => h q (List.mem_cons_of_mem _ hq)⟩
mutual
/-- how many parts there are -/
def pgN : Pg → Nat
  | .thn l => pgNs l + 1
  | .tms _ p => pgN p + 1
  | _ => 1
def pgNs : List Pg → Nat
  | [] => 0
  | p :: l => pgN p + pgNs l
end
theorem pgN_pos (p : Pg) : 0 < pgN p := by cases p <;> simp [pgN]
theorem pgNs_app : ∀ (l m : List Pg), pgNs (l ++ m) = pgNs l + pgNs m
  | [], m => by simp [pgNs]
  | p :: l, m => by simp only [List.cons_append, pgNs, pgNs_app l m]; omega
theorem pgNs_len : ∀ l : List Pg, l.length ≤ pgNs l
  | [] => by simp [pgNs]
  | p :: l => by have := pgNs_len l; have := pgN_pos p; simp only [List.length_cons, pgNs]; omega
def pgIn : Pg → List Pg
  | .thn l => l
  | .tms _ p => [p]
  | _ => []
theorem pgN_in (p : Pg) : pgN p = pgNs (pgIn p) + 1 := by cases p <;> simp [pgN, pgIn, pgNs]
theorem pgK_in {p q : Pg} (h : q ∈ pgIn p) : pgK q + 1 ≤ pgK p := by
  cases p with
  | thn l => have := pgKs_mem (l := l) h; rw [pgK]; omega
  | tms n p => obtain rfl := List.mem_singleton.mp h; rw [pgK]; omega
  | _ => simp [pgIn] at h
def PgS : Pg → Prop
  | .thn l => l.length + 1 ≤ 16384
  | _ => True
mutual
/-- the names in the order of writing -/
def pgU : Pg → List Str
  | .use x => [x]
  | .thn l => pgUs l
  | .tms _ p => pgU p
  | _ => []
def pgUs : List Pg → List Str
  | [] => []
  | p :: l => pgU p ++ pgUs l
end
def pgTag : Pg → Str
  | .tab _ => "table" | .trn _ => "turns" | .swp => "swap" | .thn _ => "then" | .tms _ _ => "times" | .use _ => "use"
def pgRest : Pg → List D
  | .tab t => [tD t] | .trn w => [.str w] | .swp => [] | .thn l => pgDs l | .tms n p => [.int n, pgD p] | .use x => [.str x]
theorem pgD_tag (p : Pg) : pgD p = .tup (.str (pgTag p) :: pgRest p) := by cases p <;> simp [pgD, pgTag, pgRest]
theorem at_zero {d : D} {l : List D} : L2.atI (d :: l) 0 = some d := by
  unfold L2.atI ixN
  simp
theorem ix_tag {M : Sto} {p : Pg} {φ : D → Prop} (h : φ (.str (pgTag p))) : ixD M (pgD p) (.int 0) φ := by rw [pgD_tag]; exact optK_of at_zero h
theorem tag_use {p : Pg} (h : pgTag p = "use") : ∃ x, p = .use x := by
  cases p with
  | use x => exact ⟨x, rfl⟩
  | tab _ => exact absurd (show ("table" : Str) = "use" from h) (by decide)
  | trn _ => exact absurd (show ("turns" : Str) = "use" from h) (by decide)
  | swp => exact absurd (show ("swap" : Str) = "use" from h) (by decide)
  | thn _ => exact absurd (show ("then" : Str) = "use" from h) (by decide)
  | tms _ _ => exact absurd (show ("times" : Str) = "use" from h) (by decide)
def pgOwn : Pg → List Str
  | .use x => [x]
  | _ => []
theorem pgU_own (p : Pg) : pgU p = pgOwn p ++ pgUs (pgIn p) := by cases p <;> simp [pgU, pgOwn, pgIn, pgUs]
theorem pgOwn_nil {p : Pg} (h : ¬ pgTag p = "use") : pgOwn p = [] := by
  cases p with
  | use x => exact absurd rfl h
  | _ => rfl
theorem pgUs_app : ∀ (l m : List Pg), pgUs (l ++ m) = pgUs l ++ pgUs m
  | [], m => by simp [pgUs]
  | p :: l, m => by simp only [List.cons_append, pgUs, pgUs_app l m, List.append_assoc]
mutual
/-- a program and all parts within it, each ahead of those inside -/
def pgA : Pg → List Pg
  | .thn l => .thn l :: pgAs l
  | .tms n p => .tms n p :: pgA p
  | p => [p]
def pgAs : List Pg → List Pg
  | [] => []
  | p :: l => pgA p ++ pgAs l
end
theorem pgAs_app : ∀ (l m : List Pg), pgAs (l ++ m) = pgAs l ++ pgAs m
  | [], m => by simp [pgAs]
  | p :: l, m => by simp only [List.cons_append, pgAs, pgAs_app l m, List.append_assoc]
theorem pgA_in (p : Pg) : pgA p = p :: pgAs (pgIn p) := by cases p <;> simp [pgA, pgIn, pgAs]
mutual
theorem pgA_use : ∀ p : Pg, (pgA p).flatMap pgOwn = pgU p
  | .tab t => by simp [pgA, pgOwn, pgU]
  | .trn t => by simp [pgA, pgOwn, pgU]
  | .swp => by simp [pgA, pgOwn, pgU]
  | .use x => by simp [pgA, pgOwn, pgU]
  | .thn l => by rw [pgA, List.flatMap_cons, pgAs_use l, pgU]; rfl
  | .tms n p => by rw [pgA, List.flatMap_cons, pgA_use p, pgU]; rfl
theorem pgAs_use : ∀ l : List Pg, (pgAs l).flatMap pgOwn = pgUs l
  | [] => by simp [pgAs, pgUs]
  | p :: l => by rw [pgAs, List.flatMap_append, pgA_use p, pgAs_use l, pgUs]
end
theorem pgUs_mem : ∀ {l : List Pg} {p : Pg} {x : Str}, p ∈ l → x ∈ pgU p → x ∈ pgUs l
  | q :: l, p, x, h, hx => by
    rw [pgUs]
    rcases List.mem_cons.mp h with rfl | h
    · exact List.mem_append_left _ hx
    · exact List.mem_append_right _ (pgUs_mem h hx)
def NameOk (x : Str) : Prop := 1 ≤ x.cps.size ∧ x.cps.size ≤ 8 ∧ x ≠ "swap" ∧ x ≠ "then" ∧ ∀ c ∈ x.cps.toList, 97 ≤ c ∧ c ≤ 122
def TabOk (t : T4) : Prop := Nn t ∧ t.1 ≤ 60 ∧ t.2.1 ≤ 60 ∧ t.2.2.1 ≤ 60 ∧ t.2.2.2 ≤ 60 ∧ det4 t ≠ 0
def PtOk : Pg → Prop
  | .tab t => TabOk t
  | .trn w => LR w.cps.toList ∧ 1 ≤ w.cps.size ∧ w.cps.size ≤ 60
  | .swp => True
  | .thn l => 2 ≤ l.length ∧ l.length ≤ 6
  | .tms n _ => 0 ≤ n ∧ n ≤ 12
  | .use x => NameOk x
mutual
def PgOk : Pg → Prop
  | .thn l => PtOk (.thn l) ∧ PgOks l
  | .tms n p => PtOk (.tms n p) ∧ PgOk p
  | p => PtOk p
def PgOks : List Pg → Prop
  | [] => True
  | p :: l => PgOk p ∧ PgOks l
end
theorem pgOks_iff : ∀ {l : List Pg}, PgOks l ↔ ∀ p ∈ l, PgOk p
  | [] => by simp [PgOks]
  | p :: l => by rw [PgOks, pgOks_iff (l := l)]; simp
theorem pgOk_iff (p : Pg) : PgOk p ↔ PtOk p ∧ ∀ q ∈ pgIn p, PgOk q := by
  cases p <;> simp [PgOk, pgIn, PtOk, pgOks_iff]
theorem strOk_of {x : Str} (h : ∀ c ∈ x.cps.toList, c < 0x110000) : PyData.strOk x = true := by
  unfold PyData.strOk
  rw [Array.all_eq_true]
  intro i hi
  exact decide_eq_true (h _ (by rw [← Array.getElem_toList (h := hi)]; exact List.getElem_mem _))
theorem LR.lt {l : List Nat} (h : LR l) : ∀ c ∈ l, c < 0x110000 := fun c hc => by have := h c hc; omega
mutual
theorem pl_pg : ∀ (p : Pg) (k : Nat), PgOk p → pgK p ≤ k → Pl (k + 1) (pgD p)
  | .tab t, k, h, hk => by
    obtain ⟨j, rfl⟩ : ∃ j, k = j + 1 := ⟨k - 1, by have := pgK_pos (.tab t); omega⟩
    rw [pgD]
    exact .tup (.cons (.str (by decide +kernel)) (.cons (.tup (.cons (.int _) (.cons (.int _) (.cons (.int _) (.cons (.int _) .nil))))) .nil))
  | .trn w, k, h, hk => by
    rw [pgD]
    exact .tup (.cons (.str (by decide +kernel)) (.cons (.str (strOk_of (LR.lt h.1))) .nil))
  | .swp, k, h, hk => by
    rw [pgD]
    exact .tup (.cons (.str (by decide +kernel)) .nil)
  | .thn l, k, h, hk => by
    rw [pgD]
    rw [pgK] at hk
    obtain ⟨j, rfl⟩ : ∃ j, k = j + 1 := ⟨k - 1, by omega⟩
    exact .tup (.cons (.str (by decide +kernel)) (pl_pgs l j h.2 (by omega)))
  | .tms n p, k, h, hk => by
    rw [pgD]
    rw [pgK] at hk
    obtain ⟨j, rfl⟩ : ∃ j, k = j + 1 := ⟨k - 1, by omega⟩
    exact .tup (.cons (.str (by decide +kernel)) (.cons (.int _) (.cons (pl_pg p j h.2 (by omega)) .nil)))
  | .use x, k, h, hk => by
    rw [pgD]
    exact .tup (.cons (.str (by decide +kernel)) (.cons (.str (strOk_of fun c hc => by have := h.2.2.2.2 c hc; omega)) .nil))
theorem pl_pgs : ∀ (l : List Pg) (k : Nat), PgOks l → pgKs l ≤ k → PlL (k + 1) (pgDs l)
  | [], _, _, _ => by rw [pgDs]; exact .nil
  | p :: l, k, h, hk => by
    rw [pgDs]
    rw [pgKs] at hk
    exact .cons (pl_pg p k h.1 (by omega)) (pl_pgs l k h.2 (by omega))
end
theorem PgOk.s {p : Pg} (h : PgOk p) : PgS p := by
  cases p with
  | thn l => have := h.1.2; show l.length + 1 ≤ 16384; omega
  | _ => trivial
theorem pop_at {M : Sto} {p : Addr} {l : List D} {d : D} {φ : PD} (e : M p = some (.lst l)) (h : l[l.length - 1]? = some d) (q : φ d (updM M p (.lst l.dropLast))) : popD M (.ref p) [] φ := lstAt_of (φ := fun p l => ∃ d, l[l.length - 1]? = some d ∧ φ d (updM M p (.lst l.dropLast))) e ⟨d, h, q⟩
theorem extend_at {M : Sto} {p : Addr} {l l2 : List D} {d : D} {φ : PD} (e : M p = some (.lst l)) (h : lstOf M d = some l2) (hl : l.length + l2.length ≤ sizeLine) (q : φ .non (updM M p (.lst (l ++ l2)))) : extendD M (.ref p) [d] φ :=
  lstAt_of (φ := fun p l => ∃ l2, lstOf M d = some l2 ∧ l.length + l2.length ≤ sizeLine ∧ φ .non (updM M p (.lst (l ++ l2)))) e ⟨l2, h, hl, q⟩
theorem rs_two {M : Sto} {p q : Addr} {c d : Cell} (h : M p = none) (h' : M q = none) : rs M (updM (updM M p c) q d) = M := by
  funext a
  unfold rs
  cases e : M a with
  | none => rfl
  | some x =>
    have n1 : a ≠ p := fun z => by rw [z, h] at e; cases e
    have n2 : a ≠ q := fun z => by rw [z, h'] at e; cases e
    simp only [updM_ne n2, updM_ne n1, e]
theorem leaf_k {p : Pg} (h : pgIn p = []) (ho : PgOk p) : pgK p = 1 ∧ pgN p = 1 := by
  cases p with
  | thn l =>
    have : l = [] := h
    subst this
    exact absurd ho.1.1 (by simp)
  | tms n p => simp [pgIn] at h
  | _ => simp [pgK, pgN]
theorem pgDs_of {P : Pg → Prop} : ∀ {acc : List D}, (∀ y ∈ acc, ∃ p, y = pgD p ∧ P p) → ∃ l : List Pg, acc = pgDs l ∧ l.length = acc.length ∧ ∀ p ∈ l, P p
  | [], _ => ⟨[], by rw [pgDs], rfl, by simp⟩
  | y :: acc, h => by
    obtain ⟨p, rfl, hp⟩ := h y List.mem_cons_self
    obtain ⟨l, rfl, hl, ho⟩ := pgDs_of (P := P) (acc := acc) fun z hz => h z (List.mem_cons_of_mem _ hz)
    exact ⟨p :: l, by rw [pgDs], by simp [hl], fun q hq => by
      rcases List.mem_cons.mp hq with rfl | hq
      · exact hp
      · exact ho q hq⟩
theorem pgNs_le {l : List Pg} {k : Nat} (h : ∀ p ∈ l, pgN p ≤ k) : pgNs l ≤ l.length * k := by
  induction l with
  | nil => simp [pgNs]
  | cons p l ih =>
    have h1 := h p List.mem_cons_self
    have h2 := ih fun q hq => h q (List.mem_cons_of_mem _ hq)
    rw [pgNs, List.length_cons, Nat.succ_mul]
    omega
theorem pgUs_sub {l : List Pg} {ks : List Str} (h : ∀ p ∈ l, ∀ x ∈ pgU p, x ∈ ks) : ∀ x ∈ pgUs l, x ∈ ks := by
  induction l with
  | nil => simp [pgUs]
  | cons p l ih =>
    intro x hx
    rw [pgUs] at hx
    rcases List.mem_append.mp hx with hx | hx
    · exact h p List.mem_cons_self x hx
    · exact ih (fun q hq => h q (List.mem_cons_of_mem _ hq)) x hx
def shB : Nat → Nat
  | 0 => 1
  | n + 1 => 6 * shB n + 1
theorem shB_pos : ∀ n, 1 ≤ shB n
  | 0 => Nat.le_refl 1
  | n + 1 => by rw [shB]; omega
mutual
theorem sb_pg (g : Addr → D) : ∀ p : Pg, sb g (pgD p) = pgD p
  | .tab t => by rw [pgD]; rfl
  | .trn t => by rw [pgD]; rfl
  | .swp => by rw [pgD]; rfl
  | .use x => by rw [pgD]; rfl
  | .thn l => by
    rw [pgD]
    have := sb_pgs g l
    simp only [sb, sbL, this]
  | .tms n p => by
    rw [pgD]
    have := sb_pg g p
    simp only [sb, sbL, this]
theorem sb_pgs (g : Addr → D) : ∀ l : List Pg, sbL g (pgDs l) = pgDs l
  | [] => by rw [pgDs]; rfl
  | p :: l => by
    rw [pgDs]
    simp only [sbL, sb_pg g p, sb_pgs g l]
end
theorem rs_same {M0 M : Sto} (h : ∀ a, M0 a ≠ none → M a = M0 a) : rs M0 M = M0 := by
  funext a
  unfold rs
  cases e : M0 a with
  | none => rfl
  | some c =>
    show M a = some c
    rw [h a (by rw [e]; simp), e]
theorem least {p : Nat → Prop} (h : ∃ n, p n) : ∃ n, p n ∧ ∀ m, p m → n ≤ m := by
  obtain ⟨n, hn⟩ := h
  induction n using Nat.strongRecOn with
  | ind n ih =>
    by_cases e : ∃ m, m < n ∧ p m
    · obtain ⟨m, hm, pm⟩ := e
      exact ih m hm pm
    · exact ⟨n, hn, fun m pm => Nat.le_of_not_lt fun hm => e ⟨m, hm, pm⟩⟩
open Classical in
noncomputable def muJ (J : Nat → En → Sto → Prop) (r : En) (M : Sto) : Nat := if h : ∃ n, J n r M then Classical.choose (least h) else 0
theorem muJ_at {J : Nat → En → Sto → Prop} {r : En} {M : Sto} (h : ∃ n, J n r M) : ∃ n, J n r M ∧ muJ J r M = n := by
  refine ⟨_, (Classical.choose_spec (least h)).1, ?_⟩
  unfold muJ
  rw [dif_pos h]
theorem muJ_le {J : Nat → En → Sto → Prop} {r : En} {M : Sto} {n : Nat} (h : J n r M) : muJ J r M ≤ n := by
  unfold muJ
  rw [dif_pos ⟨n, h⟩]
  exact (Classical.choose_spec (least ⟨n, h⟩)).2 n h
theorem trnL_ok : PgOk (.trn "L") := ⟨fun c hc => .inl (by
  have e : ("L" : Str).cps.toList = [76] := by decide +kernel
  rw [e] at hc
  simpa using hc), by decide +kernel, by decide +kernel⟩
theorem trnR_ok : PgOk (.trn "R") := ⟨fun c hc => .inr (by
  have e : ("R" : Str).cps.toList = [82] := by decide +kernel
  rw [e] at hc
  simpa using hc), by decide +kernel, by decide +kernel⟩
def capT (t : T4) : Option T4 := if (pr4 t).1 ≤ 1000000 ∧ (pr4 t).2.1 ≤ 1000000 ∧ (pr4 t).2.2.1 ≤ 1000000 ∧ (pr4 t).2.2.2 ≤ 1000000 then some (pr4 t) else none
def stepT (f : Option T4) (d : Option T4) : Option T4 := match d, f with
  | some d, some f => capT (mul4 d f)
  | _, _ => none
def powT (d : Option T4) (n : Nat) : Option T4 := (List.range n).foldl (fun f _ => stepT f d) (some O4)
mutual
def tbl (g : Str → Option T4) : Pg → Option T4
  | .tab t => capT t
  | .trn w => capT (wL w.cps.toList)
  | .swp => some (0, 1, 1, 0)
  | .thn l => match tbls g l with
    | [] => none
    | d :: r => r.foldl stepT d
  | .tms n p => match tbl g p with
    | none => none
    | some t => powT (some t) n.toNat
  | .use x => g x
def tbls (g : Str → Option T4) : List Pg → List (Option T4)
  | [] => []
  | p :: l => tbl g p :: tbls g l
end
theorem tbls_map (g : Str → Option T4) : ∀ l : List Pg, tbls g l = l.map (tbl g)
  | [] => by simp [tbls]
  | p :: l => by simp [tbls, tbls_map g l]
structure GdT (t : T4) : Prop where
  nn : Nn t
  le : t.1 ≤ 1000000 ∧ t.2.1 ≤ 1000000 ∧ t.2.2.1 ≤ 1000000 ∧ t.2.2.2 ≤ 1000000
  det : det4 t ≠ 0
theorem GdT.sm {t : T4} (h : GdT t) : Sm 20 t := by
  obtain ⟨⟨a, b, c, d⟩, ⟨e, f, g, i⟩, _⟩ := h
  have : (2 : Nat) ^ 20 = 1048576 := by decide
  refine ⟨?_, ?_, ?_, ?_⟩ <;> omega
theorem capT_gd {t u : T4} (hn : Nn t) (hd : det4 t ≠ 0) (h : capT t = some u) : GdT u := by
  unfold capT at h
  split at h
  · rename_i hh
    cases h
    exact ⟨pr4_nn hn, hh, (pr4_det hd).1⟩
  · cases h
theorem gd_O : GdT O4 := ⟨⟨by decide, by decide, by decide, by decide⟩, by decide, by decide⟩
theorem gd_S : GdT (0, 1, 1, 0) := ⟨⟨by decide, by decide, by decide, by decide⟩, by decide, by decide⟩
theorem stepT_gd {f d : Option T4} (hf : ∀ u, f = some u → GdT u) (hd : ∀ u, d = some u → GdT u) {u : T4} (h : stepT f d = some u) : GdT u := by
  unfold stepT at h
  split at h
  · rename_i d' f'
    have a := hf _ rfl
    have b := hd _ rfl
    exact capT_gd (b.nn.mul a.nn) (by rw [det_mul]; exact Int.mul_ne_zero b.det a.det) h
  · cases h
theorem foldT_gd : ∀ {r : List (Option T4)} {f : Option T4}, (∀ u, f = some u → GdT u) → (∀ d ∈ r, ∀ u, d = some u → GdT u) → ∀ u, r.foldl stepT f = some u → GdT u
  | [], f, hf, _, u, h => hf u h
  | d :: r, f, hf, hr, u, h => foldT_gd (fun v hv => stepT_gd hf (hr d List.mem_cons_self) hv) (fun e he => hr e (List.mem_cons_of_mem _ he)) u h
theorem powT_succ (d : Option T4) (n : Nat) : powT d (n + 1) = stepT (powT d n) d := by unfold powT; rw [List.range_succ, List.foldl_append]; rfl
theorem foldT_none : ∀ r : List (Option T4), r.foldl stepT none = none
  | [] => rfl
  | d :: r => by
    rw [List.foldl_cons, show stepT none d = none from by unfold stepT; split <;> simp_all]
    exact foldT_none r
theorem powT_none {d : Option T4} {i : Nat} (h : powT d i = none) : ∀ k, powT d (i + k) = none
  | 0 => h
  | k + 1 => by
    rw [← Nat.add_assoc, powT_succ, powT_none h k]
    unfold stepT
    split <;> simp_all
theorem takeT {r : List (Option T4)} {f : Option T4} {i : Nat} {d : Option T4} (h : r[i]? = some d) : (r.take (i + 1)).foldl stepT f = stepT ((r.take i).foldl stepT f) d := by
  rw [List.take_add_one, h, List.foldl_append]
  rfl
theorem takeT_none {r : List (Option T4)} {f : Option T4} {i : Nat} (h : (r.take i).foldl stepT f = none) : r.foldl stepT f = none := by
  rw [← List.take_append_drop i r, List.foldl_append, h]
  exact foldT_none _
theorem powT_gd {d : Option T4} (hd : ∀ u, d = some u → GdT u) : ∀ (n : Nat) (u : T4), powT d n = some u → GdT u
  | 0, u, h => by cases h; exact gd_O
  | n + 1, u, h => stepT_gd (powT_gd hd n) hd (by rw [← powT_succ]; exact h)
mutual
theorem tbl_gd {g : Str → Option T4} : ∀ (p : Pg), PgOk p → (∀ x ∈ pgU p, ∀ u, g x = some u → GdT u) → ∀ u, tbl g p = some u → GdT u
  | .tab t, h, hg, u, e => by
    rw [tbl] at e
    obtain ⟨hn, _, _, _, _, hd⟩ := h
    exact capT_gd hn hd e
  | .trn w, h, hg, u, e => by
    rw [tbl] at e
    exact capT_gd (nn_wL _) (by rw [det_wL]; decide) e
  | .swp, h, hg, u, e => by
    rw [tbl] at e
    cases e
    exact gd_S
  | .thn l, h, hg, u, e => by
    rw [tbl] at e
    have hs := tbls_gd l h.2 (fun x hx => hg x (by rw [pgU]; exact hx))
    cases el : tbls g l with
    | nil => rw [el] at e; cases e
    | cons d r =>
      rw [el] at e hs
      exact foldT_gd (hs d List.mem_cons_self) (fun d' hd' => hs d' (List.mem_cons_of_mem _ hd')) u e
  | .tms n p, h, hg, u, e => by
    rw [tbl] at e
    have hp := tbl_gd p h.2 (fun x hx => hg x (by rw [pgU]; exact hx))
    cases ep : tbl g p with
    | none => rw [ep] at e; cases e
    | some t =>
      rw [ep] at e
      exact powT_gd (fun v hv => by cases hv; exact hp t ep) _ u e
  | .use x, h, hg, u, e => by
    rw [tbl] at e
    exact hg x (by simp [pgU]) u e
theorem tbls_gd {g : Str → Option T4} : ∀ (l : List Pg), PgOks l → (∀ x ∈ pgUs l, ∀ u, g x = some u → GdT u) → ∀ d ∈ tbls g l, ∀ u, d = some u → GdT u
  | [], _, _, d, hd, _, _ => by simp [tbls] at hd
  | p :: l, h, hg, d, hd, u, e => by
    rw [tbls] at hd
    rcases List.mem_cons.mp hd with rfl | hd
    · exact tbl_gd p h.1 (fun x hx => hg x (by rw [pgUs]; exact List.mem_append_left _ hx)) u e
    · exact tbls_gd l h.2 (fun x hx => hg x (by rw [pgUs]; exact List.mem_append_right _ hx)) d hd u e
end
def wyT : Option T4 → D
  | some t => .tup [.str "", tD t]
  | none => .tup [.str "TooGreat", .int 1000000]
theorem same_wyT {M : Sto} {n : Nat} : ∀ o : Option T4, Same M (n + 3) (wyT o) (wyT o)
  | some t => Same.t (.cons (Same.s _) (.cons (Same.T t) .nil)) (by decide : 2 ≤ 1000000)
  | none => Same.t (.cons (Same.s _) (.cons (Same.i _) .nil)) (by decide : 2 ≤ 1000000)
def wd1 : Pg := .tms 2 (.thn [.tab (50, 0, 0, 1), .tab (20, 0, 0, 1)])
def wd2 : Pg := .thn [.trn "R", wd1]
def wd3 : Pg := .thn [.trn "R", wd1, .trn "R"]
theorem tab_ok {a : Int} (h0 : 0 < a) (h1 : a ≤ 60) : PgOk (.tab (a, 0, 0, 1)) := ⟨⟨Int.le_of_lt h0, show (0 : Int) ≤ 0 by decide, show (0 : Int) ≤ 0 by decide, show (0 : Int) ≤ 1 by decide⟩, h1, show (0 : Int) ≤ 60 by decide, show (0 : Int) ≤ 60 by decide, show (1 : Int) ≤ 60 by decide, by show a * 1 - 0 * 0 ≠ 0; omega⟩
theorem wd1_ok : PgOk wd1 := ⟨⟨by decide, by decide⟩, ⟨by decide, by decide⟩, tab_ok (by decide) (by decide), tab_ok (by decide) (by decide), trivial⟩
theorem wd2_ok : PgOk wd2 := ⟨⟨by decide, by decide⟩, trnR_ok, wd1_ok, trivial⟩
theorem wd3_ok : PgOk wd3 := ⟨⟨by decide, by decide⟩, trnR_ok, wd1_ok, trnR_ok, trivial⟩
theorem wd1_t : tbl (fun _ => none) wd1 = some (1000000, 0, 0, 1) := by decide +kernel
theorem wd2_t : tbl (fun _ => none) wd2 = some (1000000, 1000000, 0, 1) := by decide +kernel
theorem wd3_t : tbl (fun _ => none) wd3 = none := by decide +kernel
theorem Dr.rs {p : Addr} {M M' M8 : Sto} (d : Dr p M M') (h0 : HandAt M p) (h : ∀ a, M' a ≠ none → M8 a = M' a) : Dr p M (rs M M8) := by
  obtain ⟨hh, e0, _⟩ := h0
  obtain ⟨h1, e1, h2⟩ := d.1
  have e8 : Z.rs M M8 p = some (hd h1) := by
    unfold Z.rs
    rw [e0]
    show M8 p = _
    rw [h p (by rw [e1]; simp), e1]
  refine ⟨⟨h1, e8, h2⟩, fun q hq => ?_⟩
  unfold Z.rs
  cases e : M q with
  | none => rfl
  | some c =>
    show M8 q = some c
    have := d.2 q hq
    rw [h q (by rw [this, e]; simp), this, e]
mutual
theorem tbl_congr {g h : Str → Option T4} : ∀ p : Pg, (∀ x ∈ pgU p, g x = h x) → tbl g p = tbl h p
  | .tab t, _ => by rw [tbl, tbl]
  | .trn w, _ => by rw [tbl, tbl]
  | .swp, _ => by rw [tbl, tbl]
  | .use x, e => by rw [tbl, tbl]; exact e x (by simp [pgU])
  | .thn l, e => by
    have := tbls_congr l fun x hx => e x (by rw [pgU]; exact hx)
    simp only [tbl, this]
  | .tms n p, e => by
    have := tbl_congr p fun x hx => e x (by rw [pgU]; exact hx)
    simp only [tbl, this]
theorem tbls_congr {g h : Str → Option T4} : ∀ l : List Pg, (∀ x ∈ pgUs l, g x = h x) → tbls g l = tbls h l
  | [], _ => by rw [tbls, tbls]
  | p :: l, e => by
    rw [tbls, tbls, tbl_congr p fun x hx => e x (by rw [pgUs]; exact List.mem_append_left _ hx), tbls_congr l fun x hx => e x (by rw [pgUs]; exact List.mem_append_right _ hx)]
end
theorem find_none_all {l : List Str} {g : Str → Option T4} (h : ∀ x ∈ l, ∃ t, g x = some t) : l.find? (fun x => (g x).isNone) = none := by
  rw [List.find?_eq_none]
  intro x hx
  obtain ⟨t, e⟩ := h x hx
  rw [e]
  simp
def isUse : D → Bool
  | .tup (.str x :: _) => decide (x = "use")
  | _ => false
def snd' : D → D
  | .tup [_, y] => y
  | d => d
theorem isUse_tag (p : Pg) : isUse (pgD p) = decide (pgTag p = "use") := by rw [pgD_tag]; rfl
theorem uses_of : ∀ l : List Pg, ((pgDs l).filter isUse).map snd' = (l.flatMap pgOwn).map .str
  | [] => by rw [pgDs]; rfl
  | p :: l => by
    rw [pgDs, List.flatMap_cons, List.map_append, ← uses_of l]
    by_cases e : pgTag p = "use"
    · obtain ⟨x, rfl⟩ := tag_use e
      have hp : isUse (pgD (.use x)) = true := by rw [isUse_tag]; exact decide_eq_true rfl
      rw [List.filter_cons_of_pos hp, List.map_cons, pgD]
      rfl
    · have hn : ¬ isUse (pgD p) = true := by
        rw [isUse_tag]
        simpa using e
      rw [List.filter_cons_of_neg hn, pgOwn_nil e]
      rfl
theorem dmerge_two {a b x y : D} (h : a ≠ b) : dmerge [] [(a, x), (b, y)] = [(a, x), (b, y)] := by
  unfold dmerge
  simp only [List.foldl_cons, List.foldl_nil]
  rw [show dput [] a x = [(a, x)] from by simp [dput, dlook]]
  unfold dput
  rw [show dlook [(a, x)] b = none from by rw [dlook_neg (show ¬ (a, x).1 = b from h)]; rfl]
  simp
theorem dmerge_one {a x : D} : dmerge [] [(a, x)] = [(a, x)] := by
  unfold dmerge
  simp [dput, dlook]
theorem sort_cf {ys : List Str} (hp : ys.Perm [("coin" : Str), ("far" : Str)]) (hs : sortedS ys = true) : ys = [("coin" : Str), ("far" : Str)] := by
  have hl := hp.length_eq
  match ys, hl with
  | [a, b], _ =>
    have ha : a ∈ ([("coin" : Str), ("far" : Str)] : List Str) := hp.mem_iff.mp (by simp)
    have hb : b ∈ ([("coin" : Str), ("far" : Str)] : List Str) := hp.mem_iff.mp (by simp)
    have nd : [a, b].Nodup := hp.nodup_iff.mpr (by decide)
    simp only [List.mem_cons, List.not_mem_nil, or_false] at ha hb
    rcases ha with rfl | rfl <;> rcases hb with rfl | rfl
    · exact absurd nd (by decide)
    · rfl
    · exact absurd hs (by decide +kernel)
    · exact absurd nd (by decide)
mutual
theorem pgA_len : ∀ p : Pg, (pgA p).length = pgN p
  | .tab t => by simp [pgA, pgN]
  | .trn t => by simp [pgA, pgN]
  | .swp => by simp [pgA, pgN]
  | .use t => by simp [pgA, pgN]
  | .thn l => by rw [pgA, pgN, List.length_cons, pgAs_len l]
  | .tms n p => by rw [pgA, pgN, List.length_cons, pgA_len p]
theorem pgAs_len : ∀ l : List Pg, (pgAs l).length = pgNs l
  | [] => by simp [pgAs, pgNs]
  | p :: l => by rw [pgAs, pgNs, List.length_append, pgA_len p, pgAs_len l]
end
def ltP : Pg := .thn [.use "b", .use "a"]
theorem nm_b : NameOk "b" := ⟨by decide +kernel, by decide +kernel, by decide, by decide, fun c hc => by
  have e : ("b" : Str).cps.toList = [98] := by decide +kernel
  rw [e] at hc
  simp only [List.mem_cons, List.not_mem_nil, or_false] at hc
  omega⟩
theorem nm_a : NameOk "a" := ⟨by decide +kernel, by decide +kernel, by decide, by decide, fun c hc => by
  have e : ("a" : Str).cps.toList = [97] := by decide +kernel
  rw [e] at hc
  simp only [List.mem_cons, List.not_mem_nil, or_false] at hc
  omega⟩
theorem ltP_ok : PgOk ltP := ⟨⟨by decide, by decide⟩, nm_b, nm_a, trivial⟩
theorem ltP_u : pgU ltP = [("b" : Str), ("a" : Str)] := by simp [ltP, pgU, pgUs]
def r60 : Str := Txt.mul "R" 60
def bgP : Pg := .tms 12 (.tms 12 (.trn r60))
theorem bgP_ok : PgOk bgP := ⟨⟨by decide, by decide⟩, ⟨by decide, by decide⟩, fun c hc => .inr (by
  have e : r60.cps.toList = List.replicate 60 82 := by decide +kernel
  rw [e] at hc
  exact (List.mem_replicate.mp hc).2), by decide +kernel, by decide +kernel⟩
theorem bgP_t : tbl (fun _ => none) bgP = some (1, 8640, 0, 1) := by decide +kernel
def z0P : Pg := .tms 0 (.trn "LR")
theorem z0P_ok : PgOk z0P := ⟨⟨by decide, by decide⟩, fun c hc => by
  have e : ("LR" : Str).cps.toList = [76, 82] := by decide +kernel
  rw [e] at hc
  simpa using hc, by decide +kernel, by decide +kernel⟩
theorem z0P_t : tbl (fun _ => none) z0P = some (1, 0, 0, 1) := by decide +kernel
def rl5 : Str := Txt.mul "RL" 5
def toP : Pg := .tms 12 (.trn rl5)
theorem toP_ok : PgOk toP := ⟨⟨by decide, by decide⟩, fun c hc => by
  have e : rl5.cps.toList = [82, 76, 82, 76, 82, 76, 82, 76, 82, 76] := by decide +kernel
  rw [e] at hc
  simp only [List.mem_cons, List.not_mem_nil, or_false] at hc
  omega, by decide +kernel, by decide +kernel⟩
theorem toP_t : tbl (fun _ => none) toP = none := by decide +kernel
def addS (acc : List Str) (x : Str) : List Str := if x ∈ acc then acc else acc ++ [x]
def dd (xs : List Str) : List Str := xs.foldl addS []
theorem dd_snoc (xs : List Str) (x : Str) : dd (xs ++ [x]) = addS (dd xs) x := by unfold dd; rw [List.foldl_append]; rfl
theorem mem_addS {acc : List Str} {x y : Str} : y ∈ addS acc x ↔ y ∈ acc ∨ y = x := by
  unfold addS
  split
  · rename_i h
    exact ⟨.inl, fun z => z.elim id fun e => e ▸ h⟩
  · simp
theorem mem_foldS : ∀ {xs acc : List Str} {y : Str}, y ∈ xs.foldl addS acc ↔ y ∈ acc ∨ y ∈ xs
  | [], acc, y => by simp
  | x :: xs, acc, y => by rw [List.foldl_cons, mem_foldS (xs := xs), mem_addS, List.mem_cons, or_assoc]
theorem mem_dd {xs : List Str} {y : Str} : y ∈ dd xs ↔ y ∈ xs := by unfold dd; rw [mem_foldS]; simp
theorem len_addS (acc : List Str) (x : Str) : (addS acc x).length ≤ acc.length + 1 := by
  unfold addS
  split
  · omega
  · simp
theorem len_dd : ∀ xs : List Str, (dd xs).length ≤ xs.length := fun xs => by
  have : ∀ (xs acc : List Str), (xs.foldl addS acc).length ≤ acc.length + xs.length := by
    intro xs
    induction xs with
    | nil => intro acc; simp
    | cons x xs ih =>
      intro acc
      have h1 := ih (addS acc x)
      have h2 := len_addS acc x
      rw [List.foldl_cons, List.length_cons]
      omega
  simpa [dd] using this xs []
def kvS (acc : List Str) : List (D × D) := acc.map fun x => (D.str x, D.bl true)
theorem kvS_look (acc : List Str) (x : Str) : dlook (kvS acc) (.str x) = if x ∈ acc then some (.bl true) else none := by
  induction acc with
  | nil => simp [kvS, dlook]
  | cons y acc ih =>
    by_cases e : y = x
    · subst e
      rw [if_pos List.mem_cons_self]
      exact dlook_pos rfl
    · have e' : ¬ (D.str y, D.bl true).1 = D.str x := fun z => e (by injection z)
      rw [show kvS (y :: acc) = (D.str y, D.bl true) :: kvS acc from rfl, dlook_neg e', ih]
      simp only [List.mem_cons, show (x = y) = False from eq_false fun z => e z.symm, false_or]
theorem kvS_put (acc : List Str) (x : Str) : dput (kvS acc) (.str x) (.bl true) = kvS (addS acc x) := by
  unfold dput addS
  rw [kvS_look]
  by_cases h : x ∈ acc
  · rw [if_pos h, if_pos h, if_pos (show (some (D.bl true)).isSome = true from rfl)]
    unfold kvS
    rw [List.map_map]
    refine List.map_congr_left fun y hy => ?_
    simp only [Function.comp]
    split
    · rfl
    · rfl
  · rw [if_neg h, if_neg h, if_neg (by simp)]
    unfold kvS
    simp
theorem kvS_keys (acc : List Str) : (kvS acc).map (·.1) = acc.map D.str := by unfold kvS; rw [List.map_map]; rfl
theorem find_fold {P : Str → Bool} : ∀ (xs acc : List Str), (xs.foldl addS acc).find? P = (acc ++ xs).find? P
  | [], acc => by simp
  | x :: xs, acc => by
    rw [List.foldl_cons, find_fold xs]
    unfold addS
    split
    · rename_i hx
      rw [List.find?_append, List.find?_append, List.find?_cons]
      cases e : acc.find? P with
      | some y => rfl
      | none =>
        have : P x = false := by
          have := List.find?_eq_none.mp e x hx
          simpa using this
        rw [this]
    · simp
theorem find_dd {P : Str → Bool} (xs : List Str) : (dd xs).find? P = xs.find? P := by unfold dd; rw [find_fold]; rfl
theorem find_at {P : Str → Bool} : ∀ {l : List Str} {i : Nat} {y : Str}, l[i]? = some y → P y = true → (∀ j < i, ∀ z, l[j]? = some z → P z = false) → l.find? P = some y
  | [], i, y, h, _, _ => by simp at h
  | x :: l, 0, y, h, hy, _ => by
    obtain rfl : x = y := by simpa using h
    rw [List.find?_cons, hy]
  | x :: l, i + 1, y, h, hy, hb => by
    rw [List.find?_cons, hb 0 (Nat.succ_pos _) x rfl]
    exact find_at (l := l) (i := i) (by simpa using h) hy fun j hj z hz => hb (j + 1) (Nat.succ_lt_succ hj) z (by simpa using hz)
theorem find_not {P : Str → Bool} {l : List Str} (h : ∀ j < l.length, ∀ z, l[j]? = some z → P z = false) : l.find? P = none := by
  rw [List.find?_eq_none]
  intro x hx
  obtain ⟨j, hj, rfl⟩ := List.getElem_of_mem hx
  rw [h j hj _ (List.getElem?_eq_getElem hj)]
  simp
end Z
namespace Z
open PySem PySem.Spec PyProof.Rows L2 PySem.NumText

end Z
namespace Z
open PySem PySem.Spec PyProof.Rows L2

section
variable {P : Program} {w : World} {K : PySem.W.Frag} {mg : Str → Option Value} {base : Heap}
end
section
variable {X : Cx} {B : Bs} {Ξ : XD → En → Sto → Prop} {pos p : Pos} {e : Expr} {es : List Expr} {ga : DTA} {k n : Nat} {x : Str} {C : Addr} {g : List V → List (Str × V)}
end
section
variable {X : Cx} {B : Bs} {Ξ : XD → En → Sto → Prop} {pos p cpos : Pos} {e : Expr} {es : List Expr} {ga : DTA} {k : Nat} {x : Str} {C : Addr}
end
section
variable {P : Program} {w : World} {K : PySem.W.Frag} {mg : Str → Option Value} {base : Heap} {x qual : Str} {st : Stmt} {f : Addr} {fd : FuncData} {N ps : List Str} {k : Nat} {dvs : List V} {kws : List (Str × V)}
end
section
variable {X : Cx} {B : Bs} {Ξ : XD → En → Sto → Prop} {pos p np pos' : Pos} {e : Expr} {es : List Expr} {ga : DTA} {j k n : Nat} {x : Str} {c : Ct} {bs : List (Nat × List Str × (List D → List D → List D))} {g : List D → List D → List D}
end
end Z
namespace K57
open PySem PySem.Spec PyProof.Rows L2 Z

def top (i : Nat) : Stmt := PySem.Challenge.pw_turnmill_k57_whole_tables_of_programs.main.body.getD i (.Pass ⟨0, 0, 0, 0⟩)
abbrev s__law_hand : Stmt := top 28
abbrev s__law_common : Stmt := top 38
abbrev s__law_lowest : Stmt := top 39
abbrev s__law_prod : Stmt := top 36
abbrev s__law_grid : Stmt := top 37
abbrev s__law_pick : Stmt := top 29
abbrev s__law_of : Stmt := top 30
abbrev s__law_word : Stmt := top 34
abbrev s__law_core : Stmt := top 40
abbrev s__law_mill : Stmt := top 41
abbrev s__law_some : Stmt := top 35
abbrev s__law_leaf : Stmt := top 44
abbrev s__law_shape : Stmt := top 45
abbrev s_is_integer : Stmt := top 12
abbrev s_Tabled_initd : Stmt := inClass (top 17) 0
abbrev s__law_made : Stmt := top 42
abbrev s__law_within : Stmt := top 47
abbrev s__law_table_due : Stmt := top 48
abbrev s__law_same : Stmt := top 31
abbrev s__law_inner : Stmt := top 43
abbrev s__law_pieces : Stmt := top 46
abbrev s_Table_entries : Stmt := inClass (top 17) 6
abbrev s_inner_parts : Stmt := top 22
abbrev s_names_in : Stmt := top 23
abbrev s_table_with : Stmt := top 18
abbrev s_divisor_of : Stmt := top 13
abbrev s_divided : Stmt := top 16
abbrev s_made : Stmt := top 24
abbrev s_product : Stmt := top 14
abbrev s_word_table : Stmt := top 15
abbrev s_entries_of : Stmt := top 25
abbrev s_table_of : Stmt := top 26
abbrev s__law_field : Stmt := top 32
abbrev s__law_why : Stmt := top 33
abbrev s__law_deep_so : Stmt := top 49
abbrev s_law : Stmt := top 50
abbrev s_InvalidTable : Stmt := inClass (top 4) 0
abbrev s_TooGreat : Stmt := inClass (top 5) 0
abbrev s_UnknownName : Stmt := inClass (top 6) 0
theorem sc__law_hand : FnScope ["_law_script", "_law_cells", "_law_mark", "_law_cell"] ["_law_script"] (defScope s__law_hand) := ⟨rfl, rfl, rfl, by decide +kernel, rfl, by decide +kernel, by decide +kernel⟩
theorem sc__law_common : FnScope ["_law_entries", "_law_found", "_law_entry", "_law_left"] ["_law_entries"] (defScope s__law_common) := ⟨rfl, rfl, rfl, by decide +kernel, rfl, by decide +kernel, by decide +kernel⟩
theorem sc__law_lowest : FnScope ["_law_entries", "_law_common_here", "_law_entry"] ["_law_entries"] (defScope s__law_lowest) := ⟨rfl, rfl, rfl, by decide +kernel, rfl, by decide +kernel, by decide +kernel⟩
theorem sc__law_prod : FnScope ["_law_one", "_law_rival"] ["_law_one", "_law_rival"] (defScope s__law_prod) := ⟨rfl, rfl, rfl, by decide +kernel, rfl, by decide +kernel, by decide +kernel⟩
theorem sc__law_grid : FnScope ["_law_token", "_law_found", "_law_side"] ["_law_token"] (defScope s__law_grid) := ⟨rfl, rfl, rfl, by decide +kernel, rfl, by decide +kernel, by decide +kernel⟩
theorem sc__law_pick : FnScope ["_law_hand_here", "_law_many", "_law_cell", "_law_one", "_law_two", "_law_drawn"] ["_law_hand_here", "_law_many"] (defScope s__law_pick) := ⟨rfl, rfl, rfl, by decide +kernel, rfl, by decide +kernel, by decide +kernel⟩
theorem sc__law_of : FnScope ["_law_hand_here", "_law_items"] ["_law_hand_here", "_law_items"] (defScope s__law_of) := ⟨rfl, rfl, rfl, by decide +kernel, rfl, by decide +kernel, by decide +kernel⟩
theorem sc__law_word : FnScope ["_law_hand_here", "_law_peak", "_law_k"] ["_law_hand_here", "_law_peak"] (defScope s__law_word) := ⟨rfl, rfl, rfl, by decide +kernel, rfl, by decide +kernel, by decide +kernel⟩
theorem sc__law_core : FnScope ["_law_hand_here", "_law_cap", "_law_size", "_law_share", "_law_part"] ["_law_hand_here", "_law_cap"] (defScope s__law_core) := ⟨rfl, rfl, rfl, by decide +kernel, rfl, by decide +kernel, by decide +kernel⟩
theorem sc__law_mill : FnScope ["_law_hand_here", "_law_cap", "_law_entries", "_law_many", "_law_entry"] ["_law_hand_here", "_law_cap"] (defScope s__law_mill) := ⟨rfl, rfl, rfl, by decide +kernel, rfl, by decide +kernel, by decide +kernel⟩
theorem sc__law_some : FnScope ["_law_hand_here", "_law_peak"] ["_law_hand_here", "_law_peak"] (defScope s__law_some) := ⟨rfl, rfl, rfl, by decide +kernel, rfl, by decide +kernel, by decide +kernel⟩
theorem sc__law_leaf : FnScope ["_law_hand_here", "_law_known", "_law_entries"] ["_law_hand_here", "_law_known"] (defScope s__law_leaf) := ⟨rfl, rfl, rfl, by decide +kernel, rfl, by decide +kernel, by decide +kernel⟩
theorem sc__law_shape : FnScope ["_law_hand_here", "_law_deep", "_law_known", "_law_way", "_law_k"] ["_law_hand_here", "_law_deep", "_law_known"] (defScope s__law_shape) := ⟨rfl, rfl, rfl, by decide +kernel, rfl, by decide +kernel, by decide +kernel⟩
theorem sc_is_integer : FnScope ["value"] ["value"] (defScope s_is_integer) := ⟨rfl, rfl, rfl, by decide +kernel, rfl, by decide +kernel, by decide +kernel⟩
theorem sc_Tabled_initd : FnScope ["self", "a", "b", "c", "d", "entry"] ["self", "a", "b", "c", "d"] (defScope s_Tabled_initd) := ⟨rfl, rfl, rfl, by decide +kernel, rfl, by decide +kernel, by decide +kernel⟩
theorem sc__law_made : FnScope ["_law_entries"] ["_law_entries"] (defScope s__law_made) := ⟨rfl, rfl, rfl, by decide +kernel, rfl, by decide +kernel, by decide +kernel⟩
theorem sc__law_within : FnScope ["_law_entries", "_law_found"] ["_law_entries"] (defScope s__law_within) := ⟨rfl, rfl, rfl, by decide +kernel, rfl, by decide +kernel, by decide +kernel⟩
theorem sc__law_table_due : FnScope ["_law_plan", "_law_grids", "_law_inner_here", "_law_found", "_law_k", "_law_dues", "_law_due", "_law_part"] ["_law_plan", "_law_grids"] (defScope s__law_table_due) := ⟨rfl, rfl, rfl, by decide +kernel, rfl, by decide +kernel, by decide +kernel⟩
theorem sc__law_same : FnScope ["_law_found", "_law_due", "_law_one", "_law_two"] ["_law_found", "_law_due"] (defScope s__law_same) := ⟨rfl, rfl, rfl, by decide +kernel, rfl, by decide +kernel, by decide +kernel⟩
theorem sc__law_inner : FnScope ["_law_plan"] ["_law_plan"] (defScope s__law_inner) := ⟨rfl, rfl, rfl, by decide +kernel, rfl, by decide +kernel, by decide +kernel⟩
theorem sc__law_pieces : FnScope ["_law_plan", "_law_found", "_law_left", "_law_part"] ["_law_plan"] (defScope s__law_pieces) := ⟨rfl, rfl, rfl, by decide +kernel, rfl, by decide +kernel, by decide +kernel⟩
theorem sc_Table_entries : FnScope ["self"] ["self"] (defScope s_Table_entries) := ⟨rfl, rfl, rfl, by decide +kernel, rfl, by decide +kernel, by decide +kernel⟩
theorem sc_inner_parts : FnScope ["program", "parts", "last"] ["program"] (defScope s_inner_parts) := ⟨rfl, rfl, rfl, by decide +kernel, rfl, by decide +kernel, by decide +kernel⟩
theorem sc_names_in : FnScope ["program", "found", "waiting", "part"] ["program"] (defScope s_names_in) := ⟨rfl, rfl, rfl, by decide +kernel, rfl, by decide +kernel, by decide +kernel⟩
theorem sc_table_with : FnScope ["entries", "a", "b", "c", "d"] ["entries"] (defScope s_table_with) := ⟨rfl, rfl, rfl, by decide +kernel, rfl, by decide +kernel, by decide +kernel⟩
theorem sc_divisor_of : FnScope ["numbers", "found", "number", "one", "other"] ["numbers"] (defScope s_divisor_of) := ⟨rfl, rfl, rfl, by decide +kernel, rfl, by decide +kernel, by decide +kernel⟩
theorem sc_divided : FnScope ["entries", "common", "entry"] ["entries"] (defScope s_divided) := ⟨rfl, rfl, rfl, by decide +kernel, rfl, by decide +kernel, by decide +kernel⟩
theorem sc_made : FnScope ["entries", "found"] ["entries"] (defScope s_made) := ⟨rfl, rfl, rfl, by decide +kernel, rfl, by decide +kernel, by decide +kernel⟩
theorem sc_product : FnScope ["one", "other", "a", "b", "c", "d", "e", "f", "g", "h"] ["one", "other"] (defScope s_product) := ⟨rfl, rfl, rfl, by decide +kernel, rfl, by decide +kernel, by decide +kernel⟩
theorem sc_word_table : FnScope ["word", "found", "turn"] ["word"] (defScope s_word_table) := ⟨rfl, rfl, rfl, by decide +kernel, rfl, by decide +kernel, by decide +kernel⟩
theorem sc_entries_of : FnScope ["program", "tables", "entries", "word", "first", "parts", "found", "part", "count", "last", "inner", "step", "name"] ["program", "tables"] (defScope s_entries_of) := ⟨rfl, rfl, rfl, by decide +kernel, rfl, by decide +kernel, by decide +kernel⟩
theorem sc_table_of : FnScope ["program", "tables", "known", "name"] ["program", "tables"] (defScope s_table_of) := ⟨rfl, rfl, rfl, by decide +kernel, rfl, by decide +kernel, by decide +kernel⟩
theorem sc__law_field : FnScope ["_law_e"] ["_law_e"] (defScope s__law_field) := ⟨rfl, rfl, rfl, by decide +kernel, rfl, by decide +kernel, by decide +kernel⟩
theorem sc__law_why : FnScope ["_law_ask", "_law_told", "_law_e"] ["_law_ask"] (defScope s__law_why) := ⟨rfl, rfl, rfl, by decide +kernel, rfl, by decide +kernel, by decide +kernel⟩
theorem sc__law_deep_so : FnScope ["_law_hand_here", "_law_deep", "_law_step", "_law_due", "_law_wide", "_law_asks", "_law_ask"] ["_law_hand_here"] (defScope s__law_deep_so) := ⟨rfl, rfl, rfl, by decide +kernel, rfl, by decide +kernel, by decide +kernel⟩
theorem sc_law : FnScope ["_law_script", "_law_hand_here", "_law_step", "_law_known", "_law_plan", "_law_tables_z", "_law_due", "_law_told", "_law_used", "_law_late", "_law_asks", "_law_part", "_law_ask", "_law_label"] ["_law_script"] (defScope s_law) := ⟨rfl, rfl, rfl, by decide +kernel, rfl, by decide +kernel, by decide +kernel⟩
theorem sc_InvalidTable : FnScope ["self"] ["self"] (defScope s_InvalidTable) := ⟨rfl, rfl, rfl, by decide +kernel, rfl, by decide +kernel, by decide +kernel⟩
theorem sc_TooGreat : FnScope ["self", "most"] ["self", "most"] (defScope s_TooGreat) := ⟨rfl, rfl, rfl, by decide +kernel, rfl, by decide +kernel, by decide +kernel⟩
theorem sc_UnknownName : FnScope ["self", "name"] ["self", "name"] (defScope s_UnknownName) := ⟨rfl, rfl, rfl, by decide +kernel, rfl, by decide +kernel, by decide +kernel⟩
structure Txt (K : PySem.W.Frag) (mg : Str → Option Value) : Prop where
  n_range : mg "range" = none
  n_dict : mg "dict" = none
  n_list : mg "list" = none
  cl_Table : Cls K (He.ga K "Table")
  n_sorted : mg "sorted" = none
  gl_NothingLeft : mg "NothingLeft" = some (.ref (He.ga K "NothingLeft"))
  gl_MillError : mg "MillError" = some (.ref (He.ga K "MillError"))
  gl_Missing : mg "Missing" = some (.ref (He.ga K "Missing"))
  n_all : mg "all" = none
  na_Table_whole : NoAttr K (He.ga K "Table") "whole"
  n_isinstance : mg "isinstance" = none
  n_bool : mg "bool" = none
  n_int : mg "int" = none
  k_NEUTRAL : TupG K mg "NEUTRAL" [.int 1,.int 0,.int 0,.int 1]
  k_SWAP : TupG K mg "SWAP" [.int 0,.int 1,.int 1,.int 0]
  k_RIGHT : TupG K mg "RIGHT" [.int 1,.int 1,.int 0,.int 1]
  k_LEFT : TupG K mg "LEFT" [.int 1,.int 0,.int 1,.int 1]
  n_max : mg "max" = none
  k_MOST_TABLE : ∃ t, mg "MOST_TABLE" = some (.int 1000000 t)
  n_tuple : mg "tuple" = none
  n_abs : mg "abs" = none
  n_str : mg "str" = none
  n_zip : mg "zip" = none
  n_len : mg "len" = none
  wy_TooGreat : WhyC K "TooGreat" (some "most")
  wy_UnknownName : WhyC K "UnknownName" (some "name")
def isIn (M : Sto) (d : D) : Bool := decide (tyN M d = some "int")
def wB (d : D) : Bool := match d with
  | .str x => x.cps.toList.all fun c => decide (c ∈ ("LR" : Str).cps.toList)
  | _ => false
def inB (d : D) (a b : Int) : Bool := match d with
  | .int i => decide (a ≤ i) && decide (i ≤ b)
  | _ => false
theorem cutJ {P A : Prop} (main : P → A) (rest : P) : A := main rest
theorem cut1 {α : Type} {Q C : α → Prop} {A : Prop} (main : (∀ a, C a → Q a) → A) (rest : ∀ a, C a → Q a) : A := main rest
theorem cut3 {α β γ : Type} {Q C : α → β → γ → Prop} {A : Prop} (main : (∀ a b c, C a b c → Q a b c) → A) (rest : ∀ a b c, C a b c → Q a b c) : A := main rest
theorem no_at {f : Str} {d : D} (h : (f == ("whole" : Str)) = false) : List.lookup f [(("whole" : Str), d)] = none := look_ne h
theorem no_plain {d : D} : List.lookup ("plain" : Str) [(("whole" : Str), d)] = none := no_at (by decide +kernel)
theorem no_back {d : D} : List.lookup ("back" : Str) [(("whole" : Str), d)] = none := no_at (by decide +kernel)
theorem no_alike {d : D} : List.lookup ("alike" : Str) [(("whole" : Str), d)] = none := no_at (by decide +kernel)
theorem no_taken {d : D} : List.lookup ("taken" : Str) [(("whole" : Str), d)] = none := no_at (by decide +kernel)
theorem no_entries {d : D} : List.lookup ("entries" : Str) [(("whole" : Str), d)] = none := no_at (by decide +kernel)
theorem no_power {d : D} : List.lookup ("power" : Str) [(("whole" : Str), d)] = none := no_at (by decide +kernel)
theorem wB_LR {x : Str} (h : LR x.cps.toList) : wB (.str x) = true := List.all_eq_true.mpr fun c hc => decide_eq_true (lr_mem.mpr (h c hc))
theorem wB_odd {x : Str} {c : Nat} (hc : c ∈ x.cps.toList) (h : c ≠ 76 ∧ c ≠ 82) : wB (.str x) = false := by
  cases e : wB (.str x) with
  | false => rfl
  | true =>
    have := of_decide_eq_true (List.all_eq_true.mp e c hc)
    rcases lr_mem.mp this with z | z
    · exact absurd z h.1
    · exact absurd z h.2
section
variable {P : Program} {w : World} {K : PySem.W.Frag} {mg : Str → Option Value} {base : Heap}
abbrev b__law_hand : List (Nat × List Str × (List D → List D → List D)) := [(pos 1)]
abbrev b__law_common : List (Nat × List Str × (List D → List D → List D)) := [(pos 1)]
abbrev b__law_lowest : List (Nat × List Str × (List D → List D → List D)) := [(pos 1)]
abbrev b__law_prod : List (Nat × List Str × (List D → List D → List D)) := [(pos 2)]
abbrev b__law_grid : List (Nat × List Str × (List D → List D → List D)) := [(pos 1)]
abbrev b__law_pick : List (Nat × List Str × (List D → List D → List D)) := [(pos 2)]
abbrev b__law_of : List (Nat × List Str × (List D → List D → List D)) := [(pos 2)]
abbrev b__law_word : List (Nat × List Str × (List D → List D → List D)) := [(pos 2)]
abbrev b__law_core : List (Nat × List Str × (List D → List D → List D)) := [(pos 2)]
abbrev b__law_mill : List (Nat × List Str × (List D → List D → List D)) := [(pos 2)]
abbrev b__law_some : List (Nat × List Str × (List D → List D → List D)) := [(pos 2)]
abbrev b__law_leaf : List (Nat × List Str × (List D → List D → List D)) := [(pos 2)]
abbrev b__law_shape : List (Nat × List Str × (List D → List D → List D)) := [(pos 3)]
abbrev b_is_integer : List (Nat × List Str × (List D → List D → List D)) := [(pos 1)]
abbrev b_Tabled_initd : List (Nat × List Str × (List D → List D → List D)) := [(pos 5)]
abbrev b__law_made : List (Nat × List Str × (List D → List D → List D)) := [(pos 1)]
abbrev b__law_within : List (Nat × List Str × (List D → List D → List D)) := [(pos 1)]
abbrev b__law_table_due : List (Nat × List Str × (List D → List D → List D)) := [(pos 2)]
abbrev b__law_same : List (Nat × List Str × (List D → List D → List D)) := [(pos 2)]
abbrev b__law_inner : List (Nat × List Str × (List D → List D → List D)) := [(pos 1)]
abbrev b__law_pieces : List (Nat × List Str × (List D → List D → List D)) := [(pos 1)]
abbrev b_Table_entries : List (Nat × List Str × (List D → List D → List D)) := [(pos 1)]
abbrev b_inner_parts : List (Nat × List Str × (List D → List D → List D)) := [(pos 1)]
abbrev b_names_in : List (Nat × List Str × (List D → List D → List D)) := [(pos 1)]
abbrev b_table_with : List (Nat × List Str × (List D → List D → List D)) := [(pos 1)]
abbrev b_divisor_of : List (Nat × List Str × (List D → List D → List D)) := [(pos 1)]
abbrev b_divided : List (Nat × List Str × (List D → List D → List D)) := [(pos 1)]
abbrev b_made : List (Nat × List Str × (List D → List D → List D)) := [(pos 1)]
abbrev b_product : List (Nat × List Str × (List D → List D → List D)) := [(pos 2)]
abbrev b_word_table : List (Nat × List Str × (List D → List D → List D)) := [(pos 1)]
abbrev b_entries_of : List (Nat × List Str × (List D → List D → List D)) := [(pos 2)]
abbrev b_table_of : List (Nat × List Str × (List D → List D → List D)) := [(1, ["tables"], fun ds dz => gS [.p 0, .k 0] ds [] dz), (0, ["tables", "program"], fun ds dz => gS [.k 1, .k 0] ds [] dz), (1, [], fun ds dz => gS [.p 0, .d 0] ds [.non] dz)]
abbrev b__law_field : List (Nat × List Str × (List D → List D → List D)) := [(pos 1)]
abbrev b__law_why : List (Nat × List Str × (List D → List D → List D)) := [(pos 1)]
abbrev b__law_deep_so : List (Nat × List Str × (List D → List D → List D)) := [(pos 1)]
abbrev b_law : List (Nat × List Str × (List D → List D → List D)) := [(pos 1)]
def c__law_hand : Ct := fun ds M Ψ _ => ∃ ns : List Int, ds = [scr ns] ∧ ns.length ≤ 63 ∧ ∀ p (h : Hand), M p = none → h.cs.length ≤ 63 → 0 ≤ h.i → Ψ (.ref p) (updM M p (hd h))
theorem ok__law_hand {f : Addr} {fd : FuncData} {dvs : List V} {kws : List (Str × V)} (T : Txt K mg)  (F : FnZ K "_law_hand" "_law_hand" s__law_hand dvs kws f fd) : FnOk P w K mg base (L2.CX P w) 2 f fd ["_law_script"] (spC K ["_law_script"].length (c__law_hand)) := by
  have hnd := sc__law_hand.nd
  refine fnD F sc__law_hand (c__law_hand) fun cdv A outer s H E B Ξ hr z => ⟨_, (dss_cons (ds_setLc (i := 1) rfl hnd (sw_true rfl rfl rfl rfl) (di_list (de_slice (de_var (i := 0)) do_none (do_some de_int))) (blkOk_by (own := [("_law_cell", 3)]) (by rfl)) (tg_name (i := 3) (by decide)) (fun _ _ _ _ _ => (pg_name (i := 3) hnd rfl (by first | exact Or.inl rfl | exact Or.inr rfl) (by first | exact .inl rfl | exact .inr rfl))) (fun _ _ _ _ _ _ => dts_nil) (fun _ _ _ _ _ _ => (de_int1 T.n_int (da_cons (de_var (i := 3)) da_nil))))
    (dss_cons (ds_set (i := 2) hnd (de_add de_int (de_mul de_int (de_len T.n_len (da_cons (de_var (i := 1)) da_nil)))))
    (dss_cons (ds_for z.po rfl (di_list (de_var (i := 1))) (dg_name (i := 3) hnd) (dss_one (ds_set (i := 2) hnd (de_fmod (de_int1 T.n_int (da_cons (de_add (de_mul (de_var (i := 2)) de_int) (de_var (i := 3))) da_nil)) de_int))))
    (dss_one (ds_ret (de_lstM (da_cons (de_var (i := 1)) (da_cons de_int (da_cons de_int (da_cons (de_var (i := 2)) da_nil)))))))))), fun ds Ψ hl hc => ?_⟩
  obtain ⟨ns, rfl, hl, q⟩ := hc
  have hl2 : (cutD ns none (some 63)).length ≤ 63 := Nat.le_trans (cut_len _ _ _) hl
  refine compD_map (xs := cutD (ns.map D.int) none (some 63)) (S := fun M => lstOf M (.lst (cutD (ns.map D.int) none (some 63))) = some (cutD (ns.map D.int) none (some 63))) (fun K h => ⟨_, rfl, h⟩) (fun d => d) rfl ?_ (fun d hd Q q => ?_) ?_
  · rw [cut_map, List.length_map]
    exact Nat.le_trans hl2 (Nat.le_trans (by decide) big_ok)
  · rw [cut_map] at hd
    obtain ⟨i, _, rfl⟩ := List.mem_map.mp hd
    exact q
  rw [List.map_id', cut_map]
  generalize hcs : cutD ns none (some 63) = cs at hl2 ⊢
  refine ⟨IntMulOk.of_left (by decide), ?_⟩
  refine forD_n (xs := cs.map D.int) (S := fun M => lstOf M (.lst (cs.map D.int)) = some (cs.map D.int)) (fun K h => ⟨_, rfl, h⟩) (fun i r M' => M' = B.M ∧ ∃ (m : Int) (o : Option D), r = [some (scr ns), some (.lst (cs.map D.int)), some (.int m), o]) ⟨rfl, _, none, rfl⟩ (fun _ _ _ _ => rfl) (fun i d r M' hd h => ?_) (fun r M' h => ?_)
  · obtain ⟨rfl, m, o, rfl⟩ := h
    obtain ⟨c, _, rfl⟩ := List.mem_map.mp (lmem hd)
    exact ⟨IntMulOk.of_right (by decide), by decide, .of ⟨rfl, _, _, rfl⟩⟩
  · obtain ⟨rfl, m, o, rfl⟩ := h
    exact ⟨ln (n := 4) rfl (by decide), fun p hp => ⟨_, _, .same, q p ⟨cs, 0, 0, m⟩ hp hl2 (Int.le_refl 0)⟩⟩
def c__law_common : Ct := fun ds M Ψ _ => ∃ ns : List Int, ds = [.tup (ns.map .int)] ∧ Ψ (.int (gN ns)) M
theorem ok__law_common {f : Addr} {fd : FuncData} {dvs : List V} {kws : List (Str × V)} (T : Txt K mg)  (F : FnZ K "_law_common" "_law_common" s__law_common dvs kws f fd) : FnOk P w K mg base (L2.CX P w) 2 f fd ["_law_entries"] (spC K ["_law_entries"].length (c__law_common)) := by
  have hnd := sc__law_common.nd
  refine fnD F sc__law_common (c__law_common) fun cdv A outer s H E B Ξ hr z => ⟨_, (dss_cons (ds_set (i := 1) hnd de_int)
    (dss_cons (ds_for z.po rfl (di_tup (de_var (i := 0))) (dg_name (i := 2) hnd) (dss_cons (ds_set (i := 3) hnd (de_abs1 T.n_abs (da_cons (de_var (i := 2)) da_nil)))
    (dss_one (ds_while z.po (dt_ne hr (de_var (i := 3)) de_int) (dss_one (ds_par (i := 1) (j := 3) rfl hnd (da_cons (de_var (i := 3)) (da_cons (de_fmod (de_int1 T.n_int (da_cons (de_var (i := 1)) da_nil)) (de_var (i := 3))) da_nil))))))))
    (dss_one (ds_ret (de_var (i := 1)))))), fun ds Ψ hl hc => ?_⟩
  obtain ⟨ns, rfl, q⟩ := hc
  refine forD_n (xs := ns.map .int) (S := fun _ => True) (fun K h => ⟨_, rfl, h⟩) (fun i r M' => M' = B.M ∧ ∃ o2 o3, r = [some (.tup (ns.map .int)), some (.int (gN (ns.take i))), o2, o3]) ⟨rfl, none, none, rfl⟩ (fun _ _ _ _ => trivial) (fun i d r M' hd h => ?_) (fun r M' h => ?_)
  · obtain ⟨rfl, o2, o3, rfl⟩ := h
    obtain ⟨x, hx, rfl⟩ := map_get hd
    refine ⟨fun r M' => M' = B.M ∧ ∃ a b : Nat, Nat.gcd a b = Nat.gcd (gN (ns.take i)) x.natAbs ∧ r = [some (.tup (ns.map .int)), some (.int a), some (.int x), some (.int b)], fun r _ => slotN r 3, .of ⟨rfl, _, _, rfl, by rw [abs_nat]; rfl⟩, fun r M' h => ?_⟩
    obtain ⟨rfl, a, b, e, rfl⟩ := h
    refine neI ?_
    refine bl_c (fun e2 => ?_) (fun e2 => ?_)
    · have hb : b ≠ 0 := by simpa using e2
      refine ⟨by omega, .of ⟨⟨rfl, b, a % b, by rw [gcd_step]; exact e, by rw [fmod_nat]; rfl⟩, ?_⟩⟩
      show (((a : Int).fmod b)).natAbs < (b : Int).natAbs
      rw [fmod_nat]
      have := Nat.mod_lt a (Nat.pos_of_ne_zero hb)
      omega
    · have hb : b = 0 := by simpa using e2
      subst hb
      exact .of ⟨rfl, some (.int x), some (.int 0), by rw [gN_take hx, ← e, Nat.gcd_zero_right]; rfl⟩
  · obtain ⟨rfl, o2, o3, rfl⟩ := h
    refine ⟨_, _, .same, ?_⟩
    rw [List.length_map, List.take_length]
    exact q
def c__law_lowest : Ct := fun ds M Ψ _ => ∃ ns : List Int, ds = [.tup (ns.map .int)] ∧ ns.length ≤ 1000000 ∧ Dok (gN ns) ∧ Ψ (.tup ((dvL (gN ns) ns).map .int)) M
def dvBl (g : Int) (d : D) : D := match d with
  | .int j => .int (j.fdiv g)
  | d => d
theorem dvBl_map (g : Nat) (l : List Int) : (l.map D.int).map (dvBl g) = (dvL g l).map D.int := by unfold dvL; rw [List.map_map, List.map_map]; rfl
theorem ok__law_lowest {f : Addr} {fd : FuncData} {dvs : List V} {kws : List (Str × V)} (T : Txt K mg) (h__law_common : Gf P w K mg base "_law_common" 2 (c__law_common) b__law_common) (F : FnZ K "_law_lowest" "_law_lowest" s__law_lowest dvs kws f fd) : FnOk P w K mg base (L2.CX P w) 3 f fd ["_law_entries"] (spC K ["_law_entries"].length (c__law_lowest)) := by
  have hnd := sc__law_lowest.nd
  refine fnD F sc__law_lowest (c__law_lowest) fun cdv A outer s H E B Ξ hr z => ⟨_, (dss_cons (ds_set (i := 1) hnd (de_call h__law_common hr z (List.Mem.head _) (da_cons (de_var (i := 0)) da_nil)))
    (dss_one (ds_ret (de_tuple1 T.n_tuple (da_cons (de_lc rfl hnd (di_tup (de_var (i := 0))) (blkOk_by (own := [("_law_entry", 2)]) (by rfl)) (tg_name (i := 2) (by decide)) (fun _ _ _ _ _ => (pg_name (i := 2) hnd rfl (by first | exact Or.inl rfl | exact Or.inr rfl) (by first | exact .inl rfl | exact .inr rfl))) (fun _ _ _ _ _ _ => dts_nil) (fun _ _ _ _ _ _ => (de_fdiv (de_var (i := 2)) (de_var (i := 1))))) da_nil))))), fun ds Ψ hl hc => ?_⟩
  obtain ⟨ns, rfl, hl, hg, q⟩ := hc
  refine ⟨rfl, rfl, ns, rfl, ?_⟩
  refine compD_map (xs := ns.map .int) (S := fun _ => True) (fun K h => ⟨_, rfl, h⟩) (dvBl (gN ns)) trivial (ln (n := ns.length) (List.length_map _) hl) (fun d hd Q h => ?_) ?_
  · obtain ⟨x, hx, rfl⟩ := List.mem_map.mp hd
    exact ⟨hg, h⟩
  · rw [dvBl_map]
    exact ⟨_, rfl, _, _, .same, q⟩
def c__law_prod : Ct := fun ds M Ψ _ => ∃ s t n m, ds = [tD s, tD t] ∧ Sm n s ∧ Sm m t ∧ 0 < n ∧ 0 < m ∧ n + m ≤ 1000000 ∧ Ψ (tD (mul4 s t)) M
theorem ok__law_prod {f : Addr} {fd : FuncData} {dvs : List V} {kws : List (Str × V)} (T : Txt K mg)  (F : FnZ K "_law_prod" "_law_prod" s__law_prod dvs kws f fd) : FnOk P w K mg base (L2.CX P w) 2 f fd ["_law_one", "_law_rival"] (spC K ["_law_one", "_law_rival"].length (c__law_prod)) := by
  have hnd := sc__law_prod.nd
  refine fnD F sc__law_prod (c__law_prod) fun cdv A outer s H E B Ξ hr z => ⟨_, (dss_one (ds_ret (de_tup (da_cons (de_add (de_mul (de_ix (de_var (i := 0)) de_int) (de_ix (de_var (i := 1)) de_int)) (de_mul (de_ix (de_var (i := 0)) de_int) (de_ix (de_var (i := 1)) de_int))) (da_cons (de_add (de_mul (de_ix (de_var (i := 0)) de_int) (de_ix (de_var (i := 1)) de_int)) (de_mul (de_ix (de_var (i := 0)) de_int) (de_ix (de_var (i := 1)) de_int))) (da_cons (de_add (de_mul (de_ix (de_var (i := 0)) de_int) (de_ix (de_var (i := 1)) de_int)) (de_mul (de_ix (de_var (i := 0)) de_int) (de_ix (de_var (i := 1)) de_int))) (da_cons (de_add (de_mul (de_ix (de_var (i := 0)) de_int) (de_ix (de_var (i := 1)) de_int)) (de_mul (de_ix (de_var (i := 0)) de_int) (de_ix (de_var (i := 1)) de_int))) da_nil))))))), fun ds Ψ hl hc => ?_⟩
  obtain ⟨s, t, n, m, rfl, hs, ht, h0, h1, hz, q⟩ := hc
  have k : ∀ {i j : Int}, i.natAbs < 2 ^ n → j.natAbs < 2 ^ m → IntMulOk i j := fun a b => mok_of a b h0 h1 hz
  exact ⟨k hs.1 ht.1, k hs.2.1 ht.2.2.1, k hs.1 ht.2.1, k hs.2.1 ht.2.2.2, k hs.2.2.1 ht.1, k hs.2.2.2 ht.2.2.1, k hs.2.2.1 ht.2.1, k hs.2.2.2 ht.2.2.2, ln (n := 4) rfl (by decide), _, _, .same, q⟩
def c__law_grid : Ct := fun ds M Ψ _ => ∃ x, ds = [.str x] ∧ x.cps.size ≤ 400000 ∧ Ψ (tD (wL x.cps.toList)) M
theorem ok__law_grid {f : Addr} {fd : FuncData} {dvs : List V} {kws : List (Str × V)} (T : Txt K mg) (h__law_prod : Gf P w K mg base "_law_prod" 2 (c__law_prod) b__law_prod) (F : FnZ K "_law_grid" "_law_grid" s__law_grid dvs kws f fd) : FnOk P w K mg base (L2.CX P w) 3 f fd ["_law_token"] (spC K ["_law_token"].length (c__law_grid)) := by
  have hnd := sc__law_grid.nd
  refine fnD F sc__law_grid (c__law_grid) fun cdv A outer s H E B Ξ hr z => ⟨_, (dss_cons (ds_set (i := 1) hnd (de_tup (da_cons de_int (da_cons de_int (da_cons de_int (da_cons de_int da_nil))))))
    (dss_cons (ds_for z.po rfl (di_str (de_var (i := 0))) (dg_name (i := 2) hnd) (dss_one (ds_set (i := 1) hnd (de_call h__law_prod hr z (List.Mem.head _) (da_cons (de_var (i := 1)) (da_cons (de_if (dt_eq hr (de_var (i := 2)) de_str) (de_tup (da_cons de_int (da_cons de_int (da_cons de_int (da_cons de_int da_nil))))) (de_tup (da_cons de_int (da_cons de_int (da_cons de_int (da_cons de_int da_nil)))))) da_nil))))))
    (dss_one (ds_ret (de_var (i := 1)))))), fun ds Ψ hl hc => ?_⟩
  obtain ⟨x, rfl, hz, q⟩ := hc
  refine ⟨ln (n := 4) rfl (by decide), ?_⟩
  refine forD_n (xs := Z.signs x) (fun K h => h) (fun i r M' => M' = B.M ∧ ∃ o, r = [some (.str x), some (tD (wL (x.cps.toList.take i))), o]) ⟨rfl, none, rfl⟩ (fun _ _ _ _ => trivial) (fun i d r M' hd h => ?_) (fun r M' h => ?_)
  · obtain ⟨rfl, o, rfl⟩ := h
    obtain ⟨c, hi, rfl⟩ := signs_get hd
    have hl : (x.cps.toList.take i).length ≤ 400000 := by rw [List.length_take, Array.length_toList]; omega
    have fin : c__law_prod [tD (wL (x.cps.toList.take i)), tD (turnT c)] B.M (fun d M' => Cl B.M (fun r M' => M' = B.M ∧ ∃ o, r = [some (.str x), some (tD (wL (x.cps.toList.take (i + 1)))), o]) [some (.str x), some d, some (.str ⟨#[c]⟩)] M') (fun y M' => exF B.M Ξ y [some (.str x), some (tD (wL (x.cps.toList.take i))), some (.str ⟨#[c]⟩)] M') :=
      ⟨_, _, _, _, rfl, sm_wL _, sm_turn c, by omega, by omega, by omega, .of ⟨rfl, _, by rw [wL_take hi]⟩⟩
    unfold turnT at fin
    refine eqS ?_
    refine bl_c (fun e => ?_) (fun e => ?_)
    · rw [if_pos (of_decide_eq_true e)] at fin
      exact ⟨ln (n := 4) rfl (by decide), rfl, rfl, fin⟩
    · rw [if_neg (of_decide_eq_false e)] at fin
      exact ⟨ln (n := 4) rfl (by decide), rfl, rfl, fin⟩
  · obtain ⟨rfl, o, rfl⟩ := h
    refine ⟨_, _, .same, ?_⟩
    rw [signs_len, List.take_of_length_le (by rw [Array.length_toList]; exact Nat.le_refl _)]
    exact q
theorem dok_b {j : Int} (h : 0 < j) (h' : j < 2 ^ 100) : Dok j := dok_of (n := 100) (by omega) (by omega) (by decide)
def c__law_pick : Ct := fun ds M Ψ _ => ∃ (p : Addr) (n : Int), ds = [.ref p, .int n] ∧ HandAt M p ∧ 0 < n ∧ n < 2 ^ 100 ∧ ∀ k M', 0 ≤ k → k < n → Dr p M M' → Ψ (.int k) M'
theorem ok__law_pick {f : Addr} {fd : FuncData} {dvs : List V} {kws : List (Str × V)} (T : Txt K mg)  (F : FnZ K "_law_pick" "_law_pick" s__law_pick dvs kws f fd) : FnOk P w K mg base (L2.CX P w) 2 f fd ["_law_hand_here", "_law_many"] (spC K ["_law_hand_here", "_law_many"].length (c__law_pick)) := by
  have hnd := sc__law_pick.nd
  refine fnD F sc__law_pick (c__law_pick) fun cdv A outer s H E B Ξ hr z => ⟨_, (dss_cons (ds_if (dt_lt (de_ix (de_var (i := 0)) de_int) de_int) (dss_cons (ds_setix (de_add (de_ix (de_var (i := 0)) de_int) de_int) (de_var (i := 0)) de_int)
    (dss_cons (ds_set (i := 2) hnd (de_add (de_ix (de_var (i := 0)) de_int) (de_mul (de_ix (de_var (i := 0)) de_int) de_int)))
    (dss_cons (ds_if (dt_le (de_ix (de_var (i := 0)) de_int) (de_len T.n_len (da_cons (de_ix (de_var (i := 0)) de_int) da_nil))) (dss_one (ds_set (i := 2) hnd (de_ix (de_ix (de_var (i := 0)) de_int) (de_sub (de_ix (de_var (i := 0)) de_int) de_int)))) dss_nil)
    (dss_cons (ds_if (dw_or (dt_gt (de_ix (de_var (i := 0)) de_int) (de_len T.n_len (da_cons (de_ix (de_var (i := 0)) de_int) da_nil))) (dw_or1 (dt_lt (de_var (i := 2)) (de_pow de_int de_int)))).pt (dss_cons (ds_set (i := 3) hnd (de_fmod (de_int1 T.n_int (da_cons (de_add (de_add (de_mul (de_var (i := 2)) de_int) (de_mul (de_ix (de_var (i := 0)) de_int) de_int)) (de_ix (de_var (i := 0)) de_int)) da_nil)) de_int))
    (dss_cons (ds_set (i := 4) hnd (de_fmod (de_int1 T.n_int (da_cons (de_add (de_mul (de_var (i := 3)) (de_var (i := 3))) (de_mul (de_ix (de_var (i := 0)) de_int) de_int)) da_nil)) de_int))
    (dss_one (ds_ret (de_fmod (de_fdiv (de_fmod (de_int1 T.n_int (da_cons (de_add (de_mul (de_var (i := 4)) de_int) (de_var (i := 3))) da_nil)) de_int) de_int) (de_var (i := 1))))))) dss_nil)
    (dss_one (ds_setix (de_var (i := 2)) (de_var (i := 0)) de_int)))))) dss_nil)
    (dss_cons (ds_set (i := 5) hnd (de_fmod (de_int1 T.n_int (da_cons (de_ix (de_var (i := 0)) de_int) da_nil)) (de_var (i := 1))))
    (dss_cons (ds_setix (de_fdiv (de_int1 T.n_int (da_cons (de_ix (de_var (i := 0)) de_int) da_nil)) (de_var (i := 1))) (de_var (i := 0)) de_int)
    (dss_one (ds_ret (de_var (i := 5))))))), fun ds Ψ hl hc => ?_⟩
  obtain ⟨p, n, rfl, ⟨h, e0, hcl, hi⟩, n0, n1, q⟩ := hc
  have nz : n ≠ 0 := by omega
  refine ix_ref e0 ?_
  refine bl_c (fun _ => ?_) (fun _ => ?_)
  rotate_left
  · refine ix_ref e0 ?_
    refine ⟨nz, ?_⟩
    refine ix_ref e0 ?_
    refine ⟨dok_b n0 n1, ?_⟩
    refine set_ref e0 rfl ?_
    exact ⟨_, _, .same, q _ _ (fm0 n0) (fm1 n0) ⟨handAt_of updM_same hcl hi, fun b hb => updM_ne hb⟩⟩
  refine ix_ref e0 ?_
  refine set_gen e0 rfl fun M1 e1 f1 => ?_
  have e1 : M1 p = some (hd ⟨h.cs, h.i + 1, h.r, h.m⟩) := e1
  have hi1 : 0 ≤ h.i + 1 := by omega
  refine ix_ref e1 ?_
  refine ix_ref e1 ?_
  refine ⟨IntMulOk.of_right (by decide), ?_⟩
  refine ix_ref e1 ?_
  refine ix_ref e1 ?_
  refine bl_c (fun h1 => ?_) (fun h1 => ?_)
  · refine ix_ref e1 ?_
    refine ix_ref e1 ?_
    have h1' : h.i + 1 ≤ ((h.cs.map D.int).length : Int) := of_decide_eq_true h1
    obtain ⟨d, hd, hm⟩ := at_some (xs := h.cs.map D.int) (i := h.i + 1 - 1) (by omega) (by omega)
    obtain ⟨c, _, rfl⟩ := List.mem_map.mp hm
    refine optK_of (d := .int (h.i + 1)) rfl ?_
    refine optK_of hd ?_
    refine ix_ref e1 ?_
    refine ix_ref e1 ?_
    refine bl_c (fun h2 => ?_) (fun h2 => ?_)
    rotate_left
    · refine ⟨⟨by decide, by decide, by decide⟩, ?_⟩
      refine bl_c (fun h3 => ?_) (fun h3 => ?_)
      rotate_left
      · refine set_ref e1 rfl ?_
        refine ix_ref updM_same ?_
        refine ⟨nz, ?_⟩
        refine ix_ref updM_same ?_
        refine ⟨dok_b n0 n1, ?_⟩
        refine set_ref updM_same rfl ?_
        exact ⟨_, _, .same, q _ _ (fm0 n0) (fm1 n0) ⟨handAt_of updM_same hcl hi1, fun b hb => (updM_ne hb).trans ((updM_ne hb).trans (f1 b hb))⟩⟩
      refine ⟨IntMulOk.of_right (by decide), ?_⟩
      refine ix_ref e1 ?_
      refine ⟨IntMulOk.of_right (by decide), ?_⟩
      refine ix_ref e1 ?_
      refine ⟨by decide, ?_⟩
      refine ⟨mok_s (fm_small (by decide) (by decide)), ?_⟩
      refine ix_ref e1 ?_
      refine ⟨IntMulOk.of_right (by decide), ?_⟩
      refine ⟨by decide, ?_⟩
      refine ⟨IntMulOk.of_right (by decide), by decide, dok_s (by decide) (by decide), nz, ?_⟩
      exact ⟨_, _, .same, q _ _ (fm0 n0) (fm1 n0) ⟨handAt_of e1 hcl hi1, f1⟩⟩
    refine ⟨IntMulOk.of_right (by decide), ?_⟩
    refine ix_ref e1 ?_
    refine ⟨IntMulOk.of_right (by decide), ?_⟩
    refine ix_ref e1 ?_
    refine ⟨by decide, ?_⟩
    refine ⟨mok_s (fm_small (by decide) (by decide)), ?_⟩
    refine ix_ref e1 ?_
    refine ⟨IntMulOk.of_right (by decide), ?_⟩
    refine ⟨by decide, ?_⟩
    refine ⟨IntMulOk.of_right (by decide), by decide, dok_s (by decide) (by decide), nz, ?_⟩
    exact ⟨_, _, .same, q _ _ (fm0 n0) (fm1 n0) ⟨handAt_of e1 hcl hi1, f1⟩⟩
  · refine ix_ref e1 ?_
    refine ix_ref e1 ?_
    refine bl_c (fun h2 => ?_) (fun h2 => ?_)
    rotate_left
    · refine ⟨⟨by decide, by decide, by decide⟩, ?_⟩
      refine bl_c (fun h3 => ?_) (fun h3 => ?_)
      rotate_left
      · refine set_ref e1 rfl ?_
        refine ix_ref updM_same ?_
        refine ⟨nz, ?_⟩
        refine ix_ref updM_same ?_
        refine ⟨dok_b n0 n1, ?_⟩
        refine set_ref updM_same rfl ?_
        exact ⟨_, _, .same, q _ _ (fm0 n0) (fm1 n0) ⟨handAt_of updM_same hcl hi1, fun b hb => (updM_ne hb).trans ((updM_ne hb).trans (f1 b hb))⟩⟩
      refine ⟨IntMulOk.of_right (by decide), ?_⟩
      refine ix_ref e1 ?_
      refine ⟨IntMulOk.of_right (by decide), ?_⟩
      refine ix_ref e1 ?_
      refine ⟨by decide, ?_⟩
      refine ⟨mok_s (fm_small (by decide) (by decide)), ?_⟩
      refine ix_ref e1 ?_
      refine ⟨IntMulOk.of_right (by decide), ?_⟩
      refine ⟨by decide, ?_⟩
      refine ⟨IntMulOk.of_right (by decide), by decide, dok_s (by decide) (by decide), nz, ?_⟩
      exact ⟨_, _, .same, q _ _ (fm0 n0) (fm1 n0) ⟨handAt_of e1 hcl hi1, f1⟩⟩
    refine ⟨IntMulOk.of_right (by decide), ?_⟩
    refine ix_ref e1 ?_
    refine ⟨IntMulOk.of_right (by decide), ?_⟩
    refine ix_ref e1 ?_
    refine ⟨by decide, ?_⟩
    refine ⟨mok_s (fm_small (by decide) (by decide)), ?_⟩
    refine ix_ref e1 ?_
    refine ⟨IntMulOk.of_right (by decide), ?_⟩
    refine ⟨by decide, ?_⟩
    refine ⟨IntMulOk.of_right (by decide), by decide, dok_s (by decide) (by decide), nz, ?_⟩
    exact ⟨_, _, .same, q _ _ (fm0 n0) (fm1 n0) ⟨handAt_of e1 hcl hi1, f1⟩⟩
def c__law_of : Ct := fun ds M Ψ _ => ∃ (p : Addr) (x : D) (l : List D), ds = [.ref p, x] ∧ HandAt M p ∧ itm x = some l ∧ 0 < l.length ∧ l.length ≤ 1000000 ∧ ∀ d M', d ∈ l → Dr p M M' → Ψ d M'
theorem ok__law_of {f : Addr} {fd : FuncData} {dvs : List V} {kws : List (Str × V)} (T : Txt K mg) (h__law_pick : Gf P w K mg base "_law_pick" 2 (c__law_pick) b__law_pick) (F : FnZ K "_law_of" "_law_of" s__law_of dvs kws f fd) : FnOk P w K mg base (L2.CX P w) 3 f fd ["_law_hand_here", "_law_items"] (spC K ["_law_hand_here", "_law_items"].length (c__law_of)) := by
  have hnd := sc__law_of.nd
  refine fnD F sc__law_of (c__law_of) fun cdv A outer s H E B Ξ hr z => ⟨_, (dss_one (ds_ret (de_ix (de_var (i := 1)) (de_call h__law_pick hr z (List.Mem.head _) (da_cons (de_var (i := 0)) (da_cons (de_len T.n_len (da_cons (de_var (i := 1)) da_nil)) da_nil)))))), fun ds Ψ hl hc => ?_⟩
  obtain ⟨p, x, l, rfl, hh, hx, l0, l1, q⟩ := hc
  cases x with
  | str x =>
    cases hx
    rw [signs_len] at l0 l1
    have hz : x.length ≤ sizeLine := Nat.le_trans l1 big_ok
    refine ⟨hz, rfl, rfl, p, _, rfl, hh, (show (0 : Int) < (x.cps.size : Int) by omega), (show (x.cps.size : Int) < 2 ^ 100 by omega), fun k M' k0 k1 dr => ⟨hz, ?_⟩⟩
    obtain ⟨c, hc, hm⟩ := at_some (xs := x.cps.toList) k0 (by rw [Array.length_toList]; exact k1)
    exact optK_of hc ⟨_, _, .same, q _ _ (List.mem_map.mpr ⟨c, hm, rfl⟩) dr⟩
  | tup l =>
    cases hx
    refine ⟨rfl, rfl, p, _, rfl, hh, by omega, by omega, fun k M' k0 k1 dr => ?_⟩
    obtain ⟨c, hc, hm⟩ := at_some k0 k1
    exact optK_of hc ⟨_, _, .same, q _ _ hm dr⟩
  | lst l =>
    cases hx
    refine ⟨rfl, rfl, p, _, rfl, hh, by omega, by omega, fun k M' k0 k1 dr => ?_⟩
    obtain ⟨c, hc, hm⟩ := at_some k0 k1
    exact optK_of hc ⟨_, _, .same, q _ _ hm dr⟩
  | _ => cases hx
def c__law_word : Ct := fun ds M Ψ _ => ∃ (p : Addr) (n : Int), ds = [.ref p, .int n] ∧ HandAt M p ∧ 0 ≤ n ∧ n ≤ 100000 ∧ ∀ w M', LR w → (w.length : Int) ≤ n → Dr p M M' → Ψ (.str ⟨w.toArray⟩) M'
theorem ok__law_word {f : Addr} {fd : FuncData} {dvs : List V} {kws : List (Str × V)} (T : Txt K mg) (h__law_pick : Gf P w K mg base "_law_pick" 2 (c__law_pick) b__law_pick) (h__law_of : Gf P w K mg base "_law_of" 3 (c__law_of) b__law_of) (F : FnZ K "_law_word" "_law_word" s__law_word dvs kws f fd) : FnOk P w K mg base (L2.CX P w) 4 f fd ["_law_hand_here", "_law_peak"] (spC K ["_law_hand_here", "_law_peak"].length (c__law_word)) := by
  have hnd := sc__law_word.nd
  refine fnD F sc__law_word (c__law_word) fun cdv A outer s H E B Ξ hr z => ⟨_, (dss_one (ds_ret (de_join de_str (de_lc rfl hnd (di_range1 T.n_range (da_cons (de_call h__law_pick hr z (List.Mem.head _) (da_cons (de_var (i := 0)) (da_cons (de_add (de_var (i := 1)) de_int) da_nil))) da_nil)) (blkOk_by (own := [("_law_k", 2)]) (by rfl)) (tg_name (i := 2) (by decide)) (fun _ _ _ _ _ => (pg_name (i := 2) hnd rfl (by first | exact Or.inl rfl | exact Or.inr rfl) (by first | exact .inl rfl | exact .inr rfl))) (fun _ _ _ _ _ _ => dts_nil) (fun _ _ _ _ _ _ => (de_call h__law_of hr zx_blk (List.Mem.head _) (da_cons (de_var (i := 0)) (da_cons de_str da_nil)))))))), fun ds Ψ hl hc => ?_⟩
  obtain ⟨p, n, rfl, hh, n0, n1, q⟩ := hc
  refine ⟨trivial, ?_⟩
  refine compD_of (fun xs S M1 => ∃ k : Int, 0 ≤ k ∧ k ≤ n ∧ xs = rngD 0 k.toNat ∧ S = (fun _ => True) ∧ Dr p B.M M1) (fun K h => ?_) (fun xs S M1 ⟨k, k0, k1, e1, e2, dr⟩ => ?_)
  · exact ⟨rfl, rfl, p, _, rfl, hh, by omega, by omega, fun k M' k0 k1 dr => ⟨⟨by omega, by omega⟩, h _ _ _ ⟨k, k0, by omega, rfl, rfl, dr⟩⟩⟩
  subst e1 e2
  refine comp_st (Dr p B.M) (fun _ y => ∃ c : Nat, (c = 76 ∨ c = 82) ∧ y = .str ⟨#[c]⟩) dr (fun _ _ => trivial) (by rw [rng_len]; exact Nat.le_trans (by omega) big_ok) (fun d hd M' I Q hQ => ?_) (fun acc M' I hl hy => ?_)
  · refine ⟨rfl, rfl, p, _, _, rfl, I.1, rfl, by decide, by decide, fun d M4 hd dr' => hQ _ _ (I.trans dr') ?_⟩
    obtain ⟨c, hc, rfl⟩ := signs_mem hd
    exact ⟨c, lr_mem.mp hc, rfl⟩
  · have hall : ∀ y ∈ acc, ∃ c : Nat, (c = 76 ∨ c = 82) ∧ y = .str ⟨#[c]⟩ := fun y hm => by
      obtain ⟨i, hi, e⟩ := List.getElem_of_mem hm
      have hi2 : i < (rngD 0 k.toNat).length := hl ▸ hi
      exact hy i _ y (List.getElem?_eq_getElem hi2) (by rw [List.getElem?_eq_getElem hi, e])
    obtain ⟨w, hw, rfl⟩ := chars_of hall
    rw [rng_len, List.length_map] at hl
    refine ⟨_, w.map fun c => (⟨#[c]⟩ : Str), .inl rfl, strsD_chars w, ?_, ?_⟩
    · rw [chars_sum, List.length_map]
      show _ + _ * 0 ≤ _
      omega
    · refine ⟨_, _, .same, ?_⟩
      show Ψ (.str (Txt.join Str.empty _)) M'
      rw [join_chars]
      exact q w M' hw (by omega) I
def c__law_core : Ct := fun ds M Ψ _ => ∃ (p : Addr) (cap : Int), ds = [.ref p, .int cap] ∧ HandAt M p ∧ 0 < cap ∧ cap ≤ 1000 ∧ ∀ t M', Sm 10 t → Nn t → 0 < det4 t → det4 t ≤ cap → Le4 cap t → Dr p M M' → Ψ (tD t) M'
def dvd (s : Int) (d : D) : Bool := match d with
  | .int j => decide (s.fmod j = 0)
  | _ => false
theorem fdiv_dvd {s j : Int} (h : 0 < j) (hd : s.fmod j = 0) : j * s.fdiv j = s := by
  have := Int.mul_fdiv_add_fmod s j
  omega
theorem ok__law_core {f : Addr} {fd : FuncData} {dvs : List V} {kws : List (Str × V)} (T : Txt K mg) (h__law_pick : Gf P w K mg base "_law_pick" 2 (c__law_pick) b__law_pick) (h__law_of : Gf P w K mg base "_law_of" 3 (c__law_of) b__law_of) (F : FnZ K "_law_core" "_law_core" s__law_core dvs kws f fd) : FnOk P w K mg base (L2.CX P w) 4 f fd ["_law_hand_here", "_law_cap"] (spC K ["_law_hand_here", "_law_cap"].length (c__law_core)) := by
  have hnd := sc__law_core.nd
  refine fnD F sc__law_core (c__law_core) fun cdv A outer s H E B Ξ hr z => ⟨_, (dss_cons (ds_set (i := 2) hnd (de_add de_int (de_call h__law_pick hr z (List.Mem.head _) (da_cons (de_var (i := 0)) (da_cons (de_var (i := 1)) da_nil)))))
    (dss_cons (ds_set (i := 3) hnd (de_call h__law_of hr z (List.Mem.head _) (da_cons (de_var (i := 0)) (da_cons (de_lc rfl hnd (di_range2 T.n_range (da_cons de_int (da_cons (de_add (de_var (i := 2)) de_int) da_nil))) (blkOk_by (own := [("_law_part", 4)]) (by rfl)) (tg_name (i := 4) (by decide)) (fun _ _ _ _ _ => (pg_name (i := 4) hnd rfl (by first | exact Or.inl rfl | exact Or.inr rfl) (by first | exact .inl rfl | exact .inr rfl))) (fun _ _ _ _ _ _ => (dts_one (dt_eq hr (de_fmod (de_int1 T.n_int (da_cons (de_var (i := 2)) da_nil)) (de_var (i := 4))) de_int))) (fun _ _ _ _ _ _ => (de_var (i := 4)))) da_nil))))
    (dss_one (ds_ret (de_tup (da_cons (de_var (i := 3)) (da_cons (de_call h__law_pick hr z (List.Mem.head _) (da_cons (de_var (i := 0)) (da_cons (de_fdiv (de_var (i := 2)) (de_var (i := 3))) da_nil))) (da_cons de_int (da_cons (de_fdiv (de_var (i := 2)) (de_var (i := 3))) da_nil))))))))), fun ds Ψ hl hc => ?_⟩
  obtain ⟨p, cap, rfl, hh, c0, c1, q⟩ := hc
  refine ⟨rfl, rfl, p, cap, rfl, hh, c0, by omega, fun k M1 k0 k1 d1 => ?_⟩
  have s0 : 0 < (1 + k) := by omega
  have s1 : (1 + k) ≤ 1000 := by omega
  refine compD_fm (xs := rngD 1 ((1 + k) + 1 - 1).toNat) (S := fun _ => True) (fun K h => ⟨⟨⟨by omega, by omega⟩, ⟨by omega, by omega⟩⟩, h⟩) (dvd (1 + k)) (fun d => d) trivial (by rw [rng_len]; exact Nat.le_trans (by omega) big_ok) (fun d hd Q R h => ?_) ?_
  · obtain ⟨j, hj, rfl⟩ := rng_mem hd
    refine ⟨by omega, ?_⟩
    refine eqI ?_
    refine bl_c (fun e => ?_) (fun e => ?_)
    · rw [if_pos (show dvd (1 + k) (.int (1 + j)) = true from e)] at h
      exact h
    · rw [if_neg (by rw [show dvd (1 + k) (.int (1 + j)) = false from e]; simp)] at h
      exact h
  rw [List.map_id']
  have key : ∀ d ∈ (rngD 1 ((1 + k) + 1 - 1).toNat).filter (dvd (1 + k)), ∃ j : Int, 0 < j ∧ j ≤ (1 + k) ∧ (1 + k).fmod j = 0 ∧ d = .int j := fun d hd => by
    obtain ⟨h1, h2⟩ := List.mem_filter.mp hd
    obtain ⟨j, hj, rfl⟩ := rng_mem h1
    exact ⟨1 + j, by omega, by omega, of_decide_eq_true h2, rfl⟩
  have len0 : 0 < ((rngD 1 ((1 + k) + 1 - 1).toNat).filter (dvd (1 + k))).length := by
    refine List.length_pos_of_mem (a := .int 1) (List.mem_filter.mpr ⟨?_, ?_⟩)
    · exact List.mem_map.mpr ⟨0, List.mem_range.mpr (by omega), rfl⟩
    · exact decide_eq_true (by rw [Int.fmod_eq_emod_of_nonneg _ (by decide)]; omega)
  have len1 : ((rngD 1 ((1 + k) + 1 - 1).toNat).filter (dvd (1 + k))).length ≤ 1000000 := by
    refine Nat.le_trans (List.length_filter_le _ _) ?_
    rw [rng_len]
    omega
  refine ⟨rfl, rfl, p, _, _, rfl, d1.1, rfl, len0, len1, fun d M2 hd d2 => ?_⟩
  obtain ⟨j, j0, j1, jd, rfl⟩ := key d hd
  have em := fdiv_dvd j0 jd
  have f0 : 0 < (1 + k).fdiv j := by
    rcases Int.lt_or_le 0 ((1 + k).fdiv j) with h | h
    · exact h
    · have : j * (1 + k).fdiv j ≤ 0 := Int.mul_nonpos_of_nonneg_of_nonpos (Int.le_of_lt j0) h
      omega
  have f1 : (1 + k).fdiv j ≤ (1 + k) := by
    have : 1 * (1 + k).fdiv j ≤ j * (1 + k).fdiv j := Int.mul_le_mul_of_nonneg_right (by omega) (Int.le_of_lt f0)
    omega
  refine ⟨dok_s j0 (by omega), ?_⟩
  refine ⟨rfl, rfl, p, (1 + k).fdiv j, rfl, d2.1, f0, by omega, fun r M3 r0 r1 d3 => ?_⟩
  refine ⟨dok_s j0 (by omega), ln (n := 4) rfl (by decide), ?_⟩
  refine ⟨_, _, .same, q (j, r, 0, (1 + k).fdiv j) M3 ⟨?_, ?_, ?_, ?_⟩ ⟨?_, ?_, ?_, ?_⟩ ?_ ?_ ⟨?_, ?_, ?_, ?_⟩ ((d1.trans d2).trans d3)⟩
  · show j.natAbs < 1024; omega
  · show r.natAbs < 1024; omega
  · show (0 : Int).natAbs < 1024; decide
  · show ((1 + k).fdiv j).natAbs < 1024; omega
  · show 0 ≤ j; omega
  · exact r0
  · exact Int.le_refl 0
  · show 0 ≤ (1 + k).fdiv j; omega
  · show 0 < j * (1 + k).fdiv j - r * 0
    omega
  · show j * (1 + k).fdiv j - r * 0 ≤ cap
    omega
  · show j ≤ cap; omega
  · show r ≤ cap; omega
  · show (0 : Int) ≤ cap; omega
  · show (1 + k).fdiv j ≤ cap; omega
def c__law_mill : Ct := fun ds M Ψ _ => ∃ (p : Addr) (cap : Nat), ds = [.ref p, .int cap] ∧ HandAt M p ∧ 0 < cap ∧ cap ≤ 60 ∧ ∀ t M', Mil1 cap t → Dr p M M' → Ψ (tD t) M'
def mulB (m : Int) (d : D) : D := match d with
  | .int j => .int (m * j)
  | d => d
theorem ok__law_mill {f : Addr} {fd : FuncData} {dvs : List V} {kws : List (Str × V)} (T : Txt K mg) (h__law_prod : Gf P w K mg base "_law_prod" 2 (c__law_prod) b__law_prod) (h__law_grid : Gf P w K mg base "_law_grid" 3 (c__law_grid) b__law_grid) (h__law_word : Gf P w K mg base "_law_word" 4 (c__law_word) b__law_word) (h__law_core : Gf P w K mg base "_law_core" 4 (c__law_core) b__law_core) (h__law_of : Gf P w K mg base "_law_of" 3 (c__law_of) b__law_of) (h__law_pick : Gf P w K mg base "_law_pick" 2 (c__law_pick) b__law_pick) (F : FnZ K "_law_mill" "_law_mill" s__law_mill dvs kws f fd) : FnOk P w K mg base (L2.CX P w) 5 f fd ["_law_hand_here", "_law_cap"] (spC K ["_law_hand_here", "_law_cap"].length (c__law_mill)) := by
  have hnd := sc__law_mill.nd
  refine fnD F sc__law_mill (c__law_mill) fun cdv A outer s H E B Ξ hr z => ⟨_, (dss_cons (ds_set (i := 2) hnd (de_call h__law_prod hr z (List.Mem.head _) (da_cons (de_call h__law_grid hr z (List.Mem.head _) (da_cons (de_call h__law_word hr z (List.Mem.head _) (da_cons (de_var (i := 0)) (da_cons de_int da_nil))) da_nil)) (da_cons (de_call h__law_prod hr z (List.Mem.head _) (da_cons (de_call h__law_core hr z (List.Mem.head _) (da_cons (de_var (i := 0)) (da_cons (de_var (i := 1)) da_nil))) (da_cons (de_call h__law_grid hr z (List.Mem.head _) (da_cons (de_call h__law_word hr z (List.Mem.head _) (da_cons (de_var (i := 0)) (da_cons de_int da_nil))) da_nil)) da_nil))) da_nil))))
    (dss_cons (ds_set (i := 3) hnd (de_call h__law_of hr z (List.Mem.head _) (da_cons (de_var (i := 0)) (da_cons (de_lst (da_cons de_int (da_cons de_int (da_cons de_int (da_cons de_int (da_cons de_int da_nil)))))) da_nil))))
    (dss_cons (ds_set (i := 2) hnd (de_tuple1 T.n_tuple (da_cons (de_lc rfl hnd (di_tup (de_var (i := 2))) (blkOk_by (own := [("_law_entry", 4)]) (by rfl)) (tg_name (i := 4) (by decide)) (fun _ _ _ _ _ => (pg_name (i := 4) hnd rfl (by first | exact Or.inl rfl | exact Or.inr rfl) (by first | exact .inl rfl | exact .inr rfl))) (fun _ _ _ _ _ _ => dts_nil) (fun _ _ _ _ _ _ => (de_mul (de_var (i := 3)) (de_var (i := 4))))) da_nil)))
    (dss_one (ds_ret (de_if (dt_eq hr (de_call h__law_pick hr z (List.Mem.head _) (da_cons (de_var (i := 0)) (da_cons de_int da_nil))) de_int) (de_tup (da_cons (de_ix (de_var (i := 2)) de_int) (da_cons (de_ix (de_var (i := 2)) de_int) (da_cons (de_ix (de_var (i := 2)) de_int) (da_cons (de_ix (de_var (i := 2)) de_int) da_nil))))) (de_var (i := 2)))))))), fun ds Ψ hl hc => ?_⟩
  obtain ⟨p, cap, rfl, hh, c0, c1, q⟩ := hc
  refine ⟨rfl, rfl, p, 3, rfl, hh, by decide, by decide, fun w1 M1 hw1 hl1 d1 => ?_⟩
  have hz1 : w1.length ≤ 3 := by omega
  refine ⟨rfl, rfl, _, rfl, (show w1.length ≤ 400000 by omega), ?_⟩
  refine ⟨rfl, rfl, p, cap, rfl, d1.1, by omega, by omega, fun t0 M2 sm0 nn0 dt0 dc0 le0 d2 => ?_⟩
  refine ⟨rfl, rfl, p, 3, rfl, d2.1, by decide, by decide, fun w2 M3 hw2 hl2 d3 => ?_⟩
  have hz2 : w2.length ≤ 3 := by omega
  refine ⟨rfl, rfl, _, rfl, (show w2.length ≤ 400000 by omega), ?_⟩
  have sw1 : Sm 7 (wL w1) := (sm_wL w1).mono (by omega)
  have sw2 : Sm 7 (wL w2) := (sm_wL w2).mono (by omega)
  refine ⟨rfl, rfl, t0, wL w2, 10, 7, rfl, sm0, sw2, by decide, by decide, by decide, ?_⟩
  refine ⟨rfl, rfl, wL w1, _, 7, _, rfl, sw1, sm0.mul sw2, by decide, by decide, by decide, ?_⟩
  have smt := sw1.mul (sm0.mul sw2)
  have nnt := (nn_wL w1).mul (nn0.mul (nn_wL w2))
  have dtt : 0 < det4 (mul4 (wL w1) (mul4 t0 (wL w2))) := by
    rw [det_mul, det_mul, det_wL, det_wL, Int.one_mul, Int.mul_one]
    exact dt0
  have hc1 : Le4 ((6 * cap : Nat) : Int) (mul4 t0 (wL w2)) := by
    obtain ⟨b1, b2, b3, b4⟩ := w3_le hw2 hz2
    have k1 : Le4 (2 * cap * 3) (mul4 t0 (wL w2)) := Le4.mul nn0 le0 ⟨b1, b2, b3, b4⟩ (by decide)
    rw [show (2 * (cap : Int) * 3) = ((6 * cap : Nat) : Int) by omega] at k1
    exact k1
  have hc2 := hc1.sum (nn0.mul (nn_wL w2))
  have hdc : det4 (mul4 t0 (wL w2)) = det4 t0 := by rw [det_mul, det_wL, Int.mul_one]
  have ml : ∀ (m : Int) t, 1 ≤ m → m ≤ 3 → (t = sc m (mul4 (wL w1) (mul4 t0 (wL w2))) ∨ t = sw4' (sc m (mul4 (wL w1) (mul4 t0 (wL w2))))) → Mil1 cap t := fun m t a b e => by
    refine mil1_mk hw1 hz1 (nn0.mul (nn_wL w2)) (by omega) (by omega) (by omega) ?_ c1 a b e
    obtain ⟨a1, a2, a3, a4⟩ := w3_le hw1 hz1
    have k2 : Le4 (2 * 3 * ((6 * cap : Nat) : Int)) (mul4 (wL w1) (mul4 t0 (wL w2))) := Le4.mul (nn_wL w1) ⟨a1, a2, a3, a4⟩ hc1 (by omega)
    rw [show (2 * 3 * ((6 * cap : Nat) : Int)) = 36 * cap by omega] at k2
    exact k2
  generalize mul4 (wL w1) (mul4 t0 (wL w2)) = t at smt ml ⊢
  refine ⟨ln (n := 5) rfl (by decide), ?_⟩
  refine ⟨rfl, rfl, p, _, _, rfl, d3.1, rfl, by decide, by decide, fun d M4 hd d4 => ?_⟩
  obtain ⟨m, m0, m1, rfl⟩ : ∃ m : Int, 0 < m ∧ m ≤ 3 ∧ d = .int m := by
    simp only [List.mem_cons, List.not_mem_nil, or_false] at hd
    rcases hd with rfl | rfl | rfl | rfl | rfl
    · exact ⟨1, by decide, by decide, rfl⟩
    · exact ⟨1, by decide, by decide, rfl⟩
    · exact ⟨1, by decide, by decide, rfl⟩
    · exact ⟨2, by decide, by decide, rfl⟩
    · exact ⟨3, by decide, by decide, rfl⟩
  refine compD_map (xs := tL t) (S := fun _ => True) (fun K h => ⟨_, rfl, h⟩) (mulB m) trivial (ln (n := 4) rfl (by decide)) (fun d hd Q h => ?_) ?_
  · unfold tL at hd
    simp only [List.mem_cons, List.not_mem_nil, or_false] at hd
    have hm : m.natAbs < 2 ^ 40 := by omega
    rcases hd with rfl | rfl | rfl | rfl <;> exact ⟨mok_l hm, h⟩
  have e4 : (tL t).map (mulB m) = tL (sc m t) := rfl
  rw [e4]
  have ml1 : Mil1 cap (sc m t) := ml m _ (by omega) m1 (.inl rfl)
  have ml2 : Mil1 cap (sw4' (sc m t)) := ml m _ (by omega) m1 (.inr rfl)
  generalize sc m t = u at ml1 ml2 ⊢
  have dr4 := ((d1.trans d2).trans d3).trans d4
  refine ⟨_, rfl, ?_⟩
  refine ⟨rfl, rfl, p, 3, rfl, d4.1, by decide, by decide, fun k M5 k0 k1 d5 => ?_⟩
  refine eqI ?_
  refine bl_c (fun _ => ?_) (fun _ => ?_)
  · exact ⟨ln (n := 4) rfl (by decide), _, _, .same, q (sw4' u) M5 ml2 (dr4.trans d5)⟩
  · exact ⟨_, _, .same, q u M5 ml1 (dr4.trans d5)⟩
def c__law_some : Ct := fun ds M Ψ _ => ∃ (p : Addr) (n : Int), ds = [.ref p, .int n] ∧ HandAt M p ∧ 1 ≤ n ∧ n ≤ 1000 ∧ ∀ w M', LR w → w ≠ [] → (w.length : Int) ≤ n → Dr p M M' → Ψ (.str ⟨w.toArray⟩) M'
theorem ok__law_some {f : Addr} {fd : FuncData} {dvs : List V} {kws : List (Str × V)} (T : Txt K mg) (h__law_of : Gf P w K mg base "_law_of" 3 (c__law_of) b__law_of) (h__law_word : Gf P w K mg base "_law_word" 4 (c__law_word) b__law_word) (F : FnZ K "_law_some" "_law_some" s__law_some dvs kws f fd) : FnOk P w K mg base (L2.CX P w) 5 f fd ["_law_hand_here", "_law_peak"] (spC K ["_law_hand_here", "_law_peak"].length (c__law_some)) := by
  have hnd := sc__law_some.nd
  refine fnD F sc__law_some (c__law_some) fun cdv A outer s H E B Ξ hr z => ⟨_, (dss_one (ds_ret (de_add (de_call h__law_of hr z (List.Mem.head _) (da_cons (de_var (i := 0)) (da_cons de_str da_nil))) (de_call h__law_word hr z (List.Mem.head _) (da_cons (de_var (i := 0)) (da_cons (de_sub (de_var (i := 1)) de_int) da_nil)))))), fun ds Ψ hl hc => ?_⟩
  obtain ⟨p, n, rfl, hh, n0, n1, q⟩ := hc
  refine ⟨rfl, rfl, p, _, _, rfl, hh, rfl, (by decide), (by decide), fun d M1 hd d1 => ?_⟩
  obtain ⟨c, hc, rfl⟩ := signs_mem hd
  have hc := lr_mem.mp hc
  refine ⟨rfl, rfl, p, n - 1, rfl, d1.1, by omega, by omega, fun w M2 lw hw d2 => ?_⟩
  rw [one_w]
  refine add_w (by show 1 ≤ 400000; decide) (by omega) ?_
  exact ⟨_, _, .same, q _ _ (LR.app (fun x hx => by have : x = c := by simpa using hx
                                                    rw [this]; exact hc) lw) (by simp) (by rw [List.length_append]; show ((1 + w.length : Nat) : Int) ≤ n; omega) (d1.trans d2)⟩
def c__law_leaf : Ct := fun ds M Ψ _ => ∃ (p : Addr) (ks : List Str), ds = [.ref p, .lst (ks.map .str)] ∧ HandAt M p ∧ ks.length ≤ 100 ∧ (∀ x ∈ ks, NameOk x) ∧ ∀ q M', PgOk q → pgIn q = [] → (∀ x ∈ pgU q, x ∈ ks) → Dr p M M' → Ψ (pgD q) M'
theorem ok__law_leaf {f : Addr} {fd : FuncData} {dvs : List V} {kws : List (Str × V)} (T : Txt K mg) (h__law_pick : Gf P w K mg base "_law_pick" 2 (c__law_pick) b__law_pick) (h__law_of : Gf P w K mg base "_law_of" 3 (c__law_of) b__law_of) (h__law_mill : Gf P w K mg base "_law_mill" 5 (c__law_mill) b__law_mill) (h__law_some : Gf P w K mg base "_law_some" 5 (c__law_some) b__law_some) (h__law_core : Gf P w K mg base "_law_core" 4 (c__law_core) b__law_core) (F : FnZ K "_law_leaf" "_law_leaf" s__law_leaf dvs kws f fd) : FnOk P w K mg base (L2.CX P w) 6 f fd ["_law_hand_here", "_law_known"] (spC K ["_law_hand_here", "_law_known"].length (c__law_leaf)) := by
  have hnd := sc__law_leaf.nd
  refine fnD F sc__law_leaf (c__law_leaf) fun cdv A outer s H E B Ξ hr z => ⟨_, (dss_cons (ds_if (dw_and (dt_ne hr (de_var (i := 1)) (de_lst da_nil)) (dw_and1 (dt_eq hr (de_call h__law_pick hr z (List.Mem.head _) (da_cons (de_var (i := 0)) (da_cons de_int da_nil))) de_int))).pt (dss_one (ds_ret (de_tup (da_cons de_str (da_cons (de_call h__law_of hr z (List.Mem.head _) (da_cons (de_var (i := 0)) (da_cons (de_var (i := 1)) da_nil))) da_nil))))) dss_nil)
    (dss_cons (ds_set (i := 2) hnd (de_call h__law_mill hr z (List.Mem.head _) (da_cons (de_var (i := 0)) (da_cons de_int da_nil))))
    (dss_cons (ds_set (i := 2) hnd (de_ifV (dt_lt (de_maxA rfl hr T.n_max (da_cons (de_var (i := 2)) da_nil)) de_int) (de_var (i := 2)) (de_tup (da_cons de_int (da_cons de_int (da_cons de_int (da_cons de_int da_nil)))))))
    (dss_one (ds_ret (de_call h__law_of hr z (List.Mem.head _) (da_cons (de_var (i := 0)) (da_cons (de_lst (da_cons (de_tup (da_cons de_str (da_cons (de_var (i := 2)) da_nil))) (da_cons (de_tup (da_cons de_str (da_cons (de_call h__law_some hr z (List.Mem.head _) (da_cons (de_var (i := 0)) (da_cons de_int da_nil))) da_nil))) (da_cons (de_tup (da_cons de_str da_nil)) (da_cons (de_tup (da_cons de_str (da_cons (de_call h__law_core hr z (List.Mem.head _) (da_cons (de_var (i := 0)) (da_cons de_int da_nil))) da_nil))) da_nil))))) da_nil)))))))), fun ds Ψ hl hc => ?_⟩
  obtain ⟨p, ks, rfl, hh, hl, hks, q⟩ := hc
  rw [show ent (["_law_hand_here", "_law_known", "_law_entries"] : List Str).length [D.ref p, .lst (ks.map .str)] = [some (.ref p), some (.lst (ks.map .str)), none] from rfl]
  try dsimp only [List.set, getS_z, getS_s, bin2, bin2T, ltD, leD, gtD, geD, cmp_i, add_i, sub_i, min2_i, max2_i]
  refine ⟨ln (n := 0) rfl (by decide), nePlL rfl rfl (PlL.of (n := 0) fun d hd => ?_) (PlL.nil (n := 0)) (fun b hb => ?_)⟩
  · obtain ⟨x, hx, rfl⟩ := List.mem_map.mp hd
    exact .str (strOk_of fun c hc => by have := (hks x hx).2.2.2.2 c hc; omega)
  refine bl_c (fun e => ?_) (fun e => ?_)
  · refine ite_t rfl ?_
    refine ⟨rfl, rfl, p, 3, rfl, hh, by decide, by decide, fun k M1 k0 k1 dr => ?_⟩
    refine eqI ?_
    refine bl_c (fun e2 => ?_) (fun e2 => ?_)
    · refine ite_t rfl ?_
      have ks0 : ks ≠ [] := fun z => by
        rw [z] at hb
        rw [hb.mpr rfl] at e
        simp at e
      have kp : 0 < ks.length := List.length_pos_iff.mpr ks0
      refine ⟨rfl, rfl, p, _, _, rfl, dr.1, rfl, by rw [List.length_map]; exact kp, by rw [List.length_map]; omega, fun d M2 hd d2 => ?_⟩
      obtain ⟨x, hx, rfl⟩ := List.mem_map.mp hd
      refine ⟨ln (n := 2) rfl (by decide), _, _, .same, ?_⟩
      have := q (.use x) M2 (hks x hx) rfl (by simp [pgU, hx]) (dr.trans d2)
      rw [pgD] at this
      exact this
    · refine ite_f rfl ?_
      refine ⟨rfl, rfl, p, 3, rfl, dr.1, by decide, by decide, fun t M2 ml d2 => ?_⟩
      obtain ⟨hm, hle⟩ := foldl_max [t.2.1, t.2.2.1, t.2.2.2] t.1
      refine ⟨t.1, [t.2.1, t.2.2.1, t.2.2.2], .inr rfl, ?_⟩
      generalize [t.2.1, t.2.2.1, t.2.2.2].foldl max t.1 = m at *
      have okt : ∃ t' : T4, TabOk t' ∧ (m < 61 → t' = t) ∧ (¬ m < 61 → t' = (2, 1, 0, 1)) := by
        by_cases e : m < 61
        · refine ⟨t, ⟨ml.nn, ?_, ?_, ?_, ?_, ml.det⟩, fun _ => rfl, fun h => absurd e h⟩
          · have := hle t.1 (by simp); omega
          · have := hle t.2.1 (by simp); omega
          · have := hle t.2.2.1 (by simp); omega
          · have := hle t.2.2.2 (by simp); omega
        · exact ⟨(2, 1, 0, 1), ⟨⟨by decide, by decide, by decide, by decide⟩, by decide, by decide, by decide, by decide, by decide⟩, fun h => absurd h e, fun _ => rfl⟩
      obtain ⟨t', ht', et1, et2⟩ := okt
      refine bl_v ?_
      refine ⟨tD t', fun e => ?_, fun e => ?_, ?_⟩
      · rw [et1 (of_decide_eq_true e)]
        exact ⟨rfl, rfl⟩
      · rw [et2 (of_decide_eq_false e)]
        exact ⟨(Nat.le_of_ble_eq_true rfl), rfl, rfl⟩
      refine ⟨ln (n := 2) rfl (by decide), rfl, rfl, p, 4, rfl, d2.1, by decide, by decide, fun w M3 lw wn w4 d3 => ?_⟩
      refine ⟨ln (n := 2) rfl (by decide), ln (n := 1) rfl (by decide), rfl, rfl, p, 4, rfl, d3.1, by decide, by decide, fun c M4 _ cn cd _ cl d4 => ?_⟩
      refine ⟨ln (n := 2) rfl (by decide), ln (n := 4) rfl (by decide), rfl, rfl, p, _, _, rfl, d4.1, rfl, (Nat.le_of_ble_eq_true rfl), (Nat.le_of_ble_eq_true rfl), fun d M5 hd d5 => ?_⟩
      have hdr : Dr p B.M M5 := (((dr.trans d2).trans d3).trans d4).trans d5
      have fin : ∀ pg : Pg, d = pgD pg → PgOk pg → pgIn pg = [] → pgU pg = [] → rtF B.M Ψ d M5 := fun pg e a b c => by
        rw [e]
        exact ⟨_, _, .same, q pg M5 a b (by rw [c]; simp) hdr⟩
      simp only [List.mem_cons, List.not_mem_nil, or_false] at hd
      rcases hd with hd | hd | hd | hd
      · exact fin (.tab t') (by rw [hd, pgD]) ht' rfl (by simp [pgU])
      · refine fin (.trn ⟨w.toArray⟩) (by rw [hd, pgD]) ⟨by simpa using lw, ?_, ?_⟩ rfl (by simp [pgU])
        · have : 0 < w.length := List.length_pos_iff.mpr wn
          show 1 ≤ w.toArray.size
          rw [List.size_toArray]
          omega
        · show w.toArray.size ≤ 60
          rw [List.size_toArray]
          omega
      · exact fin .swp (by rw [hd, pgD]) trivial rfl (by simp [pgU])
      · obtain ⟨c1, c2, c3, c4⟩ := cl
        exact fin (.tab c) (by rw [hd, pgD]) ⟨cn, by omega, by omega, by omega, by omega, by omega⟩ rfl (by simp [pgU])
  · refine ite_f rfl ?_
    have dr : Dr p B.M B.M := Dr.refl hh
    refine ⟨rfl, rfl, p, 3, rfl, dr.1, by decide, by decide, fun t M2 ml d2 => ?_⟩
    obtain ⟨hm, hle⟩ := foldl_max [t.2.1, t.2.2.1, t.2.2.2] t.1
    refine ⟨t.1, [t.2.1, t.2.2.1, t.2.2.2], .inr rfl, ?_⟩
    generalize [t.2.1, t.2.2.1, t.2.2.2].foldl max t.1 = m at *
    have okt : ∃ t' : T4, TabOk t' ∧ (m < 61 → t' = t) ∧ (¬ m < 61 → t' = (2, 1, 0, 1)) := by
      by_cases e : m < 61
      · refine ⟨t, ⟨ml.nn, ?_, ?_, ?_, ?_, ml.det⟩, fun _ => rfl, fun h => absurd e h⟩
        · have := hle t.1 (by simp); omega
        · have := hle t.2.1 (by simp); omega
        · have := hle t.2.2.1 (by simp); omega
        · have := hle t.2.2.2 (by simp); omega
      · exact ⟨(2, 1, 0, 1), ⟨⟨by decide, by decide, by decide, by decide⟩, by decide, by decide, by decide, by decide, by decide⟩, fun h => absurd h e, fun _ => rfl⟩
    obtain ⟨t', ht', et1, et2⟩ := okt
    refine bl_v ?_
    refine ⟨tD t', fun e => ?_, fun e => ?_, ?_⟩
    · rw [et1 (of_decide_eq_true e)]
      exact ⟨rfl, rfl⟩
    · rw [et2 (of_decide_eq_false e)]
      exact ⟨(Nat.le_of_ble_eq_true rfl), rfl, rfl⟩
    refine ⟨ln (n := 2) rfl (by decide), rfl, rfl, p, 4, rfl, d2.1, by decide, by decide, fun w M3 lw wn w4 d3 => ?_⟩
    refine ⟨ln (n := 2) rfl (by decide), ln (n := 1) rfl (by decide), rfl, rfl, p, 4, rfl, d3.1, by decide, by decide, fun c M4 _ cn cd _ cl d4 => ?_⟩
    refine ⟨ln (n := 2) rfl (by decide), ln (n := 4) rfl (by decide), rfl, rfl, p, _, _, rfl, d4.1, rfl, (Nat.le_of_ble_eq_true rfl), (Nat.le_of_ble_eq_true rfl), fun d M5 hd d5 => ?_⟩
    have hdr : Dr p B.M M5 := (((dr.trans d2).trans d3).trans d4).trans d5
    have fin : ∀ pg : Pg, d = pgD pg → PgOk pg → pgIn pg = [] → pgU pg = [] → rtF B.M Ψ d M5 := fun pg e a b c => by
      rw [e]
      exact ⟨_, _, .same, q pg M5 a b (by rw [c]; simp) hdr⟩
    simp only [List.mem_cons, List.not_mem_nil, or_false] at hd
    rcases hd with hd | hd | hd | hd
    · exact fin (.tab t') (by rw [hd, pgD]) ht' rfl (by simp [pgU])
    · refine fin (.trn ⟨w.toArray⟩) (by rw [hd, pgD]) ⟨by simpa using lw, ?_, ?_⟩ rfl (by simp [pgU])
      · have : 0 < w.length := List.length_pos_iff.mpr wn
        show 1 ≤ w.toArray.size
        rw [List.size_toArray]
        omega
      · show w.toArray.size ≤ 60
        rw [List.size_toArray]
        omega
    · exact fin .swp (by rw [hd, pgD]) trivial rfl (by simp [pgU])
    · obtain ⟨c1, c2, c3, c4⟩ := cl
      exact fin (.tab c) (by rw [hd, pgD]) ⟨cn, by omega, by omega, by omega, by omega, by omega⟩ rfl (by simp [pgU])
def c__law_shape (dp : Nat) : Ct := fun ds M Ψ _ => ∃ (p : Addr) (n : Nat) (ks : List Str), ds = [.ref p, .int n, .lst (ks.map .str)] ∧ HandAt M p ∧ n + 1 ≤ dp ∧ n ≤ 8 ∧ ks.length ≤ 100 ∧ (∀ x ∈ ks, NameOk x) ∧ ∀ q M', PgOk q → pgK q ≤ n + 1 → pgN q ≤ shB n → (∀ x ∈ pgU q, x ∈ ks) → Dr p M M' → Ψ (pgD q) M'
theorem no__law_shape : ∀ (ds : List D) (M : Sto) (Ψ : PD) (Ξ : XD → Sto → Prop), ¬ c__law_shape 0 ds M Ψ Ξ := fun _ _ _ _ ⟨_, n, _, _, _, hk, _⟩ => by omega
theorem ok__law_shape {f : Addr} {fd : FuncData} {dvs : List V} {kws : List (Str × V)} (T : Txt K mg) {lv dp : Nat} (hlv : 6 ≤ lv) (h__law_shape : Gf P w K mg base "_law_shape" lv (c__law_shape dp) b__law_shape) (h__law_pick : Gf P w K mg base "_law_pick" 2 (c__law_pick) b__law_pick) (h__law_leaf : Gf P w K mg base "_law_leaf" 6 (c__law_leaf) b__law_leaf) (h__law_of : Gf P w K mg base "_law_of" 3 (c__law_of) b__law_of) (F : FnZ K "_law_shape" "_law_shape" s__law_shape dvs kws f fd) : FnOk P w K mg base (L2.CX P w) (lv + 1) f fd ["_law_hand_here", "_law_deep", "_law_known"] (spC K ["_law_hand_here", "_law_deep", "_law_known"].length (c__law_shape (dp + 1))) := by
  have hnd := sc__law_shape.nd
  refine fnD F sc__law_shape (c__law_shape (dp + 1)) fun cdv A outer s H E B Ξ hr z => ⟨_, (dss_cons (ds_set (i := 3) hnd (de_call (hj := by omega) h__law_pick hr z (List.Mem.head _) (da_cons (de_var (i := 0)) (da_cons de_int da_nil))))
    (dss_cons (ds_if (dw_orV (dt_eq hr (de_var (i := 1)) de_int) (dw_or1 (dt_lt (de_var (i := 3)) de_int))).pt (dss_one (ds_ret (de_call (hj := by omega) h__law_leaf hr z (List.Mem.head _) (da_cons (de_var (i := 0)) (da_cons (de_var (i := 2)) da_nil))))) dss_nil)
    (dss_cons (ds_if (dt_eq hr (de_var (i := 3)) de_int) (dss_one (ds_ret (de_tup (da_cons de_str (da_cons (de_call (hj := by omega) h__law_of hr z (List.Mem.head _) (da_cons (de_var (i := 0)) (da_cons (de_lst (da_cons de_int (da_cons de_int (da_cons de_int (da_cons de_int (da_cons de_int da_nil)))))) da_nil))) (da_cons (de_call (hj := by omega) h__law_shape hr z (List.Mem.head _) (da_cons (de_var (i := 0)) (da_cons (de_sub (de_var (i := 1)) de_int) (da_cons (de_var (i := 2)) da_nil)))) da_nil)))))) dss_nil)
    (dss_one (ds_ret (de_add (de_tup (da_cons de_str da_nil)) (de_tuple1 T.n_tuple (da_cons (de_lc rfl hnd (di_range1 T.n_range (da_cons (de_add de_int (de_call (hj := by omega) h__law_of hr z (List.Mem.head _) (da_cons (de_var (i := 0)) (da_cons (de_lst (da_cons de_int (da_cons de_int (da_cons de_int (da_cons de_int da_nil))))) da_nil)))) da_nil)) (blkOk_by (own := [("_law_k", 4)]) (by rfl)) (tg_name (i := 4) (by decide)) (fun _ _ _ _ _ => (pg_name (i := 4) hnd rfl (by first | exact Or.inl rfl | exact Or.inr rfl) (by first | exact .inl rfl | exact .inr rfl))) (fun _ _ _ _ _ _ => dts_nil) (fun _ _ _ _ _ _ => (de_call (hj := by omega) h__law_shape hr zx_blk (List.Mem.head _) (da_cons (de_var (i := 0)) (da_cons (de_sub (de_var (i := 1)) de_int) (da_cons (de_var (i := 2)) da_nil)))))) da_nil)))))))), fun ds Ψ hl hc => ?_⟩
  obtain ⟨p, n, ks, rfl, hh, hn, hn8, hkl, hks, q⟩ := hc
  rw [show ent (["_law_hand_here", "_law_deep", "_law_known", "_law_way", "_law_k"] : List Str).length [D.ref p, .int n, .lst (ks.map .str)] = [some (.ref p), some (.int n), some (.lst (ks.map .str)), none, none] from rfl]
  try dsimp only [List.set, getS_z, getS_s, bin2, bin2T, ltD, leD, gtD, geD, cmp_i, add_i, sub_i, min2_i, max2_i]
  refine ⟨rfl, rfl, p, 6, rfl, hh, by decide, by decide, fun k M1 k0 k1 dr => ?_⟩
  refine eqI ?_
  refine bl_v ?_
  refine ⟨decide (k < 2), fun e => bl_v ⟨rfl, rfl⟩, ?_⟩
  by_cases e : n = 0 ∨ k < 2
  · refine ite_t (by rcases e with e | e; rw [e]; rfl; rw [decide_eq_true e, Bool.or_true]) ?_
    refine ⟨rfl, rfl, p, ks, rfl, dr.1, hkl, hks, fun pg M2 po pi pu d2 => ⟨_, _, .same, q pg M2 po ?_ ?_ pu (dr.trans d2)⟩⟩
    · have := (leaf_k pi po).1
      omega
    · have := (leaf_k pi po).2
      have := shB_pos n
      omega
  have en : ¬ n = 0 := fun z => e (.inl z)
  refine ite_f (by rw [decide_eq_false (by omega : ¬ (n : Int) = 0), decide_eq_false fun z => e (.inr z)]; rfl) ?_
  obtain ⟨n, rfl⟩ : ∃ m, n = m + 1 := ⟨n - 1, by omega⟩
  have e1 : ((n + 1 : Nat) : Int) - 1 = (n : Int) := by omega
  refine eqI ?_
  refine bl_c (fun e2 => ?_) (fun e2 => ?_)
  · refine ite_t rfl ?_
    refine ⟨ln (n := 5) rfl (by decide), rfl, rfl, p, _, _, rfl, dr.1, rfl, (Nat.le_of_ble_eq_true rfl), (Nat.le_of_ble_eq_true rfl), fun d M2 hd d2 => ?_⟩
    obtain ⟨m, rfl, m0, m1⟩ : ∃ m : Int, d = .int m ∧ 0 ≤ m ∧ m ≤ 12 := by
      simp only [List.mem_cons, List.not_mem_nil, or_false] at hd
      rcases hd with rfl | rfl | rfl | rfl | rfl
      · exact ⟨0, rfl, by decide, by decide⟩
      · exact ⟨1, rfl, by decide, by decide⟩
      · exact ⟨2, rfl, by decide, by decide⟩
      · exact ⟨3, rfl, by decide, by decide⟩
      · exact ⟨12, rfl, by decide, by decide⟩
    rw [e1]
    refine ⟨rfl, rfl, p, n, ks, rfl, d2.1, by omega, by omega, hkl, hks, fun pg M3 po pk pn pu d3 => ⟨ln (n := 3) rfl (by decide), _, _, .same, ?_⟩⟩
    have := q (.tms m pg) M3 ⟨⟨m0, m1⟩, po⟩ (by rw [pgK]; omega) (by rw [pgN, shB]; have := shB_pos n; omega) (by rw [pgU]; exact pu) ((dr.trans d2).trans d3)
    rw [pgD] at this
    exact this
  refine ite_f rfl ?_
  refine ⟨ln (n := 1) rfl (by decide), ?_⟩
  refine compD_of (fun xs S M2 => ∃ j : Nat, 2 ≤ j ∧ j ≤ 6 ∧ xs = rngD 0 j ∧ S = (fun _ => True) ∧ Dr p B.M M2) (fun K h => ?_) (fun xs S M2 ⟨j, j0, j1, ex1, ex2, dr2⟩ => ?_)
  · refine ⟨ln (n := 4) rfl (by decide), rfl, rfl, p, _, _, rfl, dr.1, rfl, (Nat.le_of_ble_eq_true rfl), (Nat.le_of_ble_eq_true rfl), fun d M2 hd d2 => ?_⟩
    have hd : ∃ m : Nat, d = .int (m : Int) ∧ m ≤ 4 := by
      simp only [List.mem_cons, List.not_mem_nil, or_false] at hd
      rcases hd with rfl | rfl | rfl | rfl
      · exact ⟨0, rfl, by decide⟩
      · exact ⟨0, rfl, by decide⟩
      · exact ⟨1, rfl, by decide⟩
      · exact ⟨4, rfl, by decide⟩
    obtain ⟨m, rfl, m1⟩ := hd
    exact ⟨⟨by omega, by omega⟩, h _ _ _ ⟨m + 2, by omega, by omega, by rw [show ((2 : Int) + (m : Int)).toNat = m + 2 by omega], rfl, dr.trans d2⟩⟩
  subst ex1 ex2
  refine comp_st (Dr p B.M) (fun _ y => ∃ pg, y = pgD pg ∧ PgOk pg ∧ pgK pg ≤ n + 1 ∧ pgN pg ≤ shB n ∧ ∀ x ∈ pgU pg, x ∈ ks) dr2 (fun _ _ => trivial) (by rw [rng_len]; exact Nat.le_trans (by omega) big_ok) (fun d hd M' I Q hQ => ?_) (fun acc M' I hl2 hy => ?_)
  · exact ⟨rfl, rfl, p, n, ks, by rw [← e1], I.1, by omega, by omega, hkl, hks, fun pg M3 po pk pn pu d3 => hQ _ _ (I.trans d3) ⟨pg, rfl, po, pk, pn, pu⟩⟩
  · have hall : ∀ y ∈ acc, ∃ pg, y = pgD pg ∧ PgOk pg ∧ pgK pg ≤ n + 1 ∧ pgN pg ≤ shB n ∧ ∀ x ∈ pgU pg, x ∈ ks := fun y hm => by
      obtain ⟨i, hi, e⟩ := List.getElem_of_mem hm
      have hi2 : i < (rngD 0 j).length := hl2 ▸ hi
      exact hy i _ y (List.getElem?_eq_getElem hi2) (by rw [List.getElem?_eq_getElem hi, e])
    obtain ⟨l, rfl, el, hp⟩ := pgDs_of hall
    rw [rng_len] at hl2
    refine ⟨_, rfl, ?_⟩
    refine ⟨Nat.le_trans (show 1 + (pgDs l).length ≤ 1000000 by omega) big_ok, _, _, .same, ?_⟩
    have := q (.thn l) M' ⟨⟨by omega, by omega⟩, pgOks_iff.mpr fun x hx => (hp x hx).1⟩ (by rw [pgK]; have := pgKs_le (l := l) (k := n + 1) fun x hx => (hp x hx).2.1; omega) (by
      rw [pgN, shB]
      have h1 := pgNs_le (l := l) (k := shB n) fun x hx => (hp x hx).2.2.1
      have h2 : l.length * shB n ≤ 6 * shB n := Nat.mul_le_mul_right _ (by omega)
      omega) (by rw [pgU]; exact pgUs_sub fun x hx => (hp x hx).2.2.2) I
    rw [pgD] at this
    exact this
def c_is_integer : Ct := fun ds M Ψ _ => ∃ d t, ds = [d] ∧ tyN M d = some t ∧ Ψ (.bl (isIn M d)) M
theorem ok_is_integer {f : Addr} {fd : FuncData} {dvs : List V} {kws : List (Str × V)} (T : Txt K mg)  (F : FnZ K "is_integer" "is_integer" s_is_integer dvs kws f fd) : FnOk P w K mg base (L2.CX P w) 2 f fd ["value"] (spC K ["value"].length (c_is_integer)) := by
  have hnd := sc_is_integer.nd
  refine fnD F sc_is_integer (c_is_integer) fun cdv A outer s H E B Ξ hr z => ⟨_, (dss_one (ds_ret (de_and (de_isi T.n_isinstance (da_cons (de_var (i := 0)) (da_cons (de_ty (n := "int") T.n_int (by decide +kernel)) da_nil))) (de_and1 (de_not (de_isi T.n_isinstance (da_cons (de_var (i := 0)) (da_cons (de_ty (n := "bool") T.n_bool (by decide +kernel)) da_nil)))))))), fun ds Ψ hl hc => ?_⟩
  obtain ⟨d, t, rfl, ht, q⟩ := hc
  refine ⟨by decide, t, ht, ?_⟩
  unfold isIn at q
  rw [ht] at q
  have h7 := tyN_ok ht
  simp only [okTy, List.mem_cons, List.not_mem_nil, or_false] at h7
  rcases h7 with rfl | rfl | rfl | rfl | rfl | rfl | rfl
  all_goals first
    | exact bl_f rfl ⟨_, _, .same, q⟩
    | exact bl_t rfl ⟨by decide, _, ht, bl_t rfl ⟨_, _, .same, q⟩⟩
    | exact bl_t rfl ⟨by decide, _, ht, bl_f rfl ⟨_, _, .same, q⟩⟩
def c_Tabled_initd (C CI : Addr) : Ct := fun ds M Ψ Ξ => ∃ p a b c d, ds = [.ref p, a, b, c, d] ∧ M p = some (.ins C []) ∧ (∀ e ∈ [a, b, c, d], ∃ t, tyN M e = some t) ∧
  (∀ t : T4, [a, b, c, d] = tL t → (∃ n, 0 < n ∧ n ≤ 500000 ∧ Sm n t) ∧ (det4 t ≠ 0 → Ψ .non (updM M p (.ins C [("whole", tD t)]))) ∧ (det4 t = 0 → Ξ (CI, [("tag", .str "InvalidTable")]) M)) ∧
  ((∃ e ∈ [a, b, c, d], isIn M e = false) → Ξ (CI, [("tag", .str "InvalidTable")]) M)
theorem mk_tab {C CI : Addr} {t : T4} {r : En} {M : Sto} {Ψ : PD} {Ξ : XD → En → Sto → Prop} {n : Nat} (h0 : 0 < n) (hn : n ≤ 500000) (hs : Sm n t) (hd : det4 t ≠ 0) (q : Ψ (tab C t) M) : mkD 4 0 (fun ds _ => ds) C (c_Tabled_initd C CI) Ξ (tL t) [] r M Ψ := by
  refine ⟨rfl, rfl, fun p hp => ⟨p, _, _, _, _, rfl, updM_same, fun e he => ?_, fun t' e => ?_, fun ⟨e, he, hi⟩ => ?_⟩⟩
  · simp only [List.mem_cons, List.not_mem_nil, or_false] at he
    rcases he with rfl | rfl | rfl | rfl <;> exact ⟨_, rfl⟩
  · have et : t = t' := by
      unfold tL at e
      simp only [List.cons.injEq, D.int.injEq, and_true] at e
      obtain ⟨e1, e2, e3, e4⟩ := e
      exact Prod.ext e1 (Prod.ext e2 (Prod.ext e3 e4))
    subst et
    exact ⟨⟨n, h0, hn, hs⟩, fun _ => ⟨rfl, _, updM_updM, q⟩, fun z => absurd z hd⟩
  · simp only [List.mem_cons, List.not_mem_nil, or_false] at he
    rcases he with rfl | rfl | rfl | rfl <;> (unfold isIn at hi; simp [tyN] at hi)
theorem ok_Tabled_initd {f : Addr} {fd : FuncData} {dvs : List V} {kws : List (Str × V)} (T : Txt K mg) (h_is_integer : Gf P w K mg base "is_integer" 2 (c_is_integer) b_is_integer) (x_InvalidTable : Xf P w K mg base "InvalidTable" (He.ga K "InvalidTable") 0 (tag1 "InvalidTable")) (F : FnZ K "__init__" "Table.__init__" s_Tabled_initd dvs kws f fd) : FnOk P w K mg base (L2.CX P w) 3 f fd ["self", "a", "b", "c", "d"] (spC K ["self", "a", "b", "c", "d"].length (c_Tabled_initd (He.ga K "Table") (He.ga K "InvalidTable"))) := by
  have hnd := sc_Tabled_initd.nd
  refine fnD F sc_Tabled_initd (c_Tabled_initd (He.ga K "Table") (He.ga K "InvalidTable")) fun cdv A outer s H E B Ξ hr z => ⟨_, (dss_cons (ds_if (dw_or (dt_not (dt_val (de_all1 rfl T.n_all (da_cons (de_lc rfl hnd (di_tup (de_tup (da_cons (de_var (i := 1)) (da_cons (de_var (i := 2)) (da_cons (de_var (i := 3)) (da_cons (de_var (i := 4)) da_nil)))))) (blkOk_by (own := [("entry", 5)]) (by rfl)) (tg_name (i := 5) (by decide)) (fun _ _ _ _ _ => (pg_name (i := 5) hnd rfl (by first | exact Or.inl rfl | exact Or.inr rfl) (by first | exact .inl rfl | exact .inr rfl))) (fun _ _ _ _ _ _ => dts_nil) (fun _ _ _ _ _ _ => (de_call h_is_integer hr zx_blk (List.Mem.head _) (da_cons (de_var (i := 5)) da_nil)))) da_nil)))) (dw_or1 (dt_eq hr (de_mul (de_var (i := 1)) (de_var (i := 4))) (de_mul (de_var (i := 2)) (de_var (i := 3)))))).pt (dss_one (ds_raise0 x_InvalidTable hr z rfl)) dss_nil)
    (dss_one (ds_fld T.cl_Table T.na_Table_whole (de_tup (da_cons (de_var (i := 1)) (da_cons (de_var (i := 2)) (da_cons (de_var (i := 3)) (da_cons (de_var (i := 4)) da_nil))))) (de_var (i := 0))))), fun ds Ψ hl hc => ?_⟩
  obtain ⟨p, a, b, c, d, rfl, hp, hty, q1, q2⟩ := hc
  refine compD_map (xs := [a, b, c, d]) (S := fun _ => True) (fun K h => ⟨ln (n := 4) rfl (by decide), [a, b, c, d], rfl, h⟩) (fun d => .bl (isIn B.M d)) trivial (ln (n := 4) rfl (by decide)) (fun d hd Q q => ?_) ?_
  · obtain ⟨t, ht⟩ := hty d hd
    exact ⟨rfl, rfl, d, t, rfl, ht, q⟩
  · refine ⟨[a, b, c, d].map fun d => isIn B.M d, rfl, ?_⟩
    refine bl_c (fun e2 => ?_) (fun e2 => ?_)
    rotate_left
    · refine ⟨_, .same, q2 ?_⟩
      rw [List.all_map] at e2
      obtain ⟨x, hx, hn⟩ := List.all_eq_false.mp e2
      exact ⟨x, hx, by simpa using hn⟩
    · rw [List.all_map] at e2
      have hi : ∀ e ∈ [a, b, c, d], ∃ i, e = .int i := fun x hx => ty_int (of_decide_eq_true (List.all_eq_true.mp e2 x hx))
      obtain ⟨i, rfl⟩ := hi a (by simp)
      obtain ⟨j, rfl⟩ := hi b (by simp)
      obtain ⟨k, rfl⟩ := hi c (by simp)
      obtain ⟨l, rfl⟩ := hi d (by simp)
      obtain ⟨⟨n, h0, hn, s1, s2, s3, s4⟩, q3, q4⟩ := q1 (i, j, k, l) rfl
      refine ⟨mok_of s1 s4 h0 h0 (by omega), mok_of s2 s3 h0 h0 (by omega), ?_⟩
      refine eqI ?_
      refine bl_c (fun e => ?_) (fun e => ?_)
      · exact ⟨_, .same, q4 (by have := of_decide_eq_true e; unfold det4; simp only; omega)⟩
      · have hd : det4 (i, j, k, l) ≠ 0 := by have := of_decide_eq_false e; unfold det4; simp only; omega
        refine ⟨ln (n := 4) rfl (by decide), ?_⟩
        have hq := q3 hd
        show (match B.M p with | some (.ins C' fs) => _ | _ => False)
        rw [hp]
        exact ⟨rfl, by decide, _, _, .same, hq⟩
def c__law_made (C : Addr) : Ct := fun ds M Ψ _ => ∃ x t n, ds = [x] ∧ (x = tD t ∨ x = .lst (tL t)) ∧ 0 < n ∧ n ≤ 500000 ∧ Sm n t ∧ det4 t ≠ 0 ∧ Ψ (tab C t) M
theorem ok__law_made {f : Addr} {fd : FuncData} {dvs : List V} {kws : List (Str × V)} (T : Txt K mg) (c_Table : Cf P w K mg base "Table" (He.ga K "Table") 3 (c_Tabled_initd (He.ga K "Table") (He.ga K "InvalidTable")) b_Tabled_initd) (F : FnZ K "_law_made" "_law_made" s__law_made dvs kws f fd) : FnOk P w K mg base (L2.CX P w) 5 f fd ["_law_entries"] (spC K ["_law_entries"].length (c__law_made (He.ga K "Table"))) := by
  have hnd := sc__law_made.nd
  refine fnD F sc__law_made (c__law_made (He.ga K "Table")) fun cdv A outer s H E B Ξ hr z => ⟨_, (dss_one (ds_ret (de_make c_Table hr z (List.Mem.head _) (da_cons (de_ix (de_var (i := 0)) de_int) (da_cons (de_ix (de_var (i := 0)) de_int) (da_cons (de_ix (de_var (i := 0)) de_int) (da_cons (de_ix (de_var (i := 0)) de_int) da_nil))))))), fun ds Ψ hl hc => ?_⟩
  obtain ⟨x, t, n, rfl, hx, h0, hn, hs, hd, q⟩ := hc
  rcases hx with rfl | rfl
  · exact mk_tab h0 hn hs hd ⟨_, _, .same, q⟩
  · exact mk_tab h0 hn hs hd ⟨_, _, .same, q⟩
def oD : Option T4 → D
  | none => .non
  | some t => tD t
def c__law_within : Ct := fun ds M Ψ _ => ∃ o : Option T4, ds = [oD o] ∧ (∀ t, o = some t → Sm 200 t ∧ Nn t ∧ det4 t ≠ 0) ∧ Ψ (oD (o.bind capT)) M
theorem ok__law_within {f : Addr} {fd : FuncData} {dvs : List V} {kws : List (Str × V)} (T : Txt K mg) (h__law_lowest : Gf P w K mg base "_law_lowest" 3 (c__law_lowest) b__law_lowest) (F : FnZ K "_law_within" "_law_within" s__law_within dvs kws f fd) : FnOk P w K mg base (L2.CX P w) 4 f fd ["_law_entries"] (spC K ["_law_entries"].length (c__law_within)) := by
  have hnd := sc__law_within.nd
  refine fnD F sc__law_within (c__law_within) fun cdv A outer s H E B Ξ hr z => ⟨_, (dss_cons (ds_if (dt_is (de_var (i := 0)) de_non) (dss_one (ds_ret de_non)) dss_nil)
    (dss_cons (ds_set (i := 1) hnd (de_call h__law_lowest hr z (List.Mem.head _) (da_cons (de_var (i := 0)) da_nil)))
    (dss_one (ds_ret (de_if (dt_le (de_maxA rfl hr T.n_max (da_cons (de_var (i := 1)) da_nil)) (de_pow de_int de_int)) (de_var (i := 1)) de_non))))), fun ds Ψ hl hc => ?_⟩
  obtain ⟨o, rfl, ho, q⟩ := hc
  rw [show ent (["_law_entries", "_law_found"] : List Str).length [oD o] = [some (oD o), none] from rfl]
  try dsimp only [List.set, getS_z, getS_s, bin2, bin2T, ltD, leD, gtD, geD, cmp_i, add_i, sub_i, min2_i, max2_i]
  cases o with
  | none =>
    refine bl_t rfl ?_
    refine ite_t rfl ?_
    exact ⟨_, _, .same, q⟩
  | some t =>
    obtain ⟨hs, hn, hd⟩ := ho t rfl
    refine bl_f rfl ?_
    refine ite_f rfl ?_
    refine ⟨rfl, rfl, iL t, rfl, (show 4 ≤ 1000000 by decide), dok_gm hs hd (by omega), ?_⟩
    rw [dv_pr4]
    obtain ⟨hm, hle⟩ := foldl_max [(pr4 t).2.1, (pr4 t).2.2.1, (pr4 t).2.2.2] (pr4 t).1
    refine ⟨(pr4 t).1, [(pr4 t).2.1, (pr4 t).2.2.1, (pr4 t).2.2.2], .inr rfl, ?_⟩
    generalize [(pr4 t).2.1, (pr4 t).2.2.1, (pr4 t).2.2.2].foldl max (pr4 t).1 = m at *
    have q' : Ψ (oD (capT t)) B.M := q
    refine ⟨(⟨by decide, by decide, by decide⟩ : CPow 10 6), ?_⟩
    refine bl_c (fun e => ?_) (fun e => ?_)
    · have e := of_decide_eq_true e
      have e : m ≤ 1000000 := e
      refine ite_t rfl ?_
      have h1 := hle _ (show (pr4 t).1 ∈ _ from by simp)
      have h2 := hle _ (show (pr4 t).2.1 ∈ _ from by simp)
      have h3 := hle _ (show (pr4 t).2.2.1 ∈ _ from by simp)
      have h4 := hle _ (show (pr4 t).2.2.2 ∈ _ from by simp)
      have ec : capT t = some (pr4 t) := by
        unfold capT
        exact if_pos (by omega)
      rw [ec] at q'
      exact ⟨_, _, .same, q'⟩
    · have e := of_decide_eq_false e
      have e : ¬ m ≤ 1000000 := e
      refine ite_f rfl ?_
      have ec : capT t = none := by
        unfold capT
        refine if_neg fun z => ?_
        simp only [List.mem_cons, List.not_mem_nil, or_false] at hm
        omega
      rw [ec] at q'
      exact ⟨_, _, .same, q'⟩
def c__law_table_due (dp : Nat) : Ct := fun ds M Ψ _ => ∃ (p : Pg) (x : D) (l : List (D × D)) (g : Str → Option T4), ds = [pgD p, x] ∧ dicOf M x = some l ∧ pgK p ≤ dp ∧ PgOk p ∧ (∀ x ∈ pgU p, ∃ t, g x = some t ∧ GdT t ∧ dlook l (.str x) = some (tD t)) ∧ Ψ (oD (tbl g p)) M
theorem no__law_table_due : ∀ (ds : List D) (M : Sto) (Ψ : PD) (Ξ : XD → Sto → Prop), ¬ c__law_table_due 0 ds M Ψ Ξ := fun _ _ _ _ ⟨p, _, _, _, _, _, hk, _⟩ => by
  have := pgK_pos p
  omega
theorem ok__law_table_due {f : Addr} {fd : FuncData} {dvs : List V} {kws : List (Str × V)} (T : Txt K mg) {lv dp : Nat} (hlv : 4 ≤ lv) (h__law_table_due : Gf P w K mg base "_law_table_due" lv (c__law_table_due dp) b__law_table_due) (h__law_within : Gf P w K mg base "_law_within" 4 (c__law_within) b__law_within) (h__law_grid : Gf P w K mg base "_law_grid" 3 (c__law_grid) b__law_grid) (h__law_prod : Gf P w K mg base "_law_prod" 2 (c__law_prod) b__law_prod) (F : FnZ K "_law_table_due" "_law_table_due" s__law_table_due dvs kws f fd) : FnOk P w K mg base (L2.CX P w) (lv + 1) f fd ["_law_plan", "_law_grids"] (spC K ["_law_plan", "_law_grids"].length (c__law_table_due (dp + 1))) := by
  have hnd := sc__law_table_due.nd
  refine fnD F sc__law_table_due (c__law_table_due (dp + 1)) fun cdv A outer s H E B Ξ hr z => ⟨_, (dss_cons (ds_if (dt_eq hr (de_ix (de_var (i := 0)) de_int) de_str) (dss_one (ds_ret (de_call (hj := by omega) h__law_within hr z (List.Mem.head _) (da_cons (de_ix (de_var (i := 0)) de_int) da_nil)))) dss_nil)
    (dss_cons (ds_if (dt_eq hr (de_ix (de_var (i := 0)) de_int) de_str) (dss_one (ds_ret (de_call (hj := by omega) h__law_within hr z (List.Mem.head _) (da_cons (de_call (hj := by omega) h__law_grid hr z (List.Mem.head _) (da_cons (de_ix (de_var (i := 0)) de_int) da_nil)) da_nil)))) dss_nil)
    (dss_cons (ds_if (dt_eq hr (de_ix (de_var (i := 0)) de_int) de_str) (dss_one (ds_ret (de_tup (da_cons de_int (da_cons de_int (da_cons de_int (da_cons de_int da_nil))))))) dss_nil)
    (dss_cons (ds_if (dt_eq hr (de_ix (de_var (i := 0)) de_int) de_str) (dss_one (ds_ret (de_dget hr (de_var (i := 1)) (de_ix (de_var (i := 0)) de_int)))) dss_nil)
    (dss_cons (ds_if (dt_eq hr (de_ix (de_var (i := 0)) de_int) de_str) (dss_cons (ds_par (i := 2) (j := 3) rfl hnd (da_cons (de_call (hj := by omega) h__law_table_due hr z (List.Mem.head _) (da_cons (de_ix (de_var (i := 0)) de_int) (da_cons (de_var (i := 1)) da_nil))) (da_cons (de_tup (da_cons de_int (da_cons de_int (da_cons de_int (da_cons de_int da_nil))))) da_nil)))
    (dss_cons (ds_for z.po rfl (di_range1 T.n_range (da_cons (de_ix (de_var (i := 0)) de_int) da_nil)) (dg_name (i := 4) hnd) (dss_one (ds_set (i := 3) hnd (de_if (dw_or (dt_is (de_var (i := 2)) de_non) (dw_or1 (dt_is (de_var (i := 3)) de_non))).pt de_non (de_call (hj := by omega) h__law_within hr z (List.Mem.head _) (da_cons (de_call (hj := by omega) h__law_prod hr z (List.Mem.head _) (da_cons (de_var (i := 2)) (da_cons (de_var (i := 3)) da_nil))) da_nil))))))
    (dss_one (ds_ret (de_if (dt_is (de_var (i := 2)) de_non) de_non (de_var (i := 3))))))) dss_nil)
    (dss_cons (ds_setLc (i := 5) rfl hnd (sw_true rfl rfl rfl rfl) (di_tup (de_slice (de_var (i := 0)) (do_some de_int) do_none)) (blkOk_by (own := [("_law_part", 7)]) (by rfl)) (tg_name (i := 7) (by decide)) (fun _ _ _ _ _ => (pg_name (i := 7) hnd rfl (by first | exact Or.inl rfl | exact Or.inr rfl) (by first | exact .inl rfl | exact .inr rfl))) (fun _ _ _ _ _ _ => dts_nil) (fun _ _ _ _ _ _ => (de_call (hj := by omega) h__law_table_due hr zx_blk (List.Mem.head _) (da_cons (de_var (i := 7)) (da_cons (de_var (i := 1)) da_nil)))))
    (dss_cons (ds_set (i := 3) hnd (de_ix (de_var (i := 5)) de_int))
    (dss_cons (ds_for z.po rfl (di_list (de_slice (de_var (i := 5)) (do_some de_int) do_none)) (dg_name (i := 6) hnd) (dss_one (ds_set (i := 3) hnd (de_if (dw_or (dt_is (de_var (i := 6)) de_non) (dw_or1 (dt_is (de_var (i := 3)) de_non))).pt de_non (de_call (hj := by omega) h__law_within hr z (List.Mem.head _) (da_cons (de_call (hj := by omega) h__law_prod hr z (List.Mem.head _) (da_cons (de_var (i := 6)) (da_cons (de_var (i := 3)) da_nil))) da_nil))))))
    (dss_one (ds_ret (de_var (i := 3)))))))))))), fun ds Ψ hl hc => ?_⟩
  obtain ⟨p, x, l, g, rfl, ha, hk, ho, hg, q⟩ := hc
  rw [show ent (["_law_plan", "_law_grids", "_law_inner_here", "_law_found", "_law_k", "_law_dues", "_law_due", "_law_part"] : List Str).length [pgD p, x] = [some (pgD p), some x, none, none, none, none, none, none] from rfl]
  try dsimp only [List.set, getS_z, getS_s, bin2, bin2T, ltD, leD, gtD, geD, cmp_i, add_i, sub_i, min2_i, max2_i]
  cases p with
  | tab t =>
    refine ix_tag ?_
    refine eqS ?_
    refine bl_t (decide_eq_true rfl) ?_
    refine ite_t rfl ?_
    obtain ⟨hn, a1, a2, a3, a4, hd⟩ := ho
    have hs : Sm 200 t := Sm.mono (n := 6) ⟨by have := hn.1; omega, by have := hn.2.1; omega, by have := hn.2.2.1; omega, by have := hn.2.2.2; omega⟩ (by decide)
    simp only [pgD]
    refine optK_of rfl ?_
    rw [tbl] at q
    exact ⟨rfl, rfl, some t, rfl, fun u hu => by cases hu; exact ⟨hs, hn, hd⟩, _, _, .same, q⟩
  | trn w =>
    refine ix_tag ?_
    refine eqS ?_
    refine bl_f (show decide (("turns" : Str) = "table") = false from by decide) ?_
    refine ite_f rfl ?_
    refine ix_tag ?_
    refine eqS ?_
    refine bl_t (decide_eq_true rfl) ?_
    refine ite_t rfl ?_
    obtain ⟨hl, l1, l2⟩ := ho
    have hs : Sm 200 (wL w.cps.toList) := (sm_wL _).mono (by rw [Array.length_toList]; omega)
    simp only [pgD]
    refine optK_of rfl ?_
    rw [tbl] at q
    refine ⟨rfl, rfl, w, rfl, by omega, rfl, rfl, some (wL w.cps.toList), rfl, fun u hu => by cases hu; exact ⟨hs, nn_wL _, by rw [det_wL]; decide⟩, _, _, .same, q⟩
  | swp =>
    refine ix_tag ?_
    refine eqS ?_
    refine bl_f (show decide (("swap" : Str) = "table") = false from by decide) ?_
    refine ite_f rfl ?_
    refine ix_tag ?_
    refine eqS ?_
    refine bl_f (show decide (("swap" : Str) = "turns") = false from by decide) ?_
    refine ite_f rfl ?_
    refine ix_tag ?_
    refine eqS ?_
    refine bl_t (decide_eq_true rfl) ?_
    refine ite_t rfl ?_
    rw [tbl] at q
    exact ⟨ln (n := 4) rfl (by decide), _, _, .same, q⟩
  | use y =>
    refine ix_tag ?_
    refine eqS ?_
    refine bl_f (show decide (("use" : Str) = "table") = false from by decide) ?_
    refine ite_f rfl ?_
    refine ix_tag ?_
    refine eqS ?_
    refine bl_f (show decide (("use" : Str) = "turns") = false from by decide) ?_
    refine ite_f rfl ?_
    refine ix_tag ?_
    refine eqS ?_
    refine bl_f (show decide (("use" : Str) = "swap") = false from by decide) ?_
    refine ite_f rfl ?_
    refine ix_tag ?_
    refine eqS ?_
    refine bl_t (decide_eq_true rfl) ?_
    refine ite_t rfl ?_
    obtain ⟨t, ht, gt, hl⟩ := hg y (by simp [pgU])
    simp only [pgD]
    refine optK_of rfl ?_
    rw [tbl, ht] at q
    exact ⟨l, _, ha, hl, .inl ⟨_, rfl⟩, _, _, .same, q⟩
  | tms n p =>
    refine ix_tag ?_
    refine eqS ?_
    refine bl_f (show decide (("times" : Str) = "table") = false from by decide) ?_
    refine ite_f rfl ?_
    refine ix_tag ?_
    refine eqS ?_
    refine bl_f (show decide (("times" : Str) = "turns") = false from by decide) ?_
    refine ite_f rfl ?_
    refine ix_tag ?_
    refine eqS ?_
    refine bl_f (show decide (("times" : Str) = "swap") = false from by decide) ?_
    refine ite_f rfl ?_
    refine ix_tag ?_
    refine eqS ?_
    refine bl_f (show decide (("times" : Str) = "use") = false from by decide) ?_
    refine ite_f rfl ?_
    refine ix_tag ?_
    refine eqS ?_
    refine bl_t (decide_eq_true rfl) ?_
    refine ite_t rfl ?_
    have hn := ho.1
    have hp := ho.2
    rw [pgK] at hk
    simp only [pgD]
    refine optK_of rfl ?_
    have hg' : ∀ x ∈ pgU p, ∃ t, g x = some t ∧ GdT t ∧ dlook l (.str x) = some (tD t) := fun x hx => hg x (by rw [pgU]; exact hx)
    have hgd : ∀ u, tbl g p = some u → GdT u := tbl_gd p hp fun x hx u hu => by
      obtain ⟨t, h1, h2, _⟩ := hg' x hx
      rw [h1] at hu
      cases hu
      exact h2
    refine ⟨rfl, rfl, p, x, l, g, rfl, ha, by omega, hp, hg', ln (n := 4) rfl (by decide), ?_⟩
    have et : tbl g (.tms n p) = match tbl g p with | none => none | some t => powT (some t) n.toNat := by
      first
      | (rw [tbl]; done)
      | (rw [tbl]; cases tbl g p <;> rfl)
    refine forD_n (xs := rngD 0 n.toNat) (fun K h => optK_of rfl ⟨⟨by have := hn.1; omega, by have := hn.2; omega⟩, h⟩) (fun i r M' => ∃ (o1 : Option D) (f : Option T4), M' = B.M ∧ r = [some (.tup [.str "times", .int n, pgD p]), some x, some (oD (tbl g p)), some (oD f), o1, none, none, none] ∧ (∀ u, tbl g p = some u → f = powT (some u) i)) ⟨none, some O4, rfl, rfl, fun _ _ => rfl⟩ (fun _ _ _ _ => trivial) (fun i d r M' hd h => ?_) (fun r M' h => ?_)
    · obtain ⟨o1, f, rfl, rfl, hf⟩ := h
      obtain ⟨hi, rfl⟩ := rng_at hd
      try dsimp only [List.set, getS_z, getS_s, bin2, bin2T, ltD, leD, gtD, geD, cmp_i, add_i, sub_i, min2_i, max2_i]
      cases eu : tbl g p with
      | none =>
        refine bl_t rfl ?_
        refine ite_t rfl ?_
        refine ifp trivial ?_
        try dsimp only [List.set, getS_z, getS_s, bin2, bin2T, ltD, leD, gtD, geD, cmp_i, add_i, sub_i, min2_i, max2_i]
        exact .of ⟨_, none, rfl, rfl, fun u hu => by cases hu⟩
      | some u =>
        rw [eu] at hf
        have gu := hgd u eu
        have hf := hf u rfl
        refine bl_f rfl ?_
        refine ite_f rfl ?_
        have es : powT (some u) (i + 1) = stepT (powT (some u) i) (some u) := powT_succ _ _
        cases ef : f with
        | none =>
          rw [ef] at hf
          refine bl_t rfl ?_
          refine ite_t rfl ?_
          try dsimp only [List.set, getS_z, getS_s, bin2, bin2T, ltD, leD, gtD, geD, cmp_i, add_i, sub_i, min2_i, max2_i]
          refine .of ⟨_, none, rfl, rfl, fun v hv => ?_⟩
          cases hv
          rw [es, ← hf]
          rfl
        | some f =>
          rw [ef] at hf
          have gf := powT_gd (fun v hv => by cases hv; exact gu) i f hf.symm
          refine bl_f rfl ?_
          refine ite_f rfl ?_
          refine ⟨rfl, rfl, u, f, 20, 20, rfl, gu.sm, gf.sm, by decide, by decide, by decide, ?_⟩
          refine ⟨rfl, rfl, some (mul4 u f), rfl, fun v hv => by cases hv; exact ⟨(gu.sm.mul gf.sm).mono (by decide), gu.nn.mul gf.nn, by rw [det_mul]; exact Int.mul_ne_zero gu.det gf.det⟩, ?_⟩
          try dsimp only [List.set, getS_z, getS_s, bin2, bin2T, ltD, leD, gtD, geD, cmp_i, add_i, sub_i, min2_i, max2_i]
          refine .of ⟨_, capT (mul4 u f), rfl, rfl, fun v hv => ?_⟩
          cases hv
          rw [es, ← hf]
          rfl
    · obtain ⟨o1, f, rfl, rfl, hf⟩ := h
      rw [rng_len] at hf
      try dsimp only [List.set, getS_z, getS_s, bin2, bin2T, ltD, leD, gtD, geD, cmp_i, add_i, sub_i, min2_i, max2_i]
      rw [et] at q
      cases eu : tbl g p with
      | none =>
        rw [eu] at q
        refine bl_t rfl ?_
        refine ite_t rfl ?_
        exact ⟨_, _, .same, q⟩
      | some u =>
        rw [eu] at q hf
        refine bl_f rfl ?_
        refine ite_f rfl ?_
        rw [hf u rfl]
        exact ⟨_, _, .same, q⟩
  | thn l0 =>
    refine ix_tag ?_
    refine eqS ?_
    refine bl_f (show decide (("then" : Str) = "table") = false from by decide) ?_
    refine ite_f rfl ?_
    refine ix_tag ?_
    refine eqS ?_
    refine bl_f (show decide (("then" : Str) = "turns") = false from by decide) ?_
    refine ite_f rfl ?_
    refine ix_tag ?_
    refine eqS ?_
    refine bl_f (show decide (("then" : Str) = "swap") = false from by decide) ?_
    refine ite_f rfl ?_
    refine ix_tag ?_
    refine eqS ?_
    refine bl_f (show decide (("then" : Str) = "use") = false from by decide) ?_
    refine ite_f rfl ?_
    refine ix_tag ?_
    refine eqS ?_
    refine bl_f (show decide (("then" : Str) = "times") = false from by decide) ?_
    refine ite_f rfl ?_
    have h2 := ho.1
    have hs := ho.2
    rw [pgK] at hk
    have et : tbl g (.thn l0) = match tbls g l0 with | [] => none | d :: r => r.foldl stepT d := by
      first
      | (rw [tbl]; done)
      | (rw [tbl]; cases tbls g l0 <;> rfl)
    have len0 : (tbls g l0).length = l0.length := by rw [tbls_map, List.length_map]
    have hgi : ∀ pi ∈ l0, ∀ x ∈ pgU pi, ∃ t, g x = some t ∧ GdT t ∧ dlook l (.str x) = some (tD t) := fun pi hpi x hx => hg x (by rw [pgU]; exact pgUs_mem hpi hx)
    have gds : ∀ d ∈ tbls g l0, ∀ u, d = some u → GdT u := tbls_gd l0 hs fun x hx u hu => by
      obtain ⟨t, e1, e2, _⟩ := hg x (by rw [pgU]; exact hx)
      rw [e1] at hu
      cases hu
      exact e2
    simp only [pgD]
    refine compD_of (fun xs S M1 => xs = pgDs l0 ∧ S = (fun _ => True) ∧ M1 = B.M) (fun K h => ⟨pgDs l0, by rw [cutD_tail]; rfl, h _ _ _ ⟨rfl, rfl, rfl⟩⟩) (fun xs S M1 ⟨ex1, ex2, ex3⟩ => ?_)
    subst ex1 ex2 ex3
    refine ⟨fun i acc M' => M' = B.M ∧ acc = ((tbls g l0).map oD).take i, ⟨rfl, by simp⟩, fun _ _ _ _ => trivial, fun i d acc M' hd h => ?_, fun acc M' h => ?_⟩
    · obtain ⟨rfl, rfl⟩ := h
      rw [pgDs_map, List.getElem?_map] at hd
      obtain ⟨pi, hpi, rfl⟩ := Option.map_eq_some_iff.mp hd
      have mem := List.mem_of_getElem? hpi
      refine ⟨rfl, rfl, pi, x, l, g, rfl, ha, by have := pgKs_mem mem; omega, pgOks_iff.mp hs pi mem, hgi pi mem, ?_, rfl, ?_⟩
      · rw [List.length_take]
        have := h2.2
        exact Nat.lt_of_le_of_lt (Nat.min_le_right _ _) (by rw [List.length_map, len0]; exact Nat.lt_of_le_of_lt this (Nat.lt_of_lt_of_le (by decide) big_ok))
      · rw [List.take_add_one, List.getElem?_map, tbls_map, List.getElem?_map, hpi]
        rfl
    obtain ⟨rfl, rfl⟩ := h
    rw [show (pgDs l0).length = ((tbls g l0).map oD).length by rw [pgDs_map, List.length_map, List.length_map, len0], List.take_length]
    rw [et] at q
    have l2 := h2.1
    cases htl : tbls g l0 with
    | nil => rw [htl] at len0; simp at len0; omega
    | cons d0 r0 =>
      rw [htl] at q gds
      refine optK_of (show L2.atI _ _ = some (oD d0) from at_zero) ?_
      try dsimp only [List.set, getS_z, getS_s, bin2, bin2T, ltD, leD, gtD, geD, cmp_i, add_i, sub_i, min2_i, max2_i]
      refine forD_n (xs := r0.map oD) (fun K h => ⟨r0.map oD, by rw [List.map_cons, cutD_tail]; rfl, h⟩) (fun i r M' => ∃ (o1 : Option D), M' = B.M ∧ r = [some (.tup (.str "then" :: pgDs l0)), some x, none, some (oD ((r0.take i).foldl stepT d0)), none, some (.lst ((d0 :: r0).map oD)), o1, none]) ⟨none, rfl, rfl⟩ (fun _ _ _ _ => by rw [List.map_cons, cutD_tail]; rfl) (fun i d r M' hd h => ?_) (fun r M' h => ?_)
      · obtain ⟨o1, rfl, rfl⟩ := h
        rw [List.getElem?_map] at hd
        obtain ⟨v, hv, rfl⟩ := Option.map_eq_some_iff.mp hd
        have es := takeT (f := d0) hv
        have gv := gds v (List.mem_cons_of_mem _ (List.mem_of_getElem? hv))
        have gf : ∀ u, (r0.take i).foldl stepT d0 = some u → GdT u := foldT_gd (gds d0 List.mem_cons_self) fun e he => gds e (List.mem_cons_of_mem _ (List.mem_of_mem_take he))
        generalize (r0.take i).foldl stepT d0 = f at *
        try dsimp only [List.set, getS_z, getS_s, bin2, bin2T, ltD, leD, gtD, geD, cmp_i, add_i, sub_i, min2_i, max2_i]
        cases v with
        | none =>
          refine bl_t rfl ?_
          refine ite_t rfl ?_
          refine ifp trivial ?_
          try dsimp only [List.set, getS_z, getS_s, bin2, bin2T, ltD, leD, gtD, geD, cmp_i, add_i, sub_i, min2_i, max2_i]
          refine .of ⟨some (oD none), rfl, ?_⟩
          rw [es, show stepT f none = none from by unfold stepT; split <;> simp_all]
          rfl
        | some u =>
          have gu := gv u rfl
          refine bl_f rfl ?_
          refine ite_f rfl ?_
          cases f with
          | none =>
            refine bl_t rfl ?_
            refine ite_t rfl ?_
            try dsimp only [List.set, getS_z, getS_s, bin2, bin2T, ltD, leD, gtD, geD, cmp_i, add_i, sub_i, min2_i, max2_i]
            refine .of ⟨some (oD (some u)), rfl, ?_⟩
            rw [es]
            rfl
          | some f =>
            have gf := gf f rfl
            refine bl_f rfl ?_
            refine ite_f rfl ?_
            refine ⟨rfl, rfl, u, f, 20, 20, rfl, gu.sm, gf.sm, by decide, by decide, by decide, ?_⟩
            refine ⟨rfl, rfl, some (mul4 u f), rfl, fun v hv => by cases hv; exact ⟨(gu.sm.mul gf.sm).mono (by decide), gu.nn.mul gf.nn, by rw [det_mul]; exact Int.mul_ne_zero gu.det gf.det⟩, ?_⟩
            try dsimp only [List.set, getS_z, getS_s, bin2, bin2T, ltD, leD, gtD, geD, cmp_i, add_i, sub_i, min2_i, max2_i]
            refine .of ⟨some (oD (some u)), rfl, ?_⟩
            rw [es]
            rfl
      · obtain ⟨o1, rfl, rfl⟩ := h
        rw [List.length_map, List.take_length]
        try dsimp only [List.set, getS_z, getS_s, bin2, bin2T, ltD, leD, gtD, geD, cmp_i, add_i, sub_i, min2_i, max2_i]
        exact ⟨_, _, .same, q⟩
def c__law_same (n : Nat) : Ct := fun ds M Ψ _ => ∃ x y, ds = [x, y] ∧ Same M n x y ∧ Ψ (.bl true) M
theorem no__law_same : ∀ ds M Ψ Ξ, ¬ c__law_same 0 ds M Ψ Ξ := fun ds M Ψ Ξ ⟨_, _, _, h, _⟩ => h
theorem ok__law_same {f : Addr} {fd : FuncData} {dvs : List V} {kws : List (Str × V)} (T : Txt K mg) {lv dp : Nat} (hlv : 1 ≤ lv) (h__law_same : Gf P w K mg base "_law_same" lv (c__law_same dp) b__law_same) (F : FnZ K "_law_same" "_law_same" s__law_same dvs kws f fd) : FnOk P w K mg base (L2.CX P w) (lv + 1) f fd ["_law_found", "_law_due"] (spC K ["_law_found", "_law_due"].length (c__law_same (dp + 1))) := by
  have hnd := sc__law_same.nd
  refine fnD F sc__law_same (c__law_same (dp + 1)) fun cdv A outer s H E B Ξ hr z => ⟨_, (dss_cons (ds_if (dt_is (de_var (i := 1)) de_non) (dss_one (ds_ret (de_is (de_var (i := 0)) de_non))) dss_nil)
    (dss_cons (ds_if (dw_or (dt_val (de_isi T.n_isinstance (da_cons (de_var (i := 1)) (da_cons (de_ty (n := "bool") T.n_bool (by decide +kernel)) da_nil)))) (dw_or1 (dt_val (de_isi T.n_isinstance (da_cons (de_var (i := 0)) (da_cons (de_ty (n := "bool") T.n_bool (by decide +kernel)) da_nil)))))).pt (dss_one (ds_ret (de_and (de_isi T.n_isinstance (da_cons (de_var (i := 1)) (da_cons (de_ty (n := "bool") T.n_bool (by decide +kernel)) da_nil))) (de_and (de_isi T.n_isinstance (da_cons (de_var (i := 0)) (da_cons (de_ty (n := "bool") T.n_bool (by decide +kernel)) da_nil))) (de_and1 (de_eq hr (de_var (i := 0)) (de_var (i := 1)))))))) dss_nil)
    (dss_cons (ds_if (dt_val (de_isi T.n_isinstance (da_cons (de_var (i := 1)) (da_cons (de_tup (da_cons (de_ty (n := "int") T.n_int (by decide +kernel)) (da_cons (de_ty (n := "str") T.n_str (by decide +kernel)) da_nil))) da_nil)))) (dss_one (ds_ret (de_and (de_isi T.n_isinstance (da_cons (de_var (i := 0)) (da_cons (de_tup (da_cons (de_ty (n := "int") T.n_int (by decide +kernel)) (da_cons (de_ty (n := "str") T.n_str (by decide +kernel)) da_nil))) da_nil))) (de_and (de_eq hr (de_isi T.n_isinstance (da_cons (de_var (i := 0)) (da_cons (de_ty (n := "int") T.n_int (by decide +kernel)) da_nil))) (de_isi T.n_isinstance (da_cons (de_var (i := 1)) (da_cons (de_ty (n := "int") T.n_int (by decide +kernel)) da_nil)))) (de_and1 (de_eq hr (de_var (i := 0)) (de_var (i := 1)))))))) dss_nil)
    (dss_cons (ds_if (dw_or (dt_ne hr (de_isi T.n_isinstance (da_cons (de_var (i := 1)) (da_cons (de_ty (n := "list") T.n_list (by decide +kernel)) da_nil))) (de_isi T.n_isinstance (da_cons (de_var (i := 0)) (da_cons (de_ty (n := "list") T.n_list (by decide +kernel)) da_nil)))) (dw_or1 (dt_ne hr (de_isi T.n_isinstance (da_cons (de_var (i := 1)) (da_cons (de_ty (n := "tuple") T.n_tuple (by decide +kernel)) da_nil))) (de_isi T.n_isinstance (da_cons (de_var (i := 0)) (da_cons (de_ty (n := "tuple") T.n_tuple (by decide +kernel)) da_nil)))))).pt (dss_one (ds_ret de_bl)) dss_nil)
    (dss_one (ds_ret (de_and (de_eq hr (de_len T.n_len (da_cons (de_var (i := 0)) da_nil)) (de_len T.n_len (da_cons (de_var (i := 1)) da_nil))) (de_and1 (de_all1 rfl T.n_all (da_cons (de_lc rfl hnd (di_zip T.n_zip (da_cons (de_var (i := 0)) (da_cons (de_var (i := 1)) da_nil))) (blkOk_by (own := [("_law_one", 2), ("_law_two", 3)]) (by rfl)) (tg_tup2 (by decide) (by decide)) (fun _ _ _ _ _ => (pg_tup rfl (pgs_cons (pg_name (i := 2) hnd rfl (by first | exact Or.inl rfl | exact Or.inr rfl) (by first | exact .inl rfl | exact .inr rfl)) (pgs_cons (pg_name (i := 3) hnd rfl (by first | exact Or.inl rfl | exact Or.inr rfl) (by first | exact .inl rfl | exact .inr rfl)) pgs_nil)))) (fun _ _ _ _ _ _ => dts_nil) (fun _ _ _ _ _ _ => (de_call (hj := by omega) h__law_same hr zx_blk (List.Mem.head _) (da_cons (de_var (i := 2)) (da_cons (de_var (i := 3)) da_nil))))) da_nil)))))))))), fun ds Ψ hl hc => ?_⟩
  obtain ⟨x, y, rfl, hs, q⟩ := hc
  rcases hs with ⟨rfl, rfl⟩ | ⟨b, rfl, rfl⟩ | ⟨i, rfl, rfl⟩ | ⟨s, rfl, rfl⟩ | ⟨xs, ys, hxy, hl, hl2, hs⟩
  · refine bl_t rfl ?_
    exact ⟨_, _, .same, q⟩
  · refine bl_f rfl ?_
    refine ⟨by decide, "bool", rfl, ?_⟩
    refine bl_t rfl ?_
    refine ⟨by decide, "bool", rfl, ?_⟩
    refine bl_t rfl ?_
    refine ⟨by decide, "bool", rfl, ?_⟩
    refine bl_t rfl ?_
    refine eqB ?_
    refine ⟨_, _, .same, ?_⟩
    rw [decide_eq_true rfl]
    exact q
  · refine bl_f rfl ?_
    refine ⟨by decide, "int", rfl, ?_⟩
    refine bl_f rfl ?_
    refine ⟨by decide, "int", rfl, ?_⟩
    refine bl_f rfl ?_
    refine ⟨ln (n := 2) rfl (by decide), ?_⟩
    refine ⟨["int", "str"], rfl, by decide, "int", rfl, ?_⟩
    refine bl_t rfl ?_
    refine ⟨ln (n := 2) rfl (by decide), ?_⟩
    refine ⟨["int", "str"], rfl, by decide, "int", rfl, ?_⟩
    refine bl_t rfl ?_
    refine ⟨by decide, "int", rfl, ?_⟩
    refine ⟨by decide, "int", rfl, ?_⟩
    refine eqB ?_
    refine bl_t rfl ?_
    refine eqI ?_
    refine ⟨_, _, .same, ?_⟩
    rw [decide_eq_true rfl]
    exact q
  · refine bl_f rfl ?_
    refine ⟨by decide, "str", rfl, ?_⟩
    refine bl_f rfl ?_
    refine ⟨by decide, "str", rfl, ?_⟩
    refine bl_f rfl ?_
    refine ⟨ln (n := 2) rfl (by decide), ?_⟩
    refine ⟨["int", "str"], rfl, by decide, "str", rfl, ?_⟩
    refine bl_t rfl ?_
    refine ⟨ln (n := 2) rfl (by decide), ?_⟩
    refine ⟨["int", "str"], rfl, by decide, "str", rfl, ?_⟩
    refine bl_t rfl ?_
    refine ⟨by decide, "str", rfl, ?_⟩
    refine ⟨by decide, "str", rfl, ?_⟩
    refine eqB ?_
    refine bl_t rfl ?_
    refine eqS ?_
    refine ⟨_, _, .same, ?_⟩
    rw [decide_eq_true rfl]
    exact q
  · rcases hxy with ⟨hx, hy⟩ | ⟨rfl, rfl⟩
    · have tx := lst_ty hx
      have ty := lst_ty hy
      have ny : isN y = false := by rcases lst_cs hy with rfl | ⟨p, rfl, _⟩ <;> rfl
      refine bl_f ny ?_
      refine ⟨by decide, _, ty, ?_⟩
      refine bl_f rfl ?_
      refine ⟨by decide, _, tx, ?_⟩
      refine bl_f rfl ?_
      refine ⟨ln (n := 2) rfl (by decide), ?_⟩
      refine ⟨["int", "str"], rfl, by decide, _, ty, ?_⟩
      refine bl_f rfl ?_
      refine ⟨by decide, _, ty, ?_⟩
      refine ⟨by decide, _, tx, ?_⟩
      refine neB ?_
      refine bl_f rfl ?_
      refine ⟨by decide, _, ty, ?_⟩
      refine ⟨by decide, _, tx, ?_⟩
      refine neB ?_
      refine bl_f rfl ?_
      rcases lst_cs hx with rfl | ⟨p, rfl, hp⟩
      · rcases lst_cs hy with rfl | ⟨p', rfl, hp'⟩
        · refine eqI ?_
          refine bl_t (decide_eq_true (by omega)) ?_
          refine compD_map (xs := zipD xs ys) (S := fun M => lstOf M _ = some xs ∧ lstOf M _ = some ys) (fun K h => ⟨_, _, hx, hy, h⟩) (fun _ => .bl true) ⟨hx, hy⟩ (by rw [zip_len]; exact Nat.le_trans (by omega) big_ok) (fun d hd Q h => ?_) ?_
          · obtain ⟨i, a, b, e1, e2, rfl⟩ := zip_mem hd
            exact ⟨rfl, rfl, a, b, rfl, hs i a b e1 e2, h⟩
          · rw [all_bl]
            refine ⟨_, rfl, ?_⟩
            rw [all_tt]
            exact ⟨_, _, .same, q⟩
        · refine ⟨_, hy, ?_⟩
          refine eqI ?_
          refine bl_t (decide_eq_true (by omega)) ?_
          refine compD_map (xs := zipD xs ys) (S := fun M => lstOf M _ = some xs ∧ lstOf M _ = some ys) (fun K h => ⟨_, _, hx, hy, h⟩) (fun _ => .bl true) ⟨hx, hy⟩ (by rw [zip_len]; exact Nat.le_trans (by omega) big_ok) (fun d hd Q h => ?_) ?_
          · obtain ⟨i, a, b, e1, e2, rfl⟩ := zip_mem hd
            exact ⟨rfl, rfl, a, b, rfl, hs i a b e1 e2, h⟩
          · rw [all_bl]
            refine ⟨_, rfl, ?_⟩
            rw [all_tt]
            exact ⟨_, _, .same, q⟩
      · rcases lst_cs hy with rfl | ⟨p', rfl, hp'⟩
        · refine ⟨_, hx, ?_⟩
          refine eqI ?_
          refine bl_t (decide_eq_true (by omega)) ?_
          refine compD_map (xs := zipD xs ys) (S := fun M => lstOf M _ = some xs ∧ lstOf M _ = some ys) (fun K h => ⟨_, _, hx, hy, h⟩) (fun _ => .bl true) ⟨hx, hy⟩ (by rw [zip_len]; exact Nat.le_trans (by omega) big_ok) (fun d hd Q h => ?_) ?_
          · obtain ⟨i, a, b, e1, e2, rfl⟩ := zip_mem hd
            exact ⟨rfl, rfl, a, b, rfl, hs i a b e1 e2, h⟩
          · rw [all_bl]
            refine ⟨_, rfl, ?_⟩
            rw [all_tt]
            exact ⟨_, _, .same, q⟩
        · refine ⟨_, hx, _, hy, ?_⟩
          refine eqI ?_
          refine bl_t (decide_eq_true (by omega)) ?_
          refine compD_map (xs := zipD xs ys) (S := fun M => lstOf M _ = some xs ∧ lstOf M _ = some ys) (fun K h => ⟨_, _, hx, hy, h⟩) (fun _ => .bl true) ⟨hx, hy⟩ (by rw [zip_len]; exact Nat.le_trans (by omega) big_ok) (fun d hd Q h => ?_) ?_
          · obtain ⟨i, a, b, e1, e2, rfl⟩ := zip_mem hd
            exact ⟨rfl, rfl, a, b, rfl, hs i a b e1 e2, h⟩
          · rw [all_bl]
            refine ⟨_, rfl, ?_⟩
            rw [all_tt]
            exact ⟨_, _, .same, q⟩
    · refine bl_f rfl ?_
      refine ⟨by decide, "tuple", rfl, ?_⟩
      refine bl_f rfl ?_
      refine ⟨by decide, "tuple", rfl, ?_⟩
      refine bl_f rfl ?_
      refine ⟨ln (n := 2) rfl (by decide), ?_⟩
      refine ⟨["int", "str"], rfl, by decide, "tuple", rfl, ?_⟩
      refine bl_f rfl ?_
      refine ⟨by decide, "tuple", rfl, ?_⟩
      refine ⟨by decide, "tuple", rfl, ?_⟩
      refine neB ?_
      refine bl_f rfl ?_
      refine ⟨by decide, "tuple", rfl, ?_⟩
      refine ⟨by decide, "tuple", rfl, ?_⟩
      refine neB ?_
      refine bl_f rfl ?_
      refine eqI ?_
      refine bl_t (decide_eq_true (by omega)) ?_
      refine compD_map (xs := zipD xs ys) (S := fun _ => True) (fun K h => h) (fun _ => .bl true) trivial (by rw [zip_len]; exact Nat.le_trans (by omega) big_ok) (fun d hd Q h => ?_) ?_
      · obtain ⟨i, a, b, e1, e2, rfl⟩ := zip_mem hd
        exact ⟨rfl, rfl, a, b, rfl, hs i a b e1 e2, h⟩
      · rw [all_bl]
        refine ⟨_, rfl, ?_⟩
        rw [all_tt]
        exact ⟨_, _, .same, q⟩
def c__law_inner : Ct := fun ds M Ψ _ => ∃ p : Pg, ds = [pgD p] ∧ Ψ (.lst (pgDs (pgIn p))) M
theorem ok__law_inner {f : Addr} {fd : FuncData} {dvs : List V} {kws : List (Str × V)} (T : Txt K mg)  (F : FnZ K "_law_inner" "_law_inner" s__law_inner dvs kws f fd) : FnOk P w K mg base (L2.CX P w) 2 f fd ["_law_plan"] (spC K ["_law_plan"].length (c__law_inner)) := by
  have hnd := sc__law_inner.nd
  refine fnD F sc__law_inner (c__law_inner) fun cdv A outer s H E B Ξ hr z => ⟨_, (dss_cons (ds_if (dt_eq hr (de_ix (de_var (i := 0)) de_int) de_str) (dss_one (ds_ret (de_list1 T.n_list (da_cons (de_slice (de_var (i := 0)) (do_some de_int) do_none) da_nil)))) dss_nil)
    (dss_one (ds_ret (de_if (dt_eq hr (de_ix (de_var (i := 0)) de_int) de_str) (de_lst (da_cons (de_ix (de_var (i := 0)) de_int) da_nil)) (de_lst da_nil))))), fun ds Ψ hl hc => ?_⟩
  obtain ⟨p, rfl, q⟩ := hc
  rw [show ent (["_law_plan"] : List Str).length [pgD p] = [some (pgD p)] from rfl]
  try dsimp only [List.set, getS_z, getS_s, bin2, bin2T, ltD, leD, gtD, geD, cmp_i, add_i, sub_i, min2_i, max2_i]
  refine ix_tag ?_
  refine eqS ?_
  cases p with
  | thn l =>
    refine bl_t (decide_eq_true rfl) ?_
    refine ite_t rfl ?_
    simp only [pgD]
    show rtF B.M Ψ (.lst (cutD (.str "then" :: pgDs l) (some 1) none)) B.M
    rw [cutD_tail]
    exact ⟨_, _, .same, q⟩
  | tms n p =>
    refine bl_f (show decide (("times" : Str) = "then") = false from by decide) ?_
    refine ite_f rfl ?_
    refine ix_tag ?_
    refine eqS ?_
    refine bl_t (decide_eq_true rfl) ?_
    refine ite_t rfl ?_
    simp only [pgD]
    refine optK_of rfl ?_
    have q' : Ψ (.lst [pgD p]) B.M := by simpa only [pgIn, pgDs] using q
    exact ⟨ln (n := 1) rfl (by decide), _, _, .same, q'⟩
  | tab t =>
    refine bl_f (show decide (("table" : Str) = "then") = false from by decide) ?_
    refine ite_f rfl ?_
    refine ix_tag ?_
    refine eqS ?_
    refine bl_f (show decide (("table" : Str) = "times") = false from by decide) ?_
    refine ite_f rfl ?_
    exact ⟨ln (n := 0) rfl (by decide), _, _, .same, q⟩
  | trn t =>
    refine bl_f (show decide (("turns" : Str) = "then") = false from by decide) ?_
    refine ite_f rfl ?_
    refine ix_tag ?_
    refine eqS ?_
    refine bl_f (show decide (("turns" : Str) = "times") = false from by decide) ?_
    refine ite_f rfl ?_
    exact ⟨ln (n := 0) rfl (by decide), _, _, .same, q⟩
  | use t =>
    refine bl_f (show decide (("use" : Str) = "then") = false from by decide) ?_
    refine ite_f rfl ?_
    refine ix_tag ?_
    refine eqS ?_
    refine bl_f (show decide (("use" : Str) = "times") = false from by decide) ?_
    refine ite_f rfl ?_
    exact ⟨ln (n := 0) rfl (by decide), _, _, .same, q⟩
  | swp =>
    refine bl_f (show decide (("swap" : Str) = "then") = false from by decide) ?_
    refine ite_f rfl ?_
    refine ix_tag ?_
    refine eqS ?_
    refine bl_f (show decide (("swap" : Str) = "times") = false from by decide) ?_
    refine ite_f rfl ?_
    exact ⟨ln (n := 0) rfl (by decide), _, _, .same, q⟩
def c__law_pieces : Ct := fun ds M Ψ _ => ∃ p : Pg, ds = [pgD p] ∧ PgOk p ∧ pgK p ≤ 20 ∧ pgN p ≤ 16000 ∧ Ψ (.lst (pgDs (pgA p))) M
theorem ok__law_pieces {f : Addr} {fd : FuncData} {dvs : List V} {kws : List (Str × V)} (T : Txt K mg) (h__law_inner : Gf P w K mg base "_law_inner" 2 (c__law_inner) b__law_inner) (F : FnZ K "_law_pieces" "_law_pieces" s__law_pieces dvs kws f fd) : FnOk P w K mg base (L2.CX P w) 3 f fd ["_law_plan"] (spC K ["_law_plan"].length (c__law_pieces)) := by
  have hnd := sc__law_pieces.nd
  refine fnD F sc__law_pieces (c__law_pieces) fun cdv A outer s H E B Ξ hr z => ⟨_, (dss_cons (ds_par (i := 1) (j := 2) rfl hnd (da_cons (de_lstM da_nil) (da_cons (de_lstM (da_cons (de_var (i := 0)) da_nil)) da_nil)))
    (dss_cons (ds_while z.po (dt_ne hr (de_var (i := 2)) (de_lst da_nil)) (dss_cons (ds_set (i := 3) hnd (de_pop0 (de_var (i := 2))))
    (dss_cons (ds_expr (de_append (de_var (i := 1)) (da_cons (de_var (i := 3)) da_nil)))
    (dss_one (ds_set (i := 2) hnd (de_addM (de_var (i := 2)) (de_revL (de_call h__law_inner hr z (List.Mem.head _) (da_cons (de_var (i := 3)) da_nil)))))))))
    (dss_one (ds_ret (de_var (i := 1)))))), fun ds Ψ hl hc => ?_⟩
  obtain ⟨p, rfl, ho, hk, hn, q⟩ := hc
  rw [show ent (["_law_plan", "_law_found", "_law_left", "_law_part"] : List Str).length [pgD p] = [some (pgD p), none, none, none] from rfl]
  refine ⟨ln (n := 0) rfl (by decide), fun pf ef => ⟨ln (n := 1) rfl (by decide), fun pw ew => ?_⟩⟩
  have nfw : pf ≠ pw := fun z => by rw [← z, updM_same] at ew; cases ew
  have ew' : B.M pw = none := by rw [updM_ne (Ne.symm nfw)] at ew; exact ew
  try dsimp only [List.set, getS_z, getS_s, bin2, bin2T, ltD, leD, gtD, geD, cmp_i, add_i, sub_i, min2_i, max2_i]
  let J : Nat → En → Sto → Prop := fun n r M' => ∃ (st done : List Pg) (pw : Addr) (o : Option D), n = pgNs st ∧ pf ≠ pw ∧ B.M pw = none ∧ (∀ a, B.M a ≠ none → M' a = B.M a) ∧ M' pf = some (.lst (pgDs done)) ∧ M' pw = some (.lst (st.reverse.map pgD)) ∧ r = [some (pgD p), some (.ref pf), some (.ref pw), o] ∧ pgA p = done ++ pgAs st ∧ pgNs st ≤ 16000 ∧ done.length + pgNs st ≤ 16000 ∧ PgOks st ∧ pgKs st ≤ 20
  refine ⟨fun r M' => ∃ n, J n r M', muJ J, .of ⟨_, [p], [], pw, none, rfl, nfw, ew', fun a ha => ?_, by rw [updM_ne nfw, updM_same, pgDs], updM_same, rfl, by simp [pgAs], by simpa [pgNs] using hn, by simpa [pgNs] using hn, ⟨ho, trivial⟩, by simpa [pgKs] using hk⟩, fun r M' h => ?_⟩
  · rw [updM_ne (show a ≠ _ from fun z => ha (by rw [z]; exact ew')), updM_ne (show a ≠ _ from fun z => ha (by rw [z]; exact ef))]
  obtain ⟨n, ⟨st, done, pw, o, rfl, nfw, ew', hB, h1, h2, rfl, hu, hs, hd, hok, hks⟩, hmu⟩ := muJ_at h
  generalize hmM : muJ J [some (pgD p), some (.ref pf), some (.ref pw), o] M' = mm at *
  try dsimp only [List.set, getS_z, getS_s, bin2, bin2T, ltD, leD, gtD, geD, cmp_i, add_i, sub_i, min2_i, max2_i]
  refine ⟨ln (n := 0) rfl (by decide), nePlL (lstOf_at h2) rfl (PlL.of (n := 22) fun d hd => ?_) (PlL.nil (n := 0)) (fun b hb => ?_)⟩
  · obtain ⟨x, hx, rfl⟩ := List.mem_map.mp hd
    have hx := List.mem_reverse.mp hx
    exact pl_pg x 21 (pgOks_iff.mp hok x hx) (Nat.le_trans (pgKs_mem hx) (by omega))
  refine bl_c (fun e => ?_) (fun e => ?_)
  rotate_left
  · obtain rfl : st = [] := by
      cases st with
      | nil => rfl
      | cons x st =>
        have e2 := hb.mp (by simpa using e)
        simp at e2
    refine ite_f rfl ?_
    rw [pgAs, List.append_nil] at hu
    refine ⟨_, _, .frz 1, ?_⟩
    rw [rs_same hB]
    show Ψ (fzA B.M M' 1 pf) B.M
    have : fzA B.M M' 1 pf = .lst (pgDs done) := by
      unfold fzA
      rw [ef, h1]
      show D.lst (sbL _ _) = _
      rw [sb_pgs]
    rw [this, ← hu]
    exact q
  obtain ⟨x, st, rfl⟩ : ∃ x st', st = x :: st' := by
    cases st with
    | cons x st => exact ⟨x, st, rfl⟩
    | nil =>
      have e2 := hb.mpr rfl
      rw [e2] at e
      simp at e
  refine ite_t rfl ?_
  have hx := hok.1
  have hy := hok.2
  rw [pgNs] at hs hd
  have hpos := pgN_pos x
  rw [pgKs] at hks
  refine ⟨⟨_, lstOf_at h2⟩, pop_at h2 (d := pgD x) (by simp) ?_⟩
  rw [List.reverse_cons, List.map_append, List.map_singleton, List.dropLast_concat]
  have h1' : updM M' pw (.lst (st.reverse.map pgD)) pf = some (.lst (pgDs done)) := by rw [updM_ne nfw]; exact h1
  try dsimp only [List.set, getS_z, getS_s, bin2, bin2T, ltD, leD, gtD, geD, cmp_i, add_i, sub_i, min2_i, max2_i]
  refine ⟨⟨_, lstOf_at h1'⟩, append_of h1' ?_ ?_⟩
  · rw [pgDs_map, List.length_map]
    exact Nat.lt_of_lt_of_le (show done.length < 1000000 by omega) big_ok
  try dsimp only [List.set, getS_z, getS_s, bin2, bin2T, ltD, leD, gtD, geD, cmp_i, add_i, sub_i, min2_i, max2_i]
  refine ⟨rfl, rfl, x, rfl, _, rfl, _, _, lstOf_at (by rw [updM_ne (Ne.symm nfw), updM_same]), rfl, ?_, fun pn en => ?_⟩
  · have a1 := pgNs_len (pgIn x)
    have a2 := pgNs_len st
    have a3 := pgN_in x
    rw [List.length_map, List.length_reverse, List.length_reverse, pgDs_map, List.length_map]
    exact Nat.le_trans (show st.length + (pgIn x).length ≤ 1000000 by omega) big_ok
  have nn1 : pn ≠ pf := fun z => by rw [z, updM_same] at en; cases en
  have nn2 : pn ≠ pw := fun z => by rw [z, updM_ne (Ne.symm nfw), updM_same] at en; cases en
  have nB : B.M pn = none := by
    rw [updM_ne nn1, updM_ne nn2] at en
    cases eb : B.M pn with
    | none => rfl
    | some c => rw [hB pn (by rw [eb]; simp), eb] at en; cases en
  have ecat : List.map pgD st.reverse ++ (pgDs (pgIn x)).reverse = (pgIn x ++ st).reverse.map pgD := by
    rw [List.reverse_append, List.map_append, pgDs_map, List.map_reverse, List.map_reverse]
  rw [ecat]
  try dsimp only [List.set, getS_z, getS_s, bin2, bin2T, ltD, leD, gtD, geD, cmp_i, add_i, sub_i, min2_i, max2_i]
  have en := pgN_in x
  have hJ : J (pgNs (pgIn x ++ st)) [some (pgD p), some (.ref pf), some (.ref pn), some (pgD x)] (updM (updM (updM M' pw (.lst (st.reverse.map pgD))) pf (.lst (pgDs done ++ [pgD x]))) pn (.lst ((pgIn x ++ st).reverse.map pgD))) := by
    refine ⟨pgIn x ++ st, done ++ [x], pn, some (pgD x), rfl, Ne.symm nn1, nB, fun a ha => ?_, ?_, updM_same, rfl, ?_, ?_, ?_, ?_, ?_⟩
    · rw [updM_ne (show a ≠ _ from fun z => ha (by rw [z]; exact nB)), updM_ne (show a ≠ _ from fun z => ha (by rw [z]; exact ef)), updM_ne (show a ≠ _ from fun z => ha (by rw [z]; exact ew'))]
      exact hB a ha
    · rw [updM_ne (Ne.symm nn1), updM_same, pgDs_map, pgDs_map, List.map_append]
      rfl
    · rw [hu, pgAs, pgA_in x, pgAs_app]
      simp only [List.append_assoc, List.cons_append, List.nil_append]
    · rw [pgNs_app]; omega
    · rw [List.length_append, pgNs_app]
      show done.length + 1 + _ ≤ _
      omega
    · exact pgOks_iff.mpr fun y hy' => (List.mem_append.mp hy').elim (fun z => ((pgOk_iff x).mp hx).2 y z) (fun z => pgOks_iff.mp hy y z)
    · refine pgKs_le fun y hy' => (List.mem_append.mp hy').elim (fun z => ?_) (fun z => Nat.le_trans (pgKs_mem z) (by omega))
      have := pgK_in z
      omega
  refine .of ⟨⟨_, hJ⟩, Nat.lt_of_le_of_lt (muJ_le hJ) ?_⟩
  rw [hmu, pgNs_app, pgNs]
  omega
def c_Table_entries (C : Addr) : Ct := fun ds M Ψ _ => ∃ t, ds = [tab C t] ∧ Ψ (tD t) M
theorem ok_Table_entries {f : Addr} {fd : FuncData} {dvs : List V} {kws : List (Str × V)} (T : Txt K mg)  (F : FnZ K "entries" "Table.entries" s_Table_entries dvs kws f fd) : FnOk P w K mg base (L2.CX P w) 2 f fd ["self"] (spC K ["self"].length (c_Table_entries (He.ga K "Table"))) := by
  have hnd := sc_Table_entries.nd
  refine fnD F sc_Table_entries (c_Table_entries (He.ga K "Table")) fun cdv A outer s H E B Ξ hr z => ⟨_, (dss_one (ds_ret (de_fld T.cl_Table T.na_Table_whole (de_var (i := 0))))), fun ds Ψ hl hc => ?_⟩
  obtain ⟨t, rfl, q⟩ := hc
  exact ⟨rfl, fld_hd ⟨_, _, .same, q⟩⟩
def c_inner_parts : Ct := fun ds M Ψ _ => ∃ p : Pg, ds = [pgD p] ∧ PgS p ∧ Ψ (.lst (pgDs (pgIn p))) M
theorem ok_inner_parts {f : Addr} {fd : FuncData} {dvs : List V} {kws : List (Str × V)} (T : Txt K mg)  (F : FnZ K "inner_parts" "inner_parts" s_inner_parts dvs kws f fd) : FnOk P w K mg base (L2.CX P w) 2 f fd ["program"] (spC K ["program"].length (c_inner_parts)) := by
  have hnd := sc_inner_parts.nd
  refine fnD F sc_inner_parts (c_inner_parts) fun cdv A outer s H E B Ξ hr z => ⟨_, (dss_cons (ds_match (de_var (i := 0)) (dc_cons hnd (dp_seqS (k := 1) rfl (dps_cons (dp_lit hr) (dps_star (i := 1)))) (dss_one (ds_ret (de_var (i := 1)))) (dc_cons hnd (dp_seq (n := 3) rfl (dps_cons (dp_lit hr) (dps_cons dp_wild (dps_cons (dp_cap (i := 2)) dps_nil)))) (dss_one (ds_ret (de_lst (da_cons (de_var (i := 2)) da_nil)))) dc_nil (.cons (i := 2) rfl (by first | exact Or.inl rfl | exact Or.inr rfl) (by first | exact .inl rfl | exact .inr rfl | assumption) .nil)) (.cons (i := 1) rfl (by first | exact Or.inl rfl | exact Or.inr rfl) (by first | exact .inl rfl | exact .inr rfl | assumption) .nil)))
    (dss_one (ds_ret (de_lst da_nil)))), fun ds Ψ hl hc => ?_⟩
  obtain ⟨p, rfl, hs, q⟩ := hc
  rw [show ent (["program", "parts", "last"] : List Str).length [pgD p] = [some (pgD p), none, none] from rfl]
  refine gs0 ?_
  cases p with
  | thn l =>
    simp only [pgD]
    refine caseSHit (by decide) (Nat.zero_le _) (by rw [List.length_cons, pgDs_map, List.length_map]; exact hs) ?_
    exact ⟨_, _, .same, q⟩
  | tms n p =>
    simp only [pgD]
    refine caseSTag (by decide) (Nat.le_of_ble_eq_true rfl) (Nat.le_of_ble_eq_true rfl) ?_
    refine caseHit (by decide) rfl ?_
    refine ⟨(Nat.le_of_ble_eq_true rfl), ?_⟩
    have q' : Ψ (.lst [pgD p]) B.M := by simpa only [pgIn, pgDs] using q
    exact ⟨_, _, .same, q'⟩
  | tab t =>
    simp only [pgD]
    refine caseSTag (by decide) (Nat.le_of_ble_eq_true rfl) (Nat.le_of_ble_eq_true rfl) ?_
    refine caseLen (by simp) ?_
    exact ⟨(Nat.le_of_ble_eq_true rfl), _, _, .same, q⟩
  | trn t =>
    simp only [pgD]
    refine caseSTag (by decide) (Nat.le_of_ble_eq_true rfl) (Nat.le_of_ble_eq_true rfl) ?_
    refine caseLen (by simp) ?_
    exact ⟨(Nat.le_of_ble_eq_true rfl), _, _, .same, q⟩
  | use t =>
    simp only [pgD]
    refine caseSTag (by decide) (Nat.le_of_ble_eq_true rfl) (Nat.le_of_ble_eq_true rfl) ?_
    refine caseLen (by simp) ?_
    exact ⟨(Nat.le_of_ble_eq_true rfl), _, _, .same, q⟩
  | swp =>
    simp only [pgD]
    refine caseSTag (by decide) (Nat.le_of_ble_eq_true rfl) (Nat.le_of_ble_eq_true rfl) ?_
    refine caseLen (by simp) ?_
    exact ⟨(Nat.le_of_ble_eq_true rfl), _, _, .same, q⟩
def c_names_in : Ct := fun ds M Ψ _ => ∃ p : Pg, ds = [pgD p] ∧ PgOk p ∧ pgK p ≤ 20 ∧ pgN p ≤ 16000 ∧ Ψ (.lst ((dd (pgU p)).map .str)) M
theorem ok_names_in {f : Addr} {fd : FuncData} {dvs : List V} {kws : List (Str × V)} (T : Txt K mg) (h_inner_parts : Gf P w K mg base "inner_parts" 2 (c_inner_parts) b_inner_parts) (F : FnZ K "names_in" "names_in" s_names_in dvs kws f fd) : FnOk P w K mg base (L2.CX P w) 3 f fd ["program"] (spC K ["program"].length (c_names_in)) := by
  have hnd := sc_names_in.nd
  refine fnD F sc_names_in (c_names_in) fun cdv A outer s H E B Ξ hr z => ⟨_, (dss_cons (ds_par (i := 1) (j := 2) rfl hnd (da_cons de_dnewK (da_cons (de_lstM (da_cons (de_var (i := 0)) da_nil)) da_nil)))
    (dss_cons (ds_while z.po (dt_ne hr (de_var (i := 2)) (de_lst da_nil)) (dss_cons (ds_set (i := 3) hnd (de_pop0 (de_var (i := 2))))
    (dss_cons (ds_if (dt_eq hr (de_ix (de_var (i := 3)) de_int) de_str) (dss_one (ds_dput hr de_bl (de_var (i := 1)) (de_ix (de_var (i := 3)) de_int))) dss_nil)
    (dss_one (ds_expr (de_extend (de_var (i := 2)) (da_cons (de_revL (de_call h_inner_parts hr z (List.Mem.head _) (da_cons (de_var (i := 3)) da_nil))) da_nil)))))))
    (dss_one (ds_ret (de_listK rfl T.n_list (da_cons (de_var (i := 1)) da_nil)))))), fun ds Ψ hl hc => ?_⟩
  obtain ⟨p, rfl, ho, hk, hn, q⟩ := hc
  rw [show ent (["program", "found", "waiting", "part"] : List Str).length [pgD p] = [some (pgD p), none, none, none] from rfl]
  refine fun pf ef => ⟨ln (n := 1) rfl (by decide), fun pw ew => ?_⟩
  have nfw : pf ≠ pw := fun z => by rw [← z, updM_same] at ew; cases ew
  have ew' : B.M pw = none := by rw [updM_ne (Ne.symm nfw)] at ew; exact ew
  try dsimp only [List.set, getS_z, getS_s, bin2, bin2T, ltD, leD, gtD, geD, cmp_i, add_i, sub_i, min2_i, max2_i]
  let J : Nat → En → Sto → Prop := fun n r M' => ∃ (st : List Pg) (done : List Str) (o : Option D), n = pgNs st ∧ M' = updM (updM B.M pf (.dic (kvS (dd done)))) pw (.lst (st.reverse.map pgD)) ∧ r = [some (pgD p), some (.ref pf), some (.ref pw), o] ∧ pgU p = done ++ pgUs st ∧ pgNs st ≤ 16000 ∧ done.length + pgNs st ≤ 16000 ∧ PgOks st ∧ pgKs st ≤ 20
  refine ⟨fun r M' => ∃ n, J n r M', muJ J, .of ⟨_, [p], [], none, rfl, rfl, rfl, by simp [pgUs], by simpa [pgNs] using hn, by simpa [pgNs] using hn, ⟨ho, trivial⟩, by simpa [pgKs] using hk⟩, fun r M' h => ?_⟩
  obtain ⟨n, ⟨st, done, o, rfl, rfl, rfl, hu, hs, hd, hok, hks⟩, hmu⟩ := muJ_at h
  generalize hmM : muJ J [some (pgD p), some (.ref pf), some (.ref pw), o] (updM (updM B.M pf (.dic (kvS (dd done)))) pw (.lst (st.reverse.map pgD))) = mm at *
  try dsimp only [List.set, getS_z, getS_s, bin2, bin2T, ltD, leD, gtD, geD, cmp_i, add_i, sub_i, min2_i, max2_i]
  refine ⟨ln (n := 0) rfl (by decide), nePlL (lstOf_at updM_same) rfl (PlL.of (n := 22) fun d hd => ?_) (PlL.nil (n := 0)) (fun b hb => ?_)⟩
  · obtain ⟨x, hx, rfl⟩ := List.mem_map.mp hd
    have hx := List.mem_reverse.mp hx
    exact pl_pg x 21 (pgOks_iff.mp hok x hx) (Nat.le_trans (pgKs_mem hx) (by omega))
  refine bl_c (fun e => ?_) (fun e => ?_)
  rotate_left
  · obtain rfl : st = [] := by
      cases st with
      | nil => rfl
      | cons x st =>
        have e2 := hb.mp (by simpa using e)
        simp at e2
    refine ite_f rfl ?_
    refine ⟨kvS (dd done), by simp only [dkOf, updM_ne nfw, updM_same], ?_⟩
    rw [kvS_keys]
    rw [pgUs, List.append_nil] at hu
    rw [← hu]
    refine ⟨_, _, .drop, ?_⟩
    rw [rs_two ef ew']
    exact q
  obtain ⟨x, st, rfl⟩ : ∃ x st', st = x :: st' := by
    cases st with
    | cons x st => exact ⟨x, st, rfl⟩
    | nil =>
      have e2 := hb.mpr rfl
      rw [e2] at e
      simp at e
  refine ite_t rfl ?_
  have hx := hok.1
  have hy := hok.2
  rw [pgNs] at hs hd
  have hpos := pgN_pos x
  rw [pgKs] at hks
  refine ⟨⟨_, lstOf_at updM_same⟩, pop_at updM_same (d := pgD x) (by simp) ?_⟩
  rw [List.reverse_cons, List.map_append, List.map_singleton, List.dropLast_concat, updM_updM]
  have fin : ∀ (done' : List Str), done' = done ++ pgOwn x → Cl B.M (fun r' M' => (∃ n, J n r' M') ∧ muJ J r' M' < mm) [some (pgD p), some (.ref pf), some (.ref pw), some (pgD x)] (updM (updM B.M pf (.dic (kvS (dd done')))) pw (.lst ((st.reverse.map pgD) ++ (pgDs (pgIn x)).reverse))) := fun done' hd' => by
    have en := pgN_in x
    have eu : pgU p = done' ++ pgUs (pgIn x ++ st) := by rw [hu, hd', pgUs, pgU_own x, pgUs_app]; simp only [List.append_assoc]
    have lo : (pgOwn x).length ≤ 1 := by cases x <;> simp [pgOwn]
    have hJ : J (pgNs (pgIn x ++ st)) [some (pgD p), some (.ref pf), some (.ref pw), some (pgD x)] (updM (updM B.M pf (.dic (kvS (dd done')))) pw (.lst ((st.reverse.map pgD) ++ (pgDs (pgIn x)).reverse))) := by
      refine ⟨pgIn x ++ st, done', some (pgD x), rfl, ?_, rfl, eu, ?_, ?_, ?_, ?_⟩
      · rw [List.reverse_append, List.map_append, pgDs_map, List.map_reverse, List.map_reverse]
      · rw [pgNs_app]; omega
      · rw [hd', List.length_append, pgNs_app]; omega
      · exact pgOks_iff.mpr fun y hy' => (List.mem_append.mp hy').elim (fun z => ((pgOk_iff x).mp hx).2 y z) (fun z => pgOks_iff.mp hy y z)
      · refine pgKs_le fun y hy' => (List.mem_append.mp hy').elim (fun z => ?_) (fun z => Nat.le_trans (pgKs_mem z) (by omega))
        have := pgK_in z
        omega
    refine .of ⟨⟨_, hJ⟩, Nat.lt_of_le_of_lt (muJ_le hJ) ?_⟩
    rw [hmu, pgNs_app, pgNs]; omega
  have tail : ∀ (done' : List Str), done' = done ++ pgOwn x → (∃ l, lstOf (updM (updM B.M pf (.dic (kvS (dd done')))) pw (.lst (st.reverse.map pgD))) (D.ref pw) = some l) ∧ callD 1 0 (fun ds x => ds) c_inner_parts (exF B.M Ξ) [pgD x] [] [some (pgD p), some (D.ref pf), some (D.ref pw), some (pgD x)] (updM (updM B.M pf (.dic (kvS (dd done')))) pw (.lst (st.reverse.map pgD))) fun d_1 M1 => ∃ l, lstOf M1 d_1 = some l ∧ extendD M1 (D.ref pw) [.lst l.reverse] fun _ M1 => Cl B.M (fun r' M' => (∃ n, J n r' M') ∧ muJ J r' M' < mm) [some (pgD p), some (.ref pf), some (.ref pw), some (pgD x)] M1 := fun done' hd' => by
    refine ⟨⟨_, lstOf_at updM_same⟩, rfl, rfl, x, rfl, hx.s, _, rfl, extend_at updM_same rfl ?_ ?_⟩
    · have h1 := pgNs_len (pgIn x)
      have h2 := pgNs_len st
      have h3 := pgN_in x
      rw [List.length_map, List.length_reverse, List.length_reverse, pgDs_map, List.length_map]
      exact Nat.le_trans (show st.length + (pgIn x).length ≤ 1000000 by omega) big_ok
    · rw [updM_updM]
      exact fin done' hd'
  refine ix_tag ?_
  refine eqS ?_
  refine bl_c (fun e2 => ?_) (fun e2 => ?_)
  · refine ite_t rfl ?_
    obtain ⟨y, rfl⟩ := tag_use (of_decide_eq_true e2)
    have ix1 : ∀ (M : Sto) (φ : D → Prop), φ (.str y) → ixD M (pgD (.use y)) (.int 1) φ := fun M φ h => by rw [pgD]; exact optK_of rfl h
    refine ix1 _ _ ?_
    have hl : (kvS (dd done)).length < sizeLine := by
      have := len_dd done
      have h2 : (kvS (dd done)).length = (dd done).length := by unfold kvS; exact List.length_map ..
      exact Nat.lt_of_lt_of_le (show (kvS (dd done)).length < 1000000 by omega) big_ok
    refine ⟨pf, _, rfl, hl, .inl ⟨by rw [updM_ne nfw, updM_same], ⟨_, rfl⟩, ?_⟩⟩
    rw [kvS_put, ← dd_snoc, updM_comm (Ne.symm nfw), updM_updM]
    exact tail _ rfl
  · refine ite_f rfl ?_
    exact tail _ (by rw [pgOwn_nil (of_decide_eq_false e2), List.append_nil])
def c_table_with (C : Addr) : Ct := fun ds M Ψ _ => ∃ t n, ds = [tD t] ∧ 0 < n ∧ n ≤ 500000 ∧ Sm n t ∧ det4 t ≠ 0 ∧ Ψ (tab C t) M
theorem ok_table_with {f : Addr} {fd : FuncData} {dvs : List V} {kws : List (Str × V)} (T : Txt K mg) (c_Table : Cf P w K mg base "Table" (He.ga K "Table") 3 (c_Tabled_initd (He.ga K "Table") (He.ga K "InvalidTable")) b_Tabled_initd) (F : FnZ K "table_with" "table_with" s_table_with dvs kws f fd) : FnOk P w K mg base (L2.CX P w) 5 f fd ["entries"] (spC K ["entries"].length (c_table_with (He.ga K "Table"))) := by
  have hnd := sc_table_with.nd
  refine fnD F sc_table_with (c_table_with (He.ga K "Table")) fun cdv A outer s H E B Ξ hr z => ⟨_, (dss_cons (ds_asg (de_var (i := 0)) (dg_tup (n := 4) rfl (dgs_cons (dg_name (i := 1) hnd) (dgs_cons (dg_name (i := 2) hnd) (dgs_cons (dg_name (i := 3) hnd) (dgs_cons (dg_name (i := 4) hnd) dgs_nil))))))
    (dss_one (ds_ret (de_make c_Table hr z (List.Mem.head _) (da_cons (de_var (i := 1)) (da_cons (de_var (i := 2)) (da_cons (de_var (i := 3)) (da_cons (de_var (i := 4)) da_nil)))))))), fun ds Ψ hl hc => ?_⟩
  obtain ⟨t, n, rfl, h0, hn, hs, hd, q⟩ := hc
  refine ⟨rfl, rfl, ?_⟩
  exact mk_tab h0 hn hs hd ⟨_, _, .same, q⟩
def c_divisor_of : Ct := fun ds M Ψ _ => ∃ ns : List Int, ds = [.tup (ns.map .int)] ∧ Ψ (.int (gN ns)) M
theorem ok_divisor_of {f : Addr} {fd : FuncData} {dvs : List V} {kws : List (Str × V)} (T : Txt K mg)  (F : FnZ K "divisor_of" "divisor_of" s_divisor_of dvs kws f fd) : FnOk P w K mg base (L2.CX P w) 2 f fd ["numbers"] (spC K ["numbers"].length (c_divisor_of)) := by
  have hnd := sc_divisor_of.nd
  refine fnD F sc_divisor_of (c_divisor_of) fun cdv A outer s H E B Ξ hr z => ⟨_, (dss_cons (ds_set (i := 1) hnd de_int)
    (dss_cons (ds_for z.po rfl (di_tup (de_var (i := 0))) (dg_name (i := 2) hnd) (dss_cons (ds_par (i := 3) (j := 4) rfl hnd (da_cons (de_var (i := 1)) (da_cons (de_abs1 T.n_abs (da_cons (de_var (i := 2)) da_nil)) da_nil)))
    (dss_cons (ds_while z.po (dt_ne hr (de_var (i := 4)) de_int) (dss_one (ds_par (i := 3) (j := 4) rfl hnd (da_cons (de_var (i := 4)) (da_cons (de_fmod (de_var (i := 3)) (de_var (i := 4))) da_nil)))))
    (dss_one (ds_set (i := 1) hnd (de_var (i := 3)))))))
    (dss_one (ds_ret (de_var (i := 1)))))), fun ds Ψ hl hc => ?_⟩
  obtain ⟨ns, rfl, q⟩ := hc
  refine forD_n (xs := ns.map .int) (S := fun _ => True) (fun K h => ⟨_, rfl, h⟩) (fun i r M' => M' = B.M ∧ ∃ o2 o3 o4, r = [some (.tup (ns.map .int)), some (.int (gN (ns.take i))), o2, o3, o4]) ⟨rfl, none, none, none, rfl⟩ (fun _ _ _ _ => trivial) (fun i d r M' hd h => ?_) (fun r M' h => ?_)
  · obtain ⟨rfl, o2, o3, o4, rfl⟩ := h
    obtain ⟨x, hx, rfl⟩ := map_get hd
    refine ⟨fun r M' => M' = B.M ∧ ∃ a b : Nat, Nat.gcd a b = Nat.gcd (gN (ns.take i)) x.natAbs ∧ r = [some (.tup (ns.map .int)), some (.int (gN (ns.take i))), some (.int x), some (.int a), some (.int b)], fun r _ => slotN r 4, .of ⟨rfl, _, _, rfl, by rw [abs_nat]; rfl⟩, fun r M' h => ?_⟩
    obtain ⟨rfl, a, b, e, rfl⟩ := h
    refine neI ?_
    refine bl_c (fun e2 => ?_) (fun e2 => ?_)
    · have hb : b ≠ 0 := by simpa using e2
      refine ⟨by omega, .of ⟨⟨rfl, b, a % b, by rw [gcd_step]; exact e, by rw [fmod_nat]; rfl⟩, ?_⟩⟩
      show (((a : Int).fmod b)).natAbs < (b : Int).natAbs
      rw [fmod_nat]
      have := Nat.mod_lt a (Nat.pos_of_ne_zero hb)
      omega
    · have hb : b = 0 := by simpa using e2
      subst hb
      exact .of ⟨rfl, some (.int x), some (.int a), some (.int 0), by rw [gN_take hx, ← e, Nat.gcd_zero_right]; rfl⟩
  · obtain ⟨rfl, o2, o3, o4, rfl⟩ := h
    refine ⟨_, _, .same, ?_⟩
    rw [List.length_map, List.take_length]
    exact q
def c_divided : Ct := fun ds M Ψ _ => ∃ ns : List Int, ds = [.tup (ns.map .int)] ∧ ns.length ≤ 1000000 ∧ Dok (gN ns) ∧ Ψ (.tup ((dvL (gN ns) ns).map .int)) M
def dvB (g : Int) (d : D) : D := match d with
  | .int j => .int (j.fdiv g)
  | d => d
theorem dvB_map (g : Nat) (l : List Int) : (l.map D.int).map (dvB g) = (dvL g l).map D.int := by unfold dvL; rw [List.map_map, List.map_map]; rfl
theorem ok_divided {f : Addr} {fd : FuncData} {dvs : List V} {kws : List (Str × V)} (T : Txt K mg) (h_divisor_of : Gf P w K mg base "divisor_of" 2 (c_divisor_of) b_divisor_of) (F : FnZ K "divided" "divided" s_divided dvs kws f fd) : FnOk P w K mg base (L2.CX P w) 3 f fd ["entries"] (spC K ["entries"].length (c_divided)) := by
  have hnd := sc_divided.nd
  refine fnD F sc_divided (c_divided) fun cdv A outer s H E B Ξ hr z => ⟨_, (dss_cons (ds_set (i := 1) hnd (de_call h_divisor_of hr z (List.Mem.head _) (da_cons (de_var (i := 0)) da_nil)))
    (dss_one (ds_ret (de_tuple1 T.n_tuple (da_cons (de_lc rfl hnd (di_tup (de_var (i := 0))) (blkOk_by (own := [("entry", 2)]) (by rfl)) (tg_name (i := 2) (by decide)) (fun _ _ _ _ _ => (pg_name (i := 2) hnd rfl (by first | exact Or.inl rfl | exact Or.inr rfl) (by first | exact .inl rfl | exact .inr rfl))) (fun _ _ _ _ _ _ => dts_nil) (fun _ _ _ _ _ _ => (de_fdiv (de_var (i := 2)) (de_var (i := 1))))) da_nil))))), fun ds Ψ hl hc => ?_⟩
  obtain ⟨ns, rfl, hl, hg, q⟩ := hc
  refine ⟨rfl, rfl, ns, rfl, ?_⟩
  refine compD_map (xs := ns.map .int) (S := fun _ => True) (fun K h => ⟨_, rfl, h⟩) (dvB (gN ns)) trivial (ln (n := ns.length) (List.length_map _) hl) (fun d hd Q h => ?_) ?_
  · obtain ⟨x, hx, rfl⟩ := List.mem_map.mp hd
    exact ⟨hg, h⟩
  · rw [dvB_map]
    exact ⟨_, rfl, _, _, .same, q⟩
def c_made (CG : Addr) : Ct := fun ds M Ψ Ξ => ∃ t : T4, ds = [tD t] ∧ Sm 200 t ∧ Nn t ∧ det4 t ≠ 0 ∧ (∀ u, capT t = some u → Ψ (tD u) M) ∧ (capT t = none → Ξ (CG, [("most", .int 1000000), ("tag", .str "TooGreat")]) M)
theorem ok_made {f : Addr} {fd : FuncData} {dvs : List V} {kws : List (Str × V)} (T : Txt K mg) (h_divided : Gf P w K mg base "divided" 3 (c_divided) b_divided) (x_TooGreat : Xf P w K mg base "TooGreat" (He.ga K "TooGreat") 1 (tag2 "TooGreat" "most")) (F : FnZ K "made" "made" s_made dvs kws f fd) : FnOk P w K mg base (L2.CX P w) 4 f fd ["entries"] (spC K ["entries"].length (c_made (He.ga K "TooGreat"))) := by
  have hnd := sc_made.nd
  refine fnD F sc_made (c_made (He.ga K "TooGreat")) fun cdv A outer s H E B Ξ hr z => ⟨_, (dss_cons (ds_set (i := 1) hnd (de_call h_divided hr z (List.Mem.head _) (da_cons (de_var (i := 0)) da_nil)))
    (dss_cons (ds_if (dt_gt (de_maxA rfl hr T.n_max (da_cons (de_var (i := 1)) da_nil)) (de_gint T.k_MOST_TABLE)) (dss_one (ds_raise1 x_TooGreat hr z rfl (da_cons (de_gint T.k_MOST_TABLE) da_nil))) dss_nil)
    (dss_one (ds_ret (de_var (i := 1)))))), fun ds Ψ hl hc => ?_⟩
  obtain ⟨t, rfl, hs, hn, hd, q1, q2⟩ := hc
  refine ⟨rfl, rfl, iL t, rfl, (show 4 ≤ 1000000 by decide), dok_gm hs hd (by omega), ?_⟩
  rw [dv_pr4]
  obtain ⟨hm, hle⟩ := foldl_max [(pr4 t).2.1, (pr4 t).2.2.1, (pr4 t).2.2.2] (pr4 t).1
  refine ⟨(pr4 t).1, [(pr4 t).2.1, (pr4 t).2.2.1, (pr4 t).2.2.2], .inr rfl, ?_⟩
  generalize [(pr4 t).2.1, (pr4 t).2.2.1, (pr4 t).2.2.2].foldl max (pr4 t).1 = m at *
  refine bl_c (fun e => ?_) (fun e => ?_)
  · have e := of_decide_eq_true e
    refine ite_t rfl ?_
    refine ⟨_, .same, q2 ?_⟩
    unfold capT
    refine if_neg fun z => ?_
    simp only [List.mem_cons, List.not_mem_nil, or_false] at hm
    omega
  · have e := of_decide_eq_false e
    refine ite_f rfl ?_
    refine ⟨_, _, .same, q1 _ ?_⟩
    unfold capT
    refine if_pos ?_
    have h1 := hle _ (show (pr4 t).1 ∈ _ from by simp)
    have h2 := hle _ (show (pr4 t).2.1 ∈ _ from by simp)
    have h3 := hle _ (show (pr4 t).2.2.1 ∈ _ from by simp)
    have h4 := hle _ (show (pr4 t).2.2.2 ∈ _ from by simp)
    omega
def c_product : Ct := fun ds M Ψ _ => ∃ s t n m, ds = [tD s, tD t] ∧ Sm n s ∧ Sm m t ∧ 0 < n ∧ 0 < m ∧ n + m ≤ 1000000 ∧ Ψ (tD (mul4 s t)) M
theorem ok_product {f : Addr} {fd : FuncData} {dvs : List V} {kws : List (Str × V)} (T : Txt K mg)  (F : FnZ K "product" "product" s_product dvs kws f fd) : FnOk P w K mg base (L2.CX P w) 2 f fd ["one", "other"] (spC K ["one", "other"].length (c_product)) := by
  have hnd := sc_product.nd
  refine fnD F sc_product (c_product) fun cdv A outer s H E B Ξ hr z => ⟨_, (dss_cons (ds_asg (de_var (i := 0)) (dg_tup (n := 4) rfl (dgs_cons (dg_name (i := 2) hnd) (dgs_cons (dg_name (i := 3) hnd) (dgs_cons (dg_name (i := 4) hnd) (dgs_cons (dg_name (i := 5) hnd) dgs_nil))))))
    (dss_cons (ds_asg (de_var (i := 1)) (dg_tup (n := 4) rfl (dgs_cons (dg_name (i := 6) hnd) (dgs_cons (dg_name (i := 7) hnd) (dgs_cons (dg_name (i := 8) hnd) (dgs_cons (dg_name (i := 9) hnd) dgs_nil))))))
    (dss_one (ds_ret (de_tup (da_cons (de_add (de_mul (de_var (i := 2)) (de_var (i := 6))) (de_mul (de_var (i := 3)) (de_var (i := 8)))) (da_cons (de_add (de_mul (de_var (i := 2)) (de_var (i := 7))) (de_mul (de_var (i := 3)) (de_var (i := 9)))) (da_cons (de_add (de_mul (de_var (i := 4)) (de_var (i := 6))) (de_mul (de_var (i := 5)) (de_var (i := 8)))) (da_cons (de_add (de_mul (de_var (i := 4)) (de_var (i := 7))) (de_mul (de_var (i := 5)) (de_var (i := 9)))) da_nil))))))))), fun ds Ψ hl hc => ?_⟩
  obtain ⟨s, t, n, m, rfl, hs, ht, h0, h1, hz, q⟩ := hc
  have k : ∀ {i j : Int}, i.natAbs < 2 ^ n → j.natAbs < 2 ^ m → IntMulOk i j := fun a b => mok_of a b h0 h1 hz
  exact ⟨rfl, rfl, rfl, rfl, k hs.1 ht.1, k hs.2.1 ht.2.2.1, k hs.1 ht.2.1, k hs.2.1 ht.2.2.2, k hs.2.2.1 ht.1, k hs.2.2.2 ht.2.2.1, k hs.2.2.1 ht.2.1, k hs.2.2.2 ht.2.2.2, ln (n := 4) rfl (by decide), _, _, .same, q⟩
def c_word_table : Ct := fun ds M Ψ _ => ∃ x, ds = [.str x] ∧ x.cps.size ≤ 400000 ∧ Ψ (tD (wL x.cps.toList)) M
theorem ok_word_table {f : Addr} {fd : FuncData} {dvs : List V} {kws : List (Str × V)} (T : Txt K mg) (h_product : Gf P w K mg base "product" 2 (c_product) b_product) (F : FnZ K "word_table" "word_table" s_word_table dvs kws f fd) : FnOk P w K mg base (L2.CX P w) 3 f fd ["word"] (spC K ["word"].length (c_word_table)) := by
  have hnd := sc_word_table.nd
  refine fnD F sc_word_table (c_word_table) fun cdv A outer s H E B Ξ hr z => ⟨_, (dss_cons (ds_set (i := 1) hnd (de_gtup T.k_NEUTRAL))
    (dss_cons (ds_for z.po rfl (di_str (de_var (i := 0))) (dg_name (i := 2) hnd) (dss_one (ds_set (i := 1) hnd (de_call h_product hr z (List.Mem.head _) (da_cons (de_var (i := 1)) (da_cons (de_if (dt_eq hr (de_var (i := 2)) de_str) (de_gtup T.k_RIGHT) (de_gtup T.k_LEFT)) da_nil))))))
    (dss_one (ds_ret (de_var (i := 1)))))), fun ds Ψ hl hc => ?_⟩
  obtain ⟨x, rfl, hz, q⟩ := hc
  refine forD_n (xs := Z.signs x) (fun K h => h) (fun i r M' => M' = B.M ∧ ∃ o, r = [some (.str x), some (tD (wL (x.cps.toList.take i))), o]) ⟨rfl, none, rfl⟩ (fun _ _ _ _ => trivial) (fun i d r M' hd h => ?_) (fun r M' h => ?_)
  · obtain ⟨rfl, o, rfl⟩ := h
    obtain ⟨c, hi, rfl⟩ := signs_get hd
    have hl : (x.cps.toList.take i).length ≤ 400000 := by rw [List.length_take, Array.length_toList]; omega
    have fin : c_product [tD (wL (x.cps.toList.take i)), tD (turnT c)] B.M (fun d M' => Cl B.M (fun r M' => M' = B.M ∧ ∃ o, r = [some (.str x), some (tD (wL (x.cps.toList.take (i + 1)))), o]) [some (.str x), some d, some (.str ⟨#[c]⟩)] M') (fun y M' => exF B.M Ξ y [some (.str x), some (tD (wL (x.cps.toList.take i))), some (.str ⟨#[c]⟩)] M') :=
      ⟨_, _, _, _, rfl, sm_wL _, sm_turn c, by omega, by omega, by omega, .of ⟨rfl, _, by rw [wL_take hi]⟩⟩
    unfold turnT at fin
    refine eqS ?_
    refine bl_c (fun e => ?_) (fun e => ?_)
    · rw [if_pos (of_decide_eq_true e)] at fin
      exact ⟨rfl, rfl, fin⟩
    · rw [if_neg (of_decide_eq_false e)] at fin
      exact ⟨rfl, rfl, fin⟩
  · obtain ⟨rfl, o, rfl⟩ := h
    refine ⟨_, _, .same, ?_⟩
    rw [signs_len, List.take_of_length_le (by rw [Array.length_toList]; exact Nat.le_refl _)]
    exact q
def c_entries_of (dp : Nat) (C CG : Addr) : Ct := fun ds M Ψ Ξ => ∃ (p : Pg) (a : Addr) (l : List (D × D)) (g : Str → Option T4), ds = [pgD p, .ref a] ∧ M a = some (.dic l) ∧ pgK p ≤ dp ∧ PgOk p ∧ (∀ x ∈ pgU p, ∃ t, g x = some t ∧ GdT t ∧ dlook l (.str x) = some (tab C t)) ∧
  (∀ u, tbl g p = some u → Ψ (tD u) M) ∧ (tbl g p = none → Ξ (CG, [("most", .int 1000000), ("tag", .str "TooGreat")]) M)
theorem no_entries_of {C CG : Addr} : ∀ (ds : List D) (M : Sto) (Ψ : PD) (Ξ : XD → Sto → Prop), ¬ c_entries_of 0 C CG ds M Ψ Ξ := fun _ _ _ _ ⟨p, _, _, _, _, _, hk, _⟩ => by
  have := pgK_pos p
  omega
theorem ok_entries_of {f : Addr} {fd : FuncData} {dvs : List V} {kws : List (Str × V)} (T : Txt K mg) {lv dp : Nat} (hlv : 4 ≤ lv) (h_entries_of : Gf P w K mg base "entries_of" lv (c_entries_of dp (He.ga K "Table") (He.ga K "TooGreat")) b_entries_of) (h_Table_entries : Mf P w K mg base (He.ga K "Table") "entries" 2 (c_Table_entries (He.ga K "Table")) b_Table_entries) (h_made : Gf P w K mg base "made" 4 (c_made (He.ga K "TooGreat")) b_made) (h_product : Gf P w K mg base "product" 2 (c_product) b_product) (h_word_table : Gf P w K mg base "word_table" 3 (c_word_table) b_word_table) (F : FnZ K "entries_of" "entries_of" s_entries_of dvs kws f fd) : FnOk P w K mg base (L2.CX P w) (lv + 1) f fd ["program", "tables"] (spC K ["program", "tables"].length (c_entries_of (dp + 1) (He.ga K "Table") (He.ga K "TooGreat"))) := by
  have hnd := sc_entries_of.nd
  refine fnD F sc_entries_of (c_entries_of (dp + 1) (He.ga K "Table") (He.ga K "TooGreat")) fun cdv A outer s H E B Ξ hr z => ⟨_, (dss_cons (ds_match (de_var (i := 0)) (dc_cons hnd (dp_seq (n := 2) rfl (dps_cons (dp_lit hr) (dps_cons (dp_cap (i := 2)) dps_nil))) (dss_one (ds_ret (de_call (hj := by omega) h_made hr z (List.Mem.head _) (da_cons (de_var (i := 2)) da_nil)))) (dc_cons hnd (dp_seq (n := 2) rfl (dps_cons (dp_lit hr) (dps_cons (dp_cap (i := 3)) dps_nil))) (dss_one (ds_ret (de_call (hj := by omega) h_made hr z (List.Mem.head _) (da_cons (de_call (hj := by omega) h_word_table hr z (List.Mem.head _) (da_cons (de_var (i := 3)) da_nil)) da_nil)))) (dc_cons hnd (dp_seqS (k := 2) rfl (dps_cons (dp_lit hr) (dps_cons (dp_cap (i := 4)) (dps_star (i := 5))))) (dss_cons (ds_set (i := 6) hnd (de_call (hj := by omega) h_entries_of hr z (List.Mem.head _) (da_cons (de_var (i := 4)) (da_cons (de_var (i := 1)) da_nil))))
    (dss_cons (ds_for z.po rfl (di_list (de_var (i := 5))) (dg_name (i := 7) hnd) (dss_one (ds_set (i := 6) hnd (de_call (hj := by omega) h_made hr z (List.Mem.head _) (da_cons (de_call (hj := by omega) h_product hr z (List.Mem.head _) (da_cons (de_call (hj := by omega) h_entries_of hr z (List.Mem.head _) (da_cons (de_var (i := 7)) (da_cons (de_var (i := 1)) da_nil))) (da_cons (de_var (i := 6)) da_nil))) da_nil)))))
    (dss_one (ds_ret (de_var (i := 6)))))) (dc_cons hnd (dp_seq (n := 3) rfl (dps_cons (dp_lit hr) (dps_cons (dp_cap (i := 8)) (dps_cons (dp_cap (i := 9)) dps_nil)))) (dss_cons (ds_par (i := 10) (j := 6) rfl hnd (da_cons (de_call (hj := by omega) h_entries_of hr z (List.Mem.head _) (da_cons (de_var (i := 9)) (da_cons (de_var (i := 1)) da_nil))) (da_cons (de_gtup T.k_NEUTRAL) da_nil)))
    (dss_cons (ds_for z.po rfl (di_range1 T.n_range (da_cons (de_var (i := 8)) da_nil)) (dg_name (i := 11) hnd) (dss_one (ds_set (i := 6) hnd (de_call (hj := by omega) h_made hr z (List.Mem.head _) (da_cons (de_call (hj := by omega) h_product hr z (List.Mem.head _) (da_cons (de_var (i := 10)) (da_cons (de_var (i := 6)) da_nil))) da_nil)))))
    (dss_one (ds_ret (de_var (i := 6)))))) (dc_cons hnd (dp_seq (n := 2) rfl (dps_cons (dp_lit hr) (dps_cons (dp_cap (i := 12)) dps_nil))) (dss_one (ds_ret (de_meth0 (hj := by omega) h_Table_entries T.cl_Table hr z (List.Mem.head _) (de_dget hr (de_var (i := 1)) (de_var (i := 12)))))) dc_nil (.cons (i := 12) rfl (by first | exact Or.inl rfl | exact Or.inr rfl) (by first | exact .inl rfl | exact .inr rfl | assumption) .nil)) (.cons (i := 8) rfl (by first | exact Or.inl rfl | exact Or.inr rfl) (by first | exact .inl rfl | exact .inr rfl | assumption) (.cons (i := 9) rfl (by first | exact Or.inl rfl | exact Or.inr rfl) (by first | exact .inl rfl | exact .inr rfl | assumption) .nil))) (.cons (i := 4) rfl (by first | exact Or.inl rfl | exact Or.inr rfl) (by first | exact .inl rfl | exact .inr rfl | assumption) (.cons (i := 5) rfl (by first | exact Or.inl rfl | exact Or.inr rfl) (by first | exact .inl rfl | exact .inr rfl | assumption) .nil))) (.cons (i := 3) rfl (by first | exact Or.inl rfl | exact Or.inr rfl) (by first | exact .inl rfl | exact .inr rfl | assumption) .nil)) (.cons (i := 2) rfl (by first | exact Or.inl rfl | exact Or.inr rfl) (by first | exact .inl rfl | exact .inr rfl | assumption) .nil)))
    (dss_one (ds_ret (de_gtup T.k_SWAP)))), fun ds Ψ hl hc => ?_⟩
  obtain ⟨p, a, l, g, rfl, ha, hk, ho, hg, q1, q2⟩ := hc
  rw [show ent (["program", "tables", "entries", "word", "first", "parts", "found", "part", "count", "last", "inner", "step", "name"] : List Str).length [pgD p, .ref a] = [some (pgD p), some (.ref a), none, none, none, none, none, none, none, none, none, none, none] from rfl]
  refine gs0 ?_
  cases p with
  | tab t =>
    simp only [pgD]
    refine caseHit (by decide) rfl ?_
    obtain ⟨hn, a1, a2, a3, a4, hd⟩ := ho
    have hs : Sm 200 t := Sm.mono (n := 6) ⟨by have := hn.1; omega, by have := hn.2.1; omega, by have := hn.2.2.1; omega, by have := hn.2.2.2; omega⟩ (by decide)
    exact ⟨rfl, rfl, t, rfl, hs, hn, hd, fun u h => ⟨_, _, .same, q1 u (by rw [tbl]; exact h)⟩, fun h => ⟨_, .same, q2 (by rw [tbl]; exact h)⟩⟩
  | trn w =>
    simp only [pgD]
    refine caseTag (by decide) rfl ?_
    refine caseHit (by decide) rfl ?_
    obtain ⟨hl, l1, l2⟩ := ho
    have hs : Sm 200 (wL w.cps.toList) := (sm_wL _).mono (by rw [Array.length_toList]; omega)
    exact ⟨rfl, rfl, w, rfl, by omega, rfl, rfl, _, rfl, hs, nn_wL _, by rw [det_wL]; decide, fun u h => ⟨_, _, .same, q1 u (by rw [tbl]; exact h)⟩, fun h => ⟨_, .same, q2 (by rw [tbl]; exact h)⟩⟩
  | swp =>
    simp only [pgD]
    refine caseLen (by simp) ?_
    refine caseLen (by simp) ?_
    refine caseSLen (Nat.le_of_ble_eq_true rfl) (Nat.le_of_ble_eq_true rfl) ?_
    refine caseLen (by simp) ?_
    refine caseLen (by simp) ?_
    exact ⟨_, _, .same, q1 (0, 1, 1, 0) (by rw [tbl])⟩
  | use x =>
    obtain ⟨t, ht, gt, hl⟩ := hg x (by simp [pgU])
    simp only [pgD]
    refine caseTag (by decide) rfl ?_
    refine caseTag (by decide) rfl ?_
    refine caseSTag (by decide) (Nat.le_of_ble_eq_true rfl) (Nat.le_of_ble_eq_true rfl) ?_
    refine caseLen (by simp) ?_
    refine caseHit (by decide) rfl ?_
    refine ⟨l, _, by simp only [dicOf, ha], hl, .inl ⟨_, rfl⟩, ?_⟩
    exact ⟨rfl, rfl, rfl, rfl, t, rfl, _, _, .same, q1 t (by rw [tbl]; exact ht)⟩
  | tms n p =>
    have hn := ho.1
    have hp := ho.2
    rw [pgK] at hk
    have hg' : ∀ x ∈ pgU p, ∃ t, g x = some t ∧ GdT t ∧ dlook l (.str x) = some (tab (He.ga K "Table") t) := fun x hx => hg x (by rw [pgU]; exact hx)
    have hgd : ∀ u, tbl g p = some u → GdT u := tbl_gd p hp fun x hx u hu => by
      obtain ⟨t, h1, h2, _⟩ := hg' x hx
      rw [h1] at hu
      cases hu
      exact h2
    simp only [pgD]
    refine caseLen (by simp) ?_
    refine caseLen (by simp) ?_
    refine caseSTag (by decide) (Nat.le_of_ble_eq_true rfl) (Nat.le_of_ble_eq_true rfl) ?_
    refine caseHit (by decide) rfl ?_
    dsimp only [consP, capP, nilP, setL, List.nil_append, List.cons_append]
    try dsimp only [List.set, getS_z, getS_s, bin2, bin2T, ltD, leD, gtD, geD, cmp_i, add_i, sub_i, min2_i, max2_i]
    refine ⟨rfl, rfl, p, a, l, g, rfl, ha, by omega, hp, hg', fun u hu => ?_, fun hu => ⟨_, .same, q2 (by rw [tbl, hu])⟩⟩
    have gu := hgd u hu
    have et : tbl g (.tms n p) = powT (some u) n.toNat := by rw [tbl, hu]
    try dsimp only [List.set, getS_z, getS_s, bin2, bin2T, ltD, leD, gtD, geD, cmp_i, add_i, sub_i, min2_i, max2_i]
    refine forD_n (xs := rngD 0 n.toNat) (fun K h => ⟨⟨by have := hn.1; omega, by have := hn.2; omega⟩, h⟩) (fun i r M' => ∃ (o1 : Option D) (f : T4), M' = B.M ∧ r = [some (.tup [.str "times", .int n, pgD p]), some (.ref a), none, none, none, none, some (tD f), none, some (.int n), some (pgD p), some (tD u), o1, none] ∧ powT (some u) i = some f) ⟨none, O4, rfl, rfl, rfl⟩ (fun _ _ _ _ => trivial) (fun i d r M' hd h => ?_) (fun r M' h => ?_)
    · obtain ⟨o1, f, rfl, rfl, hf⟩ := h
      obtain ⟨hi, rfl⟩ := rng_at hd
      have gf := powT_gd (fun v hv => by cases hv; exact gu) i f hf
      try dsimp only [List.set, getS_z, getS_s, bin2, bin2T, ltD, leD, gtD, geD, cmp_i, add_i, sub_i, min2_i, max2_i]
      refine ⟨rfl, rfl, u, f, 20, 20, rfl, gu.sm, gf.sm, by decide, by decide, by decide, ?_⟩
      have es : powT (some u) (i + 1) = capT (mul4 u f) := by rw [powT_succ, hf]; rfl
      refine ⟨rfl, rfl, _, rfl, (gu.sm.mul gf.sm).mono (by decide), gu.nn.mul gf.nn, by rw [det_mul]; exact Int.mul_ne_zero gu.det gf.det, fun v hv => ?_, fun hv => ?_⟩
      · try dsimp only [List.set, getS_z, getS_s, bin2, bin2T, ltD, leD, gtD, geD, cmp_i, add_i, sub_i, min2_i, max2_i]
        exact .of ⟨_, v, rfl, rfl, by rw [es]; exact hv⟩
      · refine ⟨_, .same, q2 ?_⟩
        rw [et]
        have := powT_none (d := some u) (i := i + 1) (by rw [es]; exact hv) (n.toNat - (i + 1))
        rw [show i + 1 + (n.toNat - (i + 1)) = n.toNat by omega] at this
        exact this
    · obtain ⟨o1, f, rfl, rfl, hf⟩ := h
      rw [rng_len] at hf
      try dsimp only [List.set, getS_z, getS_s, bin2, bin2T, ltD, leD, gtD, geD, cmp_i, add_i, sub_i, min2_i, max2_i]
      exact ⟨_, _, .same, q1 f (by rw [et]; exact hf)⟩
  | thn l0 =>
    have h2 := ho.1
    obtain ⟨p0, l1, rfl⟩ : ∃ p0 l', l0 = p0 :: l' := by
      cases l0 with
      | nil => exact absurd h2.1 (by simp)
      | cons p0 l => exact ⟨p0, l, rfl⟩
    have hs := ho.2
    rw [PgOks] at hs
    rw [pgK, pgKs] at hk
    have hg0 : ∀ x ∈ pgU p0, ∃ t, g x = some t ∧ GdT t ∧ dlook l (.str x) = some (tab (He.ga K "Table") t) := fun x hx => hg x (by rw [pgU, pgUs]; exact List.mem_append_left _ hx)
    have hg1 : ∀ x ∈ pgUs l1, ∃ t, g x = some t ∧ GdT t ∧ dlook l (.str x) = some (tab (He.ga K "Table") t) := fun x hx => hg x (by rw [pgU, pgUs]; exact List.mem_append_right _ hx)
    have toG : ∀ {xs : List Str}, (∀ x ∈ xs, ∃ t, g x = some t ∧ GdT t ∧ dlook l (.str x) = some (tab (He.ga K "Table") t)) → ∀ x ∈ xs, ∀ u, g x = some u → GdT u := fun h x hx u hu => by
      obtain ⟨t, e1, e2, _⟩ := h x hx
      rw [e1] at hu
      cases hu
      exact e2
    have et : tbl g (.thn (p0 :: l1)) = (l1.map (tbl g)).foldl stepT (tbl g p0) := by rw [tbl, tbls, tbls_map]
    have len1 : l1.length ≤ 5 := by have := h2.2; rw [List.length_cons] at this; omega
    simp only [pgD, pgDs]
    generalize hL : pgDs l1 = ds1
    have lds : ds1.length ≤ 5 := by rw [← hL, pgDs_map, List.length_map]; exact len1
    have lds1 : 1 ≤ l1.length := by have := h2.1; rw [List.length_cons] at this; omega
    have ldl : ds1.length = l1.length := by rw [← hL, pgDs_map, List.length_map]
    refine caseLen (by simp only [List.length_cons]; omega) ?_
    refine caseLen (by simp only [List.length_cons]; omega) ?_
    refine caseSHit (by decide) (by simp only [List.length_cons]; omega) (by simp only [List.length_cons]; omega) ?_
    dsimp only [consP, capP, nilP, starP, setL, List.nil_append, List.cons_append, List.take_succ_cons, List.take_zero, List.drop_succ_cons, List.drop_zero]
    try dsimp only [List.set, getS_z, getS_s, bin2, bin2T, ltD, leD, gtD, geD, cmp_i, add_i, sub_i, min2_i, max2_i]
    refine ⟨rfl, rfl, p0, a, l, g, rfl, ha, by have := Nat.le_max_left (pgK p0) (pgKs l1); omega, hs.1, hg0, fun u hu => ?_, fun hu => ⟨_, .same, q2 (by rw [et, hu]; exact foldT_none _)⟩⟩
    have gu := tbl_gd p0 hs.1 (toG hg0) u hu
    try dsimp only [List.set, getS_z, getS_s, bin2, bin2T, ltD, leD, gtD, geD, cmp_i, add_i, sub_i, min2_i, max2_i]
    refine forD_n (xs := ds1) (fun K h => ⟨ds1, rfl, h⟩) (fun i r M' => ∃ (o1 : Option D) (f : T4), M' = B.M ∧ r = [some (.tup (.str "then" :: pgD p0 :: ds1)), some (.ref a), none, none, some (pgD p0), some (.lst ds1), some (tD f), o1, none, none, none, none, none] ∧ ((l1.map (tbl g)).take i).foldl stepT (tbl g p0) = some f) ⟨none, u, rfl, rfl, hu⟩ (fun _ _ _ _ => rfl) (fun i d r M' hd h => ?_) (fun r M' h => ?_)
    · obtain ⟨o1, f, rfl, rfl, hf⟩ := h
      rw [← hL, pgDs_map, List.getElem?_map] at hd
      obtain ⟨pi, hpi, rfl⟩ := Option.map_eq_some_iff.mp hd
      have mem := List.mem_of_getElem? hpi
      have hgi : ∀ x ∈ pgU pi, ∃ t, g x = some t ∧ GdT t ∧ dlook l (.str x) = some (tab (He.ga K "Table") t) := fun x hx => hg1 x (pgUs_mem mem hx)
      have gf : GdT f := foldT_gd (fun v hv => by rw [hu] at hv; cases hv; exact gu) (fun e he v hv => by
        have he' := List.mem_of_mem_take he
        obtain ⟨py, hy, rfl⟩ := List.mem_map.mp he'
        exact tbl_gd py (pgOks_iff.mp hs.2 py hy) (toG fun x hx => hg1 x (pgUs_mem hy hx)) v hv) f hf
      have ei : (l1.map (tbl g))[i]? = some (tbl g pi) := by rw [List.getElem?_map, hpi]; rfl
      have es := takeT (f := tbl g p0) ei
      rw [hf] at es
      have bad : ∀ {z : Option T4}, z = none → stepT (some f) (tbl g pi) = z → tbl g (.thn (p0 :: l1)) = none := fun hz e => by
        rw [et]
        exact takeT_none (i := i + 1) (by rw [es, e, hz])
      try dsimp only [List.set, getS_z, getS_s, bin2, bin2T, ltD, leD, gtD, geD, cmp_i, add_i, sub_i, min2_i, max2_i]
      refine ⟨rfl, rfl, pi, a, l, g, rfl, ha, by have := pgKs_mem mem; have := Nat.le_max_right (pgK p0) (pgKs l1); omega, pgOks_iff.mp hs.2 pi mem, hgi, fun v hv => ?_, fun hv => ⟨_, .same, q2 (bad rfl (by rw [hv]; rfl))⟩⟩
      have gv := tbl_gd pi (pgOks_iff.mp hs.2 pi mem) (toG hgi) v hv
      have e2 : stepT (some f) (tbl g pi) = capT (mul4 v f) := by rw [hv]; rfl
      try dsimp only [List.set, getS_z, getS_s, bin2, bin2T, ltD, leD, gtD, geD, cmp_i, add_i, sub_i, min2_i, max2_i]
      refine ⟨rfl, rfl, v, f, 20, 20, rfl, gv.sm, gf.sm, by decide, by decide, by decide, ?_⟩
      refine ⟨rfl, rfl, _, rfl, (gv.sm.mul gf.sm).mono (by decide), gv.nn.mul gf.nn, by rw [det_mul]; exact Int.mul_ne_zero gv.det gf.det, fun w2 hw => ?_, fun hw => ⟨_, .same, q2 (bad hw e2)⟩⟩
      try dsimp only [List.set, getS_z, getS_s, bin2, bin2T, ltD, leD, gtD, geD, cmp_i, add_i, sub_i, min2_i, max2_i]
      exact .of ⟨_, w2, rfl, rfl, by rw [es, e2]; exact hw⟩
    · obtain ⟨o1, f, rfl, rfl, hf⟩ := h
      rw [ldl, show l1.length = (l1.map (tbl g)).length from (List.length_map _).symm, List.take_length] at hf
      try dsimp only [List.set, getS_z, getS_s, bin2, bin2T, ltD, leD, gtD, geD, cmp_i, add_i, sub_i, min2_i, max2_i]
      exact ⟨_, _, .same, q1 f (by rw [et]; exact hf)⟩
def c_table_of (C CG CU : Addr) : Ct := fun ds M Ψ Ξ => ∃ (p : Pg) (x : D) (l : List (D × D)) (g : Str → Option T4), ds = [pgD p, x] ∧ (x = .non ∧ l = [] ∨ ∃ a, x = .ref a ∧ M a = some (.dic l)) ∧ pgK p ≤ 8 ∧ PgOk p ∧ pgN p ≤ 16000 ∧
  (∀ x ∈ pgU p, match g x with | some t => GdT t ∧ dlook l (.str x) = some (tab C t) | none => dlook l (.str x) = none) ∧
  (match (pgU p).find? (fun x => (g x).isNone) with
    | some x => Ξ (CU, [("name", .str x), ("tag", .str "UnknownName")]) M
    | none => (∀ u, tbl g p = some u → Ψ (tab C u) M) ∧ (tbl g p = none → Ξ (CG, [("most", .int 1000000), ("tag", .str "TooGreat")]) M))
theorem ok_table_of {f : Addr} {fd : FuncData} {dvs : List V} {kws : List (Str × V)} (T : Txt K mg) (h_names_in : Gf P w K mg base "names_in" 3 (c_names_in) b_names_in) (h_table_with : Gf P w K mg base "table_with" 5 (c_table_with (He.ga K "Table")) b_table_with) (h_entries_of : Gf P w K mg base "entries_of" 12 (c_entries_of 8 (He.ga K "Table") (He.ga K "TooGreat")) b_entries_of) (x_UnknownName : Xf P w K mg base "UnknownName" (He.ga K "UnknownName") 1 (tag2 "UnknownName" "name")) (F : FnZ K "table_of" "table_of" s_table_of dvs kws f fd) : FnOk P w K mg base (L2.CX P w) 13 f fd ["program", "tables"] (spC K ["program", "tables"].length (c_table_of (He.ga K "Table") (He.ga K "TooGreat") (He.ga K "UnknownName"))) := by
  have hnd := sc_table_of.nd
  refine fnD F sc_table_of (c_table_of (He.ga K "Table") (He.ga K "TooGreat") (He.ga K "UnknownName")) fun cdv A outer s H E B Ξ hr z => ⟨_, (dss_cons (ds_set (i := 2) hnd (de_if (dt_is (de_var (i := 1)) de_non) de_dnewK (de_var (i := 1))))
    (dss_cons (ds_for z.po rfl (di_list (de_call h_names_in hr z (List.Mem.head _) (da_cons (de_var (i := 0)) da_nil))) (dg_name (i := 3) hnd) (dss_one (ds_if (dt_dnin hr (de_var (i := 3)) (de_var (i := 2))) (dss_one (ds_raise1 x_UnknownName hr z rfl (da_cons (de_var (i := 3)) da_nil))) dss_nil)))
    (dss_one (ds_ret (de_call h_table_with hr z (List.Mem.head _) (da_cons (de_call h_entries_of hr z (List.Mem.head _) (da_cons (de_var (i := 0)) (da_cons (de_var (i := 2)) da_nil))) da_nil)))))), fun ds Ψ hl hc => ?_⟩
  obtain ⟨p, x, l, g, rfl, hx, hk, ho, hn, hg, q⟩ := hc
  rw [show ent (["program", "tables", "known", "name"] : List Str).length [pgD p, x] = [some (pgD p), some x, none, none] from rfl]
  rcases hx with ⟨rfl, rfl⟩ | ⟨a, rfl, ha⟩
  · refine bl_t rfl ?_
    refine ite_t rfl ?_
    intro a ea
    have hM : updM B.M a (.dic []) a = some (.dic []) := updM_same
    have er : rs B.M (updM B.M a (.dic [])) = B.M := rs_upd ea
    obtain ⟨l, hl⟩ : ∃ l : List (D × D), l = [] := ⟨[], rfl⟩
    rw [← hl] at hM er hg ⊢
    try dsimp only [List.set, getS_z, getS_s, bin2, bin2T, ltD, leD, gtD, geD, cmp_i, add_i, sub_i, min2_i, max2_i]
    refine forD_n (xs := (dd (pgU p)).map .str) (fun K h => ⟨rfl, rfl, p, rfl, ho, by omega, hn, _, rfl, h⟩) (fun i r M' => ∃ (o : Option D), M' = updM B.M a (.dic l) ∧ r = [some (pgD p), some .non, some (.ref a), o] ∧ ∀ j < i, ∀ y, (dd (pgU p))[j]? = some y → (g y).isNone = false) ⟨_, rfl, rfl, fun j hj => absurd hj (Nat.not_lt_zero _)⟩ (fun _ _ _ _ => rfl) (fun i d r M' hd h => ?_) (fun r M' h => ?_)
    · obtain ⟨o, rfl, rfl, hb⟩ := h
      rw [List.getElem?_map] at hd
      obtain ⟨y, hy, rfl⟩ := Option.map_eq_some_iff.mp hd
      have hyu : y ∈ pgU p := mem_dd.mp (List.mem_of_getElem? hy)
      have hgy := hg y hyu
      try dsimp only [List.set, getS_z, getS_s, bin2, bin2T, ltD, leD, gtD, geD, cmp_i, add_i, sub_i, min2_i, max2_i]
      refine ⟨a, l, rfl, .inl ⟨hM, ⟨_, rfl⟩⟩, ?_⟩
      rw [show ckey (.str y) = .str y from rfl]
      cases eg : g y with
      | some t =>
        rw [eg] at hgy
        rw [hgy.2]
        refine ite_f rfl ?_
        refine .of ⟨_, rfl, rfl, fun j hj z hz => ?_⟩
        rcases Nat.lt_succ_iff_lt_or_eq.mp hj with h | rfl
        · exact hb j h z hz
        · rw [hy] at hz
          cases hz
          rw [eg]
          rfl
      | none =>
        rw [eg] at hgy
        rw [show dlook l (.str y) = none from hgy]
        refine ite_t rfl ?_
        have ef : (pgU p).find? (fun x => (g x).isNone) = some y := by
          rw [← find_dd]
          exact find_at hy (by rw [eg]; rfl) hb
        rw [ef] at q
        exact (fun z => ⟨_, .drop, by rw [er]; exact z⟩) q
    · obtain ⟨o, rfl, rfl, hb⟩ := h
      rw [List.length_map] at hb
      have ef : (pgU p).find? (fun x => (g x).isNone) = none := by
        rw [← find_dd]
        exact find_not hb
      rw [ef] at q
      obtain ⟨q1, q2⟩ := q
      have hg' : ∀ y ∈ pgU p, ∃ t, g y = some t ∧ GdT t ∧ dlook l (.str y) = some (tab (He.ga K "Table") t) := fun y hy => by
        have hgy := hg y hy
        have hs := List.find?_eq_none.mp ef y hy
        cases eg : g y with
        | none => rw [eg] at hs; simp at hs
        | some t => rw [eg] at hgy; exact ⟨t, rfl, hgy.1, hgy.2⟩
      try dsimp only [List.set, getS_z, getS_s, bin2, bin2T, ltD, leD, gtD, geD, cmp_i, add_i, sub_i, min2_i, max2_i]
      refine ⟨rfl, rfl, p, a, l, g, rfl, hM, hk, ho, hg', fun u hu => ?_, fun hu => (fun z => ⟨_, .drop, by rw [er]; exact z⟩) (q2 hu)⟩
      have gu := tbl_gd p ho (fun y hy v hv => by
        obtain ⟨t, e1, e2, _⟩ := hg' y hy
        rw [e1] at hv
        cases hv
        exact e2) u hu
      exact ⟨rfl, rfl, u, 20, rfl, by decide, by decide, gu.sm, gu.det, (fun z => ⟨_, _, .drop, by rw [er]; exact z⟩) (q1 u hu)⟩
  · refine bl_f rfl ?_
    refine ite_f rfl ?_
    have hM := ha
    try dsimp only [List.set, getS_z, getS_s, bin2, bin2T, ltD, leD, gtD, geD, cmp_i, add_i, sub_i, min2_i, max2_i]
    refine forD_n (xs := (dd (pgU p)).map .str) (fun K h => ⟨rfl, rfl, p, rfl, ho, by omega, hn, _, rfl, h⟩) (fun i r M' => ∃ (o : Option D), M' = B.M ∧ r = [some (pgD p), some (.ref a), some (.ref a), o] ∧ ∀ j < i, ∀ y, (dd (pgU p))[j]? = some y → (g y).isNone = false) ⟨_, rfl, rfl, fun j hj => absurd hj (Nat.not_lt_zero _)⟩ (fun _ _ _ _ => rfl) (fun i d r M' hd h => ?_) (fun r M' h => ?_)
    · obtain ⟨o, rfl, rfl, hb⟩ := h
      rw [List.getElem?_map] at hd
      obtain ⟨y, hy, rfl⟩ := Option.map_eq_some_iff.mp hd
      have hyu : y ∈ pgU p := mem_dd.mp (List.mem_of_getElem? hy)
      have hgy := hg y hyu
      try dsimp only [List.set, getS_z, getS_s, bin2, bin2T, ltD, leD, gtD, geD, cmp_i, add_i, sub_i, min2_i, max2_i]
      refine ⟨a, l, rfl, .inl ⟨hM, ⟨_, rfl⟩⟩, ?_⟩
      rw [show ckey (.str y) = .str y from rfl]
      cases eg : g y with
      | some t =>
        rw [eg] at hgy
        rw [hgy.2]
        refine ite_f rfl ?_
        refine .of ⟨_, rfl, rfl, fun j hj z hz => ?_⟩
        rcases Nat.lt_succ_iff_lt_or_eq.mp hj with h | rfl
        · exact hb j h z hz
        · rw [hy] at hz
          cases hz
          rw [eg]
          rfl
      | none =>
        rw [eg] at hgy
        rw [show dlook l (.str y) = none from hgy]
        refine ite_t rfl ?_
        have ef : (pgU p).find? (fun x => (g x).isNone) = some y := by
          rw [← find_dd]
          exact find_at hy (by rw [eg]; rfl) hb
        rw [ef] at q
        exact (fun z => ⟨_, .same, z⟩) q
    · obtain ⟨o, rfl, rfl, hb⟩ := h
      rw [List.length_map] at hb
      have ef : (pgU p).find? (fun x => (g x).isNone) = none := by
        rw [← find_dd]
        exact find_not hb
      rw [ef] at q
      obtain ⟨q1, q2⟩ := q
      have hg' : ∀ y ∈ pgU p, ∃ t, g y = some t ∧ GdT t ∧ dlook l (.str y) = some (tab (He.ga K "Table") t) := fun y hy => by
        have hgy := hg y hy
        have hs := List.find?_eq_none.mp ef y hy
        cases eg : g y with
        | none => rw [eg] at hs; simp at hs
        | some t => rw [eg] at hgy; exact ⟨t, rfl, hgy.1, hgy.2⟩
      try dsimp only [List.set, getS_z, getS_s, bin2, bin2T, ltD, leD, gtD, geD, cmp_i, add_i, sub_i, min2_i, max2_i]
      refine ⟨rfl, rfl, p, a, l, g, rfl, hM, hk, ho, hg', fun u hu => ?_, fun hu => (fun z => ⟨_, .same, z⟩) (q2 hu)⟩
      have gu := tbl_gd p ho (fun y hy v hv => by
        obtain ⟨t, e1, e2, _⟩ := hg' y hy
        rw [e1] at hv
        cases hv
        exact e2) u hu
      exact ⟨rfl, rfl, u, 20, rfl, by decide, by decide, gu.sm, gu.det, (fun z => ⟨_, _, .same, z⟩) (q1 u hu)⟩
def c__law_field (K : PySem.W.Frag) (a : Addr) (x : XD) : Ct := fun ds M Ψ _ => ds = [.ref a] ∧ wfX K x fun _ v => Ψ v M
theorem ok__law_field {f : Addr} {fd : FuncData} {dvs : List V} {kws : List (Str × V)} (T : Txt K mg)  (F : FnZ K "_law_field" "_law_field" s__law_field dvs kws f fd) : FnP P w K mg base 1 f fd ["_law_e"] (c__law_field K) := by
  have hnd := sc__law_field.nd
  refine fnP F sc__law_field (c__law_field K) fun cdv A outer s H p y cls d B hu hz hf hx => ⟨_, (dss_cons (ds_if (dt_inU hu (de_xf (List.Mem.head _) hz hf hx (de_var (i := 0))) (de_tup (da_cons de_str (da_cons de_str (da_cons de_str (da_cons de_str (da_cons de_str (da_cons de_str (da_cons de_str da_nil))))))))) (dss_one (ds_ret (de_xf (List.Mem.head _) hz hf hx (de_var (i := 0))))) dss_nil)
    (dss_cons (ds_if (dt_inU hu (de_xf (List.Mem.head _) hz hf hx (de_var (i := 0))) (de_tup (da_cons de_str (da_cons de_str (da_cons de_str da_nil))))) (dss_one (ds_ret (de_xf (List.Mem.head _) hz hf hx (de_var (i := 0))))) dss_nil)
    (dss_cons (ds_if (dt_inU hu (de_xf (List.Mem.head _) hz hf hx (de_var (i := 0))) (de_tup (da_cons de_str (da_cons de_str (da_cons de_str da_nil))))) (dss_one (ds_ret (de_xf (List.Mem.head _) hz hf hx (de_var (i := 0))))) dss_nil)
    (dss_cons (ds_if (dt_inU hu (de_xf (List.Mem.head _) hz hf hx (de_var (i := 0))) (de_tup (da_cons de_str (da_cons de_str da_nil)))) (dss_one (ds_ret (de_if (dt_eqU hu (de_xf (List.Mem.head _) hz hf hx (de_var (i := 0))) de_str) (de_xf (List.Mem.head _) hz hf hx (de_var (i := 0))) (de_xf (List.Mem.head _) hz hf hx (de_var (i := 0)))))) dss_nil)
    (dss_cons (ds_if (dt_inU hu (de_xf (List.Mem.head _) hz hf hx (de_var (i := 0))) (de_tup (da_cons de_str (da_cons de_str da_nil)))) (dss_one (ds_ret (de_if (dt_eqU hu (de_xf (List.Mem.head _) hz hf hx (de_var (i := 0))) de_str) (de_xf (List.Mem.head _) hz hf hx (de_var (i := 0))) (de_xf (List.Mem.head _) hz hf hx (de_var (i := 0)))))) dss_nil)
    (dss_one (ds_ret (de_if (dt_eqU hu (de_xf (List.Mem.head _) hz hf hx (de_var (i := 0))) de_str) (de_xf (List.Mem.head _) hz hf hx (de_var (i := 0))) de_non)))))))), fun ds Ψ hl hc => ?_⟩
  obtain ⟨rfl, t, ht, hX, hT, hm⟩ := hc
  have tg : ∀ {φ : D → Prop}, φ (.str t) → (D.ref p.1 = .ref p.1 ∧ XfC K y.1 ∧ NoAttr K y.1 "tag" ∧ optK (y.2.lookup ("tag" : Str)) φ) := fun h => ⟨rfl, hX, hT, optK_of ht h⟩
  unfold fldN at hm
  refine tg ?_
  refine ⟨ln (n := 7) rfl (by decide), inS ["InvalidWord", "InvalidRing", "InvalidRoom", "InvalidCount", "InvalidIndex", "InvalidBound", "InvalidLimit"] ?_⟩
  refine bl_c (fun e => ?_) (fun e => ?_)
  · rw [if_pos (of_decide_eq_true e)] at hm
    obtain ⟨h1, v, h2, q⟩ := hm
    exact ⟨rfl, hX, h1, optK_of h2 ⟨_, _, .same, q⟩⟩
  rw [if_neg (of_decide_eq_false e)] at hm
  refine ite_f rfl ?_
  refine tg ?_
  refine ⟨ln (n := 3) rfl (by decide), inS ["TooLong", "TooGreat", "TooManyRooms"] ?_⟩
  refine bl_c (fun e => ?_) (fun e => ?_)
  · rw [if_pos (of_decide_eq_true e)] at hm
    obtain ⟨h1, v, h2, q⟩ := hm
    exact ⟨rfl, hX, h1, optK_of h2 ⟨_, _, .same, q⟩⟩
  rw [if_neg (of_decide_eq_false e)] at hm
  refine ite_f rfl ?_
  refine tg ?_
  refine ⟨ln (n := 3) rfl (by decide), inS ["InvalidName", "DuplicateName", "UnknownName"] ?_⟩
  refine bl_c (fun e => ?_) (fun e => ?_)
  · rw [if_pos (of_decide_eq_true e)] at hm
    obtain ⟨h1, v, h2, q⟩ := hm
    exact ⟨rfl, hX, h1, optK_of h2 ⟨_, _, .same, q⟩⟩
  rw [if_neg (of_decide_eq_false e)] at hm
  refine ite_f rfl ?_
  refine tg ?_
  refine ⟨ln (n := 2) rfl (by decide), inS ["InvalidProgram", "CapacityExceeded"] ?_⟩
  refine bl_c (fun e => ?_) (fun e => ?_)
  · refine ite_t rfl ?_
    refine tg (eqS ?_)
    refine bl_c (fun e2 => ?_) (fun e2 => ?_)
    · rw [if_pos (of_decide_eq_true e2)] at hm
      obtain ⟨h1, v, h2, q⟩ := hm
      exact ⟨rfl, hX, h1, optK_of h2 ⟨_, _, .same, q⟩⟩
    · have e2 := of_decide_eq_false e2
      have e3 : t = "CapacityExceeded" := by
        have := of_decide_eq_true e
        simp only [List.mem_cons, List.not_mem_nil, or_false] at this
        exact this.resolve_left e2
      rw [if_neg e2, if_pos e3] at hm
      obtain ⟨h1, v, h2, q⟩ := hm
      exact ⟨rfl, hX, h1, optK_of h2 ⟨_, _, .same, q⟩⟩
  have e1 := of_decide_eq_false e
  simp only [List.mem_cons, List.not_mem_nil, or_false, not_or] at e1
  rw [if_neg e1.1, if_neg e1.2] at hm
  refine ite_f rfl ?_
  refine tg ?_
  refine ⟨ln (n := 2) rfl (by decide), inS ["InvalidCommand", "InUse"] ?_⟩
  refine bl_c (fun e => ?_) (fun e => ?_)
  · refine ite_t rfl ?_
    refine tg (eqS ?_)
    refine bl_c (fun e2 => ?_) (fun e2 => ?_)
    · rw [if_pos (of_decide_eq_true e2)] at hm
      obtain ⟨h1, v, h2, q⟩ := hm
      exact ⟨rfl, hX, h1, optK_of h2 ⟨_, _, .same, q⟩⟩
    · have e2 := of_decide_eq_false e2
      have e3 : t = "InUse" := by
        have := of_decide_eq_true e
        simp only [List.mem_cons, List.not_mem_nil, or_false] at this
        exact this.resolve_left e2
      rw [if_neg e2, if_pos e3] at hm
      obtain ⟨h1, v, h2, q⟩ := hm
      exact ⟨rfl, hX, h1, optK_of h2 ⟨_, _, .same, q⟩⟩
  have e1 := of_decide_eq_false e
  simp only [List.mem_cons, List.not_mem_nil, or_false, not_or] at e1
  rw [if_neg e1.1, if_neg e1.2] at hm
  refine ite_f rfl ?_
  refine tg (eqS ?_)
  refine bl_c (fun e2 => ?_) (fun e2 => ?_)
  · rw [if_pos (of_decide_eq_true e2)] at hm
    obtain ⟨h1, v, h2, q⟩ := hm
    exact ⟨rfl, hX, h1, optK_of h2 ⟨_, _, .same, q⟩⟩
  · rw [if_neg (of_decide_eq_false e2)] at hm
    exact ⟨_, _, .same, hm⟩

theorem wk__law_why {f : Addr} {fd : FuncData} {k : Nat} (T : Txt K mg) (h__law_field : Hf P w K mg base "_law_field" (c__law_field K)) (hm : mg "_law_why" = some (.ref f)) (F : FnZ K "_law_why" "_law_why" s__law_why [] [] f fd) (hb : BindD K fd ["_law_ask"] (Z.pos 1)) (hk : 1 ≤ k) : WhyOk P w K mg base "_law_why" k := by
  have hnd := sc__law_why.nd
  refine ⟨f, fd, _, "_law_ask", "_law_why", s__law_why, hm, F.kp, F, sc__law_why, hb, fun cdv A outer s H E B q beh hr z act => ⟨_, (dss_cons (ds_set (i := 1) hnd (de_tup (da_cons de_str (da_cons de_non da_nil))))
    (dss_cons (ds_tryN rfl rfl hnd z (fun B1 pn xe Ξ' hS z => (dss_one (ds_set (i := 1) hnd (de_tup (da_cons de_str (da_cons (act _ _ _ _ _ _ _ rfl (.inl rfl) rfl rfl hS z) da_nil)))))) (.cons (i := 2) (test2 ⟨rfl, rfl, .inl T.gl_MillError⟩ ⟨rfl, rfl, .inl T.gl_Missing⟩) rfl rfl (fun a oe cls d pn B y hz hf hx => (dss_one (ds_set (i := 1) hnd (de_tup (da_cons (de_xf (List.Mem.head _) hz hf hx (de_var (i := 2))) (da_cons (de_callP h__law_field (L2H.roomH_of (hr.mono hk)) hz hf hx (da_cons (de_var (i := 2)) da_nil)) da_nil)))))) (.cons (i := 2) (test1 ⟨rfl, rfl, .inl T.gl_NothingLeft⟩) rfl rfl (fun a oe cls d pn B y hz hf hx => (dss_one (ds_set (i := 1) hnd (de_tup (da_cons (de_xf (List.Mem.head _) hz hf hx (de_var (i := 2))) (da_cons de_non da_nil)))))) .nil)))
    (dss_one (ds_ret (de_var (i := 1)))))), fun Ψ hc => ?_⟩⟩
  refine ⟨ln (n := 2) rfl (by decide), ?_⟩
  try dsimp only [List.set, getS_z, getS_s, bin2, bin2T, ltD, leD, gtD, geD, cmp_i, add_i, sub_i, min2_i, max2_i]
  refine ⟨rfl, whyΨ Ψ, whyΞ K Ψ, hc, fun d M' q => ⟨ln (n := 2) rfl (by decide), ?_⟩, fun x M' q => ?_⟩
  · try dsimp only [List.set, getS_z, getS_s, bin2, bin2T, ltD, leD, gtD, geD, cmp_i, add_i, sub_i, min2_i, max2_i]
    exact ⟨_, _, .same, q⟩
  · obtain ⟨b, hb, yes, no⟩ := q
    refine ⟨b, hb, fun e a na => ?_, fun e => ?_⟩
    · obtain ⟨t, ht, hX, hT, hm⟩ := yes e
      refine ⟨rfl, hX, hT, optK_of ht ⟨rfl, rfl, t, ht, hX, hT, ?_⟩⟩
      generalize fldN t = o at hm ⊢
      cases o with
      | none => exact ⟨ln (n := 2) rfl (by decide), _, _, .same, hm⟩
      | some n =>
        obtain ⟨h1, v, h2, q⟩ := hm
        exact ⟨h1, v, h2, ln (n := 2) rfl (by decide), _, _, .same, q⟩
    · obtain ⟨h1, t, ht, hX, hT, hm⟩ := no e
      refine ⟨true, h1, fun _ a na => ?_, fun z => nomatch z⟩
      exact ⟨rfl, hX, hT, optK_of ht ⟨ln (n := 2) rfl (by decide), _, _, .same, hm⟩⟩
def c__law_deep_so (P : Addr) : Ct := fun ds M Ψ _ => ∃ (p : Addr), ds = [.ref p] ∧ HandAt M p ∧ M P = some (.tab "_law_deep_so.<locals>.<lambda>") ∧ ∀ M', Dr p M M' → Ψ (.bl true) M'
theorem ok__law_deep_so {f : Addr} {fd : FuncData} {dvs : List V} {kws : List (Str × V)} (T : Txt K mg) (h__law_leaf : Gf P w K mg base "_law_leaf" 6 (c__law_leaf) b__law_leaf) (h__law_of : Gf P w K mg base "_law_of" 3 (c__law_of) b__law_of) (h__law_table_due : Gf P w K mg base "_law_table_due" 12 (c__law_table_due 8) b__law_table_due) (h__law_same : Gf P w K mg base "_law_same" 5 (c__law_same 4) b__law_same) (h_Table_entries : Mf P w K mg base (He.ga K "Table") "entries" 2 (c_Table_entries (He.ga K "Table")) b_Table_entries) (h_table_of : Gf P w K mg base "table_of" 13 (c_table_of (He.ga K "Table") (He.ga K "TooGreat") (He.ga K "UnknownName")) b_table_of) (W__law_why : WhyOk P w K mg base "_law_why" 13) (TB : LamX.TabB base mg (codA K f) (tabA K f)) (F : FnZ K "_law_deep_so" "_law_deep_so" s__law_deep_so dvs kws f fd) : FnOk P w K mg base (L2.CX P w) 16 f fd ["_law_hand_here"] (spC K ["_law_hand_here"].length (c__law_deep_so (tabA K f))) := by
  have hnd := sc__law_deep_so.nd
  refine fnDT F sc__law_deep_so (c__law_deep_so (tabA K f)) fun cdv A outer s H E B Ξ hcd hr z => ⟨_, (dss_cons (ds_set (i := 1) hnd (de_call h__law_leaf hr z (List.Mem.head _) (da_cons (de_var (i := 0)) (da_cons (de_lst da_nil) da_nil))))
    (dss_cons (ds_for z.po rfl (di_range1 T.n_range (da_cons de_int da_nil)) (dg_name (i := 2) hnd) (dss_one (ds_set (i := 1) hnd (de_call h__law_of hr z (List.Mem.head _) (da_cons (de_var (i := 0)) (da_cons (de_lst (da_cons (de_tup (da_cons de_str (da_cons de_int (da_cons (de_var (i := 1)) da_nil)))) (da_cons (de_tup (da_cons de_str (da_cons de_int (da_cons (de_var (i := 1)) da_nil)))) (da_cons (de_tup (da_cons de_str (da_cons (de_var (i := 1)) (da_cons (de_tup (da_cons de_str da_nil)) da_nil)))) (da_cons (de_tup (da_cons de_str (da_cons (de_tup (da_cons de_str (da_cons de_str da_nil))) (da_cons (de_var (i := 1)) da_nil)))) da_nil))))) da_nil))))))
    (dss_cons (ds_set (i := 3) hnd (de_call h__law_table_due hr z (List.Mem.head _) (da_cons (de_var (i := 1)) (da_cons de_dnewK da_nil))))
    (dss_cons (ds_if (dt_not (dt_val (de_call h__law_same hr z (List.Mem.head _) (da_cons (de_whyL (q := "_law_deep_so.<locals>.<lambda>") W__law_why hr TB hcd ⟨rfl, rfl, lamF_by rfl⟩ rfl (lamT_by rfl (.inl ⟨rfl, fun _ _ _ => rfl⟩)) (fun A outer s H E f c' B Ξ hr z => (de_meth0 h_Table_entries T.cl_Table hr z (List.Mem.head _) (de_call h_table_of hr z (List.Mem.tail _ (List.Mem.tail _ (List.Mem.head _))) (da_cons (de_var (i := 1)) da_nil))))) (da_cons (de_ifV (dt_isnt (de_var (i := 3)) de_non) (de_tup (da_cons de_str (da_cons (de_var (i := 3)) da_nil))) (de_tup (da_cons de_str (da_cons (de_pow de_int de_int) da_nil)))) da_nil))))) (dss_one (ds_ret de_bl)) dss_nil)
    (dss_cons (ds_set (i := 4) hnd (de_tup (da_cons de_str (da_cons de_int (da_cons (de_tup (da_cons de_str (da_cons (de_tup (da_cons de_str (da_cons (de_tup (da_cons de_int (da_cons de_int (da_cons de_int (da_cons de_int da_nil))))) da_nil))) (da_cons (de_tup (da_cons de_str (da_cons (de_tup (da_cons de_int (da_cons de_int (da_cons de_int (da_cons de_int da_nil))))) da_nil))) da_nil)))) da_nil)))))
    (dss_cons (ds_set (i := 5) hnd (de_lstM (da_cons (de_lam (q := "_law_deep_so.<locals>.<lambda>") TB hcd ⟨rfl, rfl, lamF_by rfl⟩ rfl) (da_cons (de_lam1 (q := "_law_deep_so.<locals>.<lambda>") TB hcd ⟨rfl, rfl, lamF_by rfl⟩ rfl) da_nil))))
    (dss_cons (ds_expr (de_append (de_var (i := 5)) (da_cons (de_lam (q := "_law_deep_so.<locals>.<lambda>") TB hcd ⟨rfl, rfl, lamF_by rfl⟩ rfl) da_nil)))
    (dss_one (ds_ret (de_call h__law_same hr z (List.Mem.head _) (da_cons (de_lcW W__law_why hr rfl hnd (di_list (de_var (i := 5))) (blkOk_by (own := [("_law_ask", 6)]) (by rfl)) (tg_name (i := 6) (by decide)) (fun _ _ _ _ _ => (pg_name (i := 6) hnd rfl (by first | exact Or.inl rfl | exact Or.inr rfl) (by first | exact .inl rfl | exact .inr rfl))) (fun _ _ _ _ _ _ => dts_nil) (fun _ _ _ _ _ _ => (da_cons (de_var (i := 6)) da_nil))) (da_cons (de_lst (da_cons (de_tup (da_cons de_str (da_cons (de_tup (da_cons (de_pow de_int de_int) (da_cons de_int (da_cons de_int (da_cons de_int da_nil))))) da_nil))) (da_cons (de_tup (da_cons de_str (da_cons (de_tup (da_cons (de_pow de_int de_int) (da_cons (de_pow de_int de_int) (da_cons de_int (da_cons de_int da_nil))))) da_nil))) (da_cons (de_tup (da_cons de_str (da_cons (de_pow de_int de_int) da_nil))) da_nil)))) da_nil)))))))))))), fun ds Ψ hl hc => ?_⟩
  obtain ⟨p, rfl, hh, hP, q⟩ := hc
  have nP : tabA K f ≠ p := fun z => by
    obtain ⟨h0, h1, _⟩ := hh
    rw [← z, hP] at h1
    cases h1
  rw [show ent (["_law_hand_here", "_law_deep", "_law_step", "_law_due", "_law_wide", "_law_asks", "_law_ask"] : List Str).length [D.ref p] = [some (.ref p), none, none, none, none, none, none] from rfl]
  try dsimp only [List.set, getS_z, getS_s, bin2, bin2T, ltD, leD, gtD, geD, cmp_i, add_i, sub_i, min2_i, max2_i]
  refine ⟨ln (n := 0) rfl (by decide), rfl, rfl, p, [], rfl, hh, by decide, by simp, fun pg M1 po pi pu d1 => ?_⟩
  try dsimp only [List.set, getS_z, getS_s, bin2, bin2T, ltD, leD, gtD, geD, cmp_i, add_i, sub_i, min2_i, max2_i]
  refine forD_n (xs := rngD 0 7) (fun K h => ⟨⟨by decide, by decide⟩, h⟩) (fun i r M' => ∃ (o : Option D) (pg : Pg), r = [some (.ref p), some (pgD pg), o, none, none, none, none] ∧ Dr p B.M M' ∧ PgOk pg ∧ pgK pg ≤ 1 + i ∧ pgN pg ≤ 1 + 2 * i ∧ pgU pg = []) ⟨none, pg, rfl, d1, po, by have := (leaf_k pi po).1; omega, by have := (leaf_k pi po).2; omega, List.eq_nil_iff_forall_not_mem.mpr fun x hx => by have := pu x hx; simp at this⟩ (fun _ _ _ _ => trivial) (fun i d r M' hd h => ?_) (fun r M' h => ?_)
  · obtain ⟨o, pg, rfl, d1, po, pk, pn, pu⟩ := h
    try dsimp only [List.set, getS_z, getS_s, bin2, bin2T, ltD, leD, gtD, geD, cmp_i, add_i, sub_i, min2_i, max2_i]
    refine ⟨ln (n := 3) rfl (by decide), ln (n := 3) rfl (by decide), ln (n := 1) rfl (by decide), ln (n := 3) rfl (by decide), ln (n := 2) rfl (by decide), ln (n := 3) rfl (by decide), ln (n := 4) rfl (by decide), rfl, rfl, p, _, _, rfl, d1.1, rfl, (Nat.le_of_ble_eq_true rfl), (Nat.le_of_ble_eq_true rfl), fun d2 M2 hd2 dr => ?_⟩
    have kp := pgK_pos pg
    have fin : ∀ pg2 : Pg, d2 = pgD pg2 → PgOk pg2 → pgK pg2 ≤ 1 + (i + 1) → pgN pg2 ≤ 1 + 2 * (i + 1) → pgU pg2 = [] → Cl B.M (fun r M' => ∃ (o : Option D) (pg : Pg), r = [some (.ref p), some (pgD pg), o, none, none, none, none] ∧ Dr p B.M M' ∧ PgOk pg ∧ pgK pg ≤ 1 + (i + 1) ∧ pgN pg ≤ 1 + 2 * (i + 1) ∧ pgU pg = []) [some (.ref p), some d2, some d, none, none, none, none] M2 := fun pg2 e a b c u => by
      rw [e]
      exact .of ⟨_, pg2, rfl, d1.trans dr, a, b, c, u⟩
    simp only [List.mem_cons, List.not_mem_nil, or_false] at hd2
    rcases hd2 with hd2 | hd2 | hd2 | hd2
    · exact fin (.tms 1 pg) (by rw [hd2, pgD]) ⟨⟨by decide, by decide⟩, po⟩ (by rw [pgK]; omega) (by rw [pgN]; omega) (by rw [pgU]; exact pu)
    · exact fin (.tms 2 pg) (by rw [hd2, pgD]) ⟨⟨by decide, by decide⟩, po⟩ (by rw [pgK]; omega) (by rw [pgN]; omega) (by rw [pgU]; exact pu)
    · exact fin (.thn [pg, .swp]) (by rw [hd2]; simp only [pgD, pgDs]) ⟨⟨(Nat.le_of_ble_eq_true rfl), (Nat.le_of_ble_eq_true rfl)⟩, po, trivial, trivial⟩ (by simp only [pgK, pgKs]; omega) (by simp only [pgN, pgNs]; omega) (by simp only [pgU, pgUs, pu, List.append_nil])
    · exact fin (.thn [.trn "L", pg]) (by rw [hd2]; simp only [pgD, pgDs]) ⟨⟨(Nat.le_of_ble_eq_true rfl), (Nat.le_of_ble_eq_true rfl)⟩, trnL_ok, po, trivial⟩ (by simp only [pgK, pgKs]; omega) (by simp only [pgN, pgNs]; omega) (by simp only [pgU, pgUs, pu, List.append_nil])
  obtain ⟨o, pg, rfl, d1, po, pk, pn, pu⟩ := h
  rw [rng_len] at pk pn
  try dsimp only [List.set, getS_z, getS_s, bin2, bin2T, ltD, leD, gtD, geD, cmp_i, add_i, sub_i, min2_i, max2_i]
  intro pd ed
  have hP1 : M' (tabA K f) = some (.tab "_law_deep_so.<locals>.<lambda>") := by rw [d1.2 _ nP]; exact hP
  have npd : tabA K f ≠ pd := fun z => by rw [z, ed] at hP1; cases hP1
  obtain ⟨M9, eM9⟩ : ∃ M9, M9 = updM M' pd (.dic []) := ⟨_, rfl⟩
  have hP9 : M9 (tabA K f) = some (.tab "_law_deep_so.<locals>.<lambda>") := by rw [eM9, updM_ne npd]; exact hP1
  have hpd : M9 pd = some (.dic []) := by rw [eM9]; exact updM_same
  rw [← eM9]
  refine ⟨rfl, rfl, pg, .ref pd, [], fun _ => none, rfl, by simp only [dicOf, hpd], pk, po, by rw [pu]; simp, hP9, ?_⟩
  apply cut1 (C := fun d => d = wyT (tbl (fun _ => none) pg))
  · intro rest
    refine ⟨rfl, rfl, pg, .non, [], fun _ => none, rfl, .inl ⟨rfl, rfl⟩, pk, po, by omega, by rw [pu]; simp, ?_⟩
    rw [pu]
    refine ⟨fun u hu => ?_, fun hu => ?_⟩
    · refine ⟨rfl, rfl, rfl, rfl, u, rfl, ?_⟩
      dsimp only [whyΨ]
      generalize ed2 : D.tup [D.str "", tD u] = d2
      exact rest d2 (by rw [← ed2, hu]; rfl)
    · refine why_of (t := "TooGreat") T.wy_TooGreat rfl (by decide) rfl ?_
      generalize ed2 : D.tup [D.str "TooGreat", D.int 1000000] = d2
      exact rest d2 (by rw [← ed2, hu]; rfl)
  intro d hd
  obtain ⟨o2, eo⟩ : ∃ o2, o2 = tbl (fun _ => none) pg := ⟨_, rfl⟩
  rw [← eo] at hd
  rw [← eo]
  subst hd
  refine bl_v ?_
  refine ⟨wyT o2, fun e => ?_, fun e => ?_, ?_⟩
  · cases o2 with
    | some t => exact ⟨ln (n := 2) rfl (by decide), rfl, rfl⟩
    | none => exact absurd e (by simp [oD, isN])
  · cases o2 with
    | some t => exact absurd e (by simp [oD, tD, isN])
    | none => exact ⟨(⟨by decide, by decide, by decide⟩ : CPow 10 6), ln (n := 2) rfl (by decide), rfl, rfl⟩
  refine ⟨rfl, rfl, _, _, rfl, same_wyT o2, ?_⟩
  refine bl_t rfl ?_
  refine ite_f rfl ?_
  refine ⟨ln (n := 4) rfl (by decide), ln (n := 2) rfl (by decide), ln (n := 4) rfl (by decide), ln (n := 2) rfl (by decide), ln (n := 3) rfl (by decide), ln (n := 3) rfl (by decide), hP9, hP9, ln (n := 2) rfl (by decide), fun pa ea => ?_⟩
  have hPa : ∀ c, updM M9 pa c (tabA K f) = some (.tab "_law_deep_so.<locals>.<lambda>") := fun c => by
    rw [updM_ne (fun z => by rw [← z, hP9] at ea; cases ea)]
    exact hP9
  refine ⟨⟨_, lstOf_at updM_same⟩, hPa _, append_of updM_same (Nat.lt_of_le_of_lt (show 2 ≤ 999999 by decide) (Nat.lt_of_lt_of_le (by decide) big_ok)) ?_⟩
  rw [updM_updM]
  dsimp only [List.cons_append, List.nil_append]
  have hold : ∀ (c : Cell) (a : Addr), M' a ≠ none → updM M9 pa c a = M' a := fun c a ha => by
    have n1 : a ≠ pd := fun z => ha (by rw [z]; exact ed)
    have n2 : a ≠ pa := fun z => by
      rw [← z, eM9, updM_ne n1] at ea
      exact ha ea
    rw [updM_ne n2, eM9, updM_ne n1]
  refine compD_two (fun K h => ⟨_, lstOf_at updM_same, h⟩) (lstOf_at updM_same) (ln (n := 3) rfl (by decide)) (ys := [wyT (some (1000000, 0, 0, 1)), wyT (some (1000000, 1000000, 0, 1)), wyT none]) ?_ ?_
  · refine .cons (fun Q qk => ?_) (.cons (fun Q qk => ?_) (.cons (fun Q qk => ?_) .nil))
    · refine whyD_of (ps := []) ⟨rfl, rfl, lamF_by rfl⟩ (lamT_by rfl (.inl ⟨rfl, fun _ _ _ => rfl⟩)) rfl (fun A outer s H E f c' B Ξ hr z => (de_meth0 h_Table_entries T.cl_Table hr z (List.Mem.head _) (de_call h_table_of hr z (List.Mem.tail _ (List.Mem.tail _ (List.Mem.head _))) (da_cons (de_var (i := 4)) da_nil)))) ?_
      dsimp only [wipeD, List.map, List.set]
      try dsimp only [List.set, getS_z, getS_s, bin2, bin2T, ltD, leD, gtD, geD, cmp_i, add_i, sub_i, min2_i, max2_i]
      refine ⟨rfl, rfl, wd1, .non, [], fun _ => none, by simp only [pgD, pgDs]; rfl, .inl ⟨rfl, rfl⟩, by decide +kernel, wd1_ok, by decide +kernel, by simp [wd1, pgU, pgUs], ?_⟩
      rw [show pgU wd1 = [] from by simp [wd1, pgU, pgUs]]
      refine ⟨fun u hu => ?_, fun hu => ?_⟩
      · rw [wd1_t] at hu
        cases hu
        exact ⟨rfl, rfl, rfl, rfl, _, rfl, qk⟩
      · rw [wd1_t] at hu
        cases hu
    · refine whyD_of (ps := ["_law_a_z"]) ⟨rfl, rfl, lamF_by rfl⟩ (lamT_by rfl (.inr ⟨List.cons_ne_nil _ _, fun T pm cv ctv its h => match its, h with | [_], _ => ⟨_, rfl, rfl⟩⟩)) rfl (fun A outer s H E f c' B Ξ hr z => (de_meth0 h_Table_entries T.cl_Table hr z (List.Mem.head _) (de_call h_table_of hr z (List.Mem.tail _ (List.Mem.tail _ (List.Mem.head _))) (da_cons (de_tup (da_cons de_str (da_cons (de_tup (da_cons de_str (da_cons de_str da_nil))) (da_cons (de_var (i := 4)) da_nil)))) da_nil)))) ?_
      dsimp only [wipeD, List.map, List.set]
      try dsimp only [List.set, getS_z, getS_s, bin2, bin2T, ltD, leD, gtD, geD, cmp_i, add_i, sub_i, min2_i, max2_i]
      refine ⟨ln (n := 2) rfl (by decide), ln (n := 3) rfl (by decide), rfl, rfl, wd2, .non, [], fun _ => none, by simp only [pgD, pgDs]; rfl, .inl ⟨rfl, rfl⟩, by decide +kernel, wd2_ok, by decide +kernel, by simp [wd2, wd1, pgU, pgUs], ?_⟩
      rw [show pgU wd2 = [] from by simp [wd2, wd1, pgU, pgUs]]
      refine ⟨fun u hu => ?_, fun hu => ?_⟩
      · rw [wd2_t] at hu
        cases hu
        exact ⟨rfl, rfl, rfl, rfl, _, rfl, qk⟩
      · rw [wd2_t] at hu
        cases hu
    · refine whyD_of (ps := []) ⟨rfl, rfl, lamF_by rfl⟩ (lamT_by rfl (.inl ⟨rfl, fun _ _ _ => rfl⟩)) rfl (fun A outer s H E f c' B Ξ hr z => (de_meth0 h_Table_entries T.cl_Table hr z (List.Mem.head _) (de_call h_table_of hr z (List.Mem.tail _ (List.Mem.tail _ (List.Mem.head _))) (da_cons (de_tup (da_cons de_str (da_cons (de_tup (da_cons de_str (da_cons de_str da_nil))) (da_cons (de_var (i := 4)) (da_cons (de_tup (da_cons de_str (da_cons de_str da_nil))) da_nil))))) da_nil)))) ?_
      dsimp only [wipeD, List.map, List.set]
      try dsimp only [List.set, getS_z, getS_s, bin2, bin2T, ltD, leD, gtD, geD, cmp_i, add_i, sub_i, min2_i, max2_i]
      refine ⟨ln (n := 2) rfl (by decide), ln (n := 2) rfl (by decide), ln (n := 4) rfl (by decide), rfl, rfl, wd3, .non, [], fun _ => none, by simp only [pgD, pgDs]; rfl, .inl ⟨rfl, rfl⟩, by decide +kernel, wd3_ok, by decide +kernel, by simp [wd3, wd1, pgU, pgUs], ?_⟩
      rw [show pgU wd3 = [] from by simp [wd3, wd1, pgU, pgUs]]
      refine ⟨fun u hu => ?_, fun hu => ?_⟩
      · rw [wd3_t] at hu
        cases hu
      · exact why_of (t := "TooGreat") T.wy_TooGreat rfl (by decide) rfl qk
  have cp : CPow 10 6 := ⟨by decide, by decide, by decide⟩
  have sm : ∀ M, Same M 4 (.lst [wyT (some (1000000, 0, 0, 1)), wyT (some (1000000, 1000000, 0, 1)), wyT none]) (.lst [wyT (some (1000000, 0, 0, 1)), wyT (some (1000000, 1000000, 0, 1)), wyT none]) := fun M =>
    Same.l (.cons (same_wyT _) (.cons (same_wyT _) (.cons (same_wyT _) .nil))) (by decide : 3 ≤ 1000000)
  refine ⟨cp, ln (n := 4) rfl (by decide), ln (n := 2) rfl (by decide), cp, cp, ln (n := 4) rfl (by decide), ln (n := 2) rfl (by decide), cp, ln (n := 2) rfl (by decide), ln (n := 3) rfl (by decide), rfl, rfl, _, _, rfl, sm _, ?_⟩
  exact ⟨_, _, .drop, q _ (Dr.rs d1 hh (hold _))⟩
def gKn (t1 t2 : T4) (x : Str) : Option T4 := if x = "coin" then some t1 else if x = "far" then some t2 else none
theorem nm_coin : NameOk "coin" := ⟨by decide +kernel, by decide +kernel, by decide, by decide, fun c hc => by
  have e : ("coin" : Str).cps.toList = [99, 111, 105, 110] := by decide +kernel
  rw [e] at hc
  simp only [List.mem_cons, List.not_mem_nil, or_false] at hc
  omega⟩
theorem nm_far : NameOk "far" := ⟨by decide +kernel, by decide +kernel, by decide, by decide, fun c hc => by
  have e : ("far" : Str).cps.toList = [102, 97, 114] := by decide +kernel
  rw [e] at hc
  simp only [List.mem_cons, List.not_mem_nil, or_false] at hc
  omega⟩
theorem gd_mil {t : T4} (ml : Mil1 4 t) : GdT (pr4 t) := by
  have h := ml.sum
  unfold sum4 at h
  exact ⟨pr4_nn ml.nn, ⟨by omega, by omega, by omega, by omega⟩, (pr4_det ml.det).1⟩
def c_law (P P2 : Addr) : Ct := fun ds M Ψ _ => ∃ ns, ds = [scr ns] ∧ ns.length ≤ 63 ∧ M P = some (.tab "law.<locals>.<lambda>") ∧ M P2 = some (.tab "_law_deep_so.<locals>.<lambda>") ∧ ∀ M', Ψ (.bl true) M'
theorem ok_law {f : Addr} {fd : FuncData} {dvs : List V} {kws : List (Str × V)} (T : Txt K mg) (h__law_hand : Gf P w K mg base "_law_hand" 2 (c__law_hand) b__law_hand) (h__law_lowest : Gf P w K mg base "_law_lowest" 3 (c__law_lowest) b__law_lowest) (h__law_mill : Gf P w K mg base "_law_mill" 5 (c__law_mill) b__law_mill) (h__law_shape : Gf P w K mg base "_law_shape" 10 (c__law_shape 4) b__law_shape) (h__law_made : Gf P w K mg base "_law_made" 5 (c__law_made (He.ga K "Table")) b__law_made) (h__law_table_due : Gf P w K mg base "_law_table_due" 12 (c__law_table_due 8) b__law_table_due) (h__law_same : Gf P w K mg base "_law_same" 5 (c__law_same 4) b__law_same) (h__law_pieces : Gf P w K mg base "_law_pieces" 3 (c__law_pieces) b__law_pieces) (h__law_deep_so : Gf P w K mg base "_law_deep_so" 16 (c__law_deep_so (tabA K (He.ga K "_law_deep_so"))) b__law_deep_so) (h_Table_entries : Mf P w K mg base (He.ga K "Table") "entries" 2 (c_Table_entries (He.ga K "Table")) b_Table_entries) (h_table_of : Gf P w K mg base "table_of" 13 (c_table_of (He.ga K "Table") (He.ga K "TooGreat") (He.ga K "UnknownName")) b_table_of) (c_Table : Cf P w K mg base "Table" (He.ga K "Table") 3 (c_Tabled_initd (He.ga K "Table") (He.ga K "InvalidTable")) b_Tabled_initd) (W__law_why : WhyOk P w K mg base "_law_why" 13) (TB : LamX.TabB base mg (codA K f) (tabA K f)) (F : FnZ K "law" "law" s_law dvs kws f fd) : FnOk P w K mg base (L2.CX P w) 17 f fd ["_law_script"] (spC K ["_law_script"].length (c_law (tabA K f) (tabA K (He.ga K "_law_deep_so")))) := by
  have hnd := sc_law.nd
  refine fnDT F sc_law (c_law (tabA K f) (tabA K (He.ga K "_law_deep_so"))) fun cdv A outer s H E B Ξ hcd hr z => ⟨_, (dss_cons (ds_set (i := 1) hnd (de_call h__law_hand hr z (List.Mem.head _) (da_cons (de_var (i := 0)) da_nil)))
    (dss_cons (ds_for z.po rfl (di_range1 T.n_range (da_cons de_int da_nil)) (dg_name (i := 2) hnd) (dss_cons (ds_set (i := 3) hnd (de_dictF rfl T.n_dict (da_cons (de_lc rfl hnd (di_tup (de_tup (da_cons de_str (da_cons de_str da_nil)))) (blkOk_by (own := [("_law_label", 13)]) (by rfl)) (tg_name (i := 13) (by decide)) (fun _ _ _ _ _ => (pg_name (i := 13) hnd rfl (by first | exact Or.inl rfl | exact Or.inr rfl) (by first | exact .inl rfl | exact .inr rfl))) (fun _ _ _ _ _ _ => dts_nil) (fun _ _ _ _ _ _ => (de_tup (da_cons (de_var (i := 13)) (da_cons (de_call h__law_lowest hr zx_blk (List.Mem.head _) (da_cons (de_call h__law_mill hr zx_blk (List.Mem.head _) (da_cons (de_var (i := 1)) (da_cons de_int da_nil))) da_nil)) da_nil))))) da_nil)))
    (dss_cons (ds_asg (de_tup (da_cons (de_call h__law_shape hr z (List.Mem.head _) (da_cons (de_var (i := 1)) (da_cons de_int (da_cons (de_listF rfl T.n_list (da_cons (de_var (i := 3)) da_nil)) da_nil)))) (da_cons (de_dictL rfl T.n_dict (da_cons (de_lc rfl hnd (di_keys (de_var (i := 3))) (blkOk_by (own := [("_law_label", 13)]) (by rfl)) (tg_name (i := 13) (by decide)) (fun _ _ _ _ _ => (pg_name (i := 13) hnd rfl (by first | exact Or.inl rfl | exact Or.inr rfl) (by first | exact .inl rfl | exact .inr rfl))) (fun _ _ _ _ _ _ => dts_nil) (fun _ _ _ _ _ _ => (de_tup (da_cons (de_var (i := 13)) (da_cons (de_call h__law_made hr zx_blk (List.Mem.head _) (da_cons (de_dget hr (de_var (i := 3)) (de_var (i := 13))) da_nil)) da_nil))))) da_nil)) da_nil))) (dg_tup (n := 2) rfl (dgs_cons (dg_name (i := 4) hnd) (dgs_cons (dg_name (i := 5) hnd) dgs_nil))))
    (dss_cons (ds_set (i := 6) hnd (de_call h__law_table_due hr z (List.Mem.head _) (da_cons (de_var (i := 4)) (da_cons (de_var (i := 3)) da_nil))))
    (dss_cons (ds_for z.po rfl (di_tup (de_tup (da_cons (de_whyL (q := "law.<locals>.<lambda>") W__law_why hr TB hcd ⟨rfl, rfl, lamF_by rfl⟩ rfl (lamT_by rfl (.inl ⟨rfl, fun _ _ _ => rfl⟩)) (fun A outer s H E f c' B Ξ hr z => (de_meth0 h_Table_entries T.cl_Table hr z (List.Mem.head _) (de_callK h_table_of hr z (List.Mem.head _) (da_cons (de_var (i := 4)) da_nil) (dk_cons (de_var (i := 5)) dk_nil))))) (da_cons (de_whyL (q := "law.<locals>.<lambda>") W__law_why hr TB hcd ⟨rfl, rfl, lamF_by rfl⟩ rfl (lamT_by rfl (.inl ⟨rfl, fun _ _ _ => rfl⟩)) (fun A outer s H E f c' B Ξ hr z => (de_meth0 h_Table_entries T.cl_Table hr z (List.Mem.head _) (de_callK0 h_table_of hr z (List.Mem.tail _ (List.Mem.head _)) (dk_cons (de_var (i := 5)) (dk_cons (de_var (i := 4)) dk_nil)))))) da_nil)))) (dg_name (i := 7) hnd) (dss_one (ds_if (dt_not (dt_val (de_call h__law_same hr z (List.Mem.head _) (da_cons (de_var (i := 7)) (da_cons (de_ifV (dt_isnt (de_var (i := 6)) de_non) (de_tup (da_cons de_str (da_cons (de_var (i := 6)) da_nil))) (de_tup (da_cons de_str (da_cons (de_pow de_int de_int) da_nil)))) da_nil))))) (dss_one (ds_ret de_bl)) dss_nil)))
    (dss_cons (ds_setLc (i := 8) rfl hnd (sw_true rfl rfl rfl rfl) (di_list (de_call h__law_pieces hr z (List.Mem.head _) (da_cons (de_var (i := 4)) da_nil))) (blkOk_by (own := [("_law_part", 11)]) (by rfl)) (tg_name (i := 11) (by decide)) (fun _ _ _ _ _ => (pg_name (i := 11) hnd rfl (by first | exact Or.inl rfl | exact Or.inr rfl) (by first | exact .inl rfl | exact .inr rfl))) (fun _ _ _ _ _ _ => (dts_one (dt_eq hr (de_ix (de_var (i := 11)) de_int) de_str))) (fun _ _ _ _ _ _ => (de_ix (de_var (i := 11)) de_int)))
    (dss_cons (ds_set (i := 7) hnd (de_whyL (q := "law.<locals>.<lambda>") W__law_why hr TB hcd ⟨rfl, rfl, lamF_by rfl⟩ rfl (lamT_by rfl (.inl ⟨rfl, fun _ _ _ => rfl⟩)) (fun A outer s H E f c' B Ξ hr z => (de_meth0 h_Table_entries T.cl_Table hr z (List.Mem.head _) (de_call h_table_of hr z (List.Mem.tail _ (List.Mem.tail _ (List.Mem.head _))) (da_cons (de_var (i := 4)) da_nil))))))
    (dss_cons (ds_if (dw_or (dw_and (dt_ne hr (de_var (i := 8)) (de_lst da_nil)) (dw_and1 (dt_not (dt_val (de_call h__law_same hr z (List.Mem.head _) (da_cons (de_var (i := 7)) (da_cons (de_tup (da_cons de_str (da_cons (de_ix (de_var (i := 8)) de_int) da_nil))) da_nil))))))).pt (dw_or1 (dw_and (dt_eq hr (de_var (i := 8)) (de_lst da_nil)) (dw_and (dt_isnt (de_var (i := 6)) de_non) (dw_and1 (dt_not (dt_val (de_call h__law_same hr z (List.Mem.head _) (da_cons (de_var (i := 7)) (da_cons (de_tup (da_cons de_str (da_cons (de_var (i := 6)) da_nil))) da_nil)))))))).pt)).pt (dss_one (ds_ret de_bl)) dss_nil)
    (dss_one (ds_if (dt_ne hr (de_sortS T.n_sorted (da_cons (de_listK rfl T.n_list (da_cons (de_var (i := 5)) da_nil)) da_nil)) (de_lst (da_cons de_str (da_cons de_str da_nil)))) (dss_one (ds_ret de_bl)) dss_nil))))))))))
    (dss_cons (ds_set (i := 9) hnd (de_tup (da_cons de_str (da_cons (de_tup (da_cons de_str (da_cons de_str da_nil))) (da_cons (de_tup (da_cons de_str (da_cons de_str da_nil))) da_nil)))))
    (dss_cons (ds_set (i := 10) hnd (de_lst (da_cons (de_lam (q := "law.<locals>.<lambda>") TB hcd ⟨rfl, rfl, lamF_by rfl⟩ rfl) (da_cons (de_lam1 (q := "law.<locals>.<lambda>") TB hcd ⟨rfl, rfl, lamF_by rfl⟩ rfl) da_nil))))
    (dss_cons (ds_if (dt_ne hr (de_lcW W__law_why hr rfl hnd (di_list (de_var (i := 10))) (blkOk_by (own := [("_law_ask", 12)]) (by rfl)) (tg_name (i := 12) (by decide)) (fun _ _ _ _ _ => (pg_name (i := 12) hnd rfl (by first | exact Or.inl rfl | exact Or.inr rfl) (by first | exact .inl rfl | exact .inr rfl))) (fun _ _ _ _ _ _ => dts_nil) (fun _ _ _ _ _ _ => (da_cons (de_var (i := 12)) da_nil))) (de_lst (da_cons (de_tup (da_cons de_str (da_cons de_str da_nil))) (da_cons (de_tup (da_cons de_str (da_cons de_str da_nil))) da_nil)))) (dss_one (ds_ret de_bl)) dss_nil)
    (dss_cons (ds_if (dt_not (dt_val (de_call h__law_deep_so hr z (List.Mem.head _) (da_cons (de_var (i := 1)) da_nil)))) (dss_one (ds_ret de_bl)) dss_nil)
    (dss_cons (ds_set (i := 7) hnd (de_lst (da_cons (de_whyL (q := "law.<locals>.<lambda>") W__law_why hr TB hcd ⟨rfl, rfl, lamF_by rfl⟩ rfl (lamT_by rfl (.inl ⟨rfl, fun _ _ _ => rfl⟩)) (fun A outer s H E f c' B Ξ hr z => (de_meth0 h_Table_entries T.cl_Table hr z (List.Mem.head _) (de_call h_table_of hr z (List.Mem.tail _ (List.Mem.tail _ (List.Mem.head _))) (da_cons (de_tup (da_cons de_str (da_cons de_int (da_cons (de_tup (da_cons de_str (da_cons de_int (da_cons (de_tup (da_cons de_str (da_cons (de_mulS de_str de_int) da_nil))) da_nil)))) da_nil)))) da_nil))))) (da_cons (de_whyL1 (q := "law.<locals>.<lambda>") (y := "_law_a_z") W__law_why hr TB hcd ⟨rfl, rfl, lamF_by rfl⟩ rfl (lamT_by rfl (.inr ⟨List.cons_ne_nil _ _, fun T pm cv ctv its h => match its, h with | [_], _ => ⟨_, rfl, rfl⟩⟩)) (fun A outer s H E f c' B Ξ hr z => (de_meth0 h_Table_entries T.cl_Table hr z (List.Mem.head _) (de_call h_table_of hr z (List.Mem.tail _ (List.Mem.tail _ (List.Mem.head _))) (da_cons (de_tup (da_cons de_str (da_cons de_int (da_cons (de_tup (da_cons de_str (da_cons de_str da_nil))) da_nil)))) da_nil))))) da_nil))))
    (dss_one (ds_ret (de_and (de_eq hr (de_var (i := 7)) (de_lst (da_cons (de_tup (da_cons de_str (da_cons (de_tup (da_cons de_int (da_cons de_int (da_cons de_int (da_cons de_int da_nil))))) da_nil))) (da_cons (de_tup (da_cons de_str (da_cons (de_tup (da_cons de_int (da_cons de_int (da_cons de_int (da_cons de_int da_nil))))) da_nil))) da_nil)))) (de_and1 (de_eq hr (de_whyL (q := "law.<locals>.<lambda>") W__law_why hr TB hcd ⟨rfl, rfl, lamF_by rfl⟩ rfl (lamT_by rfl (.inl ⟨rfl, fun _ _ _ => rfl⟩)) (fun A outer s H E f c' B Ξ hr z => (de_call h_table_of hr z (List.Mem.tail _ (List.Mem.tail _ (List.Mem.head _))) (da_cons (de_tup (da_cons de_str (da_cons de_int (da_cons (de_tup (da_cons de_str (da_cons (de_mulS de_str de_int) da_nil))) da_nil)))) da_nil)))) (de_tup (da_cons de_str (da_cons (de_pow de_int de_int) da_nil))))))))))))))), fun ds Ψ hl hc => ?_⟩
  obtain ⟨ns, rfl, hl, hM, hM2, q⟩ := hc
  refine ⟨rfl, rfl, ns, rfl, hl, fun p h hp hc0 hi0 => ?_⟩
  have nP2 : tabA K (He.ga K "_law_deep_so") ≠ p := fun z => by rw [z, hp] at hM2; cases hM2
  have u0 : updM B.M p (hd h) (tabA K (He.ga K "_law_deep_so")) = some (.tab "_law_deep_so.<locals>.<lambda>") := by rw [updM_ne nP2]; exact hM2
  have h0 : HandAt (updM B.M p (hd h)) p := ⟨h, updM_same, hc0, hi0⟩
  have nP : tabA K f ≠ p := fun z => by rw [z, hp] at hM; cases hM
  have t0 : updM B.M p (hd h) (tabA K f) = some (.tab "law.<locals>.<lambda>") := by rw [updM_ne nP]; exact hM
  try dsimp only [List.set, getS_z, getS_s, bin2, bin2T, ltD, leD, gtD, geD, cmp_i, add_i, sub_i, min2_i, max2_i]
  refine forD_n (xs := rngD 0 8) (S := fun _ => True) (fun K h => ⟨⟨by decide, by decide⟩, h⟩) (fun i r M' => HandAt M' p ∧ M' (tabA K f) = some (.tab "law.<locals>.<lambda>") ∧ M' (tabA K (He.ga K "_law_deep_so")) = some (.tab "_law_deep_so.<locals>.<lambda>") ∧ ∃ o2 o3 o4 o5 o6 o7 o8 o9 o10 o11 o12 o13, r = [some (scr ns), some (.ref p), o2, o3, o4, o5, o6, o7, o8, o9, o10, o11, o12, o13]) ⟨h0, t0, u0, _, _, _, _, _, _, _, _, _, _, _, _, rfl⟩ (fun _ _ _ _ => trivial) (fun i d r M' hd' hI => ?_) (fun r M' hI => ?_)
  · obtain ⟨hh, tM, uM, o2, o3, o4, o5, o6, o7, o8, o9, o10, o11, o12, o13, rfl⟩ := hI
    try dsimp only [List.set, getS_z, getS_s, bin2, bin2T, ltD, leD, gtD, geD, cmp_i, add_i, sub_i, min2_i, max2_i]
    refine compD_of (fun xs S M1 => xs = [.str "coin", .str "far"] ∧ S = (fun _ => True) ∧ M1 = M') (fun K h => ⟨ln (n := 2) rfl (by decide), _, rfl, h _ _ _ ⟨rfl, rfl, rfl⟩⟩) (fun xs S M1 ⟨e1, e2, e3⟩ => ?_)
    subst e1 e2 e3
    refine comp_st (Dr p M1) (fun d y => ∃ t, y = .tup [d, tD t] ∧ GdT t) (Dr.refl hh) (fun _ _ => trivial) (ln (n := 2) rfl (by decide)) (fun d hd M2 I Q hQ => ?_) (fun acc M2 I hl hy => ?_)
    · refine ⟨rfl, rfl, p, 4, rfl, I.1, by decide, by decide, fun t M3 ml d3 => ?_⟩
      refine ⟨rfl, rfl, iL t, rfl, (show 4 ≤ 1000000 by decide), dok_gm ml.sm ml.det (by decide), ?_⟩
      rw [dv_pr4]
      exact ⟨ln (n := 2) rfl (by decide), hQ _ _ (I.trans d3) ⟨pr4 t, rfl, gd_mil ml⟩⟩
    obtain ⟨t1, t2, rfl, g1, g2⟩ : ∃ t1 t2, acc = [.tup [.str "coin", tD t1], .tup [.str "far", tD t2]] ∧ GdT t1 ∧ GdT t2 := by
      match acc, hl with
      | [y1, y2], _ =>
        obtain ⟨t1, e1, g1⟩ := hy 0 _ y1 rfl rfl
        obtain ⟨t2, e2, g2⟩ := hy 1 _ y2 rfl rfl
        exact ⟨t1, t2, by rw [e1, e2], g1, g2⟩
    try dsimp only [List.set, getS_z, getS_s, bin2, bin2T, ltD, leD, gtD, geD, cmp_i, add_i, sub_i, min2_i, max2_i]
    refine ⟨[(.str "coin", tD t1), (.str "far", tD t2)], rfl, ?_⟩
    rw [dmerge_two (show D.str "coin" ≠ D.str "far" from fun z => by injection z with z; exact absurd z (by decide))]
    try dsimp only [List.set, getS_z, getS_s, bin2, bin2T, ltD, leD, gtD, geD, cmp_i, add_i, sub_i, min2_i, max2_i]
    refine ⟨rfl, rfl, p, 3, ["coin", "far"], rfl, I.1, by decide, by decide, (Nat.le_of_ble_eq_true rfl), ?_, fun pg M3 po pk pn pu d3 => ?_⟩
    · intro x hx
      simp only [List.mem_cons, List.not_mem_nil, or_false] at hx
      rcases hx with rfl | rfl
      · exact nm_coin
      · exact nm_far
    have nm : D.str "coin" ≠ D.str "far" := fun z => by injection z with z; exact absurd z (by decide)
    try dsimp only [List.set, getS_z, getS_s, bin2, bin2T, ltD, leD, gtD, geD, cmp_i, add_i, sub_i, min2_i, max2_i]
    refine compD_two (fun K h => ⟨_, rfl, h⟩) trivial (ln (n := 2) rfl (by decide)) (ys := [.tup [.str "coin", tab (He.ga K "Table") t1], .tup [.str "far", tab (He.ga K "Table") t2]]) ?_ ?_
    · refine .cons (fun Q qk => ?_) (.cons (fun Q qk => ?_) .nil)
      · dsimp only [wipeD, List.map, List.set]
        try dsimp only [List.set, getS_z, getS_s, bin2, bin2T, ltD, leD, gtD, geD, cmp_i, add_i, sub_i, min2_i, max2_i]
        exact ⟨_, tD t1, rfl, dlook_pos rfl, .inl ⟨_, rfl⟩, rfl, rfl, _, t1, 20, rfl, .inl rfl, by decide, by decide, g1.sm, g1.det, ln (n := 2) rfl (by decide), qk⟩
      · dsimp only [wipeD, List.map, List.set]
        try dsimp only [List.set, getS_z, getS_s, bin2, bin2T, ltD, leD, gtD, geD, cmp_i, add_i, sub_i, min2_i, max2_i]
        exact ⟨_, tD t2, rfl, (dlook_neg nm).trans (dlook_pos rfl), .inl ⟨_, rfl⟩, rfl, rfl, _, t2, 20, rfl, .inl rfl, by decide, by decide, g2.sm, g2.det, ln (n := 2) rfl (by decide), qk⟩
    refine ⟨[(.str "coin", tab (He.ga K "Table") t1), (.str "far", tab (He.ga K "Table") t2)], rfl, fun pa ea => ?_⟩
    rw [dmerge_two nm]
    have d4 := I.trans d3
    have npa : pa ≠ p := fun z => by
      obtain ⟨h', e', _⟩ := d4.1
      rw [z, e'] at ea
      cases ea
    have t3 : M3 (tabA K f) = some (.tab "law.<locals>.<lambda>") := by rw [d4.2 _ nP]; exact tM
    have hgk : ∀ x ∈ pgU pg, (x = "coin" ∨ x = "far") := fun x hx => by
      have := pu x hx
      simpa using this
    have efar : gKn t1 t2 "far" = some t2 := by unfold gKn; rw [if_neg (by decide), if_pos rfl]
    have ecoin : gKn t1 t2 "coin" = some t1 := by unfold gKn; rw [if_pos rfl]
    have hgA : ∀ x ∈ pgU pg, ∃ t, gKn t1 t2 x = some t ∧ GdT t ∧ dlook [(D.str "coin", tD t1), (D.str "far", tD t2)] (.str x) = some (tD t) := fun x hx => by
      rcases hgk x hx with rfl | rfl
      · exact ⟨t1, ecoin, g1, dlook_pos rfl⟩
      · exact ⟨t2, efar, g2, (dlook_neg nm).trans (dlook_pos rfl)⟩
    have hgt : ∀ x ∈ pgU pg, match gKn t1 t2 x with | some t => GdT t ∧ dlook [(D.str "coin", tab (He.ga K "Table") t1), (D.str "far", tab (He.ga K "Table") t2)] (.str x) = some (tab (He.ga K "Table") t) | none => dlook [(D.str "coin", tab (He.ga K "Table") t1), (D.str "far", tab (He.ga K "Table") t2)] (.str x) = none := fun x hx => by
      rcases hgk x hx with rfl | rfl
      · rw [ecoin]
        exact ⟨g1, dlook_pos rfl⟩
      · rw [efar]
        exact ⟨g2, (dlook_neg nm).trans (dlook_pos rfl)⟩
    have hfind := find_none_all (g := gKn t1 t2) fun x hx => by
      obtain ⟨t, e, _⟩ := hgA x hx
      exact ⟨t, e⟩
    obtain ⟨M5, eM5⟩ : ∃ M5, M5 = updM M3 pa (.dic [(D.str "coin", tab (He.ga K "Table") t1), (D.str "far", tab (He.ga K "Table") t2)]) := ⟨_, rfl⟩
    rw [← eM5]
    have h5 : M5 pa = some (.dic [(D.str "coin", tab (He.ga K "Table") t1), (D.str "far", tab (He.ga K "Table") t2)]) := by rw [eM5]; exact updM_same
    have t5 : M5 (tabA K f) = some (.tab "law.<locals>.<lambda>") := by
      rw [eM5, updM_ne (fun z => by rw [← z, t3] at ea; cases ea)]
      exact t3
    have u3 : M3 (tabA K (He.ga K "_law_deep_so")) = some (.tab "_law_deep_so.<locals>.<lambda>") := by rw [d4.2 _ nP2]; exact uM
    have u5 : M5 (tabA K (He.ga K "_law_deep_so")) = some (.tab "_law_deep_so.<locals>.<lambda>") := by
      rw [eM5, updM_ne (fun z => by rw [← z, u3] at ea; cases ea)]
      exact u3
    have hh5 : HandAt M5 p := by
      obtain ⟨h', e', e2⟩ := d4.1
      exact ⟨h', by rw [eM5, updM_ne (Ne.symm npa)]; exact e', e2⟩
    have hpn : pgN pg ≤ 16000 := Nat.le_trans pn (by decide)
    try dsimp only [List.set, getS_z, getS_s, bin2, bin2T, ltD, leD, gtD, geD, cmp_i, add_i, sub_i, min2_i, max2_i]
    refine ⟨ln (n := 2) rfl (by decide), ?_⟩
    try dsimp only [List.set, getS_z, getS_s, bin2, bin2T, ltD, leD, gtD, geD, cmp_i, add_i, sub_i, min2_i, max2_i]
    refine ⟨rfl, ?_⟩
    try dsimp only [List.set, getS_z, getS_s, bin2, bin2T, ltD, leD, gtD, geD, cmp_i, add_i, sub_i, min2_i, max2_i]
    refine ⟨rfl, rfl, rfl, pg, _, _, gKn t1 t2, rfl, rfl, by omega, po, hgA, ?_⟩
    try dsimp only [List.set, getS_z, getS_s, bin2, bin2T, ltD, leD, gtD, geD, cmp_i, add_i, sub_i, min2_i, max2_i]
    refine forD_n (xs := [wyT (tbl (gKn t1 t2) pg), wyT (tbl (gKn t1 t2) pg)]) (S := fun _ => True) (fun K h => ?_) (fun i r M' => M' = M5 ∧ ∃ o7 : Option D, r = [some (scr ns), some (.ref p), some d, some (.dlk [(.str "coin", tD t1), (.str "far", tD t2)]), some (pgD pg), some (.ref pa), some (oD (tbl (gKn t1 t2) pg)), o7, o8, o9, o10, o11, o12, o13]) ⟨rfl, _, rfl⟩ (fun _ _ _ _ => trivial) (fun i d2 r M' hd2 h => ?_) (fun r M' h => ?_)
    · refine ⟨t5, ?_⟩
      apply cut1 (C := fun d => d = wyT (tbl (gKn t1 t2) pg))
      · intro rest
        refine ⟨rfl, rfl, pg, .ref pa, _, gKn t1 t2, rfl, .inr ⟨pa, rfl, h5⟩, by omega, po, hpn, hgt, ?_⟩
        rw [hfind]
        refine ⟨fun u hu => ?_, fun hu => ?_⟩
        · refine ⟨rfl, rfl, rfl, rfl, u, rfl, ?_⟩
          dsimp only [whyΨ]
          generalize ed2 : D.tup [D.str "", tD u] = d2
          exact rest d2 (by rw [← ed2, hu]; rfl)
        · refine why_of (t := "TooGreat") T.wy_TooGreat rfl (by decide) rfl ?_
          generalize ed2 : D.tup [D.str "TooGreat", D.int 1000000] = d2
          exact rest d2 (by rw [← ed2, hu]; rfl)
      intro d2 hd2
      subst hd2
      refine ⟨t5, ?_⟩
      apply cut1 (C := fun d => d = wyT (tbl (gKn t1 t2) pg))
      · intro rest
        refine ⟨rfl, rfl, pg, .ref pa, _, gKn t1 t2, rfl, .inr ⟨pa, rfl, h5⟩, by omega, po, hpn, hgt, ?_⟩
        rw [hfind]
        refine ⟨fun u hu => ?_, fun hu => ?_⟩
        · refine ⟨rfl, rfl, rfl, rfl, u, rfl, ?_⟩
          dsimp only [whyΨ]
          generalize ed2 : D.tup [D.str "", tD u] = d2
          exact rest d2 (by rw [← ed2, hu]; rfl)
        · refine why_of (t := "TooGreat") T.wy_TooGreat rfl (by decide) rfl ?_
          generalize ed2 : D.tup [D.str "TooGreat", D.int 1000000] = d2
          exact rest d2 (by rw [← ed2, hu]; rfl)
      intro d2 hd2
      subst hd2
      exact ⟨ln (n := 2) rfl (by decide), _, rfl, h⟩
    · obtain ⟨rfl, o7, rfl⟩ := h
      have e2 : d2 = wyT (tbl (gKn t1 t2) pg) := by
        match i, hd2 with
        | 0, h => exact (Option.some.inj h).symm
        | 1, h => exact (Option.some.inj h).symm
        | j + 2, h => simp at h
      subst e2
      try dsimp only [List.set, getS_z, getS_s, bin2, bin2T, ltD, leD, gtD, geD, cmp_i, add_i, sub_i, min2_i, max2_i]
      obtain ⟨o2, eo⟩ : ∃ o2, o2 = tbl (gKn t1 t2) pg := ⟨_, rfl⟩
      rw [← eo]
      refine bl_v ?_
      refine ⟨wyT o2, fun e => ?_, fun e => ?_, ?_⟩
      · cases o2 with
        | some t => exact ⟨ln (n := 2) rfl (by decide), rfl, rfl⟩
        | none => exact absurd e (by simp [oD, isN])
      · cases o2 with
        | some t => exact absurd e (by simp [oD, tD, isN])
        | none => exact ⟨(⟨by decide, by decide, by decide⟩ : CPow 10 6), ln (n := 2) rfl (by decide), rfl, rfl⟩
      refine ⟨rfl, rfl, _, _, rfl, same_wyT o2, ?_⟩
      refine bl_t rfl ?_
      refine ite_f rfl ?_
      exact .of ⟨rfl, _, rfl⟩
    obtain ⟨rfl, o7, rfl⟩ := h
    try dsimp only [List.set, getS_z, getS_s, bin2, bin2T, ltD, leD, gtD, geD, cmp_i, add_i, sub_i, min2_i, max2_i]
    refine compD_fm (xs := pgDs (pgA pg)) (fun K h => ⟨rfl, rfl, pg, rfl, po, by omega, hpn, _, rfl, h⟩) isUse snd' rfl ?_ (fun d hd Q R h => ?_) ?_
    · rw [pgDs_map, List.length_map, pgA_len]
      exact Nat.le_trans hpn (by decide)
    · rw [pgDs_map] at hd
      obtain ⟨px, hpx, rfl⟩ := List.mem_map.mp hd
      dsimp only [wipeD, List.map, List.set]
      try dsimp only [List.set, getS_z, getS_s, bin2, bin2T, ltD, leD, gtD, geD, cmp_i, add_i, sub_i, min2_i, max2_i]
      refine ix_tag ?_
      refine eqS ?_
      refine bl_c (fun e => ?_) (fun e => ?_)
      · rw [if_pos (by rw [isUse_tag]; exact e)] at h
        obtain ⟨y, rfl⟩ := tag_use (of_decide_eq_true e)
        rw [pgD] at h ⊢
        exact optK_of rfl h
      · rw [if_neg (by rw [isUse_tag, e]; simp)] at h
        exact h
    rw [uses_of, pgA_use]
    refine ⟨t5, ?_⟩
    try dsimp only [List.set, getS_z, getS_s, bin2, bin2T, ltD, leD, gtD, geD, cmp_i, add_i, sub_i, min2_i, max2_i]
    obtain ⟨us, hus⟩ : ∃ us, us = pgU pg := ⟨_, rfl⟩
    rw [← hus]
    cases us with
    | nil =>
      have e0 : tbl (fun _ => none) pg = tbl (gKn t1 t2) pg := tbl_congr pg fun x hx => by rw [← hus] at hx; simp at hx
      refine ⟨rfl, rfl, pg, .non, [], fun _ => none, rfl, .inl ⟨rfl, rfl⟩, by omega, po, hpn, by rw [← hus]; simp, ?_⟩
      rw [← hus]
      refine ⟨fun u hu => ?_, fun hu => ?_⟩
      · rw [e0] at hu
        refine ⟨rfl, rfl, rfl, rfl, u, rfl, ?_⟩
        dsimp only [whyΨ]
        refine ⟨ln (n := 0) rfl (by decide), nePlL (n := 0) (m := 0) rfl rfl .nil .nil (fun b hb => ?_)⟩
        obtain rfl : b = true := hb.mpr rfl
        refine bl_f rfl ?_
        refine ite_f rfl ?_
        refine ite_f rfl ?_
        refine ⟨ln (n := 0) rfl (by decide), eqPlL (n := 0) (m := 0) rfl rfl .nil .nil (fun b hb => ?_)⟩
        obtain rfl : b = true := hb.mpr rfl
        refine bl_t rfl ?_
        refine ite_t rfl ?_
        rw [hu]
        refine bl_t rfl ?_
        refine ite_t rfl ?_
        refine ⟨ln (n := 2) rfl (by decide), rfl, rfl, _, _, rfl, same_wyT (some u), ?_⟩
        refine bl_t rfl ?_
        refine ite_f rfl ?_
        refine ⟨[(.str "coin", tab (He.ga K "Table") t1), (.str "far", tab (He.ga K "Table") t2)], by simp only [dkOf, h5], ?_⟩
        refine ⟨["coin", "far"], rfl, by decide, fun ys hp hs => ?_⟩
        rw [sort_cf hp hs]
        refine ⟨ln (n := 2) rfl (by decide), neSelf (n := 1) (.lst (.cons (.str (by decide +kernel)) (.cons (.str (by decide +kernel)) .nil))) ?_⟩
        refine bl_f rfl ?_
        refine ite_f rfl ?_
        exact .of ⟨hh5, t5, u5, _, _, _, _, _, _, _, _, _, _, _, _, rfl⟩
      · rw [e0] at hu
        refine why_of (t := "TooGreat") T.wy_TooGreat rfl (by decide) rfl ?_
        refine ⟨ln (n := 0) rfl (by decide), nePlL (n := 0) (m := 0) rfl rfl .nil .nil (fun b hb => ?_)⟩
        obtain rfl : b = true := hb.mpr rfl
        refine bl_f rfl ?_
        refine ite_f rfl ?_
        refine ite_f rfl ?_
        refine ⟨ln (n := 0) rfl (by decide), eqPlL (n := 0) (m := 0) rfl rfl .nil .nil (fun b hb => ?_)⟩
        obtain rfl : b = true := hb.mpr rfl
        refine bl_t rfl ?_
        refine ite_t rfl ?_
        rw [hu]
        refine bl_f rfl ?_
        refine ite_f rfl ?_
        refine ite_f rfl ?_
        refine ⟨[(.str "coin", tab (He.ga K "Table") t1), (.str "far", tab (He.ga K "Table") t2)], by simp only [dkOf, h5], ?_⟩
        refine ⟨["coin", "far"], rfl, by decide, fun ys hp hs => ?_⟩
        rw [sort_cf hp hs]
        refine ⟨ln (n := 2) rfl (by decide), neSelf (n := 1) (.lst (.cons (.str (by decide +kernel)) (.cons (.str (by decide +kernel)) .nil))) ?_⟩
        refine bl_f rfl ?_
        refine ite_f rfl ?_
        exact .of ⟨hh5, t5, u5, _, _, _, _, _, _, _, _, _, _, _, _, rfl⟩
    | cons y ys =>
      have plu : PlL 0 (((y :: ys).map .str : List D)) := PlL.of fun d hd => by
        obtain ⟨x, hx, rfl⟩ := List.mem_map.mp hd
        rcases hgk x (by rw [← hus]; exact hx) with rfl | rfl
        · exact .str (by decide +kernel)
        · exact .str (by decide +kernel)
      refine ⟨rfl, rfl, pg, .non, [], fun _ => none, rfl, .inl ⟨rfl, rfl⟩, by omega, po, hpn, fun x hx => rfl, ?_⟩
      rw [← hus]
      refine why_of (t := "UnknownName") T.wy_UnknownName rfl (by decide) rfl ?_
      refine ⟨ln (n := 0) rfl (by decide), nePlL (m := 0) rfl rfl plu .nil (fun b hb => ?_)⟩
      obtain rfl : b = false := by
        cases b with
        | false => rfl
        | true => exact absurd (hb.mp rfl) (by simp)
      refine bl_t rfl ?_
      refine ite_t rfl ?_
      refine optK_of (show L2.atI _ _ = some (.str y) from at_zero) ?_
      refine ⟨ln (n := 2) rfl (by decide), rfl, rfl, _, _, rfl, Same.t (.cons (Same.s _) (.cons (Same.s _) .nil)) (by decide : 2 ≤ 1000000), ?_⟩
      refine bl_t rfl ?_
      refine ite_f rfl ?_
      refine ⟨ln (n := 0) rfl (by decide), eqPlL (m := 0) rfl rfl plu .nil (fun b hb => ?_)⟩
      obtain rfl : b = false := by
        cases b with
        | false => rfl
        | true => exact absurd (hb.mp rfl) (by simp)
      refine bl_f rfl ?_
      refine ite_f rfl ?_
      refine ite_f rfl ?_
      refine ⟨[(.str "coin", tab (He.ga K "Table") t1), (.str "far", tab (He.ga K "Table") t2)], by simp only [dkOf, h5], ?_⟩
      refine ⟨["coin", "far"], rfl, by decide, fun ys hp hs => ?_⟩
      rw [sort_cf hp hs]
      refine ⟨ln (n := 2) rfl (by decide), neSelf (n := 1) (.lst (.cons (.str (by decide +kernel)) (.cons (.str (by decide +kernel)) .nil))) ?_⟩
      refine bl_f rfl ?_
      refine ite_f rfl ?_
      exact .of ⟨hh5, t5, u5, _, _, _, _, _, _, _, _, _, _, _, _, rfl⟩
  obtain ⟨hh, tM, uM, o2, o3, o4, o5, o6, o7, o8, o9, o10, o11, o12, o13, rfl⟩ := hI
  try dsimp only [List.set, getS_z, getS_s, bin2, bin2T, ltD, leD, gtD, geD, cmp_i, add_i, sub_i, min2_i, max2_i]
  have inv0 : HandAt M' p ∧ M' (tabA K f) = some (.tab "law.<locals>.<lambda>") ∧ M' (tabA K (He.ga K "_law_deep_so")) = some (.tab "_law_deep_so.<locals>.<lambda>") := ⟨hh, tM, uM⟩
  refine ⟨ln (n := 2) rfl (by decide), ln (n := 2) rfl (by decide), ln (n := 3) rfl (by decide), tM, tM, ln (n := 2) rfl (by decide), ?_⟩
  refine compD_twoS (fun M9 => HandAt M9 p ∧ M9 (tabA K f) = some (.tab "law.<locals>.<lambda>") ∧ M9 (tabA K (He.ga K "_law_deep_so")) = some (.tab "_law_deep_so.<locals>.<lambda>")) (fun K h => ⟨_, rfl, h⟩) inv0 (fun _ _ => rfl) (ln (n := 2) rfl (by decide)) (ys := [.tup [.str "UnknownName", .str "b"], .tup [.str "UnknownName", .str "a"]]) ?_ (fun M3 ⟨hh3, tM3, uM3⟩ => ?_)
  · generalize (some (D.lst _)) = oo
    refine .cons (fun M9 i9 Q qk => ?_) (.cons (fun M9 i9 Q qk => ?_) .nil)
    · refine whyD_of (ps := []) ⟨rfl, rfl, lamF_by rfl⟩ (lamT_by rfl (.inl ⟨rfl, fun _ _ _ => rfl⟩)) rfl (fun A outer s H E f c' B Ξ hr z => (de_call h_table_of hr z (List.Mem.tail _ (List.Mem.tail _ (List.Mem.head _))) (da_cons (de_var (i := 9)) da_nil))) ?_
      dsimp only [wipeD, List.map, List.set]
      try dsimp only [List.set, getS_z, getS_s, bin2, bin2T, ltD, leD, gtD, geD, cmp_i, add_i, sub_i, min2_i, max2_i]
      refine ⟨rfl, rfl, ltP, .non, [], fun _ => none, by simp only [ltP, pgD, pgDs]; rfl, .inl ⟨rfl, rfl⟩, by decide +kernel, ltP_ok, by decide +kernel, fun x hx => rfl, ?_⟩
      rw [ltP_u]
      exact why_of (t := "UnknownName") T.wy_UnknownName rfl (by decide) rfl (qk _ i9)
    · refine whyD_of (ps := ["_law_a_z"]) ⟨rfl, rfl, lamF_by rfl⟩ (lamT_by rfl (.inr ⟨List.cons_ne_nil _ _, fun T pm cv ctv its h => match its, h with | [_], _ => ⟨_, rfl, rfl⟩⟩)) rfl (fun A outer s H E f c' B Ξ hr z => (de_callK h_table_of hr z (List.Mem.head _) (da_cons (de_var (i := 9)) da_nil) (dk_cons (de_dictL rfl T.n_dict (da_cons (de_lst (da_cons (de_tup (da_cons de_str (da_cons (de_make c_Table hr z (List.Mem.head _) (da_cons de_int (da_cons de_int (da_cons de_int (da_cons de_int da_nil))))) da_nil))) da_nil)) da_nil)) dk_nil))) ?_
      dsimp only [wipeD, List.map, List.set]
      try dsimp only [List.set, getS_z, getS_s, bin2, bin2T, ltD, leD, gtD, geD, cmp_i, add_i, sub_i, min2_i, max2_i]
      refine mk_tab (t := O4) (n := 1) (by decide) (by decide) sm_O (by decide) ?_
      refine ⟨ln (n := 2) rfl (by decide), ln (n := 1) rfl (by decide), [(.str "b", tab (He.ga K "Table") O4)], rfl, fun pb eb => ?_⟩
      rw [dmerge_one]
      refine ⟨rfl, rfl, ltP, .ref pb, _, fun x => if x = "b" then some O4 else none, by simp only [ltP, pgD, pgDs]; rfl, .inr ⟨pb, rfl, updM_same⟩, by decide +kernel, ltP_ok, by decide +kernel, fun x hx => ?_, ?_⟩
      · rw [ltP_u] at hx
        simp only [List.mem_cons, List.not_mem_nil, or_false] at hx
        rcases hx with rfl | rfl
        · exact ⟨gd_O, dlook_pos rfl⟩
        · exact (dlook_neg (fun z => by injection z with z; exact absurd z (by decide))).trans rfl
      rw [ltP_u]
      refine why_of (t := "UnknownName") T.wy_UnknownName rfl (by decide) rfl (qk _ ⟨?_, ?_, ?_⟩)
      · obtain ⟨h', e', e2⟩ := i9.1
        exact ⟨h', by rw [updM_ne (fun z => by rw [← z, e'] at eb; cases eb)]; exact e', e2⟩
      · rw [updM_ne (fun z => by rw [← z, i9.2.1] at eb; cases eb)]
        exact i9.2.1
      · rw [updM_ne (fun z => by rw [← z, i9.2.2] at eb; cases eb)]
        exact i9.2.2
  refine ⟨ln (n := 2) rfl (by decide), ln (n := 2) rfl (by decide), ln (n := 2) rfl (by decide), neSelf (n := 2) (.lst (.cons (.tup (.cons (.str (by decide +kernel)) (.cons (.str (by decide +kernel)) .nil))) (.cons (.tup (.cons (.str (by decide +kernel)) (.cons (.str (by decide +kernel)) .nil))) .nil))) ?_⟩
  refine bl_f rfl ?_
  refine ite_f rfl ?_
  refine ⟨rfl, rfl, p, rfl, hh3, uM3, fun M2 dr => ?_⟩
  refine bl_t rfl ?_
  refine ite_f rfl ?_
  have t2 : M2 (tabA K f) = some (.tab "law.<locals>.<lambda>") := by rw [dr.2 _ nP]; exact tM3
  refine ⟨t2, ⟨by decide +kernel, by decide +kernel⟩, ln (n := 2) rfl (by decide), ln (n := 3) rfl (by decide), ln (n := 3) rfl (by decide), ?_⟩
  refine ⟨rfl, rfl, bgP, .non, [], fun _ => none, rfl, .inl ⟨rfl, rfl⟩, by decide +kernel, bgP_ok, by decide +kernel, by simp [bgP, pgU], ?_⟩
  rw [show pgU bgP = [] from by simp [bgP, pgU]]
  refine ⟨fun u hu => ?_, fun hu => ?_⟩
  · rw [bgP_t] at hu
    cases hu
    refine ⟨rfl, rfl, rfl, rfl, _, rfl, t2, ln (n := 2) rfl (by decide), ln (n := 3) rfl (by decide), ?_⟩
    refine ⟨rfl, rfl, z0P, .non, [], fun _ => none, rfl, .inl ⟨rfl, rfl⟩, by decide +kernel, z0P_ok, by decide +kernel, by simp [z0P, pgU], ?_⟩
    rw [show pgU z0P = [] from by simp [z0P, pgU]]
    refine ⟨fun u hu => ?_, fun hu => ?_⟩
    · rw [z0P_t] at hu
      cases hu
      refine ⟨rfl, rfl, rfl, rfl, _, rfl, ln (n := 2) rfl (by decide), ln (n := 4) rfl (by decide), ln (n := 2) rfl (by decide), ln (n := 4) rfl (by decide), ln (n := 2) rfl (by decide), ln (n := 2) rfl (by decide), ?_⟩
      refine eqSelf (n := 3) (.lst (.cons (.tup (.cons (.str (by decide +kernel)) (.cons (.tup (.cons (.int _) (.cons (.int _) (.cons (.int _) (.cons (.int _) .nil))))) .nil))) (.cons (.tup (.cons (.str (by decide +kernel)) (.cons (.tup (.cons (.int _) (.cons (.int _) (.cons (.int _) (.cons (.int _) .nil))))) .nil))) .nil))) ?_
      refine bl_t rfl ?_
      refine ite_t rfl ?_
      refine ⟨t2, ⟨by decide +kernel, by decide +kernel⟩, ln (n := 2) rfl (by decide), ln (n := 3) rfl (by decide), ?_⟩
      refine ⟨rfl, rfl, toP, .non, [], fun _ => none, rfl, .inl ⟨rfl, rfl⟩, by decide +kernel, toP_ok, by decide +kernel, by simp [toP, pgU], ?_⟩
      rw [show pgU toP = [] from by simp [toP, pgU]]
      refine ⟨fun u hu => ?_, fun hu => ?_⟩
      · rw [toP_t] at hu
        cases hu
      · refine why_of (t := "TooGreat") T.wy_TooGreat rfl (by decide) rfl ?_
        refine ⟨(⟨by decide, by decide, by decide⟩ : CPow 10 6), ln (n := 2) rfl (by decide), ?_⟩
        refine eqSelf (n := 1) (.tup (.cons (.str (by decide +kernel)) (.cons (.int _) .nil))) ?_
        exact ⟨_, _, .same, q _⟩
    · rw [z0P_t] at hu
      cases hu
  · rw [bgP_t] at hu
    cases hu
end
def fn : List DefZ := [⟨.g "_law_hand", "_law_hand", "_law_hand", s__law_hand, [], []⟩,
  ⟨.g "_law_common", "_law_common", "_law_common", s__law_common, [], []⟩,
  ⟨.g "_law_lowest", "_law_lowest", "_law_lowest", s__law_lowest, [], []⟩,
  ⟨.g "_law_prod", "_law_prod", "_law_prod", s__law_prod, [], []⟩,
  ⟨.g "_law_grid", "_law_grid", "_law_grid", s__law_grid, [], []⟩,
  ⟨.g "_law_pick", "_law_pick", "_law_pick", s__law_pick, [], []⟩,
  ⟨.g "_law_of", "_law_of", "_law_of", s__law_of, [], []⟩,
  ⟨.g "_law_word", "_law_word", "_law_word", s__law_word, [], []⟩,
  ⟨.g "_law_core", "_law_core", "_law_core", s__law_core, [], []⟩,
  ⟨.g "_law_mill", "_law_mill", "_law_mill", s__law_mill, [], []⟩,
  ⟨.g "_law_some", "_law_some", "_law_some", s__law_some, [], []⟩,
  ⟨.g "_law_leaf", "_law_leaf", "_law_leaf", s__law_leaf, [], []⟩,
  ⟨.g "_law_shape", "_law_shape", "_law_shape", s__law_shape, [], []⟩,
  ⟨.g "is_integer", "is_integer", "is_integer", s_is_integer, [], []⟩,
  ⟨.mt "Table" "__init__", "__init__", "Table.__init__", s_Tabled_initd, [], []⟩,
  ⟨.g "_law_made", "_law_made", "_law_made", s__law_made, [], []⟩,
  ⟨.g "_law_within", "_law_within", "_law_within", s__law_within, [], []⟩,
  ⟨.g "_law_table_due", "_law_table_due", "_law_table_due", s__law_table_due, [], []⟩,
  ⟨.g "_law_same", "_law_same", "_law_same", s__law_same, [], []⟩,
  ⟨.g "_law_inner", "_law_inner", "_law_inner", s__law_inner, [], []⟩,
  ⟨.g "_law_pieces", "_law_pieces", "_law_pieces", s__law_pieces, [], []⟩,
  ⟨.mt "Table" "entries", "entries", "Table.entries", s_Table_entries, [], []⟩,
  ⟨.g "inner_parts", "inner_parts", "inner_parts", s_inner_parts, [], []⟩,
  ⟨.g "names_in", "names_in", "names_in", s_names_in, [], []⟩,
  ⟨.g "table_with", "table_with", "table_with", s_table_with, [], []⟩,
  ⟨.g "divisor_of", "divisor_of", "divisor_of", s_divisor_of, [], []⟩,
  ⟨.g "divided", "divided", "divided", s_divided, [], []⟩,
  ⟨.g "made", "made", "made", s_made, [], []⟩,
  ⟨.g "product", "product", "product", s_product, [], []⟩,
  ⟨.g "word_table", "word_table", "word_table", s_word_table, [], []⟩,
  ⟨.g "entries_of", "entries_of", "entries_of", s_entries_of, [], []⟩,
  ⟨.g "table_of", "table_of", "table_of", s_table_of, [], [("tables", .non)]⟩,
  ⟨.g "_law_field", "_law_field", "_law_field", s__law_field, [], []⟩,
  ⟨.g "_law_why", "_law_why", "_law_why", s__law_why, [], []⟩,
  ⟨.g "_law_deep_so", "_law_deep_so", "_law_deep_so", s__law_deep_so, [], []⟩,
  ⟨.g "law", "law", "law", s_law, [], []⟩,
  ⟨.mt "InvalidTable" "__init__", "__init__", "InvalidTable.__init__", s_InvalidTable, [], []⟩,
  ⟨.mt "TooGreat" "__init__", "__init__", "TooGreat.__init__", s_TooGreat, [], []⟩,
  ⟨.mt "UnknownName" "__init__", "__init__", "UnknownName.__init__", s_UnknownName, [], []⟩]
def fa : List FF := [isF (.free "range"),
  isF (.free "dict"),
  isF (.free "list"),
  isF (.cls "Table"),
  isF (.free "sorted"),
  isF (.glo "NothingLeft"),
  isF (.glo "MillError"),
  isF (.glo "Missing"),
  isF (.free "all"),
  isF (.noat "Table" "whole"),
  isF (.free "isinstance"),
  isF (.free "bool"),
  isF (.free "int"),
  tupF "NEUTRAL" [.int 1,.int 0,.int 0,.int 1],
  tupF "SWAP" [.int 0,.int 1,.int 1,.int 0],
  tupF "RIGHT" [.int 1,.int 1,.int 0,.int 1],
  tupF "LEFT" [.int 1,.int 0,.int 1,.int 1],
  isF (.free "max"),
  isF (.int "MOST_TABLE" 1000000),
  isF (.free "tuple"),
  isF (.free "abs"),
  isF (.free "str"),
  isF (.free "zip"),
  isF (.free "len"),
  whyF "TooGreat" (some "most"),
  whyF "UnknownName" (some "name"),
  isF (.glo "law"),
  excF "InvalidTable",
  isF (.glo "InvalidTable"),
  isF (.meth "InvalidTable" "__init__"),
  isF (.noat "InvalidTable" "tag"),
  excF "TooGreat",
  isF (.glo "TooGreat"),
  isF (.meth "TooGreat" "__init__"),
  isF (.noat "TooGreat" "tag"),
  isF (.noat "TooGreat" "most"),
  excF "UnknownName",
  isF (.glo "UnknownName"),
  isF (.meth "UnknownName" "__init__"),
  isF (.noat "UnknownName" "tag"),
  isF (.noat "UnknownName" "name"),
  isF (.glo "_law_hand"),
  isF (.glo "_law_common"),
  isF (.glo "_law_lowest"),
  isF (.glo "_law_prod"),
  isF (.glo "_law_grid"),
  isF (.glo "_law_pick"),
  isF (.glo "_law_of"),
  isF (.glo "_law_word"),
  isF (.glo "_law_core"),
  isF (.glo "_law_mill"),
  isF (.glo "_law_some"),
  isF (.glo "_law_leaf"),
  isF (.glo "_law_shape"),
  isF (.glo "is_integer"),
  isF (.glo "Table"),
  isF (.mkr "Table"),
  isF (.glo "_law_made"),
  isF (.glo "_law_within"),
  isF (.glo "_law_table_due"),
  isF (.glo "_law_same"),
  isF (.glo "_law_inner"),
  isF (.glo "_law_pieces"),
  isF (.meth "Table" "entries"),
  isF (.glo "inner_parts"),
  isF (.glo "names_in"),
  isF (.glo "table_with"),
  isF (.glo "divisor_of"),
  isF (.glo "divided"),
  isF (.glo "made"),
  isF (.glo "product"),
  isF (.glo "word_table"),
  isF (.glo "entries_of"),
  isF (.glo "table_of"),
  isF (.glo "_law_field"),
  isF (.glo "_law_why"),
  isF (.glo "_law_deep_so")]
def ts : Tbs := [(.g "law", "law.<locals>.<lambda>"), (.g "_law_deep_so", "_law_deep_so.<locals>.<lambda>")]
theorem all {l : PySem.W.OpenLaw} {w : World} {K : PySem.W.Frag} {h : Heap} {mg : Str → Option Value} {f : Addr} (KX : K.In h) (G : h.Ns mainGlobals mg) (hfa : mg ("law" : Str) = some (.ref f)) (c : SaysZ fa fn K) (TZ : TabZ ts K h) : LamX.LawAtS l w K (L2.CX l.prog w) 17 63 "_law_script" mg f h := by
  have T : Txt K mg := {n_range := He.free_ok KX G (c.fact 0), n_dict := He.free_ok KX G (c.fact 1), n_list := He.free_ok KX G (c.fact 2), cl_Table := He.cls_ok (c.fact 3), n_sorted := He.free_ok KX G (c.fact 4), gl_NothingLeft := He.glo_ok KX G (c.fact 5), gl_MillError := He.glo_ok KX G (c.fact 6), gl_Missing := He.glo_ok KX G (c.fact 7), n_all := He.free_ok KX G (c.fact 8), na_Table_whole := He.noat_ok (c.fact 9), n_isinstance := He.free_ok KX G (c.fact 10), n_bool := He.free_ok KX G (c.fact 11), n_int := He.free_ok KX G (c.fact 12), k_NEUTRAL := tupF_ok KX G (c.fact 13) (.cons .int (.cons .int (.cons .int (.cons .int .nil)))), k_SWAP := tupF_ok KX G (c.fact 14) (.cons .int (.cons .int (.cons .int (.cons .int .nil)))), k_RIGHT := tupF_ok KX G (c.fact 15) (.cons .int (.cons .int (.cons .int (.cons .int .nil)))), k_LEFT := tupF_ok KX G (c.fact 16) (.cons .int (.cons .int (.cons .int (.cons .int .nil)))), n_max := He.free_ok KX G (c.fact 17), k_MOST_TABLE := He.int_ok KX G (c.fact 18), n_tuple := He.free_ok KX G (c.fact 19), n_abs := He.free_ok KX G (c.fact 20), n_str := He.free_ok KX G (c.fact 21), n_zip := He.free_ok KX G (c.fact 22), n_len := He.free_ok KX G (c.fact 23), wy_TooGreat := whyF_ok (c.fact 24), wy_UnknownName := whyF_ok (c.fact 25)}
  obtain ⟨fd__law_hand, F__law_hand⟩ := c.def_ 0 (by rfl)
  obtain ⟨fd__law_common, F__law_common⟩ := c.def_ 1 (by rfl)
  obtain ⟨fd__law_lowest, F__law_lowest⟩ := c.def_ 2 (by rfl)
  obtain ⟨fd__law_prod, F__law_prod⟩ := c.def_ 3 (by rfl)
  obtain ⟨fd__law_grid, F__law_grid⟩ := c.def_ 4 (by rfl)
  obtain ⟨fd__law_pick, F__law_pick⟩ := c.def_ 5 (by rfl)
  obtain ⟨fd__law_of, F__law_of⟩ := c.def_ 6 (by rfl)
  obtain ⟨fd__law_word, F__law_word⟩ := c.def_ 7 (by rfl)
  obtain ⟨fd__law_core, F__law_core⟩ := c.def_ 8 (by rfl)
  obtain ⟨fd__law_mill, F__law_mill⟩ := c.def_ 9 (by rfl)
  obtain ⟨fd__law_some, F__law_some⟩ := c.def_ 10 (by rfl)
  obtain ⟨fd__law_leaf, F__law_leaf⟩ := c.def_ 11 (by rfl)
  obtain ⟨fd__law_shape, F__law_shape⟩ := c.def_ 12 (by rfl)
  obtain ⟨fd_is_integer, F_is_integer⟩ := c.def_ 13 (by rfl)
  obtain ⟨fd_Tabled_initd, F_Tabled_initd⟩ := c.def_ 14 (by rfl)
  obtain ⟨fd__law_made, F__law_made⟩ := c.def_ 15 (by rfl)
  obtain ⟨fd__law_within, F__law_within⟩ := c.def_ 16 (by rfl)
  obtain ⟨fd__law_table_due, F__law_table_due⟩ := c.def_ 17 (by rfl)
  obtain ⟨fd__law_same, F__law_same⟩ := c.def_ 18 (by rfl)
  obtain ⟨fd__law_inner, F__law_inner⟩ := c.def_ 19 (by rfl)
  obtain ⟨fd__law_pieces, F__law_pieces⟩ := c.def_ 20 (by rfl)
  obtain ⟨fd_Table_entries, F_Table_entries⟩ := c.def_ 21 (by rfl)
  obtain ⟨fd_inner_parts, F_inner_parts⟩ := c.def_ 22 (by rfl)
  obtain ⟨fd_names_in, F_names_in⟩ := c.def_ 23 (by rfl)
  obtain ⟨fd_table_with, F_table_with⟩ := c.def_ 24 (by rfl)
  obtain ⟨fd_divisor_of, F_divisor_of⟩ := c.def_ 25 (by rfl)
  obtain ⟨fd_divided, F_divided⟩ := c.def_ 26 (by rfl)
  obtain ⟨fd_made, F_made⟩ := c.def_ 27 (by rfl)
  obtain ⟨fd_product, F_product⟩ := c.def_ 28 (by rfl)
  obtain ⟨fd_word_table, F_word_table⟩ := c.def_ 29 (by rfl)
  obtain ⟨fd_entries_of, F_entries_of⟩ := c.def_ 30 (by rfl)
  obtain ⟨fd_table_of, F_table_of⟩ := c.def_ 31 (by rfl)
  obtain ⟨fd__law_field, F__law_field⟩ := c.def_ 32 (by rfl)
  obtain ⟨fd__law_why, F__law_why⟩ := c.def_ 33 (by rfl)
  obtain ⟨fd__law_deep_so, F__law_deep_so⟩ := c.def_ 34 (by rfl)
  obtain ⟨fd_law, F_law⟩ := c.def_ 35 (by rfl)
  obtain ⟨fd_InvalidTable, F_InvalidTable⟩ := c.def_ 36 (by rfl)
  obtain ⟨fd_TooGreat, F_TooGreat⟩ := c.def_ 37 (by rfl)
  obtain ⟨fd_UnknownName, F_UnknownName⟩ := c.def_ 38 (by rfl)
  have e0 := hfa.symm.trans (He.glo_ok KX G (c.fact 26))
  cases e0
  refine law_atT (c := c_law (tabA K (He.ga K "law")) (tabA K (He.ga K "_law_deep_so"))) (fd := fd_law) (ts := ts) KX TZ (fun s u => FunD.bindsA (ps := ["_law_script"]) F_law (fun _ _ _ _ _ _ us h => match us, h with | [_], _ => rfl) s [u] rfl) (fun base _ _ TBs => ?_) (fun ns hl _ => ⟨ns, rfl, hl, tabM_at TZ.nd (t := (.g "law", "law.<locals>.<lambda>")) (by simp [ts]), tabM_at TZ.nd (t := (.g "_law_deep_so", "_law_deep_so.<locals>.<lambda>")) (by simp [ts]), fun _ => rfl⟩)
  have m_InvalidTable := methF_ok (c.fact 29)
  have x_InvalidTable : Xf l.prog w K mg base "InvalidTable" (He.ga K "InvalidTable") 0 (tag1 "InvalidTable") := ⟨excF_ok (c.fact 27), He.glo_ok KX G (c.fact 28), _, fd_InvalidTable, _, m_InvalidTable.at_, beq_iff_eq.mp m_InvalidTable.fn, (x0_ok (fun_of F_InvalidTable) (excF_ok (c.fact 27)) (He.noat_ok (c.fact 30)) rfl rfl sc_InvalidTable rfl), (FunD.bindsN F_InvalidTable (fun _ _ _ _ _ _ us h => match us, h with | [_], _ => rfl)), rfl⟩
  have m_TooGreat := methF_ok (c.fact 33)
  have x_TooGreat : Xf l.prog w K mg base "TooGreat" (He.ga K "TooGreat") 1 (tag2 "TooGreat" "most") := ⟨excF_ok (c.fact 31), He.glo_ok KX G (c.fact 32), _, fd_TooGreat, _, m_TooGreat.at_, beq_iff_eq.mp m_TooGreat.fn, (x1_ok (fun_of F_TooGreat) (excF_ok (c.fact 31)) (He.noat_ok (c.fact 34)) (He.noat_ok (c.fact 35)) rfl rfl sc_TooGreat rfl rfl (by decide) (by decide)), (FunD.bindsN F_TooGreat (fun _ _ _ _ _ _ us h => match us, h with | [_, _], _ => rfl)), rfl⟩
  have m_UnknownName := methF_ok (c.fact 38)
  have x_UnknownName : Xf l.prog w K mg base "UnknownName" (He.ga K "UnknownName") 1 (tag2 "UnknownName" "name") := ⟨excF_ok (c.fact 36), He.glo_ok KX G (c.fact 37), _, fd_UnknownName, _, m_UnknownName.at_, beq_iff_eq.mp m_UnknownName.fn, (x1_ok (fun_of F_UnknownName) (excF_ok (c.fact 36)) (He.noat_ok (c.fact 39)) (He.noat_ok (c.fact 40)) rfl rfl sc_UnknownName rfl rfl (by decide) (by decide)), (FunD.bindsN F_UnknownName (fun _ _ _ _ _ _ us h => match us, h with | [_, _], _ => rfl)), rfl⟩
  have h__law_hand : Gf l.prog w K mg base "_law_hand" 2 (c__law_hand) b__law_hand := gf_mk (He.glo_ok KX G (c.fact 41)) F__law_hand (ok__law_hand T F__law_hand) (all_cons (bind0 F__law_hand 1 rfl (fun _ _ _ _ _ _ us h => match us, h with | [_], _ => rfl)) all_nil)
  have h__law_common : Gf l.prog w K mg base "_law_common" 2 (c__law_common) b__law_common := gf_mk (He.glo_ok KX G (c.fact 42)) F__law_common (ok__law_common T F__law_common) (all_cons (bind0 F__law_common 1 rfl (fun _ _ _ _ _ _ us h => match us, h with | [_], _ => rfl)) all_nil)
  have h__law_lowest : Gf l.prog w K mg base "_law_lowest" 3 (c__law_lowest) b__law_lowest := gf_mk (He.glo_ok KX G (c.fact 43)) F__law_lowest (ok__law_lowest T h__law_common F__law_lowest) (all_cons (bind0 F__law_lowest 1 rfl (fun _ _ _ _ _ _ us h => match us, h with | [_], _ => rfl)) all_nil)
  have h__law_prod : Gf l.prog w K mg base "_law_prod" 2 (c__law_prod) b__law_prod := gf_mk (He.glo_ok KX G (c.fact 44)) F__law_prod (ok__law_prod T F__law_prod) (all_cons (bind0 F__law_prod 2 rfl (fun _ _ _ _ _ _ us h => match us, h with | [_, _], _ => rfl)) all_nil)
  have h__law_grid : Gf l.prog w K mg base "_law_grid" 3 (c__law_grid) b__law_grid := gf_mk (He.glo_ok KX G (c.fact 45)) F__law_grid (ok__law_grid T h__law_prod F__law_grid) (all_cons (bind0 F__law_grid 1 rfl (fun _ _ _ _ _ _ us h => match us, h with | [_], _ => rfl)) all_nil)
  have h__law_pick : Gf l.prog w K mg base "_law_pick" 2 (c__law_pick) b__law_pick := gf_mk (He.glo_ok KX G (c.fact 46)) F__law_pick (ok__law_pick T F__law_pick) (all_cons (bind0 F__law_pick 2 rfl (fun _ _ _ _ _ _ us h => match us, h with | [_, _], _ => rfl)) all_nil)
  have h__law_of : Gf l.prog w K mg base "_law_of" 3 (c__law_of) b__law_of := gf_mk (He.glo_ok KX G (c.fact 47)) F__law_of (ok__law_of T h__law_pick F__law_of) (all_cons (bind0 F__law_of 2 rfl (fun _ _ _ _ _ _ us h => match us, h with | [_, _], _ => rfl)) all_nil)
  have h__law_word : Gf l.prog w K mg base "_law_word" 4 (c__law_word) b__law_word := gf_mk (He.glo_ok KX G (c.fact 48)) F__law_word (ok__law_word T h__law_pick h__law_of F__law_word) (all_cons (bind0 F__law_word 2 rfl (fun _ _ _ _ _ _ us h => match us, h with | [_, _], _ => rfl)) all_nil)
  have h__law_core : Gf l.prog w K mg base "_law_core" 4 (c__law_core) b__law_core := gf_mk (He.glo_ok KX G (c.fact 49)) F__law_core (ok__law_core T h__law_pick h__law_of F__law_core) (all_cons (bind0 F__law_core 2 rfl (fun _ _ _ _ _ _ us h => match us, h with | [_, _], _ => rfl)) all_nil)
  have h__law_mill : Gf l.prog w K mg base "_law_mill" 5 (c__law_mill) b__law_mill := gf_mk (He.glo_ok KX G (c.fact 50)) F__law_mill (ok__law_mill T h__law_prod h__law_grid h__law_word h__law_core h__law_of h__law_pick F__law_mill) (all_cons (bind0 F__law_mill 2 rfl (fun _ _ _ _ _ _ us h => match us, h with | [_, _], _ => rfl)) all_nil)
  have h__law_some : Gf l.prog w K mg base "_law_some" 5 (c__law_some) b__law_some := gf_mk (He.glo_ok KX G (c.fact 51)) F__law_some (ok__law_some T h__law_of h__law_word F__law_some) (all_cons (bind0 F__law_some 2 rfl (fun _ _ _ _ _ _ us h => match us, h with | [_, _], _ => rfl)) all_nil)
  have h__law_leaf : Gf l.prog w K mg base "_law_leaf" 6 (c__law_leaf) b__law_leaf := gf_mk (He.glo_ok KX G (c.fact 52)) F__law_leaf (ok__law_leaf T h__law_pick h__law_of h__law_mill h__law_some h__law_core F__law_leaf) (all_cons (bind0 F__law_leaf 2 rfl (fun _ _ _ _ _ _ us h => match us, h with | [_, _], _ => rfl)) all_nil)
  have h__law_shape_0 : Gf l.prog w K mg base "_law_shape" 6 (c__law_shape 0) b__law_shape := gf_mk (ps := ["_law_hand_here", "_law_deep", "_law_known"]) (He.glo_ok KX G (c.fact 53)) F__law_shape (fn_no no__law_shape) (all_cons (bind0 F__law_shape 3 rfl (fun _ _ _ _ _ _ us h => match us, h with | [_, _, _], _ => rfl)) all_nil)
  have h__law_shape_1 : Gf l.prog w K mg base "_law_shape" 7 (c__law_shape 1) b__law_shape := gf_mk (ps := ["_law_hand_here", "_law_deep", "_law_known"]) (He.glo_ok KX G (c.fact 53)) F__law_shape (ok__law_shape T (by decide) h__law_shape_0 h__law_pick h__law_leaf h__law_of F__law_shape) (all_cons (bind0 F__law_shape 3 rfl (fun _ _ _ _ _ _ us h => match us, h with | [_, _, _], _ => rfl)) all_nil)
  have h__law_shape_2 : Gf l.prog w K mg base "_law_shape" 8 (c__law_shape 2) b__law_shape := gf_mk (ps := ["_law_hand_here", "_law_deep", "_law_known"]) (He.glo_ok KX G (c.fact 53)) F__law_shape (ok__law_shape T (by decide) h__law_shape_1 h__law_pick h__law_leaf h__law_of F__law_shape) (all_cons (bind0 F__law_shape 3 rfl (fun _ _ _ _ _ _ us h => match us, h with | [_, _, _], _ => rfl)) all_nil)
  have h__law_shape_3 : Gf l.prog w K mg base "_law_shape" 9 (c__law_shape 3) b__law_shape := gf_mk (ps := ["_law_hand_here", "_law_deep", "_law_known"]) (He.glo_ok KX G (c.fact 53)) F__law_shape (ok__law_shape T (by decide) h__law_shape_2 h__law_pick h__law_leaf h__law_of F__law_shape) (all_cons (bind0 F__law_shape 3 rfl (fun _ _ _ _ _ _ us h => match us, h with | [_, _, _], _ => rfl)) all_nil)
  have h__law_shape_4 : Gf l.prog w K mg base "_law_shape" 10 (c__law_shape 4) b__law_shape := gf_mk (ps := ["_law_hand_here", "_law_deep", "_law_known"]) (He.glo_ok KX G (c.fact 53)) F__law_shape (ok__law_shape T (by decide) h__law_shape_3 h__law_pick h__law_leaf h__law_of F__law_shape) (all_cons (bind0 F__law_shape 3 rfl (fun _ _ _ _ _ _ us h => match us, h with | [_, _, _], _ => rfl)) all_nil)
  have h__law_shape := h__law_shape_4
  have h_is_integer : Gf l.prog w K mg base "is_integer" 2 (c_is_integer) b_is_integer := gf_mk (He.glo_ok KX G (c.fact 54)) F_is_integer (ok_is_integer T F_is_integer) (all_cons (bind0 F_is_integer 1 rfl (fun _ _ _ _ _ _ us h => match us, h with | [_], _ => rfl)) all_nil)
  have c_Table : Cf l.prog w K mg base "Table" (He.ga K "Table") 3 (c_Tabled_initd (He.ga K "Table") (He.ga K "InvalidTable")) b_Tabled_initd := cf_mk (He.glo_ok KX G (c.fact 55)) (mkrF_ok (c.fact 56)) (ok_Tabled_initd T h_is_integer x_InvalidTable F_Tabled_initd) (all_cons (bind0 F_Tabled_initd 5 rfl (fun _ _ _ _ _ _ us h => match us, h with | [_, _, _, _, _], _ => rfl)) all_nil)
  have h__law_made : Gf l.prog w K mg base "_law_made" 5 (c__law_made (He.ga K "Table")) b__law_made := gf_mk (He.glo_ok KX G (c.fact 57)) F__law_made (ok__law_made T c_Table F__law_made) (all_cons (bind0 F__law_made 1 rfl (fun _ _ _ _ _ _ us h => match us, h with | [_], _ => rfl)) all_nil)
  have h__law_within : Gf l.prog w K mg base "_law_within" 4 (c__law_within) b__law_within := gf_mk (He.glo_ok KX G (c.fact 58)) F__law_within (ok__law_within T h__law_lowest F__law_within) (all_cons (bind0 F__law_within 1 rfl (fun _ _ _ _ _ _ us h => match us, h with | [_], _ => rfl)) all_nil)
  have h__law_table_due_0 : Gf l.prog w K mg base "_law_table_due" 4 (c__law_table_due 0) b__law_table_due := gf_mk (ps := ["_law_plan", "_law_grids"]) (He.glo_ok KX G (c.fact 59)) F__law_table_due (fn_no no__law_table_due) (all_cons (bind0 F__law_table_due 2 rfl (fun _ _ _ _ _ _ us h => match us, h with | [_, _], _ => rfl)) all_nil)
  have h__law_table_due_1 : Gf l.prog w K mg base "_law_table_due" 5 (c__law_table_due 1) b__law_table_due := gf_mk (ps := ["_law_plan", "_law_grids"]) (He.glo_ok KX G (c.fact 59)) F__law_table_due (ok__law_table_due T (by decide) h__law_table_due_0 h__law_within h__law_grid h__law_prod F__law_table_due) (all_cons (bind0 F__law_table_due 2 rfl (fun _ _ _ _ _ _ us h => match us, h with | [_, _], _ => rfl)) all_nil)
  have h__law_table_due_2 : Gf l.prog w K mg base "_law_table_due" 6 (c__law_table_due 2) b__law_table_due := gf_mk (ps := ["_law_plan", "_law_grids"]) (He.glo_ok KX G (c.fact 59)) F__law_table_due (ok__law_table_due T (by decide) h__law_table_due_1 h__law_within h__law_grid h__law_prod F__law_table_due) (all_cons (bind0 F__law_table_due 2 rfl (fun _ _ _ _ _ _ us h => match us, h with | [_, _], _ => rfl)) all_nil)
  have h__law_table_due_3 : Gf l.prog w K mg base "_law_table_due" 7 (c__law_table_due 3) b__law_table_due := gf_mk (ps := ["_law_plan", "_law_grids"]) (He.glo_ok KX G (c.fact 59)) F__law_table_due (ok__law_table_due T (by decide) h__law_table_due_2 h__law_within h__law_grid h__law_prod F__law_table_due) (all_cons (bind0 F__law_table_due 2 rfl (fun _ _ _ _ _ _ us h => match us, h with | [_, _], _ => rfl)) all_nil)
  have h__law_table_due_4 : Gf l.prog w K mg base "_law_table_due" 8 (c__law_table_due 4) b__law_table_due := gf_mk (ps := ["_law_plan", "_law_grids"]) (He.glo_ok KX G (c.fact 59)) F__law_table_due (ok__law_table_due T (by decide) h__law_table_due_3 h__law_within h__law_grid h__law_prod F__law_table_due) (all_cons (bind0 F__law_table_due 2 rfl (fun _ _ _ _ _ _ us h => match us, h with | [_, _], _ => rfl)) all_nil)
  have h__law_table_due_5 : Gf l.prog w K mg base "_law_table_due" 9 (c__law_table_due 5) b__law_table_due := gf_mk (ps := ["_law_plan", "_law_grids"]) (He.glo_ok KX G (c.fact 59)) F__law_table_due (ok__law_table_due T (by decide) h__law_table_due_4 h__law_within h__law_grid h__law_prod F__law_table_due) (all_cons (bind0 F__law_table_due 2 rfl (fun _ _ _ _ _ _ us h => match us, h with | [_, _], _ => rfl)) all_nil)
  have h__law_table_due_6 : Gf l.prog w K mg base "_law_table_due" 10 (c__law_table_due 6) b__law_table_due := gf_mk (ps := ["_law_plan", "_law_grids"]) (He.glo_ok KX G (c.fact 59)) F__law_table_due (ok__law_table_due T (by decide) h__law_table_due_5 h__law_within h__law_grid h__law_prod F__law_table_due) (all_cons (bind0 F__law_table_due 2 rfl (fun _ _ _ _ _ _ us h => match us, h with | [_, _], _ => rfl)) all_nil)
  have h__law_table_due_7 : Gf l.prog w K mg base "_law_table_due" 11 (c__law_table_due 7) b__law_table_due := gf_mk (ps := ["_law_plan", "_law_grids"]) (He.glo_ok KX G (c.fact 59)) F__law_table_due (ok__law_table_due T (by decide) h__law_table_due_6 h__law_within h__law_grid h__law_prod F__law_table_due) (all_cons (bind0 F__law_table_due 2 rfl (fun _ _ _ _ _ _ us h => match us, h with | [_, _], _ => rfl)) all_nil)
  have h__law_table_due_8 : Gf l.prog w K mg base "_law_table_due" 12 (c__law_table_due 8) b__law_table_due := gf_mk (ps := ["_law_plan", "_law_grids"]) (He.glo_ok KX G (c.fact 59)) F__law_table_due (ok__law_table_due T (by decide) h__law_table_due_7 h__law_within h__law_grid h__law_prod F__law_table_due) (all_cons (bind0 F__law_table_due 2 rfl (fun _ _ _ _ _ _ us h => match us, h with | [_, _], _ => rfl)) all_nil)
  have h__law_table_due := h__law_table_due_8
  have h__law_same_0 : Gf l.prog w K mg base "_law_same" 1 (c__law_same 0) b__law_same := gf_mk (ps := ["_law_found", "_law_due"]) (He.glo_ok KX G (c.fact 60)) F__law_same (fn_no no__law_same) (all_cons (bind0 F__law_same 2 rfl (fun _ _ _ _ _ _ us h => match us, h with | [_, _], _ => rfl)) all_nil)
  have h__law_same_1 : Gf l.prog w K mg base "_law_same" 2 (c__law_same 1) b__law_same := gf_mk (ps := ["_law_found", "_law_due"]) (He.glo_ok KX G (c.fact 60)) F__law_same (ok__law_same T (by decide) h__law_same_0 F__law_same) (all_cons (bind0 F__law_same 2 rfl (fun _ _ _ _ _ _ us h => match us, h with | [_, _], _ => rfl)) all_nil)
  have h__law_same_2 : Gf l.prog w K mg base "_law_same" 3 (c__law_same 2) b__law_same := gf_mk (ps := ["_law_found", "_law_due"]) (He.glo_ok KX G (c.fact 60)) F__law_same (ok__law_same T (by decide) h__law_same_1 F__law_same) (all_cons (bind0 F__law_same 2 rfl (fun _ _ _ _ _ _ us h => match us, h with | [_, _], _ => rfl)) all_nil)
  have h__law_same_3 : Gf l.prog w K mg base "_law_same" 4 (c__law_same 3) b__law_same := gf_mk (ps := ["_law_found", "_law_due"]) (He.glo_ok KX G (c.fact 60)) F__law_same (ok__law_same T (by decide) h__law_same_2 F__law_same) (all_cons (bind0 F__law_same 2 rfl (fun _ _ _ _ _ _ us h => match us, h with | [_, _], _ => rfl)) all_nil)
  have h__law_same_4 : Gf l.prog w K mg base "_law_same" 5 (c__law_same 4) b__law_same := gf_mk (ps := ["_law_found", "_law_due"]) (He.glo_ok KX G (c.fact 60)) F__law_same (ok__law_same T (by decide) h__law_same_3 F__law_same) (all_cons (bind0 F__law_same 2 rfl (fun _ _ _ _ _ _ us h => match us, h with | [_, _], _ => rfl)) all_nil)
  have h__law_same := h__law_same_4
  have h__law_inner : Gf l.prog w K mg base "_law_inner" 2 (c__law_inner) b__law_inner := gf_mk (He.glo_ok KX G (c.fact 61)) F__law_inner (ok__law_inner T F__law_inner) (all_cons (bind0 F__law_inner 1 rfl (fun _ _ _ _ _ _ us h => match us, h with | [_], _ => rfl)) all_nil)
  have h__law_pieces : Gf l.prog w K mg base "_law_pieces" 3 (c__law_pieces) b__law_pieces := gf_mk (He.glo_ok KX G (c.fact 62)) F__law_pieces (ok__law_pieces T h__law_inner F__law_pieces) (all_cons (bind0 F__law_pieces 1 rfl (fun _ _ _ _ _ _ us h => match us, h with | [_], _ => rfl)) all_nil)
  have h_Table_entries : Mf l.prog w K mg base (He.ga K "Table") "entries" 2 (c_Table_entries (He.ga K "Table")) b_Table_entries := mf_mk (methF_ok (c.fact 63)) (ok_Table_entries T F_Table_entries) (all_cons (bind0 F_Table_entries 1 rfl (fun _ _ _ _ _ _ us h => match us, h with | [_], _ => rfl)) all_nil)
  have h_inner_parts : Gf l.prog w K mg base "inner_parts" 2 (c_inner_parts) b_inner_parts := gf_mk (He.glo_ok KX G (c.fact 64)) F_inner_parts (ok_inner_parts T F_inner_parts) (all_cons (bind0 F_inner_parts 1 rfl (fun _ _ _ _ _ _ us h => match us, h with | [_], _ => rfl)) all_nil)
  have h_names_in : Gf l.prog w K mg base "names_in" 3 (c_names_in) b_names_in := gf_mk (He.glo_ok KX G (c.fact 65)) F_names_in (ok_names_in T h_inner_parts F_names_in) (all_cons (bind0 F_names_in 1 rfl (fun _ _ _ _ _ _ us h => match us, h with | [_], _ => rfl)) all_nil)
  have h_table_with : Gf l.prog w K mg base "table_with" 5 (c_table_with (He.ga K "Table")) b_table_with := gf_mk (He.glo_ok KX G (c.fact 66)) F_table_with (ok_table_with T c_Table F_table_with) (all_cons (bind0 F_table_with 1 rfl (fun _ _ _ _ _ _ us h => match us, h with | [_], _ => rfl)) all_nil)
  have h_divisor_of : Gf l.prog w K mg base "divisor_of" 2 (c_divisor_of) b_divisor_of := gf_mk (He.glo_ok KX G (c.fact 67)) F_divisor_of (ok_divisor_of T F_divisor_of) (all_cons (bind0 F_divisor_of 1 rfl (fun _ _ _ _ _ _ us h => match us, h with | [_], _ => rfl)) all_nil)
  have h_divided : Gf l.prog w K mg base "divided" 3 (c_divided) b_divided := gf_mk (He.glo_ok KX G (c.fact 68)) F_divided (ok_divided T h_divisor_of F_divided) (all_cons (bind0 F_divided 1 rfl (fun _ _ _ _ _ _ us h => match us, h with | [_], _ => rfl)) all_nil)
  have h_made : Gf l.prog w K mg base "made" 4 (c_made (He.ga K "TooGreat")) b_made := gf_mk (He.glo_ok KX G (c.fact 69)) F_made (ok_made T h_divided x_TooGreat F_made) (all_cons (bind0 F_made 1 rfl (fun _ _ _ _ _ _ us h => match us, h with | [_], _ => rfl)) all_nil)
  have h_product : Gf l.prog w K mg base "product" 2 (c_product) b_product := gf_mk (He.glo_ok KX G (c.fact 70)) F_product (ok_product T F_product) (all_cons (bind0 F_product 2 rfl (fun _ _ _ _ _ _ us h => match us, h with | [_, _], _ => rfl)) all_nil)
  have h_word_table : Gf l.prog w K mg base "word_table" 3 (c_word_table) b_word_table := gf_mk (He.glo_ok KX G (c.fact 71)) F_word_table (ok_word_table T h_product F_word_table) (all_cons (bind0 F_word_table 1 rfl (fun _ _ _ _ _ _ us h => match us, h with | [_], _ => rfl)) all_nil)
  have h_entries_of_0 : Gf l.prog w K mg base "entries_of" 4 (c_entries_of 0 (He.ga K "Table") (He.ga K "TooGreat")) b_entries_of := gf_mk (ps := ["program", "tables"]) (He.glo_ok KX G (c.fact 72)) F_entries_of (fn_no no_entries_of) (all_cons (bind0 F_entries_of 2 rfl (fun _ _ _ _ _ _ us h => match us, h with | [_, _], _ => rfl)) all_nil)
  have h_entries_of_1 : Gf l.prog w K mg base "entries_of" 5 (c_entries_of 1 (He.ga K "Table") (He.ga K "TooGreat")) b_entries_of := gf_mk (ps := ["program", "tables"]) (He.glo_ok KX G (c.fact 72)) F_entries_of (ok_entries_of T (by decide) h_entries_of_0 h_Table_entries h_made h_product h_word_table F_entries_of) (all_cons (bind0 F_entries_of 2 rfl (fun _ _ _ _ _ _ us h => match us, h with | [_, _], _ => rfl)) all_nil)
  have h_entries_of_2 : Gf l.prog w K mg base "entries_of" 6 (c_entries_of 2 (He.ga K "Table") (He.ga K "TooGreat")) b_entries_of := gf_mk (ps := ["program", "tables"]) (He.glo_ok KX G (c.fact 72)) F_entries_of (ok_entries_of T (by decide) h_entries_of_1 h_Table_entries h_made h_product h_word_table F_entries_of) (all_cons (bind0 F_entries_of 2 rfl (fun _ _ _ _ _ _ us h => match us, h with | [_, _], _ => rfl)) all_nil)
  have h_entries_of_3 : Gf l.prog w K mg base "entries_of" 7 (c_entries_of 3 (He.ga K "Table") (He.ga K "TooGreat")) b_entries_of := gf_mk (ps := ["program", "tables"]) (He.glo_ok KX G (c.fact 72)) F_entries_of (ok_entries_of T (by decide) h_entries_of_2 h_Table_entries h_made h_product h_word_table F_entries_of) (all_cons (bind0 F_entries_of 2 rfl (fun _ _ _ _ _ _ us h => match us, h with | [_, _], _ => rfl)) all_nil)
  have h_entries_of_4 : Gf l.prog w K mg base "entries_of" 8 (c_entries_of 4 (He.ga K "Table") (He.ga K "TooGreat")) b_entries_of := gf_mk (ps := ["program", "tables"]) (He.glo_ok KX G (c.fact 72)) F_entries_of (ok_entries_of T (by decide) h_entries_of_3 h_Table_entries h_made h_product h_word_table F_entries_of) (all_cons (bind0 F_entries_of 2 rfl (fun _ _ _ _ _ _ us h => match us, h with | [_, _], _ => rfl)) all_nil)
  have h_entries_of_5 : Gf l.prog w K mg base "entries_of" 9 (c_entries_of 5 (He.ga K "Table") (He.ga K "TooGreat")) b_entries_of := gf_mk (ps := ["program", "tables"]) (He.glo_ok KX G (c.fact 72)) F_entries_of (ok_entries_of T (by decide) h_entries_of_4 h_Table_entries h_made h_product h_word_table F_entries_of) (all_cons (bind0 F_entries_of 2 rfl (fun _ _ _ _ _ _ us h => match us, h with | [_, _], _ => rfl)) all_nil)
  have h_entries_of_6 : Gf l.prog w K mg base "entries_of" 10 (c_entries_of 6 (He.ga K "Table") (He.ga K "TooGreat")) b_entries_of := gf_mk (ps := ["program", "tables"]) (He.glo_ok KX G (c.fact 72)) F_entries_of (ok_entries_of T (by decide) h_entries_of_5 h_Table_entries h_made h_product h_word_table F_entries_of) (all_cons (bind0 F_entries_of 2 rfl (fun _ _ _ _ _ _ us h => match us, h with | [_, _], _ => rfl)) all_nil)
  have h_entries_of_7 : Gf l.prog w K mg base "entries_of" 11 (c_entries_of 7 (He.ga K "Table") (He.ga K "TooGreat")) b_entries_of := gf_mk (ps := ["program", "tables"]) (He.glo_ok KX G (c.fact 72)) F_entries_of (ok_entries_of T (by decide) h_entries_of_6 h_Table_entries h_made h_product h_word_table F_entries_of) (all_cons (bind0 F_entries_of 2 rfl (fun _ _ _ _ _ _ us h => match us, h with | [_, _], _ => rfl)) all_nil)
  have h_entries_of_8 : Gf l.prog w K mg base "entries_of" 12 (c_entries_of 8 (He.ga K "Table") (He.ga K "TooGreat")) b_entries_of := gf_mk (ps := ["program", "tables"]) (He.glo_ok KX G (c.fact 72)) F_entries_of (ok_entries_of T (by decide) h_entries_of_7 h_Table_entries h_made h_product h_word_table F_entries_of) (all_cons (bind0 F_entries_of 2 rfl (fun _ _ _ _ _ _ us h => match us, h with | [_, _], _ => rfl)) all_nil)
  have h_entries_of := h_entries_of_8
  have h_table_of : Gf l.prog w K mg base "table_of" 13 (c_table_of (He.ga K "Table") (He.ga K "TooGreat") (He.ga K "UnknownName")) b_table_of := gf_mk (He.glo_ok KX G (c.fact 73)) F_table_of (ok_table_of T h_names_in h_table_with h_entries_of x_UnknownName F_table_of) (all_cons (bindk0 F_table_of 1 ["tables"] _ [] [] (fun G => .nil) (List.cons_ne_nil _ _) (fun q h => nomatch h) (fun us its ws h1 h2 h3 => match us, its, ws, h1, h2, h3 with | [_], [], [_], _, _, _ => rfl) (fun _ _ _ _ _ _ us mv ws h1 h3 h4 => match us, mv, ws, h1, h3, h4 with | [_], [], [_], _, _, _ => rfl)) (all_cons (bindk0 F_table_of 0 ["tables", "program"] _ [] [] (fun G => .nil) (List.cons_ne_nil _ _) (fun q h => nomatch h) (fun us its ws h1 h2 h3 => match us, its, ws, h1, h2, h3 with | [], [], [_, _], _, _, _ => rfl) (fun _ _ _ _ _ _ us mv ws h1 h3 h4 => match us, mv, ws, h1, h3, h4 with | [], [], [_, _], _, _, _ => rfl)) (all_cons (bindk0 F_table_of 1 [] _ [.non] [("tables", .non)] (fun G => (.cons .non .nil)) (List.cons_ne_nil _ _) (fun q h => h) (fun us its ws h1 h2 h3 => match us, its, ws, h1, h2, h3 with | [_], [_], [], _, _, _ => rfl) (fun _ _ _ _ _ _ us mv ws h1 h3 h4 => match us, mv, ws, h1, h3, h4 with | [_], [_], [], _, _, _ => ⟨_, _, _, _, _, _, rfl, rfl, rfl⟩)) all_nil)))
  have h__law_field : Hf l.prog w K mg base "_law_field" (c__law_field K) := ⟨_, fd__law_field, _, He.glo_ok KX G (c.fact 74), F__law_field.kp, ok__law_field T F__law_field, bind0 F__law_field 1 rfl (fun _ _ _ _ _ _ us h => match us, h with | [_], _ => rfl)⟩
  have W__law_why : WhyOk l.prog w K mg base "_law_why" 13 := wk__law_why T h__law_field (He.glo_ok KX G (c.fact 75)) F__law_why (bind0 F__law_why 1 rfl (fun _ _ _ _ _ _ us h => match us, h with | [_], _ => rfl)) (by decide)
  have h__law_deep_so : Gf l.prog w K mg base "_law_deep_so" 16 (c__law_deep_so (tabA K (He.ga K "_law_deep_so"))) b__law_deep_so := gf_mk (He.glo_ok KX G (c.fact 76)) F__law_deep_so (ok__law_deep_so T h__law_leaf h__law_of h__law_table_due h__law_same h_Table_entries h_table_of W__law_why (TBs (.g "_law_deep_so", "_law_deep_so.<locals>.<lambda>") (by simp [ts])) F__law_deep_so) (all_cons (bind0 F__law_deep_so 1 rfl (fun _ _ _ _ _ _ us h => match us, h with | [_], _ => rfl)) all_nil)
  exact ok_law T h__law_hand h__law_lowest h__law_mill h__law_shape h__law_made h__law_table_due h__law_same h__law_pieces h__law_deep_so h_Table_entries h_table_of c_Table W__law_why (TBs (.g "law", "law.<locals>.<lambda>") (by simp [ts])) F_law
def nms : List Str := (["_wall", "__name__", "MillError", "Missing", "InvalidTable", "TooGreat", "UnknownName", "NothingLeft", "LEFT", "RIGHT", "NEUTRAL", "is_integer", "divisor_of", "product", "word_table", "divided"] : List Str) ++ (["Table", "table_with", "MOST_TABLE", "SWAP", "inner_parts", "names_in", "made", "entries_of", "table_of", "_law_hand", "_law_pick", "_law_of", "_law_same", "_law_field", "_law_why", "_law_word"] : List Str) ++ (["_law_some", "_law_prod", "_law_grid", "_law_common", "_law_lowest", "_law_core", "_law_mill", "_law_made", "_law_inner", "_law_leaf", "_law_shape", "_law_pieces", "_law_within", "_law_table_due", "_law_deep_so"] : List Str)
abbrev R : PySem.W.OpenRow := PySem.W.OpenLaw.row PySem.Challenge.rw_turnmill_k57_whole_tables_of_programs
def adrs : List PySem.Addr := [3, 31, 44, 64, 83, 102, 125, 126, 127, 134, 141, 148, 155, 160, 280, 291, 292, 297, 304, 311, 316, 324, 329, 336, 343, 348, 355, 362, 367, 374, 381, 388, 395, 400, 405, 410, 417, 424, 431, 436, 443, 450, 455, 460, 465, 30, 43, 63, 82, 101, 133, 140, 147, 154, 159, 279, 290, 296, 303, 310, 315, 323, 317, 328, 335, 342, 347, 354, 361, 366, 373, 380, 387, 394, 399, 404, 409, 416, 423, 430, 435, 442, 449, 454, 459, 464, 61, 80, 99, 172, 221, 60, 79, 98, 171, 220]
abbrev hk : PySem.W.Hook := hookF ts adrs fa fn
def ob (s : PySem.W.SharedT) : He.AlD := obsF ts adrs fa fn (HandSHeadRun.getT s)
theorem ob_eq (s : PySem.W.SharedT) : ob s = hk.obs s.abs := obsF_eq (HandSHeadRun.getT_eq s)
noncomputable section
open Z
open PySem PySem.W PySem.Calls PyProof.Rows HandSHeadRun
def o1_2 (P : Params) : Obj := (Obj.mk Value.none none (Data.dict (List.toArray [(DictEntry.mk (PyData.keyHash P (Str.ofString "type.__subclasses__.IndexError.0")) (Value.str (Str.ofString "type.__subclasses__.IndexError.0") 332) (Value.int 121 0)), (DictEntry.mk (PyData.keyHash P (Str.ofString "type.__subclasses__.IndexError.n")) (Value.str (Str.ofString "type.__subclasses__.IndexError.n") 333) (Value.int 1 0))]) 2) (List.toArray []))
def o1_3 (P : Params) : Obj := (Obj.mk (Value.type "dict") none (Data.dict (List.toArray [(DictEntry.mk (PyData.keyHash P (Str.ofString "__name__")) (Value.str (Str.ofString "__name__") 165) (Value.str (Str.ofString "turnmill.tables") 336)), (DictEntry.mk (PyData.keyHash P (Str.ofString "__doc__")) (Value.str (Str.ofString "__doc__") 166) Value.none), (DictEntry.mk (PyData.keyHash P (Str.ofString "__package__")) (Value.str (Str.ofString "__package__") 167) Value.none), (DictEntry.mk (PyData.keyHash P (Str.ofString "__loader__")) (Value.str (Str.ofString "__loader__") 168) (Value.builtin "__main__.__loader__#opaque")), (DictEntry.mk (PyData.keyHash P (Str.ofString "__spec__")) (Value.str (Str.ofString "__spec__") 169) Value.none), (DictEntry.mk (PyData.keyHash P (Str.ofString "__annotations__")) (Value.str (Str.ofString "__annotations__") 170) (Value.ref 6)), (DictEntry.mk (PyData.keyHash P (Str.ofString "__builtins__")) (Value.str (Str.ofString "__builtins__") 171) (Value.ref 4)), (DictEntry.mk (PyData.keyHash P (Str.ofString "__file__")) (Value.str (Str.ofString "__file__") 173) (Value.str (Str.ofString "/claim/cut.py") 172)), (DictEntry.mk (PyData.keyHash P (Str.ofString "__cached__")) (Value.str (Str.ofString "__cached__") 174) Value.none), (DictEntry.mk (PyData.keyHash P (Str.ofString "_wall")) (Value.str (Str.ofString "_wall") 193) (Value.ref 21)), (DictEntry.mk (PyData.keyHash P (Str.ofString "MillError")) (Value.str (Str.ofString "MillError") 213) (Value.ref 31)), (DictEntry.mk (PyData.keyHash P (Str.ofString "Missing")) (Value.str (Str.ofString "Missing") 231) (Value.ref 44)), (DictEntry.mk (PyData.keyHash P (Str.ofString "InvalidTable")) (Value.str (Str.ofString "InvalidTable") 255) (Value.ref 64)), (DictEntry.mk (PyData.keyHash P (Str.ofString "TooGreat")) (Value.str (Str.ofString "TooGreat") 281) (Value.ref 83)), (DictEntry.mk (PyData.keyHash P (Str.ofString "UnknownName")) (Value.str (Str.ofString "UnknownName") 307) (Value.ref 102)), (DictEntry.mk (PyData.keyHash P (Str.ofString "NothingLeft")) (Value.str (Str.ofString "NothingLeft") 335) (Value.ref 121)), (DictEntry.mk (PyData.keyHash P (Str.ofString "LEFT")) (Value.str (Str.ofString "LEFT") 342) (Value.ref 125)), (DictEntry.mk (PyData.keyHash P (Str.ofString "RIGHT")) (Value.str (Str.ofString "RIGHT") 347) (Value.ref 126)), (DictEntry.mk (PyData.keyHash P (Str.ofString "NEUTRAL")) (Value.str (Str.ofString "NEUTRAL") 352) (Value.ref 127)), (DictEntry.mk (PyData.keyHash P (Str.ofString "is_integer")) (Value.str (Str.ofString "is_integer") 359) (Value.ref 134)), (DictEntry.mk (PyData.keyHash P (Str.ofString "divisor_of")) (Value.str (Str.ofString "divisor_of") 370) (Value.ref 141)), (DictEntry.mk (PyData.keyHash P (Str.ofString "product")) (Value.str (Str.ofString "product") 386) (Value.ref 148)), (DictEntry.mk (PyData.keyHash P (Str.ofString "word_table")) (Value.str (Str.ofString "word_table") 395) (Value.ref 155)), (DictEntry.mk (PyData.keyHash P (Str.ofString "divided")) (Value.str (Str.ofString "divided") 401) (Value.ref 160)), (DictEntry.mk (PyData.keyHash P (Str.ofString "Table")) (Value.str (Str.ofString "Table") 555) (Value.ref 280))]) 25) (List.toArray []))
def o1_11 (P : Params) : Obj := (Obj.mk (Value.type "tuple") none (Data.seq (List.toArray []) 0) (List.toArray []))
def o1_12 (P : Params) : Obj := (Obj.mk Value.none none (Data.fields (List.toArray [(Value.int 1 0), (Value.int 0 0), (Value.ref 20), (Value.int 5 0), (Value.int 0 0), (Value.ref 27), (Value.int 7 0), (Value.int 0 0), (Value.ref 40), (Value.int 9 0), (Value.int 0 0), (Value.ref 53), (Value.int 13 0), (Value.int 0 0), (Value.ref 72), (Value.int 18 0), (Value.int 0 0), (Value.ref 91), (Value.int 23 0), (Value.int 0 0), (Value.ref 110), (Value.int 31 0), (Value.int 0 0), (Value.ref 133), (Value.int 33 0), (Value.int 0 0), (Value.ref 140), (Value.int 41 0), (Value.int 0 0), (Value.ref 147), (Value.int 45 0), (Value.int 0 0), (Value.ref 154), (Value.int 50 0), (Value.int 0 0), (Value.ref 159), (Value.int 53 0), (Value.int 0 0), (Value.ref 166)])) (List.toArray []))
def o1_13 (P : Params) : Obj := (Obj.mk (Value.type "code") none (Data.fields (List.toArray [(Value.str (Str.ofString "<module>") 182), (Value.str (Str.ofString "<module>") 183), (Value.str (Str.ofString "/claim/cut.py") 184), (Value.int 1 0), (Value.int 0 0), (Value.int 0 0), (Value.int 0 0), (Value.int 0 0), (Value.ref 11), (Value.bool Bool.false), (Value.int 181 0), (Value.ref 12), Value.none, Value.none, Value.none, Value.none, (Value.int 185 0), (Value.int 1 0), (Value.str (Str.ofString "/claim/cut.py") 186)])) (List.toArray []))
def o1_14 (P : Params) : Obj := (Obj.mk (Value.type "frame") none Data.plain (List.toArray [(some (Value.ref 13)), (some (Value.ref 3)), (some (Value.ref 3)), none, (some (Value.str (Str.ofString "__main__") 164)), none, (some (Value.ref 0))]))
def o1_15 (P : Params) : Obj := (Obj.mk (Value.type "tuple") none (Data.seq (List.toArray []) 0) (List.toArray []))
def o1_16 (P : Params) : Obj := (Obj.mk Value.none none (Data.fields (List.toArray [])) (List.toArray []))
def o1_17 (P : Params) : Obj := (Obj.mk (Value.type "tuple") none (Data.seq (List.toArray [(Value.str (Str.ofString "k") 190)]) 0) (List.toArray []))
def o1_18 (P : Params) : Obj := (Obj.mk (Value.type "tuple") none (Data.seq (List.toArray []) 0) (List.toArray []))
def o1_19 (P : Params) : Obj := ⟨Value.none, none, .func ⟨(Str.ofString "_wall"), (Str.ofString "_wall"), L2.defArgs (top 0), .stmts (L2.defBody (top 0)), L2.defScope (top 0), 0, [], Value.none, Value.none, Value.none, Value.none, none, Value.none, Value.none, 0⟩, (List.toArray [])⟩
def o1_20 (P : Params) : Obj := (Obj.mk (Value.type "code") none (Data.fields (List.toArray [(Value.str (Str.ofString "_wall") 187), (Value.str (Str.ofString "_wall") 188), (Value.str (Str.ofString "/claim/cut.py") 189), (Value.int 1 0), (Value.int 1 0), (Value.int 0 0), (Value.int 0 0), (Value.int 3 0), (Value.ref 15), (Value.bool Bool.true), (Value.int 181 0), (Value.ref 16), Value.none, (Value.ref 17), (Value.ref 18), (Value.ref 19), (Value.int 191 0), (Value.int 1 0), (Value.str (Str.ofString "/claim/cut.py") 192)])) (List.toArray []))
def o1_21 (P : Params) : Obj := ⟨(Value.type "function"), none, .func ⟨(Str.ofString "_wall"), (Str.ofString "_wall"), L2.defArgs (top 0), .stmts (L2.defBody (top 0)), L2.defScope (top 0), 3, [], Value.none, Value.none, Value.none, (Value.str (Str.ofString "__main__") 164), none, (Value.ref 20), Value.none, 0⟩, (List.toArray [])⟩
def o1_22 (P : Params) : Obj := (Obj.mk (Value.type "tuple") none (Data.seq (List.toArray [(Value.type "ValueError")]) 0) (List.toArray []))
def o1_23 (P : Params) : Obj := (Obj.mk (Value.type "builtin_function_or_method") none (Data.fields (List.toArray [(Value.builtin "type.__prepare__"), (Value.type "type")])) (List.toArray []))
def o1_24 (P : Params) : Obj := (Obj.mk (Value.type "dict") none (Data.dict (List.toArray [(DictEntry.mk (PyData.keyHash P (Str.ofString "__module__")) (Value.str (Str.ofString "__module__") 203) (Value.str (Str.ofString "turnmill.errors") 194)), (DictEntry.mk (PyData.keyHash P (Str.ofString "__qualname__")) (Value.str (Str.ofString "__qualname__") 205) (Value.str (Str.ofString "MillError") 204)), (DictEntry.mk (PyData.keyHash P (Str.ofString "__firstlineno__")) (Value.str (Str.ofString "__firstlineno__") 207) (Value.int 5 206)), (DictEntry.mk (PyData.keyHash P (Str.ofString "__static_attributes__")) (Value.str (Str.ofString "__static_attributes__") 208) (Value.ref 29))]) 4) (List.toArray []))
def o1_25 (P : Params) : Obj := (Obj.mk (Value.type "tuple") none (Data.seq (List.toArray []) 0) (List.toArray []))
def o1_26 (P : Params) : Obj := (Obj.mk Value.none none (Data.fields (List.toArray [])) (List.toArray []))
def o1_27 (P : Params) : Obj := (Obj.mk (Value.type "code") none (Data.fields (List.toArray [(Value.str (Str.ofString "MillError") 198), (Value.str (Str.ofString "MillError") 199), (Value.str (Str.ofString "/claim/cut.py") 200), (Value.int 5 0), (Value.int 0 0), (Value.int 0 0), (Value.int 0 0), (Value.int 0 0), (Value.ref 25), (Value.bool Bool.false), (Value.int 181 0), (Value.ref 26), Value.none, Value.none, Value.none, Value.none, (Value.int 201 0), (Value.int 5 0), (Value.str (Str.ofString "/claim/cut.py") 202)])) (List.toArray []))
def o1_28 (P : Params) : Obj := (Obj.mk (Value.type "frame") none Data.plain (List.toArray [(some (Value.ref 27)), (some (Value.ref 3)), (some (Value.ref 24)), none, (some (Value.str (Str.ofString "turnmill.errors") 194)), none, (some (Value.ref 0))]))
def o1_29 (P : Params) : Obj := (Obj.mk (Value.type "tuple") none (Data.seq (List.toArray []) 0) (List.toArray []))
def o1_30 (P : Params) : Obj := (Obj.mk (Value.type "dict") none (Data.dict (List.toArray [(DictEntry.mk (PyData.keyHash P (Str.ofString "__module__")) (Value.str (Str.ofString "__module__") 203) (Value.str (Str.ofString "turnmill.errors") 194)), (DictEntry.mk (PyData.keyHash P (Str.ofString "__firstlineno__")) (Value.str (Str.ofString "__firstlineno__") 207) (Value.int 5 206)), (DictEntry.mk (PyData.keyHash P (Str.ofString "__static_attributes__")) (Value.str (Str.ofString "__static_attributes__") 208) (Value.ref 29)), (DictEntry.mk (PyData.keyHash P (Str.ofString "__weakref__")) (Value.str (Str.ofString "__weakref__") 210) (Value.ref 32)), (DictEntry.mk (PyData.keyHash P (Str.ofString "__doc__")) (Value.str (Str.ofString "__doc__") 211) Value.none)]) 3) (List.toArray []))
def o1_31 (P : Params) : Obj := (Obj.mk (Value.type "type") none (Data.cls (ClassData.mk (Str.ofString "MillError") [(Value.type "ValueError")] [(Value.ref 31), (Value.type "ValueError"), (Value.type "Exception"), (Value.type "BaseException"), (Value.type "object")] 30 (Str.ofString "MillError") Bool.true [] [(Value.ref 64), (Value.ref 83)] Bool.false none Bool.false)) (List.toArray [(some (Value.ref 22)), none, (some (Value.str (Str.ofString "MillError") 196)), (some (Value.str (Str.ofString "MillError") 204)), (some (Value.builtin "ValueError.__new__")), (some (Value.bool Bool.true))]))
def o1_32 (P : Params) : Obj := (Obj.mk (Value.type "getset_descriptor") none (Data.fields (List.toArray [(Value.str (Str.ofString "__weakref__") 209), (Value.ref 31), (Value.builtin "ExceptionGroup.__weakref__"), Value.none])) (List.toArray []))
def o1_33 (P : Params) : Obj := (Obj.mk (Value.type "super") none (Data.fields (List.toArray [(Value.ref 31), (Value.ref 31), (Value.ref 31)])) (List.toArray []))
def o1_34 (P : Params) : Obj := (Obj.mk (Value.type "builtin_function_or_method") none (Data.fields (List.toArray [(Value.builtin "object.__init_subclass__"), (Value.ref 31)])) (List.toArray []))
def o1_35 (P : Params) : Obj := (Obj.mk (Value.type "tuple") none (Data.seq (List.toArray [(Value.type "LookupError")]) 0) (List.toArray []))
def o1_36 (P : Params) : Obj := (Obj.mk (Value.type "builtin_function_or_method") none (Data.fields (List.toArray [(Value.builtin "type.__prepare__"), (Value.type "type")])) (List.toArray []))
def o1_37 (P : Params) : Obj := (Obj.mk (Value.type "dict") none (Data.dict (List.toArray [(DictEntry.mk (PyData.keyHash P (Str.ofString "__module__")) (Value.str (Str.ofString "__module__") 221) (Value.str (Str.ofString "turnmill.errors") 194)), (DictEntry.mk (PyData.keyHash P (Str.ofString "__qualname__")) (Value.str (Str.ofString "__qualname__") 223) (Value.str (Str.ofString "Missing") 222)), (DictEntry.mk (PyData.keyHash P (Str.ofString "__firstlineno__")) (Value.str (Str.ofString "__firstlineno__") 225) (Value.int 7 224)), (DictEntry.mk (PyData.keyHash P (Str.ofString "__static_attributes__")) (Value.str (Str.ofString "__static_attributes__") 226) (Value.ref 42))]) 4) (List.toArray []))
def o1_38 (P : Params) : Obj := (Obj.mk (Value.type "tuple") none (Data.seq (List.toArray []) 0) (List.toArray []))
def o1_39 (P : Params) : Obj := (Obj.mk Value.none none (Data.fields (List.toArray [])) (List.toArray []))
def o1_40 (P : Params) : Obj := (Obj.mk (Value.type "code") none (Data.fields (List.toArray [(Value.str (Str.ofString "Missing") 216), (Value.str (Str.ofString "Missing") 217), (Value.str (Str.ofString "/claim/cut.py") 218), (Value.int 7 0), (Value.int 0 0), (Value.int 0 0), (Value.int 0 0), (Value.int 0 0), (Value.ref 38), (Value.bool Bool.false), (Value.int 181 0), (Value.ref 39), Value.none, Value.none, Value.none, Value.none, (Value.int 219 0), (Value.int 7 0), (Value.str (Str.ofString "/claim/cut.py") 220)])) (List.toArray []))
def o1_41 (P : Params) : Obj := (Obj.mk (Value.type "frame") none Data.plain (List.toArray [(some (Value.ref 40)), (some (Value.ref 3)), (some (Value.ref 37)), none, (some (Value.str (Str.ofString "turnmill.errors") 194)), none, (some (Value.ref 0))]))
def o1_42 (P : Params) : Obj := (Obj.mk (Value.type "tuple") none (Data.seq (List.toArray []) 0) (List.toArray []))
def o1_43 (P : Params) : Obj := (Obj.mk (Value.type "dict") none (Data.dict (List.toArray [(DictEntry.mk (PyData.keyHash P (Str.ofString "__module__")) (Value.str (Str.ofString "__module__") 221) (Value.str (Str.ofString "turnmill.errors") 194)), (DictEntry.mk (PyData.keyHash P (Str.ofString "__firstlineno__")) (Value.str (Str.ofString "__firstlineno__") 225) (Value.int 7 224)), (DictEntry.mk (PyData.keyHash P (Str.ofString "__static_attributes__")) (Value.str (Str.ofString "__static_attributes__") 226) (Value.ref 42)), (DictEntry.mk (PyData.keyHash P (Str.ofString "__weakref__")) (Value.str (Str.ofString "__weakref__") 228) (Value.ref 45)), (DictEntry.mk (PyData.keyHash P (Str.ofString "__doc__")) (Value.str (Str.ofString "__doc__") 229) Value.none)]) 3) (List.toArray []))
def o1_44 (P : Params) : Obj := (Obj.mk (Value.type "type") none (Data.cls (ClassData.mk (Str.ofString "Missing") [(Value.type "LookupError")] [(Value.ref 44), (Value.type "LookupError"), (Value.type "Exception"), (Value.type "BaseException"), (Value.type "object")] 43 (Str.ofString "Missing") Bool.true [] [(Value.ref 102)] Bool.false none Bool.false)) (List.toArray [(some (Value.ref 35)), none, (some (Value.str (Str.ofString "Missing") 214)), (some (Value.str (Str.ofString "Missing") 222)), (some (Value.builtin "LookupError.__new__")), (some (Value.bool Bool.true))]))
def o1_45 (P : Params) : Obj := (Obj.mk (Value.type "getset_descriptor") none (Data.fields (List.toArray [(Value.str (Str.ofString "__weakref__") 227), (Value.ref 44), (Value.builtin "ExceptionGroup.__weakref__"), Value.none])) (List.toArray []))
def o1_46 (P : Params) : Obj := (Obj.mk (Value.type "super") none (Data.fields (List.toArray [(Value.ref 44), (Value.ref 44), (Value.ref 44)])) (List.toArray []))
def o1_47 (P : Params) : Obj := (Obj.mk (Value.type "builtin_function_or_method") none (Data.fields (List.toArray [(Value.builtin "object.__init_subclass__"), (Value.ref 44)])) (List.toArray []))
def o1_48 (P : Params) : Obj := (Obj.mk (Value.type "tuple") none (Data.seq (List.toArray [(Value.ref 31)]) 0) (List.toArray []))
def o1_49 (P : Params) : Obj := (Obj.mk (Value.type "builtin_function_or_method") none (Data.fields (List.toArray [(Value.builtin "type.__prepare__"), (Value.type "type")])) (List.toArray []))
def o1_50 (P : Params) : Obj := (Obj.mk (Value.type "dict") none (Data.dict (List.toArray [(DictEntry.mk (PyData.keyHash P (Str.ofString "__module__")) (Value.str (Str.ofString "__module__") 239) (Value.str (Str.ofString "turnmill.errors") 194)), (DictEntry.mk (PyData.keyHash P (Str.ofString "__qualname__")) (Value.str (Str.ofString "__qualname__") 241) (Value.str (Str.ofString "InvalidTable") 240)), (DictEntry.mk (PyData.keyHash P (Str.ofString "__firstlineno__")) (Value.str (Str.ofString "__firstlineno__") 243) (Value.int 9 242)), (DictEntry.mk (PyData.keyHash P (Str.ofString "__init__")) (Value.str (Str.ofString "__init__") 250) (Value.ref 61)), (DictEntry.mk (PyData.keyHash P (Str.ofString "__static_attributes__")) (Value.str (Str.ofString "__static_attributes__") 252) (Value.ref 62))]) 5) (List.toArray []))
def o1_51 (P : Params) : Obj := (Obj.mk (Value.type "tuple") none (Data.seq (List.toArray []) 0) (List.toArray []))
def o1_52 (P : Params) : Obj := (Obj.mk Value.none none (Data.fields (List.toArray [(Value.int 11 0), (Value.int 4 0), (Value.ref 60)])) (List.toArray []))
def o1_53 (P : Params) : Obj := (Obj.mk (Value.type "code") none (Data.fields (List.toArray [(Value.str (Str.ofString "InvalidTable") 234), (Value.str (Str.ofString "InvalidTable") 235), (Value.str (Str.ofString "/claim/cut.py") 236), (Value.int 9 0), (Value.int 0 0), (Value.int 0 0), (Value.int 0 0), (Value.int 0 0), (Value.ref 51), (Value.bool Bool.false), (Value.int 181 0), (Value.ref 52), Value.none, Value.none, Value.none, Value.none, (Value.int 237 0), (Value.int 9 0), (Value.str (Str.ofString "/claim/cut.py") 238)])) (List.toArray []))
def o1_54 (P : Params) : Obj := (Obj.mk (Value.type "frame") none Data.plain (List.toArray [(some (Value.ref 53)), (some (Value.ref 3)), (some (Value.ref 50)), none, (some (Value.str (Str.ofString "turnmill.errors") 194)), none, (some (Value.ref 0))]))
def o1_55 (P : Params) : Obj := (Obj.mk (Value.type "tuple") none (Data.seq (List.toArray []) 0) (List.toArray []))
def o1_56 (P : Params) : Obj := (Obj.mk Value.none none (Data.fields (List.toArray [])) (List.toArray []))
def o1_57 (P : Params) : Obj := (Obj.mk (Value.type "tuple") none (Data.seq (List.toArray [(Value.str (Str.ofString "self") 247)]) 0) (List.toArray []))
def o1_58 (P : Params) : Obj := (Obj.mk (Value.type "tuple") none (Data.seq (List.toArray []) 0) (List.toArray []))
def o1_59 (P : Params) : Obj := ⟨Value.none, none, .func ⟨(Str.ofString "__init__"), (Str.ofString "InvalidTable.__init__"), L2.defArgs (L2.inClass (top 4) 0), .stmts (L2.defBody (L2.inClass (top 4) 0)), L2.defScope (L2.inClass (top 4) 0), 0, [], Value.none, Value.none, Value.none, Value.none, none, Value.none, Value.none, 0⟩, (List.toArray [])⟩
def o1_60 (P : Params) : Obj := (Obj.mk (Value.type "code") none (Data.fields (List.toArray [(Value.str (Str.ofString "__init__") 244), (Value.str (Str.ofString "InvalidTable.__init__") 245), (Value.str (Str.ofString "/claim/cut.py") 246), (Value.int 11 0), (Value.int 1 0), (Value.int 0 0), (Value.int 0 0), (Value.int 3 0), (Value.ref 55), (Value.bool Bool.true), (Value.int 181 0), (Value.ref 56), Value.none, (Value.ref 57), (Value.ref 58), (Value.ref 59), (Value.int 248 0), (Value.int 11 0), (Value.str (Str.ofString "/claim/cut.py") 249)])) (List.toArray []))
def o1_61 (P : Params) : Obj := ⟨(Value.type "function"), none, .func ⟨(Str.ofString "__init__"), (Str.ofString "InvalidTable.__init__"), L2.defArgs (L2.inClass (top 4) 0), .stmts (L2.defBody (L2.inClass (top 4) 0)), L2.defScope (L2.inClass (top 4) 0), 3, [], Value.none, Value.none, Value.none, (Value.str (Str.ofString "turnmill.errors") 194), none, (Value.ref 60), Value.none, 0⟩, (List.toArray [])⟩
def o1_62 (P : Params) : Obj := (Obj.mk (Value.type "tuple") none (Data.seq (List.toArray [(Value.str (Str.ofString "tag") 251)]) 0) (List.toArray []))
def o1_63 (P : Params) : Obj := (Obj.mk (Value.type "dict") none (Data.dict (List.toArray [(DictEntry.mk (PyData.keyHash P (Str.ofString "__module__")) (Value.str (Str.ofString "__module__") 239) (Value.str (Str.ofString "turnmill.errors") 194)), (DictEntry.mk (PyData.keyHash P (Str.ofString "__firstlineno__")) (Value.str (Str.ofString "__firstlineno__") 243) (Value.int 9 242)), (DictEntry.mk (PyData.keyHash P (Str.ofString "__init__")) (Value.str (Str.ofString "__init__") 250) (Value.ref 61)), (DictEntry.mk (PyData.keyHash P (Str.ofString "__static_attributes__")) (Value.str (Str.ofString "__static_attributes__") 252) (Value.ref 62)), (DictEntry.mk (PyData.keyHash P (Str.ofString "__doc__")) (Value.str (Str.ofString "__doc__") 253) Value.none)]) 2) (List.toArray []))
def o1_64 (P : Params) : Obj := (Obj.mk (Value.type "type") none (Data.cls (ClassData.mk (Str.ofString "InvalidTable") [(Value.ref 31)] [(Value.ref 64), (Value.ref 31), (Value.type "ValueError"), (Value.type "Exception"), (Value.type "BaseException"), (Value.type "object")] 63 (Str.ofString "InvalidTable") Bool.true [] [] Bool.false none Bool.false)) (List.toArray [(some (Value.ref 48)), none, (some (Value.str (Str.ofString "InvalidTable") 232)), (some (Value.str (Str.ofString "InvalidTable") 240)), (some (Value.builtin "ValueError.__new__")), (some (Value.bool Bool.true))]))
def o1_65 (P : Params) : Obj := (Obj.mk (Value.type "super") none (Data.fields (List.toArray [(Value.ref 64), (Value.ref 64), (Value.ref 64)])) (List.toArray []))
def o1_66 (P : Params) : Obj := (Obj.mk (Value.type "builtin_function_or_method") none (Data.fields (List.toArray [(Value.builtin "object.__init_subclass__"), (Value.ref 64)])) (List.toArray []))
def o1_67 (P : Params) : Obj := (Obj.mk (Value.type "tuple") none (Data.seq (List.toArray [(Value.ref 31)]) 0) (List.toArray []))
def o1_68 (P : Params) : Obj := (Obj.mk (Value.type "builtin_function_or_method") none (Data.fields (List.toArray [(Value.builtin "type.__prepare__"), (Value.type "type")])) (List.toArray []))
def o1_69 (P : Params) : Obj := (Obj.mk (Value.type "dict") none (Data.dict (List.toArray [(DictEntry.mk (PyData.keyHash P (Str.ofString "__module__")) (Value.str (Str.ofString "__module__") 263) (Value.str (Str.ofString "turnmill.errors") 194)), (DictEntry.mk (PyData.keyHash P (Str.ofString "__qualname__")) (Value.str (Str.ofString "__qualname__") 265) (Value.str (Str.ofString "TooGreat") 264)), (DictEntry.mk (PyData.keyHash P (Str.ofString "__firstlineno__")) (Value.str (Str.ofString "__firstlineno__") 267) (Value.int 13 266)), (DictEntry.mk (PyData.keyHash P (Str.ofString "__init__")) (Value.str (Str.ofString "__init__") 275) (Value.ref 80)), (DictEntry.mk (PyData.keyHash P (Str.ofString "__static_attributes__")) (Value.str (Str.ofString "__static_attributes__") 278) (Value.ref 81))]) 5) (List.toArray []))
def o1_70 (P : Params) : Obj := (Obj.mk (Value.type "tuple") none (Data.seq (List.toArray []) 0) (List.toArray []))
def o1_71 (P : Params) : Obj := (Obj.mk Value.none none (Data.fields (List.toArray [(Value.int 15 0), (Value.int 4 0), (Value.ref 79)])) (List.toArray []))
def o1_72 (P : Params) : Obj := (Obj.mk (Value.type "code") none (Data.fields (List.toArray [(Value.str (Str.ofString "TooGreat") 258), (Value.str (Str.ofString "TooGreat") 259), (Value.str (Str.ofString "/claim/cut.py") 260), (Value.int 13 0), (Value.int 0 0), (Value.int 0 0), (Value.int 0 0), (Value.int 0 0), (Value.ref 70), (Value.bool Bool.false), (Value.int 181 0), (Value.ref 71), Value.none, Value.none, Value.none, Value.none, (Value.int 261 0), (Value.int 13 0), (Value.str (Str.ofString "/claim/cut.py") 262)])) (List.toArray []))
def o1_73 (P : Params) : Obj := (Obj.mk (Value.type "frame") none Data.plain (List.toArray [(some (Value.ref 72)), (some (Value.ref 3)), (some (Value.ref 69)), none, (some (Value.str (Str.ofString "turnmill.errors") 194)), none, (some (Value.ref 0))]))
def o1_74 (P : Params) : Obj := (Obj.mk (Value.type "tuple") none (Data.seq (List.toArray []) 0) (List.toArray []))
def o1_75 (P : Params) : Obj := (Obj.mk Value.none none (Data.fields (List.toArray [])) (List.toArray []))
def o1_76 (P : Params) : Obj := (Obj.mk (Value.type "tuple") none (Data.seq (List.toArray [(Value.str (Str.ofString "self") 271), (Value.str (Str.ofString "most") 272)]) 0) (List.toArray []))
def o1_77 (P : Params) : Obj := (Obj.mk (Value.type "tuple") none (Data.seq (List.toArray []) 0) (List.toArray []))
def o1_78 (P : Params) : Obj := ⟨Value.none, none, .func ⟨(Str.ofString "__init__"), (Str.ofString "TooGreat.__init__"), L2.defArgs (L2.inClass (top 5) 0), .stmts (L2.defBody (L2.inClass (top 5) 0)), L2.defScope (L2.inClass (top 5) 0), 0, [], Value.none, Value.none, Value.none, Value.none, none, Value.none, Value.none, 0⟩, (List.toArray [])⟩
def o1_79 (P : Params) : Obj := (Obj.mk (Value.type "code") none (Data.fields (List.toArray [(Value.str (Str.ofString "__init__") 268), (Value.str (Str.ofString "TooGreat.__init__") 269), (Value.str (Str.ofString "/claim/cut.py") 270), (Value.int 15 0), (Value.int 2 0), (Value.int 0 0), (Value.int 0 0), (Value.int 3 0), (Value.ref 74), (Value.bool Bool.true), (Value.int 181 0), (Value.ref 75), Value.none, (Value.ref 76), (Value.ref 77), (Value.ref 78), (Value.int 273 0), (Value.int 15 0), (Value.str (Str.ofString "/claim/cut.py") 274)])) (List.toArray []))
def o1_80 (P : Params) : Obj := ⟨(Value.type "function"), none, .func ⟨(Str.ofString "__init__"), (Str.ofString "TooGreat.__init__"), L2.defArgs (L2.inClass (top 5) 0), .stmts (L2.defBody (L2.inClass (top 5) 0)), L2.defScope (L2.inClass (top 5) 0), 3, [], Value.none, Value.none, Value.none, (Value.str (Str.ofString "turnmill.errors") 194), none, (Value.ref 79), Value.none, 0⟩, (List.toArray [])⟩
def o1_81 (P : Params) : Obj := (Obj.mk (Value.type "tuple") none (Data.seq (List.toArray [(Value.str (Str.ofString "most") 276), (Value.str (Str.ofString "tag") 277)]) 0) (List.toArray []))
def o1_82 (P : Params) : Obj := (Obj.mk (Value.type "dict") none (Data.dict (List.toArray [(DictEntry.mk (PyData.keyHash P (Str.ofString "__module__")) (Value.str (Str.ofString "__module__") 263) (Value.str (Str.ofString "turnmill.errors") 194)), (DictEntry.mk (PyData.keyHash P (Str.ofString "__firstlineno__")) (Value.str (Str.ofString "__firstlineno__") 267) (Value.int 13 266)), (DictEntry.mk (PyData.keyHash P (Str.ofString "__init__")) (Value.str (Str.ofString "__init__") 275) (Value.ref 80)), (DictEntry.mk (PyData.keyHash P (Str.ofString "__static_attributes__")) (Value.str (Str.ofString "__static_attributes__") 278) (Value.ref 81)), (DictEntry.mk (PyData.keyHash P (Str.ofString "__doc__")) (Value.str (Str.ofString "__doc__") 279) Value.none)]) 2) (List.toArray []))
def o1_83 (P : Params) : Obj := (Obj.mk (Value.type "type") none (Data.cls (ClassData.mk (Str.ofString "TooGreat") [(Value.ref 31)] [(Value.ref 83), (Value.ref 31), (Value.type "ValueError"), (Value.type "Exception"), (Value.type "BaseException"), (Value.type "object")] 82 (Str.ofString "TooGreat") Bool.true [] [] Bool.false none Bool.false)) (List.toArray [(some (Value.ref 67)), none, (some (Value.str (Str.ofString "TooGreat") 256)), (some (Value.str (Str.ofString "TooGreat") 264)), (some (Value.builtin "ValueError.__new__")), (some (Value.bool Bool.true))]))
def o1_84 (P : Params) : Obj := (Obj.mk (Value.type "super") none (Data.fields (List.toArray [(Value.ref 83), (Value.ref 83), (Value.ref 83)])) (List.toArray []))
def o1_85 (P : Params) : Obj := (Obj.mk (Value.type "builtin_function_or_method") none (Data.fields (List.toArray [(Value.builtin "object.__init_subclass__"), (Value.ref 83)])) (List.toArray []))
def o1_86 (P : Params) : Obj := (Obj.mk (Value.type "tuple") none (Data.seq (List.toArray [(Value.ref 44)]) 0) (List.toArray []))
def o1_87 (P : Params) : Obj := (Obj.mk (Value.type "builtin_function_or_method") none (Data.fields (List.toArray [(Value.builtin "type.__prepare__"), (Value.type "type")])) (List.toArray []))
def o1_88 (P : Params) : Obj := (Obj.mk (Value.type "dict") none (Data.dict (List.toArray [(DictEntry.mk (PyData.keyHash P (Str.ofString "__module__")) (Value.str (Str.ofString "__module__") 289) (Value.str (Str.ofString "turnmill.errors") 194)), (DictEntry.mk (PyData.keyHash P (Str.ofString "__qualname__")) (Value.str (Str.ofString "__qualname__") 291) (Value.str (Str.ofString "UnknownName") 290)), (DictEntry.mk (PyData.keyHash P (Str.ofString "__firstlineno__")) (Value.str (Str.ofString "__firstlineno__") 293) (Value.int 18 292)), (DictEntry.mk (PyData.keyHash P (Str.ofString "__init__")) (Value.str (Str.ofString "__init__") 301) (Value.ref 99)), (DictEntry.mk (PyData.keyHash P (Str.ofString "__static_attributes__")) (Value.str (Str.ofString "__static_attributes__") 304) (Value.ref 100))]) 5) (List.toArray []))
def o1_89 (P : Params) : Obj := (Obj.mk (Value.type "tuple") none (Data.seq (List.toArray []) 0) (List.toArray []))
def o1_90 (P : Params) : Obj := (Obj.mk Value.none none (Data.fields (List.toArray [(Value.int 20 0), (Value.int 4 0), (Value.ref 98)])) (List.toArray []))
def o1_91 (P : Params) : Obj := (Obj.mk (Value.type "code") none (Data.fields (List.toArray [(Value.str (Str.ofString "UnknownName") 284), (Value.str (Str.ofString "UnknownName") 285), (Value.str (Str.ofString "/claim/cut.py") 286), (Value.int 18 0), (Value.int 0 0), (Value.int 0 0), (Value.int 0 0), (Value.int 0 0), (Value.ref 89), (Value.bool Bool.false), (Value.int 181 0), (Value.ref 90), Value.none, Value.none, Value.none, Value.none, (Value.int 287 0), (Value.int 18 0), (Value.str (Str.ofString "/claim/cut.py") 288)])) (List.toArray []))
def o1_92 (P : Params) : Obj := (Obj.mk (Value.type "frame") none Data.plain (List.toArray [(some (Value.ref 91)), (some (Value.ref 3)), (some (Value.ref 88)), none, (some (Value.str (Str.ofString "turnmill.errors") 194)), none, (some (Value.ref 0))]))
def o1_93 (P : Params) : Obj := (Obj.mk (Value.type "tuple") none (Data.seq (List.toArray []) 0) (List.toArray []))
def o1_94 (P : Params) : Obj := (Obj.mk Value.none none (Data.fields (List.toArray [])) (List.toArray []))
def o1_95 (P : Params) : Obj := (Obj.mk (Value.type "tuple") none (Data.seq (List.toArray [(Value.str (Str.ofString "self") 297), (Value.str (Str.ofString "name") 298)]) 0) (List.toArray []))
def o1_96 (P : Params) : Obj := (Obj.mk (Value.type "tuple") none (Data.seq (List.toArray []) 0) (List.toArray []))
def o1_97 (P : Params) : Obj := ⟨Value.none, none, .func ⟨(Str.ofString "__init__"), (Str.ofString "UnknownName.__init__"), L2.defArgs (L2.inClass (top 6) 0), .stmts (L2.defBody (L2.inClass (top 6) 0)), L2.defScope (L2.inClass (top 6) 0), 0, [], Value.none, Value.none, Value.none, Value.none, none, Value.none, Value.none, 0⟩, (List.toArray [])⟩
def o1_98 (P : Params) : Obj := (Obj.mk (Value.type "code") none (Data.fields (List.toArray [(Value.str (Str.ofString "__init__") 294), (Value.str (Str.ofString "UnknownName.__init__") 295), (Value.str (Str.ofString "/claim/cut.py") 296), (Value.int 20 0), (Value.int 2 0), (Value.int 0 0), (Value.int 0 0), (Value.int 3 0), (Value.ref 93), (Value.bool Bool.true), (Value.int 181 0), (Value.ref 94), Value.none, (Value.ref 95), (Value.ref 96), (Value.ref 97), (Value.int 299 0), (Value.int 20 0), (Value.str (Str.ofString "/claim/cut.py") 300)])) (List.toArray []))
def o1_99 (P : Params) : Obj := ⟨(Value.type "function"), none, .func ⟨(Str.ofString "__init__"), (Str.ofString "UnknownName.__init__"), L2.defArgs (L2.inClass (top 6) 0), .stmts (L2.defBody (L2.inClass (top 6) 0)), L2.defScope (L2.inClass (top 6) 0), 3, [], Value.none, Value.none, Value.none, (Value.str (Str.ofString "turnmill.errors") 194), none, (Value.ref 98), Value.none, 0⟩, (List.toArray [])⟩
def o1_100 (P : Params) : Obj := (Obj.mk (Value.type "tuple") none (Data.seq (List.toArray [(Value.str (Str.ofString "name") 302), (Value.str (Str.ofString "tag") 303)]) 0) (List.toArray []))
def o1_101 (P : Params) : Obj := (Obj.mk (Value.type "dict") none (Data.dict (List.toArray [(DictEntry.mk (PyData.keyHash P (Str.ofString "__module__")) (Value.str (Str.ofString "__module__") 289) (Value.str (Str.ofString "turnmill.errors") 194)), (DictEntry.mk (PyData.keyHash P (Str.ofString "__firstlineno__")) (Value.str (Str.ofString "__firstlineno__") 293) (Value.int 18 292)), (DictEntry.mk (PyData.keyHash P (Str.ofString "__init__")) (Value.str (Str.ofString "__init__") 301) (Value.ref 99)), (DictEntry.mk (PyData.keyHash P (Str.ofString "__static_attributes__")) (Value.str (Str.ofString "__static_attributes__") 304) (Value.ref 100)), (DictEntry.mk (PyData.keyHash P (Str.ofString "__doc__")) (Value.str (Str.ofString "__doc__") 305) Value.none)]) 2) (List.toArray []))
def o1_102 (P : Params) : Obj := (Obj.mk (Value.type "type") none (Data.cls (ClassData.mk (Str.ofString "UnknownName") [(Value.ref 44)] [(Value.ref 102), (Value.ref 44), (Value.type "LookupError"), (Value.type "Exception"), (Value.type "BaseException"), (Value.type "object")] 101 (Str.ofString "UnknownName") Bool.true [] [] Bool.false none Bool.false)) (List.toArray [(some (Value.ref 86)), none, (some (Value.str (Str.ofString "UnknownName") 282)), (some (Value.str (Str.ofString "UnknownName") 290)), (some (Value.builtin "LookupError.__new__")), (some (Value.bool Bool.true))]))
def o1_103 (P : Params) : Obj := (Obj.mk (Value.type "super") none (Data.fields (List.toArray [(Value.ref 102), (Value.ref 102), (Value.ref 102)])) (List.toArray []))
def o1_104 (P : Params) : Obj := (Obj.mk (Value.type "builtin_function_or_method") none (Data.fields (List.toArray [(Value.builtin "object.__init_subclass__"), (Value.ref 102)])) (List.toArray []))
def o1_105 (P : Params) : Obj := (Obj.mk (Value.type "tuple") none (Data.seq (List.toArray [(Value.type "IndexError")]) 0) (List.toArray []))
def o1_106 (P : Params) : Obj := (Obj.mk (Value.type "builtin_function_or_method") none (Data.fields (List.toArray [(Value.builtin "type.__prepare__"), (Value.type "type")])) (List.toArray []))
def o1_107 (P : Params) : Obj := (Obj.mk (Value.type "dict") none (Data.dict (List.toArray [(DictEntry.mk (PyData.keyHash P (Str.ofString "__module__")) (Value.str (Str.ofString "__module__") 315) (Value.str (Str.ofString "turnmill.errors") 194)), (DictEntry.mk (PyData.keyHash P (Str.ofString "__qualname__")) (Value.str (Str.ofString "__qualname__") 317) (Value.str (Str.ofString "NothingLeft") 316)), (DictEntry.mk (PyData.keyHash P (Str.ofString "__firstlineno__")) (Value.str (Str.ofString "__firstlineno__") 319) (Value.int 23 318)), (DictEntry.mk (PyData.keyHash P (Str.ofString "__init__")) (Value.str (Str.ofString "__init__") 326) (Value.ref 118)), (DictEntry.mk (PyData.keyHash P (Str.ofString "__static_attributes__")) (Value.str (Str.ofString "__static_attributes__") 328) (Value.ref 119))]) 5) (List.toArray []))
def o1_108 (P : Params) : Obj := (Obj.mk (Value.type "tuple") none (Data.seq (List.toArray []) 0) (List.toArray []))
def o1_109 (P : Params) : Obj := (Obj.mk Value.none none (Data.fields (List.toArray [(Value.int 25 0), (Value.int 4 0), (Value.ref 117)])) (List.toArray []))
def o1_110 (P : Params) : Obj := (Obj.mk (Value.type "code") none (Data.fields (List.toArray [(Value.str (Str.ofString "NothingLeft") 310), (Value.str (Str.ofString "NothingLeft") 311), (Value.str (Str.ofString "/claim/cut.py") 312), (Value.int 23 0), (Value.int 0 0), (Value.int 0 0), (Value.int 0 0), (Value.int 0 0), (Value.ref 108), (Value.bool Bool.false), (Value.int 181 0), (Value.ref 109), Value.none, Value.none, Value.none, Value.none, (Value.int 313 0), (Value.int 23 0), (Value.str (Str.ofString "/claim/cut.py") 314)])) (List.toArray []))
def o1_111 (P : Params) : Obj := (Obj.mk (Value.type "frame") none Data.plain (List.toArray [(some (Value.ref 110)), (some (Value.ref 3)), (some (Value.ref 107)), none, (some (Value.str (Str.ofString "turnmill.errors") 194)), none, (some (Value.ref 0))]))
def o1_112 (P : Params) : Obj := (Obj.mk (Value.type "tuple") none (Data.seq (List.toArray []) 0) (List.toArray []))
def o1_113 (P : Params) : Obj := (Obj.mk Value.none none (Data.fields (List.toArray [])) (List.toArray []))
def o1_114 (P : Params) : Obj := (Obj.mk (Value.type "tuple") none (Data.seq (List.toArray [(Value.str (Str.ofString "self") 323)]) 0) (List.toArray []))
def o1_115 (P : Params) : Obj := (Obj.mk (Value.type "tuple") none (Data.seq (List.toArray []) 0) (List.toArray []))
def o1_116 (P : Params) : Obj := ⟨Value.none, none, .func ⟨(Str.ofString "__init__"), (Str.ofString "NothingLeft.__init__"), L2.defArgs (L2.inClass (top 7) 0), .stmts (L2.defBody (L2.inClass (top 7) 0)), L2.defScope (L2.inClass (top 7) 0), 0, [], Value.none, Value.none, Value.none, Value.none, none, Value.none, Value.none, 0⟩, (List.toArray [])⟩
def o1_117 (P : Params) : Obj := (Obj.mk (Value.type "code") none (Data.fields (List.toArray [(Value.str (Str.ofString "__init__") 320), (Value.str (Str.ofString "NothingLeft.__init__") 321), (Value.str (Str.ofString "/claim/cut.py") 322), (Value.int 25 0), (Value.int 1 0), (Value.int 0 0), (Value.int 0 0), (Value.int 3 0), (Value.ref 112), (Value.bool Bool.true), (Value.int 181 0), (Value.ref 113), Value.none, (Value.ref 114), (Value.ref 115), (Value.ref 116), (Value.int 324 0), (Value.int 25 0), (Value.str (Str.ofString "/claim/cut.py") 325)])) (List.toArray []))
def o1_118 (P : Params) : Obj := ⟨(Value.type "function"), none, .func ⟨(Str.ofString "__init__"), (Str.ofString "NothingLeft.__init__"), L2.defArgs (L2.inClass (top 7) 0), .stmts (L2.defBody (L2.inClass (top 7) 0)), L2.defScope (L2.inClass (top 7) 0), 3, [], Value.none, Value.none, Value.none, (Value.str (Str.ofString "turnmill.errors") 194), none, (Value.ref 117), Value.none, 0⟩, (List.toArray [])⟩
def o1_119 (P : Params) : Obj := (Obj.mk (Value.type "tuple") none (Data.seq (List.toArray [(Value.str (Str.ofString "tag") 327)]) 0) (List.toArray []))
def o1_120 (P : Params) : Obj := (Obj.mk (Value.type "dict") none (Data.dict (List.toArray [(DictEntry.mk (PyData.keyHash P (Str.ofString "__module__")) (Value.str (Str.ofString "__module__") 315) (Value.str (Str.ofString "turnmill.errors") 194)), (DictEntry.mk (PyData.keyHash P (Str.ofString "__firstlineno__")) (Value.str (Str.ofString "__firstlineno__") 319) (Value.int 23 318)), (DictEntry.mk (PyData.keyHash P (Str.ofString "__init__")) (Value.str (Str.ofString "__init__") 326) (Value.ref 118)), (DictEntry.mk (PyData.keyHash P (Str.ofString "__static_attributes__")) (Value.str (Str.ofString "__static_attributes__") 328) (Value.ref 119)), (DictEntry.mk (PyData.keyHash P (Str.ofString "__weakref__")) (Value.str (Str.ofString "__weakref__") 330) (Value.ref 122)), (DictEntry.mk (PyData.keyHash P (Str.ofString "__doc__")) (Value.str (Str.ofString "__doc__") 331) Value.none)]) 3) (List.toArray []))
def o1_121 (P : Params) : Obj := (Obj.mk (Value.type "type") none (Data.cls (ClassData.mk (Str.ofString "NothingLeft") [(Value.type "IndexError")] [(Value.ref 121), (Value.type "IndexError"), (Value.type "LookupError"), (Value.type "Exception"), (Value.type "BaseException"), (Value.type "object")] 120 (Str.ofString "NothingLeft") Bool.true [] [] Bool.false none Bool.false)) (List.toArray [(some (Value.ref 105)), none, (some (Value.str (Str.ofString "NothingLeft") 308)), (some (Value.str (Str.ofString "NothingLeft") 316)), (some (Value.builtin "IndexError.__new__")), (some (Value.bool Bool.true))]))
def o1_122 (P : Params) : Obj := (Obj.mk (Value.type "getset_descriptor") none (Data.fields (List.toArray [(Value.str (Str.ofString "__weakref__") 329), (Value.ref 121), (Value.builtin "ExceptionGroup.__weakref__"), Value.none])) (List.toArray []))
def o1_123 (P : Params) : Obj := (Obj.mk (Value.type "super") none (Data.fields (List.toArray [(Value.ref 121), (Value.ref 121), (Value.ref 121)])) (List.toArray []))
def o1_124 (P : Params) : Obj := (Obj.mk (Value.type "builtin_function_or_method") none (Data.fields (List.toArray [(Value.builtin "object.__init_subclass__"), (Value.ref 121)])) (List.toArray []))
def o1_125 (P : Params) : Obj := (Obj.mk (Value.type "tuple") none (Data.seq (List.toArray [(Value.int 1 338), (Value.int 0 339), (Value.int 1 340), (Value.int 1 341)]) 0) (List.toArray []))
def o1_126 (P : Params) : Obj := (Obj.mk (Value.type "tuple") none (Data.seq (List.toArray [(Value.int 1 343), (Value.int 1 344), (Value.int 0 345), (Value.int 1 346)]) 0) (List.toArray []))
def o1_127 (P : Params) : Obj := (Obj.mk (Value.type "tuple") none (Data.seq (List.toArray [(Value.int 1 348), (Value.int 0 349), (Value.int 0 350), (Value.int 1 351)]) 0) (List.toArray []))
def o1_128 (P : Params) : Obj := (Obj.mk (Value.type "tuple") none (Data.seq (List.toArray []) 0) (List.toArray []))
def o1_129 (P : Params) : Obj := (Obj.mk Value.none none (Data.fields (List.toArray [])) (List.toArray []))
def o1_130 (P : Params) : Obj := (Obj.mk (Value.type "tuple") none (Data.seq (List.toArray [(Value.str (Str.ofString "value") 356)]) 0) (List.toArray []))
def o1_131 (P : Params) : Obj := (Obj.mk (Value.type "tuple") none (Data.seq (List.toArray []) 0) (List.toArray []))
def o1_132 (P : Params) : Obj := ⟨Value.none, none, .func ⟨(Str.ofString "is_integer"), (Str.ofString "is_integer"), L2.defArgs (top 12), .stmts (L2.defBody (top 12)), L2.defScope (top 12), 0, [], Value.none, Value.none, Value.none, Value.none, none, Value.none, Value.none, 0⟩, (List.toArray [])⟩
def o1_133 (P : Params) : Obj := (Obj.mk (Value.type "code") none (Data.fields (List.toArray [(Value.str (Str.ofString "is_integer") 353), (Value.str (Str.ofString "is_integer") 354), (Value.str (Str.ofString "/claim/cut.py") 355), (Value.int 31 0), (Value.int 1 0), (Value.int 0 0), (Value.int 0 0), (Value.int 3 0), (Value.ref 128), (Value.bool Bool.true), (Value.int 181 0), (Value.ref 129), Value.none, (Value.ref 130), (Value.ref 131), (Value.ref 132), (Value.int 357 0), (Value.int 31 0), (Value.str (Str.ofString "/claim/cut.py") 358)])) (List.toArray []))
def o1_134 (P : Params) : Obj := ⟨(Value.type "function"), none, .func ⟨(Str.ofString "is_integer"), (Str.ofString "is_integer"), L2.defArgs (top 12), .stmts (L2.defBody (top 12)), L2.defScope (top 12), 3, [], Value.none, Value.none, Value.none, (Value.str (Str.ofString "turnmill.tables") 336), none, (Value.ref 133), Value.none, 0⟩, (List.toArray [])⟩
def o1_135 (P : Params) : Obj := (Obj.mk (Value.type "tuple") none (Data.seq (List.toArray []) 0) (List.toArray []))
def o1_136 (P : Params) : Obj := (Obj.mk Value.none none (Data.fields (List.toArray [])) (List.toArray []))
def o1_137 (P : Params) : Obj := (Obj.mk (Value.type "tuple") none (Data.seq (List.toArray [(Value.str (Str.ofString "numbers") 363), (Value.str (Str.ofString "found") 364), (Value.str (Str.ofString "number") 365), (Value.str (Str.ofString "one") 366), (Value.str (Str.ofString "other") 367)]) 0) (List.toArray []))
def o1_138 (P : Params) : Obj := (Obj.mk (Value.type "tuple") none (Data.seq (List.toArray []) 0) (List.toArray []))
def o1_139 (P : Params) : Obj := ⟨Value.none, none, .func ⟨(Str.ofString "divisor_of"), (Str.ofString "divisor_of"), L2.defArgs (top 13), .stmts (L2.defBody (top 13)), L2.defScope (top 13), 0, [], Value.none, Value.none, Value.none, Value.none, none, Value.none, Value.none, 0⟩, (List.toArray [])⟩
def o1_140 (P : Params) : Obj := (Obj.mk (Value.type "code") none (Data.fields (List.toArray [(Value.str (Str.ofString "divisor_of") 360), (Value.str (Str.ofString "divisor_of") 361), (Value.str (Str.ofString "/claim/cut.py") 362), (Value.int 33 0), (Value.int 1 0), (Value.int 0 0), (Value.int 0 0), (Value.int 3 0), (Value.ref 135), (Value.bool Bool.true), (Value.int 181 0), (Value.ref 136), Value.none, (Value.ref 137), (Value.ref 138), (Value.ref 139), (Value.int 368 0), (Value.int 33 0), (Value.str (Str.ofString "/claim/cut.py") 369)])) (List.toArray []))
def o1_141 (P : Params) : Obj := ⟨(Value.type "function"), none, .func ⟨(Str.ofString "divisor_of"), (Str.ofString "divisor_of"), L2.defArgs (top 13), .stmts (L2.defBody (top 13)), L2.defScope (top 13), 3, [], Value.none, Value.none, Value.none, (Value.str (Str.ofString "turnmill.tables") 336), none, (Value.ref 140), Value.none, 0⟩, (List.toArray [])⟩
def o1_142 (P : Params) : Obj := (Obj.mk (Value.type "tuple") none (Data.seq (List.toArray []) 0) (List.toArray []))
def o1_143 (P : Params) : Obj := (Obj.mk Value.none none (Data.fields (List.toArray [])) (List.toArray []))
def o1_144 (P : Params) : Obj := (Obj.mk (Value.type "tuple") none (Data.seq (List.toArray [(Value.str (Str.ofString "one") 374), (Value.str (Str.ofString "other") 375), (Value.str (Str.ofString "a") 376), (Value.str (Str.ofString "b") 377), (Value.str (Str.ofString "c") 378), (Value.str (Str.ofString "d") 379), (Value.str (Str.ofString "e") 380), (Value.str (Str.ofString "f") 381), (Value.str (Str.ofString "g") 382), (Value.str (Str.ofString "h") 383)]) 0) (List.toArray []))
def o1_145 (P : Params) : Obj := (Obj.mk (Value.type "tuple") none (Data.seq (List.toArray []) 0) (List.toArray []))
def o1_146 (P : Params) : Obj := ⟨Value.none, none, .func ⟨(Str.ofString "product"), (Str.ofString "product"), L2.defArgs (top 14), .stmts (L2.defBody (top 14)), L2.defScope (top 14), 0, [], Value.none, Value.none, Value.none, Value.none, none, Value.none, Value.none, 0⟩, (List.toArray [])⟩
def o1_147 (P : Params) : Obj := (Obj.mk (Value.type "code") none (Data.fields (List.toArray [(Value.str (Str.ofString "product") 371), (Value.str (Str.ofString "product") 372), (Value.str (Str.ofString "/claim/cut.py") 373), (Value.int 41 0), (Value.int 2 0), (Value.int 0 0), (Value.int 0 0), (Value.int 3 0), (Value.ref 142), (Value.bool Bool.true), (Value.int 181 0), (Value.ref 143), Value.none, (Value.ref 144), (Value.ref 145), (Value.ref 146), (Value.int 384 0), (Value.int 41 0), (Value.str (Str.ofString "/claim/cut.py") 385)])) (List.toArray []))
def o1_148 (P : Params) : Obj := ⟨(Value.type "function"), none, .func ⟨(Str.ofString "product"), (Str.ofString "product"), L2.defArgs (top 14), .stmts (L2.defBody (top 14)), L2.defScope (top 14), 3, [], Value.none, Value.none, Value.none, (Value.str (Str.ofString "turnmill.tables") 336), none, (Value.ref 147), Value.none, 0⟩, (List.toArray [])⟩
def o1_149 (P : Params) : Obj := (Obj.mk (Value.type "tuple") none (Data.seq (List.toArray []) 0) (List.toArray []))
def o1_150 (P : Params) : Obj := (Obj.mk Value.none none (Data.fields (List.toArray [])) (List.toArray []))
def o1_151 (P : Params) : Obj := (Obj.mk (Value.type "tuple") none (Data.seq (List.toArray [(Value.str (Str.ofString "word") 390), (Value.str (Str.ofString "found") 391), (Value.str (Str.ofString "turn") 392)]) 0) (List.toArray []))
def o1_152 (P : Params) : Obj := (Obj.mk (Value.type "tuple") none (Data.seq (List.toArray []) 0) (List.toArray []))
def o1_153 (P : Params) : Obj := ⟨Value.none, none, .func ⟨(Str.ofString "word_table"), (Str.ofString "word_table"), L2.defArgs (top 15), .stmts (L2.defBody (top 15)), L2.defScope (top 15), 0, [], Value.none, Value.none, Value.none, Value.none, none, Value.none, Value.none, 0⟩, (List.toArray [])⟩
def o1_154 (P : Params) : Obj := (Obj.mk (Value.type "code") none (Data.fields (List.toArray [(Value.str (Str.ofString "word_table") 387), (Value.str (Str.ofString "word_table") 388), (Value.str (Str.ofString "/claim/cut.py") 389), (Value.int 45 0), (Value.int 1 0), (Value.int 0 0), (Value.int 0 0), (Value.int 3 0), (Value.ref 149), (Value.bool Bool.true), (Value.int 181 0), (Value.ref 150), Value.none, (Value.ref 151), (Value.ref 152), (Value.ref 153), (Value.int 393 0), (Value.int 45 0), (Value.str (Str.ofString "/claim/cut.py") 394)])) (List.toArray []))
def o1_155 (P : Params) : Obj := ⟨(Value.type "function"), none, .func ⟨(Str.ofString "word_table"), (Str.ofString "word_table"), L2.defArgs (top 15), .stmts (L2.defBody (top 15)), L2.defScope (top 15), 3, [], Value.none, Value.none, Value.none, (Value.str (Str.ofString "turnmill.tables") 336), none, (Value.ref 154), Value.none, 0⟩, (List.toArray [])⟩
def o1_156 (P : Params) : Obj := (Obj.mk (Value.type "tuple") none (Data.seq (List.toArray []) 0) (List.toArray []))
def o1_157 (P : Params) : Obj := (Obj.mk Value.none none (Data.fields (List.toArray [])) (List.toArray []))
def o1_158 (P : Params) : Obj := ⟨Value.none, none, .func ⟨(Str.ofString "divided"), (Str.ofString "divided"), L2.defArgs (top 16), .stmts (L2.defBody (top 16)), L2.defScope (top 16), 0, [], Value.none, Value.none, Value.none, Value.none, none, Value.none, Value.none, 0⟩, (List.toArray [])⟩
def o1_159 (P : Params) : Obj := (Obj.mk (Value.type "code") none (Data.fields (List.toArray [(Value.str (Str.ofString "divided") 396), (Value.str (Str.ofString "divided") 397), (Value.str (Str.ofString "/claim/cut.py") 398), (Value.int 50 0), (Value.int 1 0), (Value.int 0 0), (Value.int 0 0), (Value.int 3 0), (Value.ref 156), (Value.bool Bool.true), (Value.int 181 0), (Value.ref 157), Value.none, Value.none, Value.none, (Value.ref 158), (Value.int 399 0), (Value.int 50 0), (Value.str (Str.ofString "/claim/cut.py") 400)])) (List.toArray []))
def o1_160 (P : Params) : Obj := ⟨(Value.type "function"), none, .func ⟨(Str.ofString "divided"), (Str.ofString "divided"), L2.defArgs (top 16), .stmts (L2.defBody (top 16)), L2.defScope (top 16), 3, [], Value.none, Value.none, Value.none, (Value.str (Str.ofString "turnmill.tables") 336), none, (Value.ref 159), Value.none, 0⟩, (List.toArray [])⟩
def o1_161 (P : Params) : Obj := (Obj.mk (Value.type "tuple") none (Data.seq (List.toArray []) 0) (List.toArray []))
def o1_162 (P : Params) : Obj := (Obj.mk (Value.type "builtin_function_or_method") none (Data.fields (List.toArray [(Value.builtin "type.__prepare__"), (Value.type "type")])) (List.toArray []))
def o1_163 (P : Params) : Obj := (Obj.mk (Value.type "dict") none (Data.dict (List.toArray [(DictEntry.mk (PyData.keyHash P (Str.ofString "__module__")) (Value.str (Str.ofString "__module__") 409) (Value.str (Str.ofString "turnmill.tables") 336)), (DictEntry.mk (PyData.keyHash P (Str.ofString "__qualname__")) (Value.str (Str.ofString "__qualname__") 411) (Value.str (Str.ofString "Table") 410)), (DictEntry.mk (PyData.keyHash P (Str.ofString "__firstlineno__")) (Value.str (Str.ofString "__firstlineno__") 413) (Value.int 53 412)), (DictEntry.mk (PyData.keyHash P (Str.ofString "__init__")) (Value.str (Str.ofString "__init__") 419) (Value.ref 172)), (DictEntry.mk (PyData.keyHash P (Str.ofString "of_word")) (Value.str (Str.ofString "of_word") 438) (Value.ref 181)), (DictEntry.mk (PyData.keyHash P (Str.ofString "determinant")) (Value.str (Str.ofString "determinant") 446) (Value.ref 190)), (DictEntry.mk (PyData.keyHash P (Str.ofString "common")) (Value.str (Str.ofString "common") 454) (Value.ref 198)), (DictEntry.mk (PyData.keyHash P (Str.ofString "is_mill")) (Value.str (Str.ofString "is_mill") 462) (Value.ref 206)), (DictEntry.mk (PyData.keyHash P (Str.ofString "is_balanced")) (Value.str (Str.ofString "is_balanced") 470) (Value.ref 214)), (DictEntry.mk (PyData.keyHash P (Str.ofString "entries")) (Value.str (Str.ofString "entries") 477) (Value.ref 221)), (DictEntry.mk (PyData.keyHash P (Str.ofString "power")) (Value.str (Str.ofString "power") 485) (Value.ref 228)), (DictEntry.mk (PyData.keyHash P (Str.ofString "back")) (Value.str (Str.ofString "back") 496) (Value.ref 235)), (DictEntry.mk (PyData.keyHash P (Str.ofString "plain")) (Value.str (Str.ofString "plain") 503) (Value.ref 242)), (DictEntry.mk (PyData.keyHash P (Str.ofString "alike")) (Value.str (Str.ofString "alike") 511) (Value.ref 249)), (DictEntry.mk (PyData.keyHash P (Str.ofString "taken")) (Value.str (Str.ofString "taken") 518) (Value.ref 256)), (DictEntry.mk (PyData.keyHash P (Str.ofString "__mul__")) (Value.str (Str.ofString "__mul__") 526) (Value.ref 263)), (DictEntry.mk (PyData.keyHash P (Str.ofString "__eq__")) (Value.str (Str.ofString "__eq__") 534) (Value.ref 270)), (DictEntry.mk (PyData.keyHash P (Str.ofString "__repr__")) (Value.str (Str.ofString "__repr__") 545) (Value.ref 277)), (DictEntry.mk (PyData.keyHash P (Str.ofString "__static_attributes__")) (Value.str (Str.ofString "__static_attributes__") 547) (Value.ref 278))]) 19) (List.toArray []))
def o1_164 (P : Params) : Obj := (Obj.mk (Value.type "tuple") none (Data.seq (List.toArray []) 0) (List.toArray []))
def o1_165 (P : Params) : Obj := (Obj.mk Value.none none (Data.fields (List.toArray [(Value.int 55 0), (Value.int 4 0), (Value.ref 171), (Value.int 61 0), (Value.int 4 0), (Value.ref 178), (Value.int 65 0), (Value.int 4 0), (Value.ref 188), (Value.int 69 0), (Value.int 4 0), (Value.ref 196), (Value.int 73 0), (Value.int 4 0), (Value.ref 204), (Value.int 77 0), (Value.int 4 0), (Value.ref 212), (Value.int 80 0), (Value.int 4 0), (Value.ref 220), (Value.int 83 0), (Value.int 4 0), (Value.ref 227), (Value.int 86 0), (Value.int 4 0), (Value.ref 234), (Value.int 90 0), (Value.int 4 0), (Value.ref 241), (Value.int 93 0), (Value.int 4 0), (Value.ref 248), (Value.int 96 0), (Value.int 4 0), (Value.ref 255), (Value.int 99 0), (Value.int 4 0), (Value.ref 262), (Value.int 102 0), (Value.int 4 0), (Value.ref 269), (Value.int 105 0), (Value.int 4 0), (Value.ref 276)])) (List.toArray []))
def o1_166 (P : Params) : Obj := (Obj.mk (Value.type "code") none (Data.fields (List.toArray [(Value.str (Str.ofString "Table") 404), (Value.str (Str.ofString "Table") 405), (Value.str (Str.ofString "/claim/cut.py") 406), (Value.int 53 0), (Value.int 0 0), (Value.int 0 0), (Value.int 0 0), (Value.int 0 0), (Value.ref 164), (Value.bool Bool.false), (Value.int 181 0), (Value.ref 165), Value.none, Value.none, Value.none, Value.none, (Value.int 407 0), (Value.int 53 0), (Value.str (Str.ofString "/claim/cut.py") 408)])) (List.toArray []))
def o1_167 (P : Params) : Obj := (Obj.mk (Value.type "frame") none Data.plain (List.toArray [(some (Value.ref 166)), (some (Value.ref 3)), (some (Value.ref 163)), none, (some (Value.str (Str.ofString "turnmill.tables") 336)), none, (some (Value.ref 0))]))
def o1_168 (P : Params) : Obj := (Obj.mk (Value.type "tuple") none (Data.seq (List.toArray []) 0) (List.toArray []))
def o1_169 (P : Params) : Obj := (Obj.mk Value.none none (Data.fields (List.toArray [])) (List.toArray []))
def o1_170 (P : Params) : Obj := ⟨Value.none, none, .func ⟨(Str.ofString "__init__"), (Str.ofString "Table.__init__"), L2.defArgs (L2.inClass (top 17) 0), .stmts (L2.defBody (L2.inClass (top 17) 0)), L2.defScope (L2.inClass (top 17) 0), 0, [], Value.none, Value.none, Value.none, Value.none, none, Value.none, Value.none, 0⟩, (List.toArray [])⟩
def o1_171 (P : Params) : Obj := (Obj.mk (Value.type "code") none (Data.fields (List.toArray [(Value.str (Str.ofString "__init__") 414), (Value.str (Str.ofString "Table.__init__") 415), (Value.str (Str.ofString "/claim/cut.py") 416), (Value.int 55 0), (Value.int 5 0), (Value.int 0 0), (Value.int 0 0), (Value.int 3 0), (Value.ref 168), (Value.bool Bool.true), (Value.int 181 0), (Value.ref 169), Value.none, Value.none, Value.none, (Value.ref 170), (Value.int 417 0), (Value.int 55 0), (Value.str (Str.ofString "/claim/cut.py") 418)])) (List.toArray []))
def o1_172 (P : Params) : Obj := ⟨(Value.type "function"), none, .func ⟨(Str.ofString "__init__"), (Str.ofString "Table.__init__"), L2.defArgs (L2.inClass (top 17) 0), .stmts (L2.defBody (L2.inClass (top 17) 0)), L2.defScope (L2.inClass (top 17) 0), 3, [], Value.none, Value.none, Value.none, (Value.str (Str.ofString "turnmill.tables") 336), none, (Value.ref 171), Value.none, 0⟩, (List.toArray [])⟩
def o1_173 (P : Params) : Obj := (Obj.mk (Value.type "tuple") none (Data.seq (List.toArray []) 0) (List.toArray []))
def o1_174 (P : Params) : Obj := (Obj.mk Value.none none (Data.fields (List.toArray [])) (List.toArray []))
def o1_175 (P : Params) : Obj := (Obj.mk (Value.type "tuple") none (Data.seq (List.toArray [(Value.str (Str.ofString "word") 423)]) 0) (List.toArray []))
def o1_176 (P : Params) : Obj := (Obj.mk (Value.type "tuple") none (Data.seq (List.toArray []) 0) (List.toArray []))
def o1_177 (P : Params) : Obj := ⟨Value.none, none, .func ⟨(Str.ofString "of_word"), (Str.ofString "Table.of_word"), L2.defArgs (L2.inClass (top 17) 1), .stmts (L2.defBody (L2.inClass (top 17) 1)), L2.defScope (L2.inClass (top 17) 1), 0, [], Value.none, Value.none, Value.none, Value.none, none, Value.none, Value.none, 0⟩, (List.toArray [])⟩
def o1_178 (P : Params) : Obj := (Obj.mk (Value.type "code") none (Data.fields (List.toArray [(Value.str (Str.ofString "of_word") 420), (Value.str (Str.ofString "Table.of_word") 421), (Value.str (Str.ofString "/claim/cut.py") 422), (Value.int 60 0), (Value.int 1 0), (Value.int 0 0), (Value.int 0 0), (Value.int 3 0), (Value.ref 173), (Value.bool Bool.true), (Value.int 181 0), (Value.ref 174), Value.none, (Value.ref 175), (Value.ref 176), (Value.ref 177), (Value.int 424 0), (Value.int 60 0), (Value.str (Str.ofString "/claim/cut.py") 425)])) (List.toArray []))
def o1_179 (P : Params) : Obj := ⟨(Value.type "function"), none, .func ⟨(Str.ofString "of_word"), (Str.ofString "Table.of_word"), L2.defArgs (L2.inClass (top 17) 1), .stmts (L2.defBody (L2.inClass (top 17) 1)), L2.defScope (L2.inClass (top 17) 1), 3, [], Value.none, Value.none, Value.none, (Value.str (Str.ofString "turnmill.tables") 336), (some 182), (Value.ref 178), Value.none, 0⟩, (List.toArray [])⟩
def o1_180 (P : Params) : Obj := (Obj.mk (Value.type "dict") none (Data.dict (List.toArray [(DictEntry.mk (PyData.keyHash P (Str.ofString "__module__")) (Value.str (Str.ofString "__module__") 427) (Value.str (Str.ofString "turnmill.tables") 336)), (DictEntry.mk (PyData.keyHash P (Str.ofString "__name__")) (Value.str (Str.ofString "__name__") 430) (Value.str (Str.ofString "of_word") 429)), (DictEntry.mk (PyData.keyHash P (Str.ofString "__qualname__")) (Value.str (Str.ofString "__qualname__") 433) (Value.str (Str.ofString "Table.of_word") 432)), (DictEntry.mk (PyData.keyHash P (Str.ofString "__doc__")) (Value.str (Str.ofString "__doc__") 435) Value.none), (DictEntry.mk (PyData.keyHash P (Str.ofString "__annotations__")) (Value.str (Str.ofString "__annotations__") 437) (Value.ref 182))]) 5) (List.toArray []))
def o1_181 (P : Params) : Obj := (Obj.mk (Value.type "staticmethod") (some 180) (Data.fields (List.toArray [(Value.ref 179), (Value.bool Bool.false)])) (List.toArray []))
def o1_182 (P : Params) : Obj := (Obj.mk (Value.type "dict") none (Data.dict (List.toArray []) 0) (List.toArray []))
def o1_183 (P : Params) : Obj := (Obj.mk (Value.type "tuple") none (Data.seq (List.toArray []) 0) (List.toArray []))
def o1_184 (P : Params) : Obj := (Obj.mk Value.none none (Data.fields (List.toArray [])) (List.toArray []))
def o1_185 (P : Params) : Obj := (Obj.mk (Value.type "tuple") none (Data.seq (List.toArray [(Value.str (Str.ofString "self") 442)]) 0) (List.toArray []))
def o1_186 (P : Params) : Obj := (Obj.mk (Value.type "tuple") none (Data.seq (List.toArray []) 0) (List.toArray []))
def o1_187 (P : Params) : Obj := ⟨Value.none, none, .func ⟨(Str.ofString "determinant"), (Str.ofString "Table.determinant"), L2.defArgs (L2.inClass (top 17) 2), .stmts (L2.defBody (L2.inClass (top 17) 2)), L2.defScope (L2.inClass (top 17) 2), 0, [], Value.none, Value.none, Value.none, Value.none, none, Value.none, Value.none, 0⟩, (List.toArray [])⟩
def o1_188 (P : Params) : Obj := (Obj.mk (Value.type "code") none (Data.fields (List.toArray [(Value.str (Str.ofString "determinant") 439), (Value.str (Str.ofString "Table.determinant") 440), (Value.str (Str.ofString "/claim/cut.py") 441), (Value.int 64 0), (Value.int 1 0), (Value.int 0 0), (Value.int 0 0), (Value.int 3 0), (Value.ref 183), (Value.bool Bool.true), (Value.int 181 0), (Value.ref 184), Value.none, (Value.ref 185), (Value.ref 186), (Value.ref 187), (Value.int 443 0), (Value.int 64 0), (Value.str (Str.ofString "/claim/cut.py") 444)])) (List.toArray []))
def o1_189 (P : Params) : Obj := ⟨(Value.type "function"), none, .func ⟨(Str.ofString "determinant"), (Str.ofString "Table.determinant"), L2.defArgs (L2.inClass (top 17) 2), .stmts (L2.defBody (L2.inClass (top 17) 2)), L2.defScope (L2.inClass (top 17) 2), 3, [], Value.none, Value.none, Value.none, (Value.str (Str.ofString "turnmill.tables") 336), none, (Value.ref 188), Value.none, 0⟩, (List.toArray [])⟩
def o1_190 (P : Params) : Obj := (Obj.mk (Value.type "property") none (Data.fields (List.toArray [(Value.ref 189), Value.none, Value.none, Value.none, (Value.str (Str.ofString "determinant") 446), (Value.bool Bool.false)])) (List.toArray []))
def o1_191 (P : Params) : Obj := (Obj.mk (Value.type "tuple") none (Data.seq (List.toArray []) 0) (List.toArray []))
def o1_192 (P : Params) : Obj := (Obj.mk Value.none none (Data.fields (List.toArray [])) (List.toArray []))
def o1_193 (P : Params) : Obj := (Obj.mk (Value.type "tuple") none (Data.seq (List.toArray [(Value.str (Str.ofString "self") 450)]) 0) (List.toArray []))
def o1_194 (P : Params) : Obj := (Obj.mk (Value.type "tuple") none (Data.seq (List.toArray []) 0) (List.toArray []))
def o1_195 (P : Params) : Obj := ⟨Value.none, none, .func ⟨(Str.ofString "common"), (Str.ofString "Table.common"), L2.defArgs (L2.inClass (top 17) 3), .stmts (L2.defBody (L2.inClass (top 17) 3)), L2.defScope (L2.inClass (top 17) 3), 0, [], Value.none, Value.none, Value.none, Value.none, none, Value.none, Value.none, 0⟩, (List.toArray [])⟩
def o1_196 (P : Params) : Obj := (Obj.mk (Value.type "code") none (Data.fields (List.toArray [(Value.str (Str.ofString "common") 447), (Value.str (Str.ofString "Table.common") 448), (Value.str (Str.ofString "/claim/cut.py") 449), (Value.int 68 0), (Value.int 1 0), (Value.int 0 0), (Value.int 0 0), (Value.int 3 0), (Value.ref 191), (Value.bool Bool.true), (Value.int 181 0), (Value.ref 192), Value.none, (Value.ref 193), (Value.ref 194), (Value.ref 195), (Value.int 451 0), (Value.int 68 0), (Value.str (Str.ofString "/claim/cut.py") 452)])) (List.toArray []))
def o1_197 (P : Params) : Obj := ⟨(Value.type "function"), none, .func ⟨(Str.ofString "common"), (Str.ofString "Table.common"), L2.defArgs (L2.inClass (top 17) 3), .stmts (L2.defBody (L2.inClass (top 17) 3)), L2.defScope (L2.inClass (top 17) 3), 3, [], Value.none, Value.none, Value.none, (Value.str (Str.ofString "turnmill.tables") 336), none, (Value.ref 196), Value.none, 0⟩, (List.toArray [])⟩
def o1_198 (P : Params) : Obj := (Obj.mk (Value.type "property") none (Data.fields (List.toArray [(Value.ref 197), Value.none, Value.none, Value.none, (Value.str (Str.ofString "common") 454), (Value.bool Bool.false)])) (List.toArray []))
def o1_199 (P : Params) : Obj := (Obj.mk (Value.type "tuple") none (Data.seq (List.toArray []) 0) (List.toArray []))
def o1_200 (P : Params) : Obj := (Obj.mk Value.none none (Data.fields (List.toArray [])) (List.toArray []))
def o1_201 (P : Params) : Obj := (Obj.mk (Value.type "tuple") none (Data.seq (List.toArray [(Value.str (Str.ofString "self") 458)]) 0) (List.toArray []))
def o1_202 (P : Params) : Obj := (Obj.mk (Value.type "tuple") none (Data.seq (List.toArray []) 0) (List.toArray []))
def o1_203 (P : Params) : Obj := ⟨Value.none, none, .func ⟨(Str.ofString "is_mill"), (Str.ofString "Table.is_mill"), L2.defArgs (L2.inClass (top 17) 4), .stmts (L2.defBody (L2.inClass (top 17) 4)), L2.defScope (L2.inClass (top 17) 4), 0, [], Value.none, Value.none, Value.none, Value.none, none, Value.none, Value.none, 0⟩, (List.toArray [])⟩
def o1_204 (P : Params) : Obj := (Obj.mk (Value.type "code") none (Data.fields (List.toArray [(Value.str (Str.ofString "is_mill") 455), (Value.str (Str.ofString "Table.is_mill") 456), (Value.str (Str.ofString "/claim/cut.py") 457), (Value.int 72 0), (Value.int 1 0), (Value.int 0 0), (Value.int 0 0), (Value.int 3 0), (Value.ref 199), (Value.bool Bool.true), (Value.int 181 0), (Value.ref 200), Value.none, (Value.ref 201), (Value.ref 202), (Value.ref 203), (Value.int 459 0), (Value.int 72 0), (Value.str (Str.ofString "/claim/cut.py") 460)])) (List.toArray []))
def o1_205 (P : Params) : Obj := ⟨(Value.type "function"), none, .func ⟨(Str.ofString "is_mill"), (Str.ofString "Table.is_mill"), L2.defArgs (L2.inClass (top 17) 4), .stmts (L2.defBody (L2.inClass (top 17) 4)), L2.defScope (L2.inClass (top 17) 4), 3, [], Value.none, Value.none, Value.none, (Value.str (Str.ofString "turnmill.tables") 336), none, (Value.ref 204), Value.none, 0⟩, (List.toArray [])⟩
def o1_206 (P : Params) : Obj := (Obj.mk (Value.type "property") none (Data.fields (List.toArray [(Value.ref 205), Value.none, Value.none, Value.none, (Value.str (Str.ofString "is_mill") 462), (Value.bool Bool.false)])) (List.toArray []))
def o1_207 (P : Params) : Obj := (Obj.mk (Value.type "tuple") none (Data.seq (List.toArray []) 0) (List.toArray []))
def o1_208 (P : Params) : Obj := (Obj.mk Value.none none (Data.fields (List.toArray [])) (List.toArray []))
def o1_209 (P : Params) : Obj := (Obj.mk (Value.type "tuple") none (Data.seq (List.toArray [(Value.str (Str.ofString "self") 466)]) 0) (List.toArray []))
def o1_210 (P : Params) : Obj := (Obj.mk (Value.type "tuple") none (Data.seq (List.toArray []) 0) (List.toArray []))
def o1_211 (P : Params) : Obj := ⟨Value.none, none, .func ⟨(Str.ofString "is_balanced"), (Str.ofString "Table.is_balanced"), L2.defArgs (L2.inClass (top 17) 5), .stmts (L2.defBody (L2.inClass (top 17) 5)), L2.defScope (L2.inClass (top 17) 5), 0, [], Value.none, Value.none, Value.none, Value.none, none, Value.none, Value.none, 0⟩, (List.toArray [])⟩
def o1_212 (P : Params) : Obj := (Obj.mk (Value.type "code") none (Data.fields (List.toArray [(Value.str (Str.ofString "is_balanced") 463), (Value.str (Str.ofString "Table.is_balanced") 464), (Value.str (Str.ofString "/claim/cut.py") 465), (Value.int 76 0), (Value.int 1 0), (Value.int 0 0), (Value.int 0 0), (Value.int 3 0), (Value.ref 207), (Value.bool Bool.true), (Value.int 181 0), (Value.ref 208), Value.none, (Value.ref 209), (Value.ref 210), (Value.ref 211), (Value.int 467 0), (Value.int 76 0), (Value.str (Str.ofString "/claim/cut.py") 468)])) (List.toArray []))
def o1_213 (P : Params) : Obj := ⟨(Value.type "function"), none, .func ⟨(Str.ofString "is_balanced"), (Str.ofString "Table.is_balanced"), L2.defArgs (L2.inClass (top 17) 5), .stmts (L2.defBody (L2.inClass (top 17) 5)), L2.defScope (L2.inClass (top 17) 5), 3, [], Value.none, Value.none, Value.none, (Value.str (Str.ofString "turnmill.tables") 336), none, (Value.ref 212), Value.none, 0⟩, (List.toArray [])⟩
def o1_214 (P : Params) : Obj := (Obj.mk (Value.type "property") none (Data.fields (List.toArray [(Value.ref 213), Value.none, Value.none, Value.none, (Value.str (Str.ofString "is_balanced") 470), (Value.bool Bool.false)])) (List.toArray []))
def o1_215 (P : Params) : Obj := (Obj.mk (Value.type "tuple") none (Data.seq (List.toArray []) 0) (List.toArray []))
def o1_216 (P : Params) : Obj := (Obj.mk Value.none none (Data.fields (List.toArray [])) (List.toArray []))
def o1_217 (P : Params) : Obj := (Obj.mk (Value.type "tuple") none (Data.seq (List.toArray [(Value.str (Str.ofString "self") 474)]) 0) (List.toArray []))
def o1_218 (P : Params) : Obj := (Obj.mk (Value.type "tuple") none (Data.seq (List.toArray []) 0) (List.toArray []))
def o1_219 (P : Params) : Obj := ⟨Value.none, none, .func ⟨(Str.ofString "entries"), (Str.ofString "Table.entries"), L2.defArgs (L2.inClass (top 17) 6), .stmts (L2.defBody (L2.inClass (top 17) 6)), L2.defScope (L2.inClass (top 17) 6), 0, [], Value.none, Value.none, Value.none, Value.none, none, Value.none, Value.none, 0⟩, (List.toArray [])⟩
def o1_220 (P : Params) : Obj := (Obj.mk (Value.type "code") none (Data.fields (List.toArray [(Value.str (Str.ofString "entries") 471), (Value.str (Str.ofString "Table.entries") 472), (Value.str (Str.ofString "/claim/cut.py") 473), (Value.int 80 0), (Value.int 1 0), (Value.int 0 0), (Value.int 0 0), (Value.int 3 0), (Value.ref 215), (Value.bool Bool.true), (Value.int 181 0), (Value.ref 216), Value.none, (Value.ref 217), (Value.ref 218), (Value.ref 219), (Value.int 475 0), (Value.int 80 0), (Value.str (Str.ofString "/claim/cut.py") 476)])) (List.toArray []))
def o1_221 (P : Params) : Obj := ⟨(Value.type "function"), none, .func ⟨(Str.ofString "entries"), (Str.ofString "Table.entries"), L2.defArgs (L2.inClass (top 17) 6), .stmts (L2.defBody (L2.inClass (top 17) 6)), L2.defScope (L2.inClass (top 17) 6), 3, [], Value.none, Value.none, Value.none, (Value.str (Str.ofString "turnmill.tables") 336), none, (Value.ref 220), Value.none, 0⟩, (List.toArray [])⟩
def o1_222 (P : Params) : Obj := (Obj.mk (Value.type "tuple") none (Data.seq (List.toArray []) 0) (List.toArray []))
def o1_223 (P : Params) : Obj := (Obj.mk Value.none none (Data.fields (List.toArray [])) (List.toArray []))
def o1_224 (P : Params) : Obj := (Obj.mk (Value.type "tuple") none (Data.seq (List.toArray [(Value.str (Str.ofString "self") 481), (Value.str (Str.ofString "count") 482)]) 0) (List.toArray []))
def o1_225 (P : Params) : Obj := (Obj.mk (Value.type "tuple") none (Data.seq (List.toArray []) 0) (List.toArray []))
def o1_226 (P : Params) : Obj := ⟨Value.none, none, .func ⟨(Str.ofString "power"), (Str.ofString "Table.power"), L2.defArgs (L2.inClass (top 17) 7), .stmts (L2.defBody (L2.inClass (top 17) 7)), L2.defScope (L2.inClass (top 17) 7), 0, [], Value.none, Value.none, Value.none, Value.none, none, Value.none, Value.none, 0⟩, (List.toArray [])⟩
def o1_227 (P : Params) : Obj := (Obj.mk (Value.type "code") none (Data.fields (List.toArray [(Value.str (Str.ofString "power") 478), (Value.str (Str.ofString "Table.power") 479), (Value.str (Str.ofString "/claim/cut.py") 480), (Value.int 83 0), (Value.int 2 0), (Value.int 0 0), (Value.int 0 0), (Value.int 3 0), (Value.ref 222), (Value.bool Bool.true), (Value.int 181 0), (Value.ref 223), Value.none, (Value.ref 224), (Value.ref 225), (Value.ref 226), (Value.int 483 0), (Value.int 83 0), (Value.str (Str.ofString "/claim/cut.py") 484)])) (List.toArray []))
def o1_228 (P : Params) : Obj := ⟨(Value.type "function"), none, .func ⟨(Str.ofString "power"), (Str.ofString "Table.power"), L2.defArgs (L2.inClass (top 17) 7), .stmts (L2.defBody (L2.inClass (top 17) 7)), L2.defScope (L2.inClass (top 17) 7), 3, [], Value.none, Value.none, Value.none, (Value.str (Str.ofString "turnmill.tables") 336), none, (Value.ref 227), Value.none, 0⟩, (List.toArray [])⟩
def o1_229 (P : Params) : Obj := (Obj.mk (Value.type "tuple") none (Data.seq (List.toArray []) 0) (List.toArray []))
def o1_230 (P : Params) : Obj := (Obj.mk Value.none none (Data.fields (List.toArray [])) (List.toArray []))
def o1_231 (P : Params) : Obj := (Obj.mk (Value.type "tuple") none (Data.seq (List.toArray [(Value.str (Str.ofString "self") 489), (Value.str (Str.ofString "a") 490), (Value.str (Str.ofString "b") 491), (Value.str (Str.ofString "c") 492), (Value.str (Str.ofString "d") 493)]) 0) (List.toArray []))
def o1_232 (P : Params) : Obj := (Obj.mk (Value.type "tuple") none (Data.seq (List.toArray []) 0) (List.toArray []))
def o1_233 (P : Params) : Obj := ⟨Value.none, none, .func ⟨(Str.ofString "back"), (Str.ofString "Table.back"), L2.defArgs (L2.inClass (top 17) 8), .stmts (L2.defBody (L2.inClass (top 17) 8)), L2.defScope (L2.inClass (top 17) 8), 0, [], Value.none, Value.none, Value.none, Value.none, none, Value.none, Value.none, 0⟩, (List.toArray [])⟩
def o1_234 (P : Params) : Obj := (Obj.mk (Value.type "code") none (Data.fields (List.toArray [(Value.str (Str.ofString "back") 486), (Value.str (Str.ofString "Table.back") 487), (Value.str (Str.ofString "/claim/cut.py") 488), (Value.int 86 0), (Value.int 1 0), (Value.int 0 0), (Value.int 0 0), (Value.int 3 0), (Value.ref 229), (Value.bool Bool.true), (Value.int 181 0), (Value.ref 230), Value.none, (Value.ref 231), (Value.ref 232), (Value.ref 233), (Value.int 494 0), (Value.int 86 0), (Value.str (Str.ofString "/claim/cut.py") 495)])) (List.toArray []))
def o1_235 (P : Params) : Obj := ⟨(Value.type "function"), none, .func ⟨(Str.ofString "back"), (Str.ofString "Table.back"), L2.defArgs (L2.inClass (top 17) 8), .stmts (L2.defBody (L2.inClass (top 17) 8)), L2.defScope (L2.inClass (top 17) 8), 3, [], Value.none, Value.none, Value.none, (Value.str (Str.ofString "turnmill.tables") 336), none, (Value.ref 234), Value.none, 0⟩, (List.toArray [])⟩
def o1_236 (P : Params) : Obj := (Obj.mk (Value.type "tuple") none (Data.seq (List.toArray []) 0) (List.toArray []))
def o1_237 (P : Params) : Obj := (Obj.mk Value.none none (Data.fields (List.toArray [])) (List.toArray []))
def o1_238 (P : Params) : Obj := (Obj.mk (Value.type "tuple") none (Data.seq (List.toArray [(Value.str (Str.ofString "self") 500)]) 0) (List.toArray []))
def o1_239 (P : Params) : Obj := (Obj.mk (Value.type "tuple") none (Data.seq (List.toArray []) 0) (List.toArray []))
def o1_240 (P : Params) : Obj := ⟨Value.none, none, .func ⟨(Str.ofString "plain"), (Str.ofString "Table.plain"), L2.defArgs (L2.inClass (top 17) 9), .stmts (L2.defBody (L2.inClass (top 17) 9)), L2.defScope (L2.inClass (top 17) 9), 0, [], Value.none, Value.none, Value.none, Value.none, none, Value.none, Value.none, 0⟩, (List.toArray [])⟩
def o1_241 (P : Params) : Obj := (Obj.mk (Value.type "code") none (Data.fields (List.toArray [(Value.str (Str.ofString "plain") 497), (Value.str (Str.ofString "Table.plain") 498), (Value.str (Str.ofString "/claim/cut.py") 499), (Value.int 90 0), (Value.int 1 0), (Value.int 0 0), (Value.int 0 0), (Value.int 3 0), (Value.ref 236), (Value.bool Bool.true), (Value.int 181 0), (Value.ref 237), Value.none, (Value.ref 238), (Value.ref 239), (Value.ref 240), (Value.int 501 0), (Value.int 90 0), (Value.str (Str.ofString "/claim/cut.py") 502)])) (List.toArray []))
def o1_242 (P : Params) : Obj := ⟨(Value.type "function"), none, .func ⟨(Str.ofString "plain"), (Str.ofString "Table.plain"), L2.defArgs (L2.inClass (top 17) 9), .stmts (L2.defBody (L2.inClass (top 17) 9)), L2.defScope (L2.inClass (top 17) 9), 3, [], Value.none, Value.none, Value.none, (Value.str (Str.ofString "turnmill.tables") 336), none, (Value.ref 241), Value.none, 0⟩, (List.toArray [])⟩
def o1_243 (P : Params) : Obj := (Obj.mk (Value.type "tuple") none (Data.seq (List.toArray []) 0) (List.toArray []))
def o1_244 (P : Params) : Obj := (Obj.mk Value.none none (Data.fields (List.toArray [])) (List.toArray []))
def o1_245 (P : Params) : Obj := (Obj.mk (Value.type "tuple") none (Data.seq (List.toArray [(Value.str (Str.ofString "self") 507), (Value.str (Str.ofString "other") 508)]) 0) (List.toArray []))
def o1_246 (P : Params) : Obj := (Obj.mk (Value.type "tuple") none (Data.seq (List.toArray []) 0) (List.toArray []))
def o1_247 (P : Params) : Obj := ⟨Value.none, none, .func ⟨(Str.ofString "alike"), (Str.ofString "Table.alike"), L2.defArgs (L2.inClass (top 17) 10), .stmts (L2.defBody (L2.inClass (top 17) 10)), L2.defScope (L2.inClass (top 17) 10), 0, [], Value.none, Value.none, Value.none, Value.none, none, Value.none, Value.none, 0⟩, (List.toArray [])⟩
def o1_248 (P : Params) : Obj := (Obj.mk (Value.type "code") none (Data.fields (List.toArray [(Value.str (Str.ofString "alike") 504), (Value.str (Str.ofString "Table.alike") 505), (Value.str (Str.ofString "/claim/cut.py") 506), (Value.int 93 0), (Value.int 2 0), (Value.int 0 0), (Value.int 0 0), (Value.int 3 0), (Value.ref 243), (Value.bool Bool.true), (Value.int 181 0), (Value.ref 244), Value.none, (Value.ref 245), (Value.ref 246), (Value.ref 247), (Value.int 509 0), (Value.int 93 0), (Value.str (Str.ofString "/claim/cut.py") 510)])) (List.toArray []))
def o1_249 (P : Params) : Obj := ⟨(Value.type "function"), none, .func ⟨(Str.ofString "alike"), (Str.ofString "Table.alike"), L2.defArgs (L2.inClass (top 17) 10), .stmts (L2.defBody (L2.inClass (top 17) 10)), L2.defScope (L2.inClass (top 17) 10), 3, [], Value.none, Value.none, Value.none, (Value.str (Str.ofString "turnmill.tables") 336), none, (Value.ref 248), Value.none, 0⟩, (List.toArray [])⟩
def o1_250 (P : Params) : Obj := (Obj.mk (Value.type "tuple") none (Data.seq (List.toArray []) 0) (List.toArray []))
def o1_251 (P : Params) : Obj := (Obj.mk Value.none none (Data.fields (List.toArray [])) (List.toArray []))
def o1_252 (P : Params) : Obj := (Obj.mk (Value.type "tuple") none (Data.seq (List.toArray [(Value.str (Str.ofString "self") 515)]) 0) (List.toArray []))
def o1_253 (P : Params) : Obj := (Obj.mk (Value.type "tuple") none (Data.seq (List.toArray []) 0) (List.toArray []))
def o1_254 (P : Params) : Obj := ⟨Value.none, none, .func ⟨(Str.ofString "taken"), (Str.ofString "Table.taken"), L2.defArgs (L2.inClass (top 17) 11), .stmts (L2.defBody (L2.inClass (top 17) 11)), L2.defScope (L2.inClass (top 17) 11), 0, [], Value.none, Value.none, Value.none, Value.none, none, Value.none, Value.none, 0⟩, (List.toArray [])⟩
def o1_255 (P : Params) : Obj := (Obj.mk (Value.type "code") none (Data.fields (List.toArray [(Value.str (Str.ofString "taken") 512), (Value.str (Str.ofString "Table.taken") 513), (Value.str (Str.ofString "/claim/cut.py") 514), (Value.int 96 0), (Value.int 1 0), (Value.int 0 0), (Value.int 0 0), (Value.int 3 0), (Value.ref 250), (Value.bool Bool.true), (Value.int 181 0), (Value.ref 251), Value.none, (Value.ref 252), (Value.ref 253), (Value.ref 254), (Value.int 516 0), (Value.int 96 0), (Value.str (Str.ofString "/claim/cut.py") 517)])) (List.toArray []))
def o1_256 (P : Params) : Obj := ⟨(Value.type "function"), none, .func ⟨(Str.ofString "taken"), (Str.ofString "Table.taken"), L2.defArgs (L2.inClass (top 17) 11), .stmts (L2.defBody (L2.inClass (top 17) 11)), L2.defScope (L2.inClass (top 17) 11), 3, [], Value.none, Value.none, Value.none, (Value.str (Str.ofString "turnmill.tables") 336), none, (Value.ref 255), Value.none, 0⟩, (List.toArray [])⟩
def o1_257 (P : Params) : Obj := (Obj.mk (Value.type "tuple") none (Data.seq (List.toArray []) 0) (List.toArray []))
def o1_258 (P : Params) : Obj := (Obj.mk Value.none none (Data.fields (List.toArray [])) (List.toArray []))
def o1_259 (P : Params) : Obj := (Obj.mk (Value.type "tuple") none (Data.seq (List.toArray [(Value.str (Str.ofString "self") 522), (Value.str (Str.ofString "other") 523)]) 0) (List.toArray []))
def o1_260 (P : Params) : Obj := (Obj.mk (Value.type "tuple") none (Data.seq (List.toArray []) 0) (List.toArray []))
def o1_261 (P : Params) : Obj := ⟨Value.none, none, .func ⟨(Str.ofString "__mul__"), (Str.ofString "Table.__mul__"), L2.defArgs (L2.inClass (top 17) 12), .stmts (L2.defBody (L2.inClass (top 17) 12)), L2.defScope (L2.inClass (top 17) 12), 0, [], Value.none, Value.none, Value.none, Value.none, none, Value.none, Value.none, 0⟩, (List.toArray [])⟩
def o1_262 (P : Params) : Obj := (Obj.mk (Value.type "code") none (Data.fields (List.toArray [(Value.str (Str.ofString "__mul__") 519), (Value.str (Str.ofString "Table.__mul__") 520), (Value.str (Str.ofString "/claim/cut.py") 521), (Value.int 99 0), (Value.int 2 0), (Value.int 0 0), (Value.int 0 0), (Value.int 3 0), (Value.ref 257), (Value.bool Bool.true), (Value.int 181 0), (Value.ref 258), Value.none, (Value.ref 259), (Value.ref 260), (Value.ref 261), (Value.int 524 0), (Value.int 99 0), (Value.str (Str.ofString "/claim/cut.py") 525)])) (List.toArray []))
def o1_263 (P : Params) : Obj := ⟨(Value.type "function"), none, .func ⟨(Str.ofString "__mul__"), (Str.ofString "Table.__mul__"), L2.defArgs (L2.inClass (top 17) 12), .stmts (L2.defBody (L2.inClass (top 17) 12)), L2.defScope (L2.inClass (top 17) 12), 3, [], Value.none, Value.none, Value.none, (Value.str (Str.ofString "turnmill.tables") 336), none, (Value.ref 262), Value.none, 0⟩, (List.toArray [])⟩
def o1_264 (P : Params) : Obj := (Obj.mk (Value.type "tuple") none (Data.seq (List.toArray []) 0) (List.toArray []))
def o1_265 (P : Params) : Obj := (Obj.mk Value.none none (Data.fields (List.toArray [])) (List.toArray []))
def o1_266 (P : Params) : Obj := (Obj.mk (Value.type "tuple") none (Data.seq (List.toArray [(Value.str (Str.ofString "self") 530), (Value.str (Str.ofString "other") 531)]) 0) (List.toArray []))
def o1_267 (P : Params) : Obj := (Obj.mk (Value.type "tuple") none (Data.seq (List.toArray []) 0) (List.toArray []))
def o1_268 (P : Params) : Obj := ⟨Value.none, none, .func ⟨(Str.ofString "__eq__"), (Str.ofString "Table.__eq__"), L2.defArgs (L2.inClass (top 17) 13), .stmts (L2.defBody (L2.inClass (top 17) 13)), L2.defScope (L2.inClass (top 17) 13), 0, [], Value.none, Value.none, Value.none, Value.none, none, Value.none, Value.none, 0⟩, (List.toArray [])⟩
def o1_269 (P : Params) : Obj := (Obj.mk (Value.type "code") none (Data.fields (List.toArray [(Value.str (Str.ofString "__eq__") 527), (Value.str (Str.ofString "Table.__eq__") 528), (Value.str (Str.ofString "/claim/cut.py") 529), (Value.int 102 0), (Value.int 2 0), (Value.int 0 0), (Value.int 0 0), (Value.int 3 0), (Value.ref 264), (Value.bool Bool.true), (Value.int 181 0), (Value.ref 265), Value.none, (Value.ref 266), (Value.ref 267), (Value.ref 268), (Value.int 532 0), (Value.int 102 0), (Value.str (Str.ofString "/claim/cut.py") 533)])) (List.toArray []))
def o1_270 (P : Params) : Obj := ⟨(Value.type "function"), none, .func ⟨(Str.ofString "__eq__"), (Str.ofString "Table.__eq__"), L2.defArgs (L2.inClass (top 17) 13), .stmts (L2.defBody (L2.inClass (top 17) 13)), L2.defScope (L2.inClass (top 17) 13), 3, [], Value.none, Value.none, Value.none, (Value.str (Str.ofString "turnmill.tables") 336), none, (Value.ref 269), Value.none, 0⟩, (List.toArray [])⟩
def o1_271 (P : Params) : Obj := (Obj.mk (Value.type "tuple") none (Data.seq (List.toArray []) 0) (List.toArray []))
def o1_272 (P : Params) : Obj := (Obj.mk Value.none none (Data.fields (List.toArray [])) (List.toArray []))
def o1_273 (P : Params) : Obj := (Obj.mk (Value.type "tuple") none (Data.seq (List.toArray [(Value.str (Str.ofString "self") 538), (Value.str (Str.ofString "a") 539), (Value.str (Str.ofString "b") 540), (Value.str (Str.ofString "c") 541), (Value.str (Str.ofString "d") 542)]) 0) (List.toArray []))
def o1_274 (P : Params) : Obj := (Obj.mk (Value.type "tuple") none (Data.seq (List.toArray []) 0) (List.toArray []))
def o1_275 (P : Params) : Obj := ⟨Value.none, none, .func ⟨(Str.ofString "__repr__"), (Str.ofString "Table.__repr__"), L2.defArgs (L2.inClass (top 17) 14), .stmts (L2.defBody (L2.inClass (top 17) 14)), L2.defScope (L2.inClass (top 17) 14), 0, [], Value.none, Value.none, Value.none, Value.none, none, Value.none, Value.none, 0⟩, (List.toArray [])⟩
def o1_276 (P : Params) : Obj := (Obj.mk (Value.type "code") none (Data.fields (List.toArray [(Value.str (Str.ofString "__repr__") 535), (Value.str (Str.ofString "Table.__repr__") 536), (Value.str (Str.ofString "/claim/cut.py") 537), (Value.int 105 0), (Value.int 1 0), (Value.int 0 0), (Value.int 0 0), (Value.int 3 0), (Value.ref 271), (Value.bool Bool.true), (Value.int 181 0), (Value.ref 272), Value.none, (Value.ref 273), (Value.ref 274), (Value.ref 275), (Value.int 543 0), (Value.int 105 0), (Value.str (Str.ofString "/claim/cut.py") 544)])) (List.toArray []))
def o1_277 (P : Params) : Obj := ⟨(Value.type "function"), none, .func ⟨(Str.ofString "__repr__"), (Str.ofString "Table.__repr__"), L2.defArgs (L2.inClass (top 17) 14), .stmts (L2.defBody (L2.inClass (top 17) 14)), L2.defScope (L2.inClass (top 17) 14), 3, [], Value.none, Value.none, Value.none, (Value.str (Str.ofString "turnmill.tables") 336), none, (Value.ref 276), Value.none, 0⟩, (List.toArray [])⟩
def o1_278 (P : Params) : Obj := (Obj.mk (Value.type "tuple") none (Data.seq (List.toArray [(Value.str (Str.ofString "whole") 546)]) 0) (List.toArray []))
def o1_279 (P : Params) : Obj := (Obj.mk (Value.type "dict") none (Data.dict (List.toArray [(DictEntry.mk (PyData.keyHash P (Str.ofString "__module__")) (Value.str (Str.ofString "__module__") 409) (Value.str (Str.ofString "turnmill.tables") 336)), (DictEntry.mk (PyData.keyHash P (Str.ofString "__firstlineno__")) (Value.str (Str.ofString "__firstlineno__") 413) (Value.int 53 412)), (DictEntry.mk (PyData.keyHash P (Str.ofString "__init__")) (Value.str (Str.ofString "__init__") 419) (Value.ref 172)), (DictEntry.mk (PyData.keyHash P (Str.ofString "of_word")) (Value.str (Str.ofString "of_word") 438) (Value.ref 181)), (DictEntry.mk (PyData.keyHash P (Str.ofString "determinant")) (Value.str (Str.ofString "determinant") 446) (Value.ref 190)), (DictEntry.mk (PyData.keyHash P (Str.ofString "common")) (Value.str (Str.ofString "common") 454) (Value.ref 198)), (DictEntry.mk (PyData.keyHash P (Str.ofString "is_mill")) (Value.str (Str.ofString "is_mill") 462) (Value.ref 206)), (DictEntry.mk (PyData.keyHash P (Str.ofString "is_balanced")) (Value.str (Str.ofString "is_balanced") 470) (Value.ref 214)), (DictEntry.mk (PyData.keyHash P (Str.ofString "entries")) (Value.str (Str.ofString "entries") 477) (Value.ref 221)), (DictEntry.mk (PyData.keyHash P (Str.ofString "power")) (Value.str (Str.ofString "power") 485) (Value.ref 228)), (DictEntry.mk (PyData.keyHash P (Str.ofString "back")) (Value.str (Str.ofString "back") 496) (Value.ref 235)), (DictEntry.mk (PyData.keyHash P (Str.ofString "plain")) (Value.str (Str.ofString "plain") 503) (Value.ref 242)), (DictEntry.mk (PyData.keyHash P (Str.ofString "alike")) (Value.str (Str.ofString "alike") 511) (Value.ref 249)), (DictEntry.mk (PyData.keyHash P (Str.ofString "taken")) (Value.str (Str.ofString "taken") 518) (Value.ref 256)), (DictEntry.mk (PyData.keyHash P (Str.ofString "__mul__")) (Value.str (Str.ofString "__mul__") 526) (Value.ref 263)), (DictEntry.mk (PyData.keyHash P (Str.ofString "__eq__")) (Value.str (Str.ofString "__eq__") 534) (Value.ref 270)), (DictEntry.mk (PyData.keyHash P (Str.ofString "__repr__")) (Value.str (Str.ofString "__repr__") 545) (Value.ref 277)), (DictEntry.mk (PyData.keyHash P (Str.ofString "__static_attributes__")) (Value.str (Str.ofString "__static_attributes__") 547) (Value.ref 278)), (DictEntry.mk (PyData.keyHash P (Str.ofString "__dict__")) (Value.str (Str.ofString "__dict__") 549) (Value.ref 281)), (DictEntry.mk (PyData.keyHash P (Str.ofString "__weakref__")) (Value.str (Str.ofString "__weakref__") 551) (Value.ref 282)), (DictEntry.mk (PyData.keyHash P (Str.ofString "__doc__")) (Value.str (Str.ofString "__doc__") 552) Value.none), (DictEntry.mk (PyData.keyHash P (Str.ofString "__hash__")) (Value.str (Str.ofString "__hash__") 553) Value.none)]) 5) (List.toArray []))
def o1_280 (P : Params) : Obj := (Obj.mk (Value.type "type") none (Data.cls (ClassData.mk (Str.ofString "Table") [(Value.type "object")] [(Value.ref 280), (Value.type "object")] 279 (Str.ofString "Table") Bool.true [] [] Bool.false none Bool.false)) (List.toArray [none, none, (some (Value.str (Str.ofString "Table") 402)), (some (Value.str (Str.ofString "Table") 410)), (some (Value.builtin "object.__new__")), (some (Value.bool Bool.true))]))
def o1_281 (P : Params) : Obj := (Obj.mk (Value.type "getset_descriptor") none (Data.fields (List.toArray [(Value.str (Str.ofString "__dict__") 548), (Value.ref 280), (Value.builtin "function.__dict__"), (Value.builtin "function.__dict__#set")])) (List.toArray []))
def o1_282 (P : Params) : Obj := (Obj.mk (Value.type "getset_descriptor") none (Data.fields (List.toArray [(Value.str (Str.ofString "__weakref__") 550), (Value.ref 280), (Value.builtin "ExceptionGroup.__weakref__"), Value.none])) (List.toArray []))
def o1_283 (P : Params) : Obj := (Obj.mk (Value.type "super") none (Data.fields (List.toArray [(Value.ref 280), (Value.ref 280), (Value.ref 280)])) (List.toArray []))
def o1_284 (P : Params) : Obj := (Obj.mk (Value.type "builtin_function_or_method") none (Data.fields (List.toArray [(Value.builtin "object.__init_subclass__"), (Value.ref 280)])) (List.toArray []))
def T1 (P : Params) : BT := (.node (boot_o_0 P) (.node (boot_o_1 P) (.node (o1_3 P) (.node (boot_o_7 P) (.node (o1_15 P) (.node (o1_31 P) (.node (o1_63 P) (.node (o1_127 P) (.node (o1_255 P) .nil .nil) .nil) (.node (o1_191 P) .nil .nil)) (.node (o1_95 P) (.node (o1_159 P) .nil .nil) (.node (o1_223 P) .nil .nil))) (.node (o1_47 P) (.node (o1_79 P) (.node (o1_143 P) (.node (o1_271 P) .nil .nil) .nil) (.node (o1_207 P) .nil .nil)) (.node (o1_111 P) (.node (o1_175 P) .nil .nil) (.node (o1_239 P) .nil .nil)))) (.node (o1_23 P) (.node (o1_39 P) (.node (o1_71 P) (.node (o1_135 P) (.node (o1_263 P) .nil .nil) .nil) (.node (o1_199 P) .nil .nil)) (.node (o1_103 P) (.node (o1_167 P) .nil .nil) (.node (o1_231 P) .nil .nil))) (.node (o1_55 P) (.node (o1_87 P) (.node (o1_151 P) (.node (o1_279 P) .nil .nil) .nil) (.node (o1_215 P) .nil .nil)) (.node (o1_119 P) (.node (o1_183 P) .nil .nil) (.node (o1_247 P) .nil .nil))))) (.node (o1_11 P) (.node (o1_19 P) (.node (o1_35 P) (.node (o1_67 P) (.node (o1_131 P) (.node (o1_259 P) .nil .nil) .nil) (.node (o1_195 P) .nil .nil)) (.node (o1_99 P) (.node (o1_163 P) .nil .nil) (.node (o1_227 P) .nil .nil))) (.node (o1_51 P) (.node (o1_83 P) (.node (o1_147 P) (.node (o1_275 P) .nil .nil) .nil) (.node (o1_211 P) .nil .nil)) (.node (o1_115 P) (.node (o1_179 P) .nil .nil) (.node (o1_243 P) .nil .nil)))) (.node (o1_27 P) (.node (o1_43 P) (.node (o1_75 P) (.node (o1_139 P) (.node (o1_267 P) .nil .nil) .nil) (.node (o1_203 P) .nil .nil)) (.node (o1_107 P) (.node (o1_171 P) .nil .nil) (.node (o1_235 P) .nil .nil))) (.node (o1_59 P) (.node (o1_91 P) (.node (o1_155 P) (.node (o1_283 P) .nil .nil) .nil) (.node (o1_219 P) .nil .nil)) (.node (o1_123 P) (.node (o1_187 P) .nil .nil) (.node (o1_251 P) .nil .nil)))))) (.node (boot_o_5 P) (.node (boot_o_9 P) (.node (o1_17 P) (.node (o1_33 P) (.node (o1_65 P) (.node (o1_129 P) (.node (o1_257 P) .nil .nil) .nil) (.node (o1_193 P) .nil .nil)) (.node (o1_97 P) (.node (o1_161 P) .nil .nil) (.node (o1_225 P) .nil .nil))) (.node (o1_49 P) (.node (o1_81 P) (.node (o1_145 P) (.node (o1_273 P) .nil .nil) .nil) (.node (o1_209 P) .nil .nil)) (.node (o1_113 P) (.node (o1_177 P) .nil .nil) (.node (o1_241 P) .nil .nil)))) (.node (o1_25 P) (.node (o1_41 P) (.node (o1_73 P) (.node (o1_137 P) (.node (o1_265 P) .nil .nil) .nil) (.node (o1_201 P) .nil .nil)) (.node (o1_105 P) (.node (o1_169 P) .nil .nil) (.node (o1_233 P) .nil .nil))) (.node (o1_57 P) (.node (o1_89 P) (.node (o1_153 P) (.node (o1_281 P) .nil .nil) .nil) (.node (o1_217 P) .nil .nil)) (.node (o1_121 P) (.node (o1_185 P) .nil .nil) (.node (o1_249 P) .nil .nil))))) (.node (o1_13 P) (.node (o1_21 P) (.node (o1_37 P) (.node (o1_69 P) (.node (o1_133 P) (.node (o1_261 P) .nil .nil) .nil) (.node (o1_197 P) .nil .nil)) (.node (o1_101 P) (.node (o1_165 P) .nil .nil) (.node (o1_229 P) .nil .nil))) (.node (o1_53 P) (.node (o1_85 P) (.node (o1_149 P) (.node (o1_277 P) .nil .nil) .nil) (.node (o1_213 P) .nil .nil)) (.node (o1_117 P) (.node (o1_181 P) .nil .nil) (.node (o1_245 P) .nil .nil)))) (.node (o1_29 P) (.node (o1_45 P) (.node (o1_77 P) (.node (o1_141 P) (.node (o1_269 P) .nil .nil) .nil) (.node (o1_205 P) .nil .nil)) (.node (o1_109 P) (.node (o1_173 P) .nil .nil) (.node (o1_237 P) .nil .nil))) (.node (o1_61 P) (.node (o1_93 P) (.node (o1_157 P) .nil .nil) (.node (o1_221 P) .nil .nil)) (.node (o1_125 P) (.node (o1_189 P) .nil .nil) (.node (o1_253 P) .nil .nil))))))) (.node (o1_2 P) (.node (boot_o_4 P) (.node (boot_o_8 P) (.node (o1_16 P) (.node (o1_32 P) (.node (o1_64 P) (.node (o1_128 P) (.node (o1_256 P) .nil .nil) .nil) (.node (o1_192 P) .nil .nil)) (.node (o1_96 P) (.node (o1_160 P) .nil .nil) (.node (o1_224 P) .nil .nil))) (.node (o1_48 P) (.node (o1_80 P) (.node (o1_144 P) (.node (o1_272 P) .nil .nil) .nil) (.node (o1_208 P) .nil .nil)) (.node (o1_112 P) (.node (o1_176 P) .nil .nil) (.node (o1_240 P) .nil .nil)))) (.node (o1_24 P) (.node (o1_40 P) (.node (o1_72 P) (.node (o1_136 P) (.node (o1_264 P) .nil .nil) .nil) (.node (o1_200 P) .nil .nil)) (.node (o1_104 P) (.node (o1_168 P) .nil .nil) (.node (o1_232 P) .nil .nil))) (.node (o1_56 P) (.node (o1_88 P) (.node (o1_152 P) (.node (o1_280 P) .nil .nil) .nil) (.node (o1_216 P) .nil .nil)) (.node (o1_120 P) (.node (o1_184 P) .nil .nil) (.node (o1_248 P) .nil .nil))))) (.node (o1_12 P) (.node (o1_20 P) (.node (o1_36 P) (.node (o1_68 P) (.node (o1_132 P) (.node (o1_260 P) .nil .nil) .nil) (.node (o1_196 P) .nil .nil)) (.node (o1_100 P) (.node (o1_164 P) .nil .nil) (.node (o1_228 P) .nil .nil))) (.node (o1_52 P) (.node (o1_84 P) (.node (o1_148 P) (.node (o1_276 P) .nil .nil) .nil) (.node (o1_212 P) .nil .nil)) (.node (o1_116 P) (.node (o1_180 P) .nil .nil) (.node (o1_244 P) .nil .nil)))) (.node (o1_28 P) (.node (o1_44 P) (.node (o1_76 P) (.node (o1_140 P) (.node (o1_268 P) .nil .nil) .nil) (.node (o1_204 P) .nil .nil)) (.node (o1_108 P) (.node (o1_172 P) .nil .nil) (.node (o1_236 P) .nil .nil))) (.node (o1_60 P) (.node (o1_92 P) (.node (o1_156 P) (.node (o1_284 P) .nil .nil) .nil) (.node (o1_220 P) .nil .nil)) (.node (o1_124 P) (.node (o1_188 P) .nil .nil) (.node (o1_252 P) .nil .nil)))))) (.node (boot_o_6 P) (.node (boot_o_10 P) (.node (o1_18 P) (.node (o1_34 P) (.node (o1_66 P) (.node (o1_130 P) (.node (o1_258 P) .nil .nil) .nil) (.node (o1_194 P) .nil .nil)) (.node (o1_98 P) (.node (o1_162 P) .nil .nil) (.node (o1_226 P) .nil .nil))) (.node (o1_50 P) (.node (o1_82 P) (.node (o1_146 P) (.node (o1_274 P) .nil .nil) .nil) (.node (o1_210 P) .nil .nil)) (.node (o1_114 P) (.node (o1_178 P) .nil .nil) (.node (o1_242 P) .nil .nil)))) (.node (o1_26 P) (.node (o1_42 P) (.node (o1_74 P) (.node (o1_138 P) (.node (o1_266 P) .nil .nil) .nil) (.node (o1_202 P) .nil .nil)) (.node (o1_106 P) (.node (o1_170 P) .nil .nil) (.node (o1_234 P) .nil .nil))) (.node (o1_58 P) (.node (o1_90 P) (.node (o1_154 P) (.node (o1_282 P) .nil .nil) .nil) (.node (o1_218 P) .nil .nil)) (.node (o1_122 P) (.node (o1_186 P) .nil .nil) (.node (o1_250 P) .nil .nil))))) (.node (o1_14 P) (.node (o1_22 P) (.node (o1_38 P) (.node (o1_70 P) (.node (o1_134 P) (.node (o1_262 P) .nil .nil) .nil) (.node (o1_198 P) .nil .nil)) (.node (o1_102 P) (.node (o1_166 P) .nil .nil) (.node (o1_230 P) .nil .nil))) (.node (o1_54 P) (.node (o1_86 P) (.node (o1_150 P) (.node (o1_278 P) .nil .nil) .nil) (.node (o1_214 P) .nil .nil)) (.node (o1_118 P) (.node (o1_182 P) .nil .nil) (.node (o1_246 P) .nil .nil)))) (.node (o1_30 P) (.node (o1_46 P) (.node (o1_78 P) (.node (o1_142 P) (.node (o1_270 P) .nil .nil) .nil) (.node (o1_206 P) .nil .nil)) (.node (o1_110 P) (.node (o1_174 P) .nil .nil) (.node (o1_238 P) .nil .nil))) (.node (o1_62 P) (.node (o1_94 P) (.node (o1_158 P) .nil .nil) (.node (o1_222 P) .nil .nil)) (.node (o1_126 P) (.node (o1_190 P) .nil .nil) (.node (o1_254 P) .nil .nil))))))))
def S1 (w : World) (os : OsState) : SharedT := ⟨T1 w.params, 285, (Life.mk [] [] [] 0 [] [] Bool.false (List.toArray []) [] 0 Bool.false Bool.false Bool.false 0 [2000, 10, 10] Bool.false 0 Bool.true [] [] 0 Bool.false), #[], (Drawn.mk 0 0 0 0), 556, os⟩
def o2_3 (P : Params) : Obj := (Obj.mk (Value.type "dict") none (Data.dict (List.toArray [(DictEntry.mk (PyData.keyHash P (Str.ofString "__name__")) (Value.str (Str.ofString "__name__") 165) (Value.str (Str.ofString "law_turnmill_k57_whole_tables_of_programs") 619)), (DictEntry.mk (PyData.keyHash P (Str.ofString "__doc__")) (Value.str (Str.ofString "__doc__") 166) Value.none), (DictEntry.mk (PyData.keyHash P (Str.ofString "__package__")) (Value.str (Str.ofString "__package__") 167) Value.none), (DictEntry.mk (PyData.keyHash P (Str.ofString "__loader__")) (Value.str (Str.ofString "__loader__") 168) (Value.builtin "__main__.__loader__#opaque")), (DictEntry.mk (PyData.keyHash P (Str.ofString "__spec__")) (Value.str (Str.ofString "__spec__") 169) Value.none), (DictEntry.mk (PyData.keyHash P (Str.ofString "__annotations__")) (Value.str (Str.ofString "__annotations__") 170) (Value.ref 6)), (DictEntry.mk (PyData.keyHash P (Str.ofString "__builtins__")) (Value.str (Str.ofString "__builtins__") 171) (Value.ref 4)), (DictEntry.mk (PyData.keyHash P (Str.ofString "__file__")) (Value.str (Str.ofString "__file__") 173) (Value.str (Str.ofString "/claim/cut.py") 172)), (DictEntry.mk (PyData.keyHash P (Str.ofString "__cached__")) (Value.str (Str.ofString "__cached__") 174) Value.none), (DictEntry.mk (PyData.keyHash P (Str.ofString "_wall")) (Value.str (Str.ofString "_wall") 193) (Value.ref 21)), (DictEntry.mk (PyData.keyHash P (Str.ofString "MillError")) (Value.str (Str.ofString "MillError") 213) (Value.ref 31)), (DictEntry.mk (PyData.keyHash P (Str.ofString "Missing")) (Value.str (Str.ofString "Missing") 231) (Value.ref 44)), (DictEntry.mk (PyData.keyHash P (Str.ofString "InvalidTable")) (Value.str (Str.ofString "InvalidTable") 255) (Value.ref 64)), (DictEntry.mk (PyData.keyHash P (Str.ofString "TooGreat")) (Value.str (Str.ofString "TooGreat") 281) (Value.ref 83)), (DictEntry.mk (PyData.keyHash P (Str.ofString "UnknownName")) (Value.str (Str.ofString "UnknownName") 307) (Value.ref 102)), (DictEntry.mk (PyData.keyHash P (Str.ofString "NothingLeft")) (Value.str (Str.ofString "NothingLeft") 335) (Value.ref 121)), (DictEntry.mk (PyData.keyHash P (Str.ofString "LEFT")) (Value.str (Str.ofString "LEFT") 342) (Value.ref 125)), (DictEntry.mk (PyData.keyHash P (Str.ofString "RIGHT")) (Value.str (Str.ofString "RIGHT") 347) (Value.ref 126)), (DictEntry.mk (PyData.keyHash P (Str.ofString "NEUTRAL")) (Value.str (Str.ofString "NEUTRAL") 352) (Value.ref 127)), (DictEntry.mk (PyData.keyHash P (Str.ofString "is_integer")) (Value.str (Str.ofString "is_integer") 359) (Value.ref 134)), (DictEntry.mk (PyData.keyHash P (Str.ofString "divisor_of")) (Value.str (Str.ofString "divisor_of") 370) (Value.ref 141)), (DictEntry.mk (PyData.keyHash P (Str.ofString "product")) (Value.str (Str.ofString "product") 386) (Value.ref 148)), (DictEntry.mk (PyData.keyHash P (Str.ofString "word_table")) (Value.str (Str.ofString "word_table") 395) (Value.ref 155)), (DictEntry.mk (PyData.keyHash P (Str.ofString "divided")) (Value.str (Str.ofString "divided") 401) (Value.ref 160)), (DictEntry.mk (PyData.keyHash P (Str.ofString "Table")) (Value.str (Str.ofString "Table") 555) (Value.ref 280)), (DictEntry.mk (PyData.keyHash P (Str.ofString "table_with")) (Value.str (Str.ofString "table_with") 566) (Value.ref 291)), (DictEntry.mk (PyData.keyHash P (Str.ofString "MOST_TABLE")) (Value.str (Str.ofString "MOST_TABLE") 572) (Value.int 1000000 571)), (DictEntry.mk (PyData.keyHash P (Str.ofString "SWAP")) (Value.str (Str.ofString "SWAP") 577) (Value.ref 292)), (DictEntry.mk (PyData.keyHash P (Str.ofString "inner_parts")) (Value.str (Str.ofString "inner_parts") 583) (Value.ref 297)), (DictEntry.mk (PyData.keyHash P (Str.ofString "names_in")) (Value.str (Str.ofString "names_in") 593) (Value.ref 304)), (DictEntry.mk (PyData.keyHash P (Str.ofString "made")) (Value.str (Str.ofString "made") 601) (Value.ref 311)), (DictEntry.mk (PyData.keyHash P (Str.ofString "entries_of")) (Value.str (Str.ofString "entries_of") 607) (Value.ref 316)), (DictEntry.mk (PyData.keyHash P (Str.ofString "table_of")) (Value.str (Str.ofString "table_of") 618) (Value.ref 324)), (DictEntry.mk (PyData.keyHash P (Str.ofString "_law_hand")) (Value.str (Str.ofString "_law_hand") 626) (Value.ref 329)), (DictEntry.mk (PyData.keyHash P (Str.ofString "_law_pick")) (Value.str (Str.ofString "_law_pick") 638) (Value.ref 336)), (DictEntry.mk (PyData.keyHash P (Str.ofString "_law_of")) (Value.str (Str.ofString "_law_of") 646) (Value.ref 343)), (DictEntry.mk (PyData.keyHash P (Str.ofString "_law_same")) (Value.str (Str.ofString "_law_same") 652) (Value.ref 348)), (DictEntry.mk (PyData.keyHash P (Str.ofString "_law_field")) (Value.str (Str.ofString "_law_field") 659) (Value.ref 355)), (DictEntry.mk (PyData.keyHash P (Str.ofString "_law_why")) (Value.str (Str.ofString "_law_why") 668) (Value.ref 362)), (DictEntry.mk (PyData.keyHash P (Str.ofString "_law_word")) (Value.str (Str.ofString "_law_word") 674) (Value.ref 367)), (DictEntry.mk (PyData.keyHash P (Str.ofString "_law_some")) (Value.str (Str.ofString "_law_some") 682) (Value.ref 374)), (DictEntry.mk (PyData.keyHash P (Str.ofString "_law_prod")) (Value.str (Str.ofString "_law_prod") 690) (Value.ref 381)), (DictEntry.mk (PyData.keyHash P (Str.ofString "_law_grid")) (Value.str (Str.ofString "_law_grid") 699) (Value.ref 388)), (DictEntry.mk (PyData.keyHash P (Str.ofString "_law_common")) (Value.str (Str.ofString "_law_common") 709) (Value.ref 395)), (DictEntry.mk (PyData.keyHash P (Str.ofString "_law_lowest")) (Value.str (Str.ofString "_law_lowest") 715) (Value.ref 400)), (DictEntry.mk (PyData.keyHash P (Str.ofString "_law_core")) (Value.str (Str.ofString "_law_core") 721) (Value.ref 405)), (DictEntry.mk (PyData.keyHash P (Str.ofString "_law_mill")) (Value.str (Str.ofString "_law_mill") 727) (Value.ref 410)), (DictEntry.mk (PyData.keyHash P (Str.ofString "_law_made")) (Value.str (Str.ofString "_law_made") 734) (Value.ref 417)), (DictEntry.mk (PyData.keyHash P (Str.ofString "_law_inner")) (Value.str (Str.ofString "_law_inner") 741) (Value.ref 424)), (DictEntry.mk (PyData.keyHash P (Str.ofString "_law_leaf")) (Value.str (Str.ofString "_law_leaf") 750) (Value.ref 431)), (DictEntry.mk (PyData.keyHash P (Str.ofString "_law_shape")) (Value.str (Str.ofString "_law_shape") 756) (Value.ref 436)), (DictEntry.mk (PyData.keyHash P (Str.ofString "_law_pieces")) (Value.str (Str.ofString "_law_pieces") 766) (Value.ref 443)), (DictEntry.mk (PyData.keyHash P (Str.ofString "_law_within")) (Value.str (Str.ofString "_law_within") 774) (Value.ref 450)), (DictEntry.mk (PyData.keyHash P (Str.ofString "_law_table_due")) (Value.str (Str.ofString "_law_table_due") 780) (Value.ref 455)), (DictEntry.mk (PyData.keyHash P (Str.ofString "_law_deep_so")) (Value.str (Str.ofString "_law_deep_so") 786) (Value.ref 460)), (DictEntry.mk (PyData.keyHash P (Str.ofString "law")) (Value.str (Str.ofString "law") 792) (Value.ref 465))]) 56) (List.toArray []))
def o2_12 (P : Params) : Obj := (Obj.mk Value.none none (Data.fields (List.toArray [(Value.int 1 0), (Value.int 0 0), (Value.ref 20), (Value.int 5 0), (Value.int 0 0), (Value.ref 27), (Value.int 7 0), (Value.int 0 0), (Value.ref 40), (Value.int 9 0), (Value.int 0 0), (Value.ref 53), (Value.int 13 0), (Value.int 0 0), (Value.ref 72), (Value.int 18 0), (Value.int 0 0), (Value.ref 91), (Value.int 23 0), (Value.int 0 0), (Value.ref 110), (Value.int 31 0), (Value.int 0 0), (Value.ref 133), (Value.int 33 0), (Value.int 0 0), (Value.ref 140), (Value.int 41 0), (Value.int 0 0), (Value.ref 147), (Value.int 45 0), (Value.int 0 0), (Value.ref 154), (Value.int 50 0), (Value.int 0 0), (Value.ref 159), (Value.int 53 0), (Value.int 0 0), (Value.ref 166), (Value.int 108 0), (Value.int 0 0), (Value.ref 290), (Value.int 114 0), (Value.int 0 0), (Value.ref 296), (Value.int 121 0), (Value.int 0 0), (Value.ref 303), (Value.int 129 0), (Value.int 0 0), (Value.ref 310), (Value.int 134 0), (Value.int 0 0), (Value.ref 315), (Value.int 153 0), (Value.int 0 0), (Value.ref 323), (Value.int 160 0), (Value.int 0 0), (Value.ref 328), (Value.int 166 0), (Value.int 0 0), (Value.ref 335), (Value.int 180 0), (Value.int 0 0), (Value.ref 342), (Value.int 182 0), (Value.int 0 0), (Value.ref 347), (Value.int 192 0), (Value.int 0 0), (Value.ref 354), (Value.int 204 0), (Value.int 0 0), (Value.ref 361), (Value.int 213 0), (Value.int 0 0), (Value.ref 366), (Value.int 215 0), (Value.int 0 0), (Value.ref 373), (Value.int 217 0), (Value.int 0 0), (Value.ref 380), (Value.int 219 0), (Value.int 0 0), (Value.ref 387), (Value.int 224 0), (Value.int 0 0), (Value.ref 394), (Value.int 231 0), (Value.int 0 0), (Value.ref 399), (Value.int 234 0), (Value.int 0 0), (Value.ref 404), (Value.int 238 0), (Value.int 0 0), (Value.ref 409), (Value.int 243 0), (Value.int 0 0), (Value.ref 416), (Value.int 245 0), (Value.int 0 0), (Value.ref 423), (Value.int 249 0), (Value.int 0 0), (Value.ref 430), (Value.int 255 0), (Value.int 0 0), (Value.ref 435), (Value.int 262 0), (Value.int 0 0), (Value.ref 442), (Value.int 269 0), (Value.int 0 0), (Value.ref 449), (Value.int 274 0), (Value.int 0 0), (Value.ref 454), (Value.int 293 0), (Value.int 0 0), (Value.ref 459), (Value.int 304 0), (Value.int 0 0), (Value.ref 464)])) (List.toArray []))
def o2_285 (P : Params) : Obj := (Obj.mk (Value.type "tuple") none (Data.seq (List.toArray []) 0) (List.toArray []))
def o2_286 (P : Params) : Obj := (Obj.mk Value.none none (Data.fields (List.toArray [])) (List.toArray []))
def o2_287 (P : Params) : Obj := (Obj.mk (Value.type "tuple") none (Data.seq (List.toArray [(Value.str (Str.ofString "entries") 559), (Value.str (Str.ofString "a") 560), (Value.str (Str.ofString "b") 561), (Value.str (Str.ofString "c") 562), (Value.str (Str.ofString "d") 563)]) 0) (List.toArray []))
def o2_288 (P : Params) : Obj := (Obj.mk (Value.type "tuple") none (Data.seq (List.toArray []) 0) (List.toArray []))
def o2_289 (P : Params) : Obj := ⟨Value.none, none, .func ⟨(Str.ofString "table_with"), (Str.ofString "table_with"), L2.defArgs (top 18), .stmts (L2.defBody (top 18)), L2.defScope (top 18), 0, [], Value.none, Value.none, Value.none, Value.none, none, Value.none, Value.none, 0⟩, (List.toArray [])⟩
def o2_290 (P : Params) : Obj := (Obj.mk (Value.type "code") none (Data.fields (List.toArray [(Value.str (Str.ofString "table_with") 556), (Value.str (Str.ofString "table_with") 557), (Value.str (Str.ofString "/claim/cut.py") 558), (Value.int 108 0), (Value.int 1 0), (Value.int 0 0), (Value.int 0 0), (Value.int 3 0), (Value.ref 285), (Value.bool Bool.true), (Value.int 181 0), (Value.ref 286), Value.none, (Value.ref 287), (Value.ref 288), (Value.ref 289), (Value.int 564 0), (Value.int 108 0), (Value.str (Str.ofString "/claim/cut.py") 565)])) (List.toArray []))
def o2_291 (P : Params) : Obj := ⟨(Value.type "function"), none, .func ⟨(Str.ofString "table_with"), (Str.ofString "table_with"), L2.defArgs (top 18), .stmts (L2.defBody (top 18)), L2.defScope (top 18), 3, [], Value.none, Value.none, Value.none, (Value.str (Str.ofString "turnmill.tables") 336), none, (Value.ref 290), Value.none, 0⟩, (List.toArray [])⟩
def o2_292 (P : Params) : Obj := (Obj.mk (Value.type "tuple") none (Data.seq (List.toArray [(Value.int 0 573), (Value.int 1 574), (Value.int 1 575), (Value.int 0 576)]) 0) (List.toArray []))
def o2_293 (P : Params) : Obj := (Obj.mk (Value.type "tuple") none (Data.seq (List.toArray []) 0) (List.toArray []))
def o2_294 (P : Params) : Obj := (Obj.mk Value.none none (Data.fields (List.toArray [])) (List.toArray []))
def o2_295 (P : Params) : Obj := ⟨Value.none, none, .func ⟨(Str.ofString "inner_parts"), (Str.ofString "inner_parts"), L2.defArgs (top 22), .stmts (L2.defBody (top 22)), L2.defScope (top 22), 0, [], Value.none, Value.none, Value.none, Value.none, none, Value.none, Value.none, 0⟩, (List.toArray [])⟩
def o2_296 (P : Params) : Obj := (Obj.mk (Value.type "code") none (Data.fields (List.toArray [(Value.str (Str.ofString "inner_parts") 578), (Value.str (Str.ofString "inner_parts") 579), (Value.str (Str.ofString "/claim/cut.py") 580), (Value.int 114 0), (Value.int 1 0), (Value.int 0 0), (Value.int 0 0), (Value.int 3 0), (Value.ref 293), (Value.bool Bool.true), (Value.int 181 0), (Value.ref 294), Value.none, Value.none, Value.none, (Value.ref 295), (Value.int 581 0), (Value.int 114 0), (Value.str (Str.ofString "/claim/cut.py") 582)])) (List.toArray []))
def o2_297 (P : Params) : Obj := ⟨(Value.type "function"), none, .func ⟨(Str.ofString "inner_parts"), (Str.ofString "inner_parts"), L2.defArgs (top 22), .stmts (L2.defBody (top 22)), L2.defScope (top 22), 3, [], Value.none, Value.none, Value.none, (Value.str (Str.ofString "turnmill.programs") 567), none, (Value.ref 296), Value.none, 0⟩, (List.toArray [])⟩
def o2_298 (P : Params) : Obj := (Obj.mk (Value.type "tuple") none (Data.seq (List.toArray []) 0) (List.toArray []))
def o2_299 (P : Params) : Obj := (Obj.mk Value.none none (Data.fields (List.toArray [])) (List.toArray []))
def o2_300 (P : Params) : Obj := (Obj.mk (Value.type "tuple") none (Data.seq (List.toArray [(Value.str (Str.ofString "program") 587), (Value.str (Str.ofString "found") 588), (Value.str (Str.ofString "waiting") 589), (Value.str (Str.ofString "part") 590)]) 0) (List.toArray []))
def o2_301 (P : Params) : Obj := (Obj.mk (Value.type "tuple") none (Data.seq (List.toArray []) 0) (List.toArray []))
def o2_302 (P : Params) : Obj := ⟨Value.none, none, .func ⟨(Str.ofString "names_in"), (Str.ofString "names_in"), L2.defArgs (top 23), .stmts (L2.defBody (top 23)), L2.defScope (top 23), 0, [], Value.none, Value.none, Value.none, Value.none, none, Value.none, Value.none, 0⟩, (List.toArray [])⟩
def o2_303 (P : Params) : Obj := (Obj.mk (Value.type "code") none (Data.fields (List.toArray [(Value.str (Str.ofString "names_in") 584), (Value.str (Str.ofString "names_in") 585), (Value.str (Str.ofString "/claim/cut.py") 586), (Value.int 121 0), (Value.int 1 0), (Value.int 0 0), (Value.int 0 0), (Value.int 3 0), (Value.ref 298), (Value.bool Bool.true), (Value.int 181 0), (Value.ref 299), Value.none, (Value.ref 300), (Value.ref 301), (Value.ref 302), (Value.int 591 0), (Value.int 121 0), (Value.str (Str.ofString "/claim/cut.py") 592)])) (List.toArray []))
def o2_304 (P : Params) : Obj := ⟨(Value.type "function"), none, .func ⟨(Str.ofString "names_in"), (Str.ofString "names_in"), L2.defArgs (top 23), .stmts (L2.defBody (top 23)), L2.defScope (top 23), 3, [], Value.none, Value.none, Value.none, (Value.str (Str.ofString "turnmill.programs") 567), none, (Value.ref 303), Value.none, 0⟩, (List.toArray [])⟩
def o2_305 (P : Params) : Obj := (Obj.mk (Value.type "tuple") none (Data.seq (List.toArray []) 0) (List.toArray []))
def o2_306 (P : Params) : Obj := (Obj.mk Value.none none (Data.fields (List.toArray [])) (List.toArray []))
def o2_307 (P : Params) : Obj := (Obj.mk (Value.type "tuple") none (Data.seq (List.toArray [(Value.str (Str.ofString "entries") 597), (Value.str (Str.ofString "found") 598)]) 0) (List.toArray []))
def o2_308 (P : Params) : Obj := (Obj.mk (Value.type "tuple") none (Data.seq (List.toArray []) 0) (List.toArray []))
def o2_309 (P : Params) : Obj := ⟨Value.none, none, .func ⟨(Str.ofString "made"), (Str.ofString "made"), L2.defArgs (top 24), .stmts (L2.defBody (top 24)), L2.defScope (top 24), 0, [], Value.none, Value.none, Value.none, Value.none, none, Value.none, Value.none, 0⟩, (List.toArray [])⟩
def o2_310 (P : Params) : Obj := (Obj.mk (Value.type "code") none (Data.fields (List.toArray [(Value.str (Str.ofString "made") 594), (Value.str (Str.ofString "made") 595), (Value.str (Str.ofString "/claim/cut.py") 596), (Value.int 129 0), (Value.int 1 0), (Value.int 0 0), (Value.int 0 0), (Value.int 3 0), (Value.ref 305), (Value.bool Bool.true), (Value.int 181 0), (Value.ref 306), Value.none, (Value.ref 307), (Value.ref 308), (Value.ref 309), (Value.int 599 0), (Value.int 129 0), (Value.str (Str.ofString "/claim/cut.py") 600)])) (List.toArray []))
def o2_311 (P : Params) : Obj := ⟨(Value.type "function"), none, .func ⟨(Str.ofString "made"), (Str.ofString "made"), L2.defArgs (top 24), .stmts (L2.defBody (top 24)), L2.defScope (top 24), 3, [], Value.none, Value.none, Value.none, (Value.str (Str.ofString "turnmill.programs") 567), none, (Value.ref 310), Value.none, 0⟩, (List.toArray [])⟩
def o2_312 (P : Params) : Obj := (Obj.mk (Value.type "tuple") none (Data.seq (List.toArray []) 0) (List.toArray []))
def o2_313 (P : Params) : Obj := (Obj.mk Value.none none (Data.fields (List.toArray [])) (List.toArray []))
def o2_314 (P : Params) : Obj := ⟨Value.none, none, .func ⟨(Str.ofString "entries_of"), (Str.ofString "entries_of"), L2.defArgs (top 25), .stmts (L2.defBody (top 25)), L2.defScope (top 25), 0, [], Value.none, Value.none, Value.none, Value.none, none, Value.none, Value.none, 0⟩, (List.toArray [])⟩
def o2_315 (P : Params) : Obj := (Obj.mk (Value.type "code") none (Data.fields (List.toArray [(Value.str (Str.ofString "entries_of") 602), (Value.str (Str.ofString "entries_of") 603), (Value.str (Str.ofString "/claim/cut.py") 604), (Value.int 134 0), (Value.int 2 0), (Value.int 0 0), (Value.int 0 0), (Value.int 3 0), (Value.ref 312), (Value.bool Bool.true), (Value.int 181 0), (Value.ref 313), Value.none, Value.none, Value.none, (Value.ref 314), (Value.int 605 0), (Value.int 134 0), (Value.str (Str.ofString "/claim/cut.py") 606)])) (List.toArray []))
def o2_316 (P : Params) : Obj := ⟨(Value.type "function"), none, .func ⟨(Str.ofString "entries_of"), (Str.ofString "entries_of"), L2.defArgs (top 25), .stmts (L2.defBody (top 25)), L2.defScope (top 25), 3, [], Value.none, Value.none, Value.none, (Value.str (Str.ofString "turnmill.programs") 567), none, (Value.ref 315), Value.none, 0⟩, (List.toArray [])⟩
def o2_317 (P : Params) : Obj := (Obj.mk (Value.type "dict") none (Data.dict (List.toArray [(DictEntry.mk (PyData.keyHash P (Str.ofString "tables")) (Value.str (Str.ofString "tables") 608) Value.none)]) 1) (List.toArray []))
def o2_318 (P : Params) : Obj := (Obj.mk (Value.type "tuple") none (Data.seq (List.toArray []) 0) (List.toArray []))
def o2_319 (P : Params) : Obj := (Obj.mk Value.none none (Data.fields (List.toArray [])) (List.toArray []))
def o2_320 (P : Params) : Obj := (Obj.mk (Value.type "tuple") none (Data.seq (List.toArray [(Value.str (Str.ofString "program") 612), (Value.str (Str.ofString "tables") 613), (Value.str (Str.ofString "known") 614), (Value.str (Str.ofString "name") 615)]) 0) (List.toArray []))
def o2_321 (P : Params) : Obj := (Obj.mk (Value.type "tuple") none (Data.seq (List.toArray []) 0) (List.toArray []))
def o2_322 (P : Params) : Obj := ⟨Value.none, none, .func ⟨(Str.ofString "table_of"), (Str.ofString "table_of"), L2.defArgs (top 26), .stmts (L2.defBody (top 26)), L2.defScope (top 26), 0, [], Value.none, Value.none, Value.none, Value.none, none, Value.none, Value.none, 0⟩, (List.toArray [])⟩
def o2_323 (P : Params) : Obj := (Obj.mk (Value.type "code") none (Data.fields (List.toArray [(Value.str (Str.ofString "table_of") 609), (Value.str (Str.ofString "table_of") 610), (Value.str (Str.ofString "/claim/cut.py") 611), (Value.int 153 0), (Value.int 1 0), (Value.int 0 0), (Value.int 1 0), (Value.int 3 0), (Value.ref 318), (Value.bool Bool.true), (Value.int 181 0), (Value.ref 319), Value.none, (Value.ref 320), (Value.ref 321), (Value.ref 322), (Value.int 616 0), (Value.int 153 0), (Value.str (Str.ofString "/claim/cut.py") 617)])) (List.toArray []))
def o2_324 (P : Params) : Obj := ⟨(Value.type "function"), none, .func ⟨(Str.ofString "table_of"), (Str.ofString "table_of"), L2.defArgs (top 26), .stmts (L2.defBody (top 26)), L2.defScope (top 26), 3, [], Value.none, (Value.ref 317), Value.none, (Value.str (Str.ofString "turnmill.programs") 567), none, (Value.ref 323), Value.none, 0⟩, (List.toArray [])⟩
def o2_325 (P : Params) : Obj := (Obj.mk (Value.type "tuple") none (Data.seq (List.toArray []) 0) (List.toArray []))
def o2_326 (P : Params) : Obj := (Obj.mk Value.none none (Data.fields (List.toArray [])) (List.toArray []))
def o2_327 (P : Params) : Obj := ⟨Value.none, none, .func ⟨(Str.ofString "_law_hand"), (Str.ofString "_law_hand"), L2.defArgs (top 28), .stmts (L2.defBody (top 28)), L2.defScope (top 28), 0, [], Value.none, Value.none, Value.none, Value.none, none, Value.none, Value.none, 0⟩, (List.toArray [])⟩
def o2_328 (P : Params) : Obj := (Obj.mk (Value.type "code") none (Data.fields (List.toArray [(Value.str (Str.ofString "_law_hand") 621), (Value.str (Str.ofString "_law_hand") 622), (Value.str (Str.ofString "/claim/cut.py") 623), (Value.int 160 0), (Value.int 1 0), (Value.int 0 0), (Value.int 0 0), (Value.int 3 0), (Value.ref 325), (Value.bool Bool.true), (Value.int 181 0), (Value.ref 326), Value.none, Value.none, Value.none, (Value.ref 327), (Value.int 624 0), (Value.int 160 0), (Value.str (Str.ofString "/claim/cut.py") 625)])) (List.toArray []))
def o2_329 (P : Params) : Obj := ⟨(Value.type "function"), none, .func ⟨(Str.ofString "_law_hand"), (Str.ofString "_law_hand"), L2.defArgs (top 28), .stmts (L2.defBody (top 28)), L2.defScope (top 28), 3, [], Value.none, Value.none, Value.none, (Value.str (Str.ofString "law_turnmill_k57_whole_tables_of_programs") 619), none, (Value.ref 328), Value.none, 0⟩, (List.toArray [])⟩
def o2_330 (P : Params) : Obj := (Obj.mk (Value.type "tuple") none (Data.seq (List.toArray []) 0) (List.toArray []))
def o2_331 (P : Params) : Obj := (Obj.mk Value.none none (Data.fields (List.toArray [])) (List.toArray []))
def o2_332 (P : Params) : Obj := (Obj.mk (Value.type "tuple") none (Data.seq (List.toArray [(Value.str (Str.ofString "_law_hand_here") 630), (Value.str (Str.ofString "_law_many") 631), (Value.str (Str.ofString "_law_cell") 632), (Value.str (Str.ofString "_law_one") 633), (Value.str (Str.ofString "_law_two") 634), (Value.str (Str.ofString "_law_drawn") 635)]) 0) (List.toArray []))
def o2_333 (P : Params) : Obj := (Obj.mk (Value.type "tuple") none (Data.seq (List.toArray []) 0) (List.toArray []))
def o2_334 (P : Params) : Obj := ⟨Value.none, none, .func ⟨(Str.ofString "_law_pick"), (Str.ofString "_law_pick"), L2.defArgs (top 29), .stmts (L2.defBody (top 29)), L2.defScope (top 29), 0, [], Value.none, Value.none, Value.none, Value.none, none, Value.none, Value.none, 0⟩, (List.toArray [])⟩
def o2_335 (P : Params) : Obj := (Obj.mk (Value.type "code") none (Data.fields (List.toArray [(Value.str (Str.ofString "_law_pick") 627), (Value.str (Str.ofString "_law_pick") 628), (Value.str (Str.ofString "/claim/cut.py") 629), (Value.int 166 0), (Value.int 2 0), (Value.int 0 0), (Value.int 0 0), (Value.int 3 0), (Value.ref 330), (Value.bool Bool.true), (Value.int 181 0), (Value.ref 331), Value.none, (Value.ref 332), (Value.ref 333), (Value.ref 334), (Value.int 636 0), (Value.int 166 0), (Value.str (Str.ofString "/claim/cut.py") 637)])) (List.toArray []))
def o2_336 (P : Params) : Obj := ⟨(Value.type "function"), none, .func ⟨(Str.ofString "_law_pick"), (Str.ofString "_law_pick"), L2.defArgs (top 29), .stmts (L2.defBody (top 29)), L2.defScope (top 29), 3, [], Value.none, Value.none, Value.none, (Value.str (Str.ofString "law_turnmill_k57_whole_tables_of_programs") 619), none, (Value.ref 335), Value.none, 0⟩, (List.toArray [])⟩
def o2_337 (P : Params) : Obj := (Obj.mk (Value.type "tuple") none (Data.seq (List.toArray []) 0) (List.toArray []))
def o2_338 (P : Params) : Obj := (Obj.mk Value.none none (Data.fields (List.toArray [])) (List.toArray []))
def o2_339 (P : Params) : Obj := (Obj.mk (Value.type "tuple") none (Data.seq (List.toArray [(Value.str (Str.ofString "_law_hand_here") 642), (Value.str (Str.ofString "_law_items") 643)]) 0) (List.toArray []))
def o2_340 (P : Params) : Obj := (Obj.mk (Value.type "tuple") none (Data.seq (List.toArray []) 0) (List.toArray []))
def o2_341 (P : Params) : Obj := ⟨Value.none, none, .func ⟨(Str.ofString "_law_of"), (Str.ofString "_law_of"), L2.defArgs (top 30), .stmts (L2.defBody (top 30)), L2.defScope (top 30), 0, [], Value.none, Value.none, Value.none, Value.none, none, Value.none, Value.none, 0⟩, (List.toArray [])⟩
def o2_342 (P : Params) : Obj := (Obj.mk (Value.type "code") none (Data.fields (List.toArray [(Value.str (Str.ofString "_law_of") 639), (Value.str (Str.ofString "_law_of") 640), (Value.str (Str.ofString "/claim/cut.py") 641), (Value.int 180 0), (Value.int 2 0), (Value.int 0 0), (Value.int 0 0), (Value.int 3 0), (Value.ref 337), (Value.bool Bool.true), (Value.int 181 0), (Value.ref 338), Value.none, (Value.ref 339), (Value.ref 340), (Value.ref 341), (Value.int 644 0), (Value.int 180 0), (Value.str (Str.ofString "/claim/cut.py") 645)])) (List.toArray []))
def o2_343 (P : Params) : Obj := ⟨(Value.type "function"), none, .func ⟨(Str.ofString "_law_of"), (Str.ofString "_law_of"), L2.defArgs (top 30), .stmts (L2.defBody (top 30)), L2.defScope (top 30), 3, [], Value.none, Value.none, Value.none, (Value.str (Str.ofString "law_turnmill_k57_whole_tables_of_programs") 619), none, (Value.ref 342), Value.none, 0⟩, (List.toArray [])⟩
def o2_344 (P : Params) : Obj := (Obj.mk (Value.type "tuple") none (Data.seq (List.toArray []) 0) (List.toArray []))
def o2_345 (P : Params) : Obj := (Obj.mk Value.none none (Data.fields (List.toArray [])) (List.toArray []))
def o2_346 (P : Params) : Obj := ⟨Value.none, none, .func ⟨(Str.ofString "_law_same"), (Str.ofString "_law_same"), L2.defArgs (top 31), .stmts (L2.defBody (top 31)), L2.defScope (top 31), 0, [], Value.none, Value.none, Value.none, Value.none, none, Value.none, Value.none, 0⟩, (List.toArray [])⟩
def o2_347 (P : Params) : Obj := (Obj.mk (Value.type "code") none (Data.fields (List.toArray [(Value.str (Str.ofString "_law_same") 647), (Value.str (Str.ofString "_law_same") 648), (Value.str (Str.ofString "/claim/cut.py") 649), (Value.int 182 0), (Value.int 2 0), (Value.int 0 0), (Value.int 0 0), (Value.int 3 0), (Value.ref 344), (Value.bool Bool.true), (Value.int 181 0), (Value.ref 345), Value.none, Value.none, Value.none, (Value.ref 346), (Value.int 650 0), (Value.int 182 0), (Value.str (Str.ofString "/claim/cut.py") 651)])) (List.toArray []))
def o2_348 (P : Params) : Obj := ⟨(Value.type "function"), none, .func ⟨(Str.ofString "_law_same"), (Str.ofString "_law_same"), L2.defArgs (top 31), .stmts (L2.defBody (top 31)), L2.defScope (top 31), 3, [], Value.none, Value.none, Value.none, (Value.str (Str.ofString "law_turnmill_k57_whole_tables_of_programs") 619), none, (Value.ref 347), Value.none, 0⟩, (List.toArray [])⟩
def o2_349 (P : Params) : Obj := (Obj.mk (Value.type "tuple") none (Data.seq (List.toArray []) 0) (List.toArray []))
def o2_350 (P : Params) : Obj := (Obj.mk Value.none none (Data.fields (List.toArray [])) (List.toArray []))
def o2_351 (P : Params) : Obj := (Obj.mk (Value.type "tuple") none (Data.seq (List.toArray [(Value.str (Str.ofString "_law_e") 656)]) 0) (List.toArray []))
def o2_352 (P : Params) : Obj := (Obj.mk (Value.type "tuple") none (Data.seq (List.toArray []) 0) (List.toArray []))
def o2_353 (P : Params) : Obj := ⟨Value.none, none, .func ⟨(Str.ofString "_law_field"), (Str.ofString "_law_field"), L2.defArgs (top 32), .stmts (L2.defBody (top 32)), L2.defScope (top 32), 0, [], Value.none, Value.none, Value.none, Value.none, none, Value.none, Value.none, 0⟩, (List.toArray [])⟩
def o2_354 (P : Params) : Obj := (Obj.mk (Value.type "code") none (Data.fields (List.toArray [(Value.str (Str.ofString "_law_field") 653), (Value.str (Str.ofString "_law_field") 654), (Value.str (Str.ofString "/claim/cut.py") 655), (Value.int 192 0), (Value.int 1 0), (Value.int 0 0), (Value.int 0 0), (Value.int 3 0), (Value.ref 349), (Value.bool Bool.true), (Value.int 181 0), (Value.ref 350), Value.none, (Value.ref 351), (Value.ref 352), (Value.ref 353), (Value.int 657 0), (Value.int 192 0), (Value.str (Str.ofString "/claim/cut.py") 658)])) (List.toArray []))
def o2_355 (P : Params) : Obj := ⟨(Value.type "function"), none, .func ⟨(Str.ofString "_law_field"), (Str.ofString "_law_field"), L2.defArgs (top 32), .stmts (L2.defBody (top 32)), L2.defScope (top 32), 3, [], Value.none, Value.none, Value.none, (Value.str (Str.ofString "law_turnmill_k57_whole_tables_of_programs") 619), none, (Value.ref 354), Value.none, 0⟩, (List.toArray [])⟩
def o2_356 (P : Params) : Obj := (Obj.mk (Value.type "tuple") none (Data.seq (List.toArray []) 0) (List.toArray []))
def o2_357 (P : Params) : Obj := (Obj.mk Value.none none (Data.fields (List.toArray [])) (List.toArray []))
def o2_358 (P : Params) : Obj := (Obj.mk (Value.type "tuple") none (Data.seq (List.toArray [(Value.str (Str.ofString "_law_ask") 663), (Value.str (Str.ofString "_law_told") 664), (Value.str (Str.ofString "_law_e") 665)]) 0) (List.toArray []))
def o2_359 (P : Params) : Obj := (Obj.mk (Value.type "tuple") none (Data.seq (List.toArray []) 0) (List.toArray []))
def o2_360 (P : Params) : Obj := ⟨Value.none, none, .func ⟨(Str.ofString "_law_why"), (Str.ofString "_law_why"), L2.defArgs (top 33), .stmts (L2.defBody (top 33)), L2.defScope (top 33), 0, [], Value.none, Value.none, Value.none, Value.none, none, Value.none, Value.none, 0⟩, (List.toArray [])⟩
def o2_361 (P : Params) : Obj := (Obj.mk (Value.type "code") none (Data.fields (List.toArray [(Value.str (Str.ofString "_law_why") 660), (Value.str (Str.ofString "_law_why") 661), (Value.str (Str.ofString "/claim/cut.py") 662), (Value.int 204 0), (Value.int 1 0), (Value.int 0 0), (Value.int 0 0), (Value.int 3 0), (Value.ref 356), (Value.bool Bool.true), (Value.int 181 0), (Value.ref 357), Value.none, (Value.ref 358), (Value.ref 359), (Value.ref 360), (Value.int 666 0), (Value.int 204 0), (Value.str (Str.ofString "/claim/cut.py") 667)])) (List.toArray []))
def o2_362 (P : Params) : Obj := ⟨(Value.type "function"), none, .func ⟨(Str.ofString "_law_why"), (Str.ofString "_law_why"), L2.defArgs (top 33), .stmts (L2.defBody (top 33)), L2.defScope (top 33), 3, [], Value.none, Value.none, Value.none, (Value.str (Str.ofString "law_turnmill_k57_whole_tables_of_programs") 619), none, (Value.ref 361), Value.none, 0⟩, (List.toArray [])⟩
def o2_363 (P : Params) : Obj := (Obj.mk (Value.type "tuple") none (Data.seq (List.toArray []) 0) (List.toArray []))
def o2_364 (P : Params) : Obj := (Obj.mk Value.none none (Data.fields (List.toArray [])) (List.toArray []))
def o2_365 (P : Params) : Obj := ⟨Value.none, none, .func ⟨(Str.ofString "_law_word"), (Str.ofString "_law_word"), L2.defArgs (top 34), .stmts (L2.defBody (top 34)), L2.defScope (top 34), 0, [], Value.none, Value.none, Value.none, Value.none, none, Value.none, Value.none, 0⟩, (List.toArray [])⟩
def o2_366 (P : Params) : Obj := (Obj.mk (Value.type "code") none (Data.fields (List.toArray [(Value.str (Str.ofString "_law_word") 669), (Value.str (Str.ofString "_law_word") 670), (Value.str (Str.ofString "/claim/cut.py") 671), (Value.int 213 0), (Value.int 2 0), (Value.int 0 0), (Value.int 0 0), (Value.int 3 0), (Value.ref 363), (Value.bool Bool.true), (Value.int 181 0), (Value.ref 364), Value.none, Value.none, Value.none, (Value.ref 365), (Value.int 672 0), (Value.int 213 0), (Value.str (Str.ofString "/claim/cut.py") 673)])) (List.toArray []))
def o2_367 (P : Params) : Obj := ⟨(Value.type "function"), none, .func ⟨(Str.ofString "_law_word"), (Str.ofString "_law_word"), L2.defArgs (top 34), .stmts (L2.defBody (top 34)), L2.defScope (top 34), 3, [], Value.none, Value.none, Value.none, (Value.str (Str.ofString "law_turnmill_k57_whole_tables_of_programs") 619), none, (Value.ref 366), Value.none, 0⟩, (List.toArray [])⟩
def o2_368 (P : Params) : Obj := (Obj.mk (Value.type "tuple") none (Data.seq (List.toArray []) 0) (List.toArray []))
def o2_369 (P : Params) : Obj := (Obj.mk Value.none none (Data.fields (List.toArray [])) (List.toArray []))
def o2_370 (P : Params) : Obj := (Obj.mk (Value.type "tuple") none (Data.seq (List.toArray [(Value.str (Str.ofString "_law_hand_here") 678), (Value.str (Str.ofString "_law_peak") 679)]) 0) (List.toArray []))
def o2_371 (P : Params) : Obj := (Obj.mk (Value.type "tuple") none (Data.seq (List.toArray []) 0) (List.toArray []))
def o2_372 (P : Params) : Obj := ⟨Value.none, none, .func ⟨(Str.ofString "_law_some"), (Str.ofString "_law_some"), L2.defArgs (top 35), .stmts (L2.defBody (top 35)), L2.defScope (top 35), 0, [], Value.none, Value.none, Value.none, Value.none, none, Value.none, Value.none, 0⟩, (List.toArray [])⟩
def o2_373 (P : Params) : Obj := (Obj.mk (Value.type "code") none (Data.fields (List.toArray [(Value.str (Str.ofString "_law_some") 675), (Value.str (Str.ofString "_law_some") 676), (Value.str (Str.ofString "/claim/cut.py") 677), (Value.int 215 0), (Value.int 2 0), (Value.int 0 0), (Value.int 0 0), (Value.int 3 0), (Value.ref 368), (Value.bool Bool.true), (Value.int 181 0), (Value.ref 369), Value.none, (Value.ref 370), (Value.ref 371), (Value.ref 372), (Value.int 680 0), (Value.int 215 0), (Value.str (Str.ofString "/claim/cut.py") 681)])) (List.toArray []))
def o2_374 (P : Params) : Obj := ⟨(Value.type "function"), none, .func ⟨(Str.ofString "_law_some"), (Str.ofString "_law_some"), L2.defArgs (top 35), .stmts (L2.defBody (top 35)), L2.defScope (top 35), 3, [], Value.none, Value.none, Value.none, (Value.str (Str.ofString "law_turnmill_k57_whole_tables_of_programs") 619), none, (Value.ref 373), Value.none, 0⟩, (List.toArray [])⟩
def o2_375 (P : Params) : Obj := (Obj.mk (Value.type "tuple") none (Data.seq (List.toArray []) 0) (List.toArray []))
def o2_376 (P : Params) : Obj := (Obj.mk Value.none none (Data.fields (List.toArray [])) (List.toArray []))
def o2_377 (P : Params) : Obj := (Obj.mk (Value.type "tuple") none (Data.seq (List.toArray [(Value.str (Str.ofString "_law_one") 686), (Value.str (Str.ofString "_law_rival") 687)]) 0) (List.toArray []))
def o2_378 (P : Params) : Obj := (Obj.mk (Value.type "tuple") none (Data.seq (List.toArray []) 0) (List.toArray []))
def o2_379 (P : Params) : Obj := ⟨Value.none, none, .func ⟨(Str.ofString "_law_prod"), (Str.ofString "_law_prod"), L2.defArgs (top 36), .stmts (L2.defBody (top 36)), L2.defScope (top 36), 0, [], Value.none, Value.none, Value.none, Value.none, none, Value.none, Value.none, 0⟩, (List.toArray [])⟩
def o2_380 (P : Params) : Obj := (Obj.mk (Value.type "code") none (Data.fields (List.toArray [(Value.str (Str.ofString "_law_prod") 683), (Value.str (Str.ofString "_law_prod") 684), (Value.str (Str.ofString "/claim/cut.py") 685), (Value.int 217 0), (Value.int 2 0), (Value.int 0 0), (Value.int 0 0), (Value.int 3 0), (Value.ref 375), (Value.bool Bool.true), (Value.int 181 0), (Value.ref 376), Value.none, (Value.ref 377), (Value.ref 378), (Value.ref 379), (Value.int 688 0), (Value.int 217 0), (Value.str (Str.ofString "/claim/cut.py") 689)])) (List.toArray []))
def o2_381 (P : Params) : Obj := ⟨(Value.type "function"), none, .func ⟨(Str.ofString "_law_prod"), (Str.ofString "_law_prod"), L2.defArgs (top 36), .stmts (L2.defBody (top 36)), L2.defScope (top 36), 3, [], Value.none, Value.none, Value.none, (Value.str (Str.ofString "law_turnmill_k57_whole_tables_of_programs") 619), none, (Value.ref 380), Value.none, 0⟩, (List.toArray [])⟩
def o2_382 (P : Params) : Obj := (Obj.mk (Value.type "tuple") none (Data.seq (List.toArray []) 0) (List.toArray []))
def o2_383 (P : Params) : Obj := (Obj.mk Value.none none (Data.fields (List.toArray [])) (List.toArray []))
def o2_384 (P : Params) : Obj := (Obj.mk (Value.type "tuple") none (Data.seq (List.toArray [(Value.str (Str.ofString "_law_token") 694), (Value.str (Str.ofString "_law_found") 695), (Value.str (Str.ofString "_law_side") 696)]) 0) (List.toArray []))
def o2_385 (P : Params) : Obj := (Obj.mk (Value.type "tuple") none (Data.seq (List.toArray []) 0) (List.toArray []))
def o2_386 (P : Params) : Obj := ⟨Value.none, none, .func ⟨(Str.ofString "_law_grid"), (Str.ofString "_law_grid"), L2.defArgs (top 37), .stmts (L2.defBody (top 37)), L2.defScope (top 37), 0, [], Value.none, Value.none, Value.none, Value.none, none, Value.none, Value.none, 0⟩, (List.toArray [])⟩
def o2_387 (P : Params) : Obj := (Obj.mk (Value.type "code") none (Data.fields (List.toArray [(Value.str (Str.ofString "_law_grid") 691), (Value.str (Str.ofString "_law_grid") 692), (Value.str (Str.ofString "/claim/cut.py") 693), (Value.int 219 0), (Value.int 1 0), (Value.int 0 0), (Value.int 0 0), (Value.int 3 0), (Value.ref 382), (Value.bool Bool.true), (Value.int 181 0), (Value.ref 383), Value.none, (Value.ref 384), (Value.ref 385), (Value.ref 386), (Value.int 697 0), (Value.int 219 0), (Value.str (Str.ofString "/claim/cut.py") 698)])) (List.toArray []))
def o2_388 (P : Params) : Obj := ⟨(Value.type "function"), none, .func ⟨(Str.ofString "_law_grid"), (Str.ofString "_law_grid"), L2.defArgs (top 37), .stmts (L2.defBody (top 37)), L2.defScope (top 37), 3, [], Value.none, Value.none, Value.none, (Value.str (Str.ofString "law_turnmill_k57_whole_tables_of_programs") 619), none, (Value.ref 387), Value.none, 0⟩, (List.toArray [])⟩
def o2_389 (P : Params) : Obj := (Obj.mk (Value.type "tuple") none (Data.seq (List.toArray []) 0) (List.toArray []))
def o2_390 (P : Params) : Obj := (Obj.mk Value.none none (Data.fields (List.toArray [])) (List.toArray []))
def o2_391 (P : Params) : Obj := (Obj.mk (Value.type "tuple") none (Data.seq (List.toArray [(Value.str (Str.ofString "_law_entries") 703), (Value.str (Str.ofString "_law_found") 704), (Value.str (Str.ofString "_law_entry") 705), (Value.str (Str.ofString "_law_left") 706)]) 0) (List.toArray []))
def o2_392 (P : Params) : Obj := (Obj.mk (Value.type "tuple") none (Data.seq (List.toArray []) 0) (List.toArray []))
def o2_393 (P : Params) : Obj := ⟨Value.none, none, .func ⟨(Str.ofString "_law_common"), (Str.ofString "_law_common"), L2.defArgs (top 38), .stmts (L2.defBody (top 38)), L2.defScope (top 38), 0, [], Value.none, Value.none, Value.none, Value.none, none, Value.none, Value.none, 0⟩, (List.toArray [])⟩
def o2_394 (P : Params) : Obj := (Obj.mk (Value.type "code") none (Data.fields (List.toArray [(Value.str (Str.ofString "_law_common") 700), (Value.str (Str.ofString "_law_common") 701), (Value.str (Str.ofString "/claim/cut.py") 702), (Value.int 224 0), (Value.int 1 0), (Value.int 0 0), (Value.int 0 0), (Value.int 3 0), (Value.ref 389), (Value.bool Bool.true), (Value.int 181 0), (Value.ref 390), Value.none, (Value.ref 391), (Value.ref 392), (Value.ref 393), (Value.int 707 0), (Value.int 224 0), (Value.str (Str.ofString "/claim/cut.py") 708)])) (List.toArray []))
def o2_395 (P : Params) : Obj := ⟨(Value.type "function"), none, .func ⟨(Str.ofString "_law_common"), (Str.ofString "_law_common"), L2.defArgs (top 38), .stmts (L2.defBody (top 38)), L2.defScope (top 38), 3, [], Value.none, Value.none, Value.none, (Value.str (Str.ofString "law_turnmill_k57_whole_tables_of_programs") 619), none, (Value.ref 394), Value.none, 0⟩, (List.toArray [])⟩
def o2_396 (P : Params) : Obj := (Obj.mk (Value.type "tuple") none (Data.seq (List.toArray []) 0) (List.toArray []))
def o2_397 (P : Params) : Obj := (Obj.mk Value.none none (Data.fields (List.toArray [])) (List.toArray []))
def o2_398 (P : Params) : Obj := ⟨Value.none, none, .func ⟨(Str.ofString "_law_lowest"), (Str.ofString "_law_lowest"), L2.defArgs (top 39), .stmts (L2.defBody (top 39)), L2.defScope (top 39), 0, [], Value.none, Value.none, Value.none, Value.none, none, Value.none, Value.none, 0⟩, (List.toArray [])⟩
def o2_399 (P : Params) : Obj := (Obj.mk (Value.type "code") none (Data.fields (List.toArray [(Value.str (Str.ofString "_law_lowest") 710), (Value.str (Str.ofString "_law_lowest") 711), (Value.str (Str.ofString "/claim/cut.py") 712), (Value.int 231 0), (Value.int 1 0), (Value.int 0 0), (Value.int 0 0), (Value.int 3 0), (Value.ref 396), (Value.bool Bool.true), (Value.int 181 0), (Value.ref 397), Value.none, Value.none, Value.none, (Value.ref 398), (Value.int 713 0), (Value.int 231 0), (Value.str (Str.ofString "/claim/cut.py") 714)])) (List.toArray []))
def o2_400 (P : Params) : Obj := ⟨(Value.type "function"), none, .func ⟨(Str.ofString "_law_lowest"), (Str.ofString "_law_lowest"), L2.defArgs (top 39), .stmts (L2.defBody (top 39)), L2.defScope (top 39), 3, [], Value.none, Value.none, Value.none, (Value.str (Str.ofString "law_turnmill_k57_whole_tables_of_programs") 619), none, (Value.ref 399), Value.none, 0⟩, (List.toArray [])⟩
def o2_401 (P : Params) : Obj := (Obj.mk (Value.type "tuple") none (Data.seq (List.toArray []) 0) (List.toArray []))
def o2_402 (P : Params) : Obj := (Obj.mk Value.none none (Data.fields (List.toArray [])) (List.toArray []))
def o2_403 (P : Params) : Obj := ⟨Value.none, none, .func ⟨(Str.ofString "_law_core"), (Str.ofString "_law_core"), L2.defArgs (top 40), .stmts (L2.defBody (top 40)), L2.defScope (top 40), 0, [], Value.none, Value.none, Value.none, Value.none, none, Value.none, Value.none, 0⟩, (List.toArray [])⟩
def o2_404 (P : Params) : Obj := (Obj.mk (Value.type "code") none (Data.fields (List.toArray [(Value.str (Str.ofString "_law_core") 716), (Value.str (Str.ofString "_law_core") 717), (Value.str (Str.ofString "/claim/cut.py") 718), (Value.int 234 0), (Value.int 2 0), (Value.int 0 0), (Value.int 0 0), (Value.int 3 0), (Value.ref 401), (Value.bool Bool.true), (Value.int 181 0), (Value.ref 402), Value.none, Value.none, Value.none, (Value.ref 403), (Value.int 719 0), (Value.int 234 0), (Value.str (Str.ofString "/claim/cut.py") 720)])) (List.toArray []))
def o2_405 (P : Params) : Obj := ⟨(Value.type "function"), none, .func ⟨(Str.ofString "_law_core"), (Str.ofString "_law_core"), L2.defArgs (top 40), .stmts (L2.defBody (top 40)), L2.defScope (top 40), 3, [], Value.none, Value.none, Value.none, (Value.str (Str.ofString "law_turnmill_k57_whole_tables_of_programs") 619), none, (Value.ref 404), Value.none, 0⟩, (List.toArray [])⟩
def o2_406 (P : Params) : Obj := (Obj.mk (Value.type "tuple") none (Data.seq (List.toArray []) 0) (List.toArray []))
def o2_407 (P : Params) : Obj := (Obj.mk Value.none none (Data.fields (List.toArray [])) (List.toArray []))
def o2_408 (P : Params) : Obj := ⟨Value.none, none, .func ⟨(Str.ofString "_law_mill"), (Str.ofString "_law_mill"), L2.defArgs (top 41), .stmts (L2.defBody (top 41)), L2.defScope (top 41), 0, [], Value.none, Value.none, Value.none, Value.none, none, Value.none, Value.none, 0⟩, (List.toArray [])⟩
def o2_409 (P : Params) : Obj := (Obj.mk (Value.type "code") none (Data.fields (List.toArray [(Value.str (Str.ofString "_law_mill") 722), (Value.str (Str.ofString "_law_mill") 723), (Value.str (Str.ofString "/claim/cut.py") 724), (Value.int 238 0), (Value.int 2 0), (Value.int 0 0), (Value.int 0 0), (Value.int 3 0), (Value.ref 406), (Value.bool Bool.true), (Value.int 181 0), (Value.ref 407), Value.none, Value.none, Value.none, (Value.ref 408), (Value.int 725 0), (Value.int 238 0), (Value.str (Str.ofString "/claim/cut.py") 726)])) (List.toArray []))
def o2_410 (P : Params) : Obj := ⟨(Value.type "function"), none, .func ⟨(Str.ofString "_law_mill"), (Str.ofString "_law_mill"), L2.defArgs (top 41), .stmts (L2.defBody (top 41)), L2.defScope (top 41), 3, [], Value.none, Value.none, Value.none, (Value.str (Str.ofString "law_turnmill_k57_whole_tables_of_programs") 619), none, (Value.ref 409), Value.none, 0⟩, (List.toArray [])⟩
def o2_411 (P : Params) : Obj := (Obj.mk (Value.type "tuple") none (Data.seq (List.toArray []) 0) (List.toArray []))
def o2_412 (P : Params) : Obj := (Obj.mk Value.none none (Data.fields (List.toArray [])) (List.toArray []))
def o2_413 (P : Params) : Obj := (Obj.mk (Value.type "tuple") none (Data.seq (List.toArray [(Value.str (Str.ofString "_law_entries") 731)]) 0) (List.toArray []))
def o2_414 (P : Params) : Obj := (Obj.mk (Value.type "tuple") none (Data.seq (List.toArray []) 0) (List.toArray []))
def o2_415 (P : Params) : Obj := ⟨Value.none, none, .func ⟨(Str.ofString "_law_made"), (Str.ofString "_law_made"), L2.defArgs (top 42), .stmts (L2.defBody (top 42)), L2.defScope (top 42), 0, [], Value.none, Value.none, Value.none, Value.none, none, Value.none, Value.none, 0⟩, (List.toArray [])⟩
def o2_416 (P : Params) : Obj := (Obj.mk (Value.type "code") none (Data.fields (List.toArray [(Value.str (Str.ofString "_law_made") 728), (Value.str (Str.ofString "_law_made") 729), (Value.str (Str.ofString "/claim/cut.py") 730), (Value.int 243 0), (Value.int 1 0), (Value.int 0 0), (Value.int 0 0), (Value.int 3 0), (Value.ref 411), (Value.bool Bool.true), (Value.int 181 0), (Value.ref 412), Value.none, (Value.ref 413), (Value.ref 414), (Value.ref 415), (Value.int 732 0), (Value.int 243 0), (Value.str (Str.ofString "/claim/cut.py") 733)])) (List.toArray []))
def o2_417 (P : Params) : Obj := ⟨(Value.type "function"), none, .func ⟨(Str.ofString "_law_made"), (Str.ofString "_law_made"), L2.defArgs (top 42), .stmts (L2.defBody (top 42)), L2.defScope (top 42), 3, [], Value.none, Value.none, Value.none, (Value.str (Str.ofString "law_turnmill_k57_whole_tables_of_programs") 619), none, (Value.ref 416), Value.none, 0⟩, (List.toArray [])⟩
def o2_418 (P : Params) : Obj := (Obj.mk (Value.type "tuple") none (Data.seq (List.toArray []) 0) (List.toArray []))
def o2_419 (P : Params) : Obj := (Obj.mk Value.none none (Data.fields (List.toArray [])) (List.toArray []))
def o2_420 (P : Params) : Obj := (Obj.mk (Value.type "tuple") none (Data.seq (List.toArray [(Value.str (Str.ofString "_law_plan") 738)]) 0) (List.toArray []))
def o2_421 (P : Params) : Obj := (Obj.mk (Value.type "tuple") none (Data.seq (List.toArray []) 0) (List.toArray []))
def o2_422 (P : Params) : Obj := ⟨Value.none, none, .func ⟨(Str.ofString "_law_inner"), (Str.ofString "_law_inner"), L2.defArgs (top 43), .stmts (L2.defBody (top 43)), L2.defScope (top 43), 0, [], Value.none, Value.none, Value.none, Value.none, none, Value.none, Value.none, 0⟩, (List.toArray [])⟩
def o2_423 (P : Params) : Obj := (Obj.mk (Value.type "code") none (Data.fields (List.toArray [(Value.str (Str.ofString "_law_inner") 735), (Value.str (Str.ofString "_law_inner") 736), (Value.str (Str.ofString "/claim/cut.py") 737), (Value.int 245 0), (Value.int 1 0), (Value.int 0 0), (Value.int 0 0), (Value.int 3 0), (Value.ref 418), (Value.bool Bool.true), (Value.int 181 0), (Value.ref 419), Value.none, (Value.ref 420), (Value.ref 421), (Value.ref 422), (Value.int 739 0), (Value.int 245 0), (Value.str (Str.ofString "/claim/cut.py") 740)])) (List.toArray []))
def o2_424 (P : Params) : Obj := ⟨(Value.type "function"), none, .func ⟨(Str.ofString "_law_inner"), (Str.ofString "_law_inner"), L2.defArgs (top 43), .stmts (L2.defBody (top 43)), L2.defScope (top 43), 3, [], Value.none, Value.none, Value.none, (Value.str (Str.ofString "law_turnmill_k57_whole_tables_of_programs") 619), none, (Value.ref 423), Value.none, 0⟩, (List.toArray [])⟩
def o2_425 (P : Params) : Obj := (Obj.mk (Value.type "tuple") none (Data.seq (List.toArray []) 0) (List.toArray []))
def o2_426 (P : Params) : Obj := (Obj.mk Value.none none (Data.fields (List.toArray [])) (List.toArray []))
def o2_427 (P : Params) : Obj := (Obj.mk (Value.type "tuple") none (Data.seq (List.toArray [(Value.str (Str.ofString "_law_hand_here") 745), (Value.str (Str.ofString "_law_known") 746), (Value.str (Str.ofString "_law_entries") 747)]) 0) (List.toArray []))
def o2_428 (P : Params) : Obj := (Obj.mk (Value.type "tuple") none (Data.seq (List.toArray []) 0) (List.toArray []))
def o2_429 (P : Params) : Obj := ⟨Value.none, none, .func ⟨(Str.ofString "_law_leaf"), (Str.ofString "_law_leaf"), L2.defArgs (top 44), .stmts (L2.defBody (top 44)), L2.defScope (top 44), 0, [], Value.none, Value.none, Value.none, Value.none, none, Value.none, Value.none, 0⟩, (List.toArray [])⟩
def o2_430 (P : Params) : Obj := (Obj.mk (Value.type "code") none (Data.fields (List.toArray [(Value.str (Str.ofString "_law_leaf") 742), (Value.str (Str.ofString "_law_leaf") 743), (Value.str (Str.ofString "/claim/cut.py") 744), (Value.int 249 0), (Value.int 2 0), (Value.int 0 0), (Value.int 0 0), (Value.int 3 0), (Value.ref 425), (Value.bool Bool.true), (Value.int 181 0), (Value.ref 426), Value.none, (Value.ref 427), (Value.ref 428), (Value.ref 429), (Value.int 748 0), (Value.int 249 0), (Value.str (Str.ofString "/claim/cut.py") 749)])) (List.toArray []))
def o2_431 (P : Params) : Obj := ⟨(Value.type "function"), none, .func ⟨(Str.ofString "_law_leaf"), (Str.ofString "_law_leaf"), L2.defArgs (top 44), .stmts (L2.defBody (top 44)), L2.defScope (top 44), 3, [], Value.none, Value.none, Value.none, (Value.str (Str.ofString "law_turnmill_k57_whole_tables_of_programs") 619), none, (Value.ref 430), Value.none, 0⟩, (List.toArray [])⟩
def o2_432 (P : Params) : Obj := (Obj.mk (Value.type "tuple") none (Data.seq (List.toArray []) 0) (List.toArray []))
def o2_433 (P : Params) : Obj := (Obj.mk Value.none none (Data.fields (List.toArray [])) (List.toArray []))
def o2_434 (P : Params) : Obj := ⟨Value.none, none, .func ⟨(Str.ofString "_law_shape"), (Str.ofString "_law_shape"), L2.defArgs (top 45), .stmts (L2.defBody (top 45)), L2.defScope (top 45), 0, [], Value.none, Value.none, Value.none, Value.none, none, Value.none, Value.none, 0⟩, (List.toArray [])⟩
def o2_435 (P : Params) : Obj := (Obj.mk (Value.type "code") none (Data.fields (List.toArray [(Value.str (Str.ofString "_law_shape") 751), (Value.str (Str.ofString "_law_shape") 752), (Value.str (Str.ofString "/claim/cut.py") 753), (Value.int 255 0), (Value.int 3 0), (Value.int 0 0), (Value.int 0 0), (Value.int 3 0), (Value.ref 432), (Value.bool Bool.true), (Value.int 181 0), (Value.ref 433), Value.none, Value.none, Value.none, (Value.ref 434), (Value.int 754 0), (Value.int 255 0), (Value.str (Str.ofString "/claim/cut.py") 755)])) (List.toArray []))
def o2_436 (P : Params) : Obj := ⟨(Value.type "function"), none, .func ⟨(Str.ofString "_law_shape"), (Str.ofString "_law_shape"), L2.defArgs (top 45), .stmts (L2.defBody (top 45)), L2.defScope (top 45), 3, [], Value.none, Value.none, Value.none, (Value.str (Str.ofString "law_turnmill_k57_whole_tables_of_programs") 619), none, (Value.ref 435), Value.none, 0⟩, (List.toArray [])⟩
def o2_437 (P : Params) : Obj := (Obj.mk (Value.type "tuple") none (Data.seq (List.toArray []) 0) (List.toArray []))
def o2_438 (P : Params) : Obj := (Obj.mk Value.none none (Data.fields (List.toArray [])) (List.toArray []))
def o2_439 (P : Params) : Obj := (Obj.mk (Value.type "tuple") none (Data.seq (List.toArray [(Value.str (Str.ofString "_law_plan") 760), (Value.str (Str.ofString "_law_found") 761), (Value.str (Str.ofString "_law_left") 762), (Value.str (Str.ofString "_law_part") 763)]) 0) (List.toArray []))
def o2_440 (P : Params) : Obj := (Obj.mk (Value.type "tuple") none (Data.seq (List.toArray []) 0) (List.toArray []))
def o2_441 (P : Params) : Obj := ⟨Value.none, none, .func ⟨(Str.ofString "_law_pieces"), (Str.ofString "_law_pieces"), L2.defArgs (top 46), .stmts (L2.defBody (top 46)), L2.defScope (top 46), 0, [], Value.none, Value.none, Value.none, Value.none, none, Value.none, Value.none, 0⟩, (List.toArray [])⟩
def o2_442 (P : Params) : Obj := (Obj.mk (Value.type "code") none (Data.fields (List.toArray [(Value.str (Str.ofString "_law_pieces") 757), (Value.str (Str.ofString "_law_pieces") 758), (Value.str (Str.ofString "/claim/cut.py") 759), (Value.int 262 0), (Value.int 1 0), (Value.int 0 0), (Value.int 0 0), (Value.int 3 0), (Value.ref 437), (Value.bool Bool.true), (Value.int 181 0), (Value.ref 438), Value.none, (Value.ref 439), (Value.ref 440), (Value.ref 441), (Value.int 764 0), (Value.int 262 0), (Value.str (Str.ofString "/claim/cut.py") 765)])) (List.toArray []))
def o2_443 (P : Params) : Obj := ⟨(Value.type "function"), none, .func ⟨(Str.ofString "_law_pieces"), (Str.ofString "_law_pieces"), L2.defArgs (top 46), .stmts (L2.defBody (top 46)), L2.defScope (top 46), 3, [], Value.none, Value.none, Value.none, (Value.str (Str.ofString "law_turnmill_k57_whole_tables_of_programs") 619), none, (Value.ref 442), Value.none, 0⟩, (List.toArray [])⟩
def o2_444 (P : Params) : Obj := (Obj.mk (Value.type "tuple") none (Data.seq (List.toArray []) 0) (List.toArray []))
def o2_445 (P : Params) : Obj := (Obj.mk Value.none none (Data.fields (List.toArray [])) (List.toArray []))
def o2_446 (P : Params) : Obj := (Obj.mk (Value.type "tuple") none (Data.seq (List.toArray [(Value.str (Str.ofString "_law_entries") 770), (Value.str (Str.ofString "_law_found") 771)]) 0) (List.toArray []))
def o2_447 (P : Params) : Obj := (Obj.mk (Value.type "tuple") none (Data.seq (List.toArray []) 0) (List.toArray []))
def o2_448 (P : Params) : Obj := ⟨Value.none, none, .func ⟨(Str.ofString "_law_within"), (Str.ofString "_law_within"), L2.defArgs (top 47), .stmts (L2.defBody (top 47)), L2.defScope (top 47), 0, [], Value.none, Value.none, Value.none, Value.none, none, Value.none, Value.none, 0⟩, (List.toArray [])⟩
def o2_449 (P : Params) : Obj := (Obj.mk (Value.type "code") none (Data.fields (List.toArray [(Value.str (Str.ofString "_law_within") 767), (Value.str (Str.ofString "_law_within") 768), (Value.str (Str.ofString "/claim/cut.py") 769), (Value.int 269 0), (Value.int 1 0), (Value.int 0 0), (Value.int 0 0), (Value.int 3 0), (Value.ref 444), (Value.bool Bool.true), (Value.int 181 0), (Value.ref 445), Value.none, (Value.ref 446), (Value.ref 447), (Value.ref 448), (Value.int 772 0), (Value.int 269 0), (Value.str (Str.ofString "/claim/cut.py") 773)])) (List.toArray []))
def o2_450 (P : Params) : Obj := ⟨(Value.type "function"), none, .func ⟨(Str.ofString "_law_within"), (Str.ofString "_law_within"), L2.defArgs (top 47), .stmts (L2.defBody (top 47)), L2.defScope (top 47), 3, [], Value.none, Value.none, Value.none, (Value.str (Str.ofString "law_turnmill_k57_whole_tables_of_programs") 619), none, (Value.ref 449), Value.none, 0⟩, (List.toArray [])⟩
def o2_451 (P : Params) : Obj := (Obj.mk (Value.type "tuple") none (Data.seq (List.toArray []) 0) (List.toArray []))
def o2_452 (P : Params) : Obj := (Obj.mk Value.none none (Data.fields (List.toArray [])) (List.toArray []))
def o2_453 (P : Params) : Obj := ⟨Value.none, none, .func ⟨(Str.ofString "_law_table_due"), (Str.ofString "_law_table_due"), L2.defArgs (top 48), .stmts (L2.defBody (top 48)), L2.defScope (top 48), 0, [], Value.none, Value.none, Value.none, Value.none, none, Value.none, Value.none, 0⟩, (List.toArray [])⟩
def o2_454 (P : Params) : Obj := (Obj.mk (Value.type "code") none (Data.fields (List.toArray [(Value.str (Str.ofString "_law_table_due") 775), (Value.str (Str.ofString "_law_table_due") 776), (Value.str (Str.ofString "/claim/cut.py") 777), (Value.int 274 0), (Value.int 2 0), (Value.int 0 0), (Value.int 0 0), (Value.int 3 0), (Value.ref 451), (Value.bool Bool.true), (Value.int 181 0), (Value.ref 452), Value.none, Value.none, Value.none, (Value.ref 453), (Value.int 778 0), (Value.int 274 0), (Value.str (Str.ofString "/claim/cut.py") 779)])) (List.toArray []))
def o2_455 (P : Params) : Obj := ⟨(Value.type "function"), none, .func ⟨(Str.ofString "_law_table_due"), (Str.ofString "_law_table_due"), L2.defArgs (top 48), .stmts (L2.defBody (top 48)), L2.defScope (top 48), 3, [], Value.none, Value.none, Value.none, (Value.str (Str.ofString "law_turnmill_k57_whole_tables_of_programs") 619), none, (Value.ref 454), Value.none, 0⟩, (List.toArray [])⟩
def o2_456 (P : Params) : Obj := (Obj.mk (Value.type "tuple") none (Data.seq (List.toArray []) 0) (List.toArray []))
def o2_457 (P : Params) : Obj := (Obj.mk Value.none none (Data.fields (List.toArray [])) (List.toArray []))
def o2_458 (P : Params) : Obj := ⟨Value.none, none, .func ⟨(Str.ofString "_law_deep_so"), (Str.ofString "_law_deep_so"), L2.defArgs (top 49), .stmts (L2.defBody (top 49)), L2.defScope (top 49), 0, [], Value.none, Value.none, Value.none, Value.none, none, Value.none, Value.none, 0⟩, (List.toArray [])⟩
def o2_459 (P : Params) : Obj := (Obj.mk (Value.type "code") none (Data.fields (List.toArray [(Value.str (Str.ofString "_law_deep_so") 781), (Value.str (Str.ofString "_law_deep_so") 782), (Value.str (Str.ofString "/claim/cut.py") 783), (Value.int 293 0), (Value.int 1 0), (Value.int 0 0), (Value.int 0 0), (Value.int 3 0), (Value.ref 456), (Value.bool Bool.true), (Value.int 181 0), (Value.ref 457), Value.none, Value.none, Value.none, (Value.ref 458), (Value.int 784 0), (Value.int 293 0), (Value.str (Str.ofString "/claim/cut.py") 785)])) (List.toArray []))
def o2_460 (P : Params) : Obj := ⟨(Value.type "function"), none, .func ⟨(Str.ofString "_law_deep_so"), (Str.ofString "_law_deep_so"), L2.defArgs (top 49), .stmts (L2.defBody (top 49)), L2.defScope (top 49), 3, [], Value.none, Value.none, Value.none, (Value.str (Str.ofString "law_turnmill_k57_whole_tables_of_programs") 619), none, (Value.ref 459), Value.none, 0⟩, (List.toArray [])⟩
def o2_461 (P : Params) : Obj := (Obj.mk (Value.type "tuple") none (Data.seq (List.toArray []) 0) (List.toArray []))
def o2_462 (P : Params) : Obj := (Obj.mk Value.none none (Data.fields (List.toArray [])) (List.toArray []))
def o2_463 (P : Params) : Obj := ⟨Value.none, none, .func ⟨(Str.ofString "law"), (Str.ofString "law"), L2.defArgs (top 50), .stmts (L2.defBody (top 50)), L2.defScope (top 50), 0, [], Value.none, Value.none, Value.none, Value.none, none, Value.none, Value.none, 0⟩, (List.toArray [])⟩
def o2_464 (P : Params) : Obj := (Obj.mk (Value.type "code") none (Data.fields (List.toArray [(Value.str (Str.ofString "law") 787), (Value.str (Str.ofString "law") 788), (Value.str (Str.ofString "/claim/cut.py") 789), (Value.int 304 0), (Value.int 1 0), (Value.int 0 0), (Value.int 0 0), (Value.int 3 0), (Value.ref 461), (Value.bool Bool.true), (Value.int 181 0), (Value.ref 462), Value.none, Value.none, Value.none, (Value.ref 463), (Value.int 790 0), (Value.int 304 0), (Value.str (Str.ofString "/claim/cut.py") 791)])) (List.toArray []))
def o2_465 (P : Params) : Obj := ⟨(Value.type "function"), none, .func ⟨(Str.ofString "law"), (Str.ofString "law"), L2.defArgs (top 50), .stmts (L2.defBody (top 50)), L2.defScope (top 50), 3, [], Value.none, Value.none, Value.none, (Value.str (Str.ofString "law_turnmill_k57_whole_tables_of_programs") 619), none, (Value.ref 464), Value.none, 0⟩, (List.toArray [])⟩
def T2 (P : Params) : BT := (.node (boot_o_0 P) (.node (boot_o_1 P) (.node (o2_3 P) (.node (boot_o_7 P) (.node (o1_15 P) (.node (o1_31 P) (.node (o1_63 P) (.node (o1_127 P) (.node (o1_255 P) .nil .nil) (.node (o2_383 P) .nil .nil)) (.node (o1_191 P) (.node (o2_319 P) .nil .nil) (.node (o2_447 P) .nil .nil))) (.node (o1_95 P) (.node (o1_159 P) (.node (o2_287 P) .nil .nil) (.node (o2_415 P) .nil .nil)) (.node (o1_223 P) (.node (o2_351 P) .nil .nil) .nil))) (.node (o1_47 P) (.node (o1_79 P) (.node (o1_143 P) (.node (o1_271 P) .nil .nil) (.node (o2_399 P) .nil .nil)) (.node (o1_207 P) (.node (o2_335 P) .nil .nil) (.node (o2_463 P) .nil .nil))) (.node (o1_111 P) (.node (o1_175 P) (.node (o2_303 P) .nil .nil) (.node (o2_431 P) .nil .nil)) (.node (o1_239 P) (.node (o2_367 P) .nil .nil) .nil)))) (.node (o1_23 P) (.node (o1_39 P) (.node (o1_71 P) (.node (o1_135 P) (.node (o1_263 P) .nil .nil) (.node (o2_391 P) .nil .nil)) (.node (o1_199 P) (.node (o2_327 P) .nil .nil) (.node (o2_455 P) .nil .nil))) (.node (o1_103 P) (.node (o1_167 P) (.node (o2_295 P) .nil .nil) (.node (o2_423 P) .nil .nil)) (.node (o1_231 P) (.node (o2_359 P) .nil .nil) .nil))) (.node (o1_55 P) (.node (o1_87 P) (.node (o1_151 P) (.node (o1_279 P) .nil .nil) (.node (o2_407 P) .nil .nil)) (.node (o1_215 P) (.node (o2_343 P) .nil .nil) .nil)) (.node (o1_119 P) (.node (o1_183 P) (.node (o2_311 P) .nil .nil) (.node (o2_439 P) .nil .nil)) (.node (o1_247 P) (.node (o2_375 P) .nil .nil) .nil))))) (.node (o1_11 P) (.node (o1_19 P) (.node (o1_35 P) (.node (o1_67 P) (.node (o1_131 P) (.node (o1_259 P) .nil .nil) (.node (o2_387 P) .nil .nil)) (.node (o1_195 P) (.node (o2_323 P) .nil .nil) (.node (o2_451 P) .nil .nil))) (.node (o1_99 P) (.node (o1_163 P) (.node (o2_291 P) .nil .nil) (.node (o2_419 P) .nil .nil)) (.node (o1_227 P) (.node (o2_355 P) .nil .nil) .nil))) (.node (o1_51 P) (.node (o1_83 P) (.node (o1_147 P) (.node (o1_275 P) .nil .nil) (.node (o2_403 P) .nil .nil)) (.node (o1_211 P) (.node (o2_339 P) .nil .nil) .nil)) (.node (o1_115 P) (.node (o1_179 P) (.node (o2_307 P) .nil .nil) (.node (o2_435 P) .nil .nil)) (.node (o1_243 P) (.node (o2_371 P) .nil .nil) .nil)))) (.node (o1_27 P) (.node (o1_43 P) (.node (o1_75 P) (.node (o1_139 P) (.node (o1_267 P) .nil .nil) (.node (o2_395 P) .nil .nil)) (.node (o1_203 P) (.node (o2_331 P) .nil .nil) (.node (o2_459 P) .nil .nil))) (.node (o1_107 P) (.node (o1_171 P) (.node (o2_299 P) .nil .nil) (.node (o2_427 P) .nil .nil)) (.node (o1_235 P) (.node (o2_363 P) .nil .nil) .nil))) (.node (o1_59 P) (.node (o1_91 P) (.node (o1_155 P) (.node (o1_283 P) .nil .nil) (.node (o2_411 P) .nil .nil)) (.node (o1_219 P) (.node (o2_347 P) .nil .nil) .nil)) (.node (o1_123 P) (.node (o1_187 P) (.node (o2_315 P) .nil .nil) (.node (o2_443 P) .nil .nil)) (.node (o1_251 P) (.node (o2_379 P) .nil .nil) .nil)))))) (.node (boot_o_5 P) (.node (boot_o_9 P) (.node (o1_17 P) (.node (o1_33 P) (.node (o1_65 P) (.node (o1_129 P) (.node (o1_257 P) .nil .nil) (.node (o2_385 P) .nil .nil)) (.node (o1_193 P) (.node (o2_321 P) .nil .nil) (.node (o2_449 P) .nil .nil))) (.node (o1_97 P) (.node (o1_161 P) (.node (o2_289 P) .nil .nil) (.node (o2_417 P) .nil .nil)) (.node (o1_225 P) (.node (o2_353 P) .nil .nil) .nil))) (.node (o1_49 P) (.node (o1_81 P) (.node (o1_145 P) (.node (o1_273 P) .nil .nil) (.node (o2_401 P) .nil .nil)) (.node (o1_209 P) (.node (o2_337 P) .nil .nil) (.node (o2_465 P) .nil .nil))) (.node (o1_113 P) (.node (o1_177 P) (.node (o2_305 P) .nil .nil) (.node (o2_433 P) .nil .nil)) (.node (o1_241 P) (.node (o2_369 P) .nil .nil) .nil)))) (.node (o1_25 P) (.node (o1_41 P) (.node (o1_73 P) (.node (o1_137 P) (.node (o1_265 P) .nil .nil) (.node (o2_393 P) .nil .nil)) (.node (o1_201 P) (.node (o2_329 P) .nil .nil) (.node (o2_457 P) .nil .nil))) (.node (o1_105 P) (.node (o1_169 P) (.node (o2_297 P) .nil .nil) (.node (o2_425 P) .nil .nil)) (.node (o1_233 P) (.node (o2_361 P) .nil .nil) .nil))) (.node (o1_57 P) (.node (o1_89 P) (.node (o1_153 P) (.node (o1_281 P) .nil .nil) (.node (o2_409 P) .nil .nil)) (.node (o1_217 P) (.node (o2_345 P) .nil .nil) .nil)) (.node (o1_121 P) (.node (o1_185 P) (.node (o2_313 P) .nil .nil) (.node (o2_441 P) .nil .nil)) (.node (o1_249 P) (.node (o2_377 P) .nil .nil) .nil))))) (.node (o1_13 P) (.node (o1_21 P) (.node (o1_37 P) (.node (o1_69 P) (.node (o1_133 P) (.node (o1_261 P) .nil .nil) (.node (o2_389 P) .nil .nil)) (.node (o1_197 P) (.node (o2_325 P) .nil .nil) (.node (o2_453 P) .nil .nil))) (.node (o1_101 P) (.node (o1_165 P) (.node (o2_293 P) .nil .nil) (.node (o2_421 P) .nil .nil)) (.node (o1_229 P) (.node (o2_357 P) .nil .nil) .nil))) (.node (o1_53 P) (.node (o1_85 P) (.node (o1_149 P) (.node (o1_277 P) .nil .nil) (.node (o2_405 P) .nil .nil)) (.node (o1_213 P) (.node (o2_341 P) .nil .nil) .nil)) (.node (o1_117 P) (.node (o1_181 P) (.node (o2_309 P) .nil .nil) (.node (o2_437 P) .nil .nil)) (.node (o1_245 P) (.node (o2_373 P) .nil .nil) .nil)))) (.node (o1_29 P) (.node (o1_45 P) (.node (o1_77 P) (.node (o1_141 P) (.node (o1_269 P) .nil .nil) (.node (o2_397 P) .nil .nil)) (.node (o1_205 P) (.node (o2_333 P) .nil .nil) (.node (o2_461 P) .nil .nil))) (.node (o1_109 P) (.node (o1_173 P) (.node (o2_301 P) .nil .nil) (.node (o2_429 P) .nil .nil)) (.node (o1_237 P) (.node (o2_365 P) .nil .nil) .nil))) (.node (o1_61 P) (.node (o1_93 P) (.node (o1_157 P) (.node (o2_285 P) .nil .nil) (.node (o2_413 P) .nil .nil)) (.node (o1_221 P) (.node (o2_349 P) .nil .nil) .nil)) (.node (o1_125 P) (.node (o1_189 P) (.node (o2_317 P) .nil .nil) (.node (o2_445 P) .nil .nil)) (.node (o1_253 P) (.node (o2_381 P) .nil .nil) .nil))))))) (.node (o1_2 P) (.node (boot_o_4 P) (.node (boot_o_8 P) (.node (o1_16 P) (.node (o1_32 P) (.node (o1_64 P) (.node (o1_128 P) (.node (o1_256 P) .nil .nil) (.node (o2_384 P) .nil .nil)) (.node (o1_192 P) (.node (o2_320 P) .nil .nil) (.node (o2_448 P) .nil .nil))) (.node (o1_96 P) (.node (o1_160 P) (.node (o2_288 P) .nil .nil) (.node (o2_416 P) .nil .nil)) (.node (o1_224 P) (.node (o2_352 P) .nil .nil) .nil))) (.node (o1_48 P) (.node (o1_80 P) (.node (o1_144 P) (.node (o1_272 P) .nil .nil) (.node (o2_400 P) .nil .nil)) (.node (o1_208 P) (.node (o2_336 P) .nil .nil) (.node (o2_464 P) .nil .nil))) (.node (o1_112 P) (.node (o1_176 P) (.node (o2_304 P) .nil .nil) (.node (o2_432 P) .nil .nil)) (.node (o1_240 P) (.node (o2_368 P) .nil .nil) .nil)))) (.node (o1_24 P) (.node (o1_40 P) (.node (o1_72 P) (.node (o1_136 P) (.node (o1_264 P) .nil .nil) (.node (o2_392 P) .nil .nil)) (.node (o1_200 P) (.node (o2_328 P) .nil .nil) (.node (o2_456 P) .nil .nil))) (.node (o1_104 P) (.node (o1_168 P) (.node (o2_296 P) .nil .nil) (.node (o2_424 P) .nil .nil)) (.node (o1_232 P) (.node (o2_360 P) .nil .nil) .nil))) (.node (o1_56 P) (.node (o1_88 P) (.node (o1_152 P) (.node (o1_280 P) .nil .nil) (.node (o2_408 P) .nil .nil)) (.node (o1_216 P) (.node (o2_344 P) .nil .nil) .nil)) (.node (o1_120 P) (.node (o1_184 P) (.node (o2_312 P) .nil .nil) (.node (o2_440 P) .nil .nil)) (.node (o1_248 P) (.node (o2_376 P) .nil .nil) .nil))))) (.node (o2_12 P) (.node (o1_20 P) (.node (o1_36 P) (.node (o1_68 P) (.node (o1_132 P) (.node (o1_260 P) .nil .nil) (.node (o2_388 P) .nil .nil)) (.node (o1_196 P) (.node (o2_324 P) .nil .nil) (.node (o2_452 P) .nil .nil))) (.node (o1_100 P) (.node (o1_164 P) (.node (o2_292 P) .nil .nil) (.node (o2_420 P) .nil .nil)) (.node (o1_228 P) (.node (o2_356 P) .nil .nil) .nil))) (.node (o1_52 P) (.node (o1_84 P) (.node (o1_148 P) (.node (o1_276 P) .nil .nil) (.node (o2_404 P) .nil .nil)) (.node (o1_212 P) (.node (o2_340 P) .nil .nil) .nil)) (.node (o1_116 P) (.node (o1_180 P) (.node (o2_308 P) .nil .nil) (.node (o2_436 P) .nil .nil)) (.node (o1_244 P) (.node (o2_372 P) .nil .nil) .nil)))) (.node (o1_28 P) (.node (o1_44 P) (.node (o1_76 P) (.node (o1_140 P) (.node (o1_268 P) .nil .nil) (.node (o2_396 P) .nil .nil)) (.node (o1_204 P) (.node (o2_332 P) .nil .nil) (.node (o2_460 P) .nil .nil))) (.node (o1_108 P) (.node (o1_172 P) (.node (o2_300 P) .nil .nil) (.node (o2_428 P) .nil .nil)) (.node (o1_236 P) (.node (o2_364 P) .nil .nil) .nil))) (.node (o1_60 P) (.node (o1_92 P) (.node (o1_156 P) (.node (o1_284 P) .nil .nil) (.node (o2_412 P) .nil .nil)) (.node (o1_220 P) (.node (o2_348 P) .nil .nil) .nil)) (.node (o1_124 P) (.node (o1_188 P) (.node (o2_316 P) .nil .nil) (.node (o2_444 P) .nil .nil)) (.node (o1_252 P) (.node (o2_380 P) .nil .nil) .nil)))))) (.node (boot_o_6 P) (.node (boot_o_10 P) (.node (o1_18 P) (.node (o1_34 P) (.node (o1_66 P) (.node (o1_130 P) (.node (o1_258 P) .nil .nil) (.node (o2_386 P) .nil .nil)) (.node (o1_194 P) (.node (o2_322 P) .nil .nil) (.node (o2_450 P) .nil .nil))) (.node (o1_98 P) (.node (o1_162 P) (.node (o2_290 P) .nil .nil) (.node (o2_418 P) .nil .nil)) (.node (o1_226 P) (.node (o2_354 P) .nil .nil) .nil))) (.node (o1_50 P) (.node (o1_82 P) (.node (o1_146 P) (.node (o1_274 P) .nil .nil) (.node (o2_402 P) .nil .nil)) (.node (o1_210 P) (.node (o2_338 P) .nil .nil) .nil)) (.node (o1_114 P) (.node (o1_178 P) (.node (o2_306 P) .nil .nil) (.node (o2_434 P) .nil .nil)) (.node (o1_242 P) (.node (o2_370 P) .nil .nil) .nil)))) (.node (o1_26 P) (.node (o1_42 P) (.node (o1_74 P) (.node (o1_138 P) (.node (o1_266 P) .nil .nil) (.node (o2_394 P) .nil .nil)) (.node (o1_202 P) (.node (o2_330 P) .nil .nil) (.node (o2_458 P) .nil .nil))) (.node (o1_106 P) (.node (o1_170 P) (.node (o2_298 P) .nil .nil) (.node (o2_426 P) .nil .nil)) (.node (o1_234 P) (.node (o2_362 P) .nil .nil) .nil))) (.node (o1_58 P) (.node (o1_90 P) (.node (o1_154 P) (.node (o1_282 P) .nil .nil) (.node (o2_410 P) .nil .nil)) (.node (o1_218 P) (.node (o2_346 P) .nil .nil) .nil)) (.node (o1_122 P) (.node (o1_186 P) (.node (o2_314 P) .nil .nil) (.node (o2_442 P) .nil .nil)) (.node (o1_250 P) (.node (o2_378 P) .nil .nil) .nil))))) (.node (o1_14 P) (.node (o1_22 P) (.node (o1_38 P) (.node (o1_70 P) (.node (o1_134 P) (.node (o1_262 P) .nil .nil) (.node (o2_390 P) .nil .nil)) (.node (o1_198 P) (.node (o2_326 P) .nil .nil) (.node (o2_454 P) .nil .nil))) (.node (o1_102 P) (.node (o1_166 P) (.node (o2_294 P) .nil .nil) (.node (o2_422 P) .nil .nil)) (.node (o1_230 P) (.node (o2_358 P) .nil .nil) .nil))) (.node (o1_54 P) (.node (o1_86 P) (.node (o1_150 P) (.node (o1_278 P) .nil .nil) (.node (o2_406 P) .nil .nil)) (.node (o1_214 P) (.node (o2_342 P) .nil .nil) .nil)) (.node (o1_118 P) (.node (o1_182 P) (.node (o2_310 P) .nil .nil) (.node (o2_438 P) .nil .nil)) (.node (o1_246 P) (.node (o2_374 P) .nil .nil) .nil)))) (.node (o1_30 P) (.node (o1_46 P) (.node (o1_78 P) (.node (o1_142 P) (.node (o1_270 P) .nil .nil) (.node (o2_398 P) .nil .nil)) (.node (o1_206 P) (.node (o2_334 P) .nil .nil) (.node (o2_462 P) .nil .nil))) (.node (o1_110 P) (.node (o1_174 P) (.node (o2_302 P) .nil .nil) (.node (o2_430 P) .nil .nil)) (.node (o1_238 P) (.node (o2_366 P) .nil .nil) .nil))) (.node (o1_62 P) (.node (o1_94 P) (.node (o1_158 P) (.node (o2_286 P) .nil .nil) (.node (o2_414 P) .nil .nil)) (.node (o1_222 P) (.node (o2_350 P) .nil .nil) .nil)) (.node (o1_126 P) (.node (o1_190 P) (.node (o2_318 P) .nil .nil) (.node (o2_446 P) .nil .nil)) (.node (o1_254 P) (.node (o2_382 P) .nil .nil) .nil))))))))
def S2 (w : World) (os : OsState) : SharedT := ⟨T2 w.params, 466, (Life.mk [] [] [] 0 [] [] Bool.false (List.toArray []) [] 0 Bool.false Bool.false Bool.false 0 [2000, 10, 10] Bool.false 0 Bool.true [] [] 0 Bool.false), #[], (Drawn.mk 0 0 0 0), 793, os⟩
def l1 : List Stmt := [top 0, top 1, top 2, top 3, top 4, top 5, top 6, top 7, top 8, top 9, top 10, top 11, top 12, top 13, top 14, top 15, top 16, top 17]
def l2 : List Stmt := [top 18, top 19, top 20, top 21, top 22, top 23, top 24, top 25, top 26, top 27, top 28, top 29, top 30, top 31, top 32, top 33, top 34, top 35, top 36, top 37, top 38, top 39, top 40, top 41, top 42, top 43, top 44, top 45, top 46, top 47, top 48, top 49, top 50]
set_option maxHeartbeats 0 in
theorem run1 (w : World) (os : OsState) : firstF (stQ R.prog w) R.prog w (PySem.Value.ref 13) 14 (PySem.Pos.mk 0 0 0 0) 12 100 20000 l1 os = some (11, ⟨denQ tabQ (codT R.prog (PySem.Value.ref 13) 14), codT R.prog (PySem.Value.ref 13) 14, (PySem.Pos.mk 0 0 0 0), [topFrame (PySem.Pos.mk 0 0 0 0)]⟩, .next, codT R.prog (PySem.Value.ref 13) 14, .next, S1 w os, codT R.prog (PySem.Value.ref 13) 14, (PySem.Pos.mk 53 0 107 43)) := by
  kernel_rfl
set_option maxHeartbeats 0 in
theorem run2 (w : World) (os : OsState) : segF (stQ R.prog w) 11 (bootAnn w) 1 20000 (S1 w os) (piecesOf l2 (envT R.prog (PySem.Value.ref 13) 14) (codT R.prog (PySem.Value.ref 13) 14) (PySem.Pos.mk 53 0 107 43) [topFrame (PySem.Pos.mk 0 0 0 0)]) = some (.next, S2 w os, codT R.prog (PySem.Value.ref 13) 14, (PySem.Pos.mk 304 0 334 79)) := by
  kernel_rfl
set_option maxHeartbeats 0 in
theorem fin1 (w : World) (os : OsState) : (lastF (stQ R.prog w) R.prog w (PySem.Value.ref 13) 14 (PySem.Pos.mk 0 0 0 0) 11 10 100 [] (S2 w os) (PySem.Pos.mk 304 0 334 79)).map (fun x => (x.1, x.2.1, looksF R.prog (boot_heap w.params) x.2.2.abs)) = some (.next, codT R.prog (PySem.Value.ref 13) 14, true) := by
  kernel_rfl
set_option maxHeartbeats 0 in
theorem fin2 (w : World) (os : OsState) : (lastF (stQ R.prog w) R.prog w (PySem.Value.ref 13) 14 (PySem.Pos.mk 0 0 0 0) 11 10 100 [] (S2 w os) (PySem.Pos.mk 304 0 334 79)).map (fun x => seenQ (view R.prog [50]) nms (importedModules R.prog.main.body) (fun s => xlAt (view R.prog [50]) [] s && recOk R.toRowW.records s) x.2.2.abs) = some (openGood (view R.prog [50]) nms) := by
  kernel_rfl
set_option maxHeartbeats 0 in
theorem fin3 (w : World) (os : OsState) : (lastF (stQ R.prog w) R.prog w (PySem.Value.ref 13) 14 (PySem.Pos.mk 0 0 0 0) 11 10 100 [] (S2 w os) (PySem.Pos.mk 304 0 334 79)).map (fun x => ob x.2.2) = some (hk.val w) := by
  kernel_rfl
theorem bd : behindTheImports R.prog = l1 ++ (l2 ++ []) := by kernel_rfl
end
end K57
open PySem PySem.W PySem.Calls PyProof.Rows in
set_option maxHeartbeats 0 in
theorem PySem.Challenge.cw_turnmill_k57_whole_tables_of_programs_holds : PySem.Challenge.rw_turnmill_k57_whole_tables_of_programs.Holds := by
  w_on; o_law
  refine Z.head_cut (r := OpenLaw.row PySem.Challenge.rw_turnmill_k57_whole_tables_of_programs) (q := view (OpenLaw.row PySem.Challenge.rw_turnmill_k57_whole_tables_of_programs).prog [50]) (H := K57.hk) (ob := K57.ob) (loose := K57.nms) (d := HandSHeadRun.topDef (OpenLaw.row PySem.Challenge.rw_turnmill_k57_whole_tables_of_programs).prog 50) (kwd := []) K57.ob_eq
    (by kernel_rfl) (fun s => by kernel_rfl) K57.bd K57.run1 (Z.rest_seg K57.run2 (Z.rest_last3 K57.fin1 K57.fin2 K57.fin3)) (by kernel_rfl) (by kernel_rfl) (by kernel_rfl) (by rfl) (by first | assumption | decide +kernel) (by decide +kernel) ⟨rfl, rfl, rfl, rfl, rfl, by decide +kernel⟩ ?hw ?hc
  case hw => w_witness2
  case hc =>
    refine LamX.walk_ofTsE (l := PySem.Challenge.rw_turnmill_k57_whole_tables_of_programs) (n := 63) (k := 17) (x := "_law_script") (CX := fun w => L2.CX (OpenLaw.prog PySem.Challenge.rw_turnmill_k57_whole_tables_of_programs) w) rfl (by decide) (by kernel_rfl) ⟨rfl, by decide, by decide⟩ ?F (fun _ _ _ _ _ ⟨_, _, _, _, _, _, _, _, _, _, _, _, z⟩ => z)
    intro w mg fa h Y G hmg0
    obtain ⟨K, KX, c, TZ⟩ := Y
    have hmg : mg ("law" : PySem.Str) = some (.ref fa) := by
      have e : (HandSHeadRun.topDef (OpenLaw.row PySem.Challenge.rw_turnmill_k57_whole_tables_of_programs).prog 50).name = ("law" : PySem.Str) := by kernel_rfl
      rw [← e]
      exact hmg0
    exact ⟨K, KX, K57.all KX G hmg c TZ⟩
