import PyProof.Rows.All
import Wide.All
import OpenK.AllK
import Wide.FinOn
import PyProof.EqAt
import PyProof.EqKinds
import PyProof.TupleCall
import HandS.Base
import HandS.Call
import HandS.List
import HandS.Comp
import HandS.Exc
import HandS.Lambda
import HandS.Words
import HandS.Text
import HandS.TupAny
import HandS.IsInst
import HandS.Wide
import HandS.Dict
import HandS.WordsDict
import HandS.Deep
import HandS.Flow
import HandS.Defaults
import HandS.ExcInit
import HandS.Property
import HandS.WordsExc
import HandS.FStr
import HandS.Iter
import HandS.Zip
import KE.KExcInit
import HandS.MakeKw
import HandS.ClsMeth
import HandS.Head0
import HandS.Head1
import HandS.Head2
import HandS.HeadEnd
import HandS.HeadHook1
import HandS.HeadHook2
import HandS.HeadWalk
import HandS.EndTab
import HandS.MakeKwOnly
import PyProof.ExcBaseAll.LookupError
import PyProof.ExcBaseAll.IndexError
import HandS.Style
import HandS.More
import HandS.StrMore
import HandS.RaiseMore
import KE.DataMinMax
import HandS.OwnEq
import HandS.TryMany
import HandS.ExcField
import HandS.HotCalls
import KE.KTryMore
import HandS.NestedK
import PyProof.StrLawsFirst
import PyProof.ListStr
import PyProof.StrLawsTight
import PyProof.FitsReplace
import HandS.TryOnly
import KE.KDictDisplayH
import HandS.Replace
import HandS.Finally
import HandS.Star
import PyProof.LongRange
import KE.KUnpackStar
import HandS.Conv
import KE.KDictPairs
import KE.IntTextLaws
import HandS.SuiteRaise
import HandS.RaiseFrom
import HandS.ExcInitHot
import PyProof.DictUpdate
import HandS.DictComp
import HandS.HeadHook3
import HandS.ListItems
import KE.KDictSum
import HandS.ListEq
import KE.KEqDict
import PyProof.NeKinds
import KE.KExcIs
import HandS.ExcIs
import KE.KSuper
import HandS.NoneIn
import HandS.SetBool
import KE.KDictKeyed
import HandS.Strs
import HandS.TupLen
import HandS.Small
import PyProof.Rows.Range3
import KE.GoesEnum
import HandS.TupSets
import KE.SortData
import PySem.Challenge.RW_turnmill_k37_whole_least_machines_of_hab
set_option Elab.async false
set_option linter.all false
set_option maxRecDepth 100000
set_option maxHeartbeats 4000000
open PySem PySem.W PySem.Calls PyProof.Rows in
set_option maxHeartbeats 0 in
theorem law_open (H : PySem.Challenge.rw_turnmill_k37_whole_least_machines_of_hab.row.wellSaid = true → PySem.Challenge.rw_turnmill_k37_whole_least_machines_of_hab.row.Holds) : PySem.Challenge.rw_turnmill_k37_whole_least_machines_of_hab.Holds := by
  w_on; o_law
  exact H (by assumption)
open PySem PySem.W PySem.Calls PyProof.Rows in
set_option maxHeartbeats 0 in
theorem law_bare : (OpenLaw.row PySem.Challenge.rw_turnmill_k37_whole_least_machines_of_hab).prog.bare := ⟨rfl, rfl, rfl, rfl, rfl, by decide +kernel⟩
namespace Z
open PySem PySem.Spec PyProof.Rows L2

inductive D where
  | non | bl (b : Bool) | int (i : Int) | str (x : Str) | ty (n : String) | ref (a : Addr)
  | tup (l : List D) | lst (l : List D) | dic (l : List (D × D)) | obj (C : Addr) (fs : List (Str × D)) | lk (l : List D)
  | fn (Q : L2.Hp → Addr → Prop)
  | tpl (l : List D)
  | dlk (l : List (D × D))
inductive Cell where
  | lst (l : List D) | dic (l : List (D × D)) | ins (C : Addr) (fs : List (Str × D))
  | tab (q : Str)
  | dit (l : List (D × D))
  | frd (o : Obj) (kvs : List (Key × V)) (l : List (D × D))
  | raw (o : Heap → Prop)
  | key (o : Heap → Prop) (bs : List (Addr × List (Option Int)))
def oV : Option Int → V
  | none => .non
  | some i => .int i
abbrev Sto := Addr → Option Cell
abbrev En := List (Option D)

def keyD : D → Option Key
  | .int i => some (.inl i)
  | .str x => some (.inr x)
  | _ => none
def keysD : List D → Option (List Key)
  | [] => some []
  | d :: r => match keyD d, keysD r with
    | some k, some ks => some (k :: ks)
    | _, _ => none
def keyT : D → Option (List Key)
  | .tup l => keysD l
  | _ => none

def Sub (G G' : Hp) : Prop := ∀ a o, G a = some o → G' a = some o
theorem Sub.rfl' {G : Hp} : Sub G G := fun _ _ h => h
theorem Sub.tr {G G1 G2 : Hp} (a : Sub G G1) (b : Sub G1 G2) : Sub G G2 := fun c o h => b c o (a c o h)
theorem Sub.rd {G G' : Hp} {a : Addr} {u : HO} (s : Sub G G') (h : Rd G a u) : Rd G' a u := h.imp (s _ _) fun ⟨o, h⟩ => ⟨o, s _ _ h⟩
theorem Sub.sqL {K : PySem.W.Frag} {G G' : Hp} {a : Addr} {xs : List V} (s : Sub G G') (h : SqL K G a xs) : SqL K G' a xs := by
  rcases h with (h | ⟨o, h⟩) | h
  · exact .inl (.inl (s _ _ h))
  · exact .inl (.inr ⟨o, s _ _ h⟩)
  · exact .inr h
theorem Sub.sqT {K : PySem.W.Frag} {G G' : Hp} {a : Addr} {xs : List V} (s : Sub G G') (h : SqT K G a xs) : SqT K G' a xs := by
  rcases h with (h | ⟨o, h⟩) | h
  · exact .inl (.inl (s _ _ h))
  · exact .inl (.inr ⟨o, s _ _ h⟩)
  · exact .inr h

mutual
inductive Rep (K : PySem.W.Frag) (G : Hp) : D → V → Prop
  | non : Rep K G .non .non
  | bl {b : Bool} : Rep K G (.bl b) (.bl b)
  | int {i : Int} : Rep K G (.int i) (.int i)
  | str {x : Str} : Rep K G (.str x) (.str x)
  | ty {n : String} : Rep K G (.ty n) (.ty n)
  | ref {a : Addr} : Rep K G (.ref a) (.ref a)
  | tup {l : List D} {a : Addr} {vs : List V} : SqT K G a vs → RepL K G l vs → Rep K G (.tup l) (.ref a)
  | tpl {l : List D} {a : Addr} {vs : List V} : G a = some (.tup vs) → RepL K G l vs → Rep K G (.tpl l) (.ref a)
  | fn {Q : Hp → Addr → Prop} {a : Addr} {G0 : Hp} : Sub G0 G → Q G0 a → Rep K G (.fn Q) (.ref a)
  | lst {l : List D} {a : Addr} {vs : List V} : Rd G a (.lst vs) → RepL K G l vs → Rep K G (.lst l) (.ref a)
  | lk {l : List D} {a : Addr} {vs : List V} : SqL K G a vs → RepL K G l vs → Rep K G (.lk l) (.ref a)
  | dic {l : List (D × D)} {a : Addr} {kvs : List (Key × V)} : G a = some (.dK kvs) → RepD K G l kvs → Rep K G (.dic l) (.ref a)
  | dit {l : List (D × D)} {a : Addr} {kvs : List (List Key × V)} : G a = some (.dT kvs) → RepT K G l kvs → Rep K G (.dic l) (.ref a)
  | dlk {l : List (D × D)} {a : Addr} {o : Obj} {kvs : List (Key × V)} : G a = some (.frz o (.dK kvs)) → RepD K G l kvs → Rep K G (.dlk l) (.ref a)
  | obj {C : Addr} {fs : List (Str × D)} {a dx : Addr} {fvs : List (Str × V)} : G a = some (.ins C dx fvs) → RepF K G fs fvs → Rep K G (.obj C fs) (.ref a)
inductive RepL (K : PySem.W.Frag) (G : Hp) : List D → List V → Prop
  | nil : RepL K G [] []
  | cons {d : D} {ds : List D} {v : V} {vs : List V} : Rep K G d v → RepL K G ds vs → RepL K G (d :: ds) (v :: vs)
inductive RepF (K : PySem.W.Frag) (G : Hp) : List (Str × D) → List (Str × V) → Prop
  | nil : RepF K G [] []
  | cons {f : Str} {d : D} {ds : List (Str × D)} {v : V} {vs : List (Str × V)} : Rep K G d v → RepF K G ds vs → RepF K G ((f, d) :: ds) ((f, v) :: vs)
inductive RepD (K : PySem.W.Frag) (G : Hp) : List (D × D) → List (Key × V) → Prop
  | nil : RepD K G [] []
  | cons {c d : D} {k : Key} {ds : List (D × D)} {v : V} {vs : List (Key × V)} : keyD c = some k → Rep K G d v → RepD K G ds vs → RepD K G ((c, d) :: ds) ((k, v) :: vs)
inductive RepT (K : PySem.W.Frag) (G : Hp) : List (D × D) → List (List Key × V) → Prop
  | nil : RepT K G [] []
  | cons {c d : D} {k : List Key} {ds : List (D × D)} {v : V} {vs : List (List Key × V)} : keyT c = some k → Rep K G d v → RepT K G ds vs → RepT K G ((c, d) :: ds) ((k, v) :: vs)
end

section
variable {K : PySem.W.Frag} {G G' : Hp}
mutual
theorem Rep.mono (s : Sub G G') : ∀ {d : D} {v : V}, Rep K G d v → Rep K G' d v
  | _, _, .non => .non
  | _, _, .bl => .bl
  | _, _, .int => .int
  | _, _, .str => .str
  | _, _, .ty => .ty
  | _, _, .ref => .ref
  | _, _, .tup h r => .tup (s.sqT h) (r.mono s)
  | _, _, .tpl h r => .tpl (s _ _ h) (r.mono s)
  | _, _, .fn h q => .fn (h.tr s) q
  | _, _, .lst h r => .lst (s.rd h) (r.mono s)
  | _, _, .lk h r => .lk (s.sqL h) (r.mono s)
  | _, _, .dic h r => .dic (s _ _ h) (r.mono s)
  | _, _, .dlk h r => .dlk (s _ _ h) (r.mono s)
  | _, _, .dit h r => .dit (s _ _ h) (r.mono s)
  | _, _, .obj h r => .obj (s _ _ h) (r.mono s)
theorem RepL.mono (s : Sub G G') : ∀ {d : List D} {v : List V}, RepL K G d v → RepL K G' d v
  | _, _, .nil => .nil
  | _, _, .cons h r => .cons (h.mono s) (r.mono s)
theorem RepF.mono (s : Sub G G') : ∀ {d : List (Str × D)} {v : List (Str × V)}, RepF K G d v → RepF K G' d v
  | _, _, .nil => .nil
  | _, _, .cons h r => .cons (h.mono s) (r.mono s)
theorem RepD.mono (s : Sub G G') : ∀ {d : List (D × D)} {v : List (Key × V)}, RepD K G d v → RepD K G' d v
  | _, _, .nil => .nil
  | _, _, .cons e h r => .cons e (h.mono s) (r.mono s)
theorem RepT.mono (s : Sub G G') : ∀ {d : List (D × D)} {v : List (List Key × V)}, RepT K G d v → RepT K G' d v
  | _, _, .nil => .nil
  | _, _, .cons e h r => .cons e (h.mono s) (r.mono s)
end
theorem RepL.length : ∀ {ds : List D} {vs : List V}, RepL K G ds vs → ds.length = vs.length
  | _, _, .nil => rfl
  | _, _, .cons _ r => congrArg (· + 1) r.length
theorem RepL.get : ∀ {ds : List D} {vs : List V} {i : Nat} {d : D}, RepL K G ds vs → ds[i]? = some d → ∃ v, vs[i]? = some v ∧ Rep K G d v
  | _, _, _, _, .nil, e => by simp at e
  | _, _, 0, _, .cons r _, e => by simp at e; subst e; exact ⟨_, rfl, r⟩
  | _, _, i + 1, d, .cons _ t, e => by
    obtain ⟨u, h1, h2⟩ := t.get (i := i) (d := d) (by simpa using e)
    exact ⟨u, by simpa using h1, h2⟩
theorem RepL.app : ∀ {xs ys : List D} {us ws : List V}, RepL K G xs us → RepL K G ys ws → RepL K G (xs ++ ys) (us ++ ws)
  | _, _, _, _, .nil, s => s
  | _, _, _, _, .cons r t, s => .cons r (t.app s)
theorem RepL.set {x : D} {u : V} (r : Rep K G x u) : ∀ {xs : List D} {us : List V} (i : Nat), RepL K G xs us → RepL K G (xs.set i x) (us.set i u)
  | _, _, _, .nil => .nil
  | _, _, 0, .cons _ t => .cons r t
  | _, _, i + 1, .cons q t => .cons q (RepL.set r i t)
theorem RepL.take : ∀ {xs : List D} {us : List V} (n : Nat), RepL K G xs us → RepL K G (xs.take n) (us.take n)
  | _, _, 0, _ => .nil
  | _, _, _ + 1, .nil => .nil
  | _, _, n + 1, .cons r t => .cons r (t.take n)
theorem RepL.drop : ∀ {xs : List D} {us : List V} (n : Nat), RepL K G xs us → RepL K G (xs.drop n) (us.drop n)
  | _, _, 0, r => r
  | _, _, _ + 1, .nil => .nil
  | _, _, n + 1, .cons _ t => t.drop n
theorem RepF.length : ∀ {ds : List (Str × D)} {vs : List (Str × V)}, RepF K G ds vs → ds.length = vs.length
  | _, _, .nil => rfl
  | _, _, .cons _ r => congrArg (· + 1) r.length
theorem RepF.look {f : Str} : ∀ {ds : List (Str × D)} {vs : List (Str × V)} {d : D}, RepF K G ds vs → ds.lookup f = some d → ∃ v, vs.lookup f = some v ∧ Rep K G d v
  | _, _, _, .nil, e => by cases e
  | _, _, d, .cons (f := g) r t, e => by
    rw [List.lookup_cons] at e ⊢
    cases q : f == g with
    | true => rw [q] at e; cases e; exact ⟨_, rfl, r⟩
    | false => rw [q] at e; exact t.look e
theorem RepF.none {f : Str} : ∀ {ds : List (Str × D)} {vs : List (Str × V)}, RepF K G ds vs → ds.lookup f = none → vs.lookup f = none
  | _, _, .nil, _ => rfl
  | _, _, .cons (f := g) r t, e => by
    rw [List.lookup_cons] at e ⊢
    cases q : f == g with
    | true => rw [q] at e; cases e
    | false => rw [q] at e; exact t.none e
end

def putD (f : Str) (d : D) : List (Str × D) → List (Str × D)
  | [] => [(f, d)]
  | (g, x) :: r => if g = f then (g, d) :: r else (g, x) :: putD f d r
end Z
namespace Z
open PySem PySem.Spec PyProof.Rows L2

def CellAt (K : PySem.W.Frag) (G H : Hp) (a : Addr) : Cell → Prop
  | .lst l => ∃ vs, H a = some (.lst vs) ∧ RepL K G l vs
  | .dic l => ∃ kvs, H a = some (.dK kvs) ∧ RepD K G l kvs
  | .dit l => ∃ kvs, H a = some (.dT kvs) ∧ RepT K G l kvs
  | .frd o kvs l => H a = some (.frz o (.dK kvs)) ∧ RepD K G l kvs
  | .raw o => H a = some (.ext o)
  | .key o bs => H a = some (.ext o) ∧ ∀ p ∈ bs, G p.1 = some (.tup (p.2.map oV))
  | .ins C fs => ∃ dx fvs, H a = some (.ins C dx fvs) ∧ RepF K G fs fvs
  | .tab q => ∃ ps : Array Value, H a = some (.tbl ps) ∧ TriplesOk ps.toList ∧ ∀ (pos : Pos) (cv : Value), codeAmong pos ps.toList = some cv → ∃ c, cv = .ref c ∧ G c = some (LamX.CodeO c q)
theorem CellAt.there {K : PySem.W.Frag} {G H : Hp} {a : Addr} {c : Cell} (h : CellAt K G H a c) : H a ≠ none := by
  cases c with
  | lst l => obtain ⟨_, e, _⟩ := h; rw [e]; simp
  | dic l => obtain ⟨_, e, _⟩ := h; rw [e]; simp
  | dit l => obtain ⟨_, e, _⟩ := h; rw [e]; simp
  | frd o kvs l => rw [h.1]; simp
  | raw o => rw [show H a = some (.ext o) from h]; simp
  | key o bs => rw [h.1]; simp
  | ins C fs => obtain ⟨_, _, e, _⟩ := h; rw [e]; simp
  | tab q => obtain ⟨_, e, _⟩ := h; rw [e]; simp
theorem CellAt.move {K : PySem.W.Frag} {G G' H H' : Hp} {a : Addr} {c : Cell} (s : Sub G G') (e : ∀ o, H a = some o → H' a = some o) (h : CellAt K G H a c) : CellAt K G' H' a c := by
  cases c with
  | lst l => obtain ⟨_, h, r⟩ := h; exact ⟨_, e _ h, r.mono s⟩
  | dic l => obtain ⟨_, h, r⟩ := h; exact ⟨_, e _ h, r.mono s⟩
  | dit l => obtain ⟨_, h, r⟩ := h; exact ⟨_, e _ h, r.mono s⟩
  | frd o kvs l => exact ⟨e _ h.1, h.2.mono s⟩
  | raw o => exact e _ h
  | key o bs => exact ⟨e _ h.1, fun p hp => s _ _ (h.2 p hp)⟩
  | ins C fs => obtain ⟨_, _, h, r⟩ := h; exact ⟨_, _, e _ h, r.mono s⟩
  | tab q => obtain ⟨_, h, t, r⟩ := h; exact ⟨_, e _ h, t, fun pos cv hc => let ⟨c, e1, e2⟩ := r pos cv hc; ⟨c, e1, s _ _ e2⟩⟩

structure Wd (K : PySem.W.Frag) (M : Sto) (H G : Hp) : Prop where
  sub : Sub G H
  cells : ∀ a c, M a = some c → G a = none ∧ CellAt K G H a c
structure Bs where
  H : Hp
  G : Hp
  M : Sto
structure Since (H0 G0 : Hp) (M0 : Sto) (M : Sto) (H G : Hp) : Prop where
  keep : ∀ a o, H0 a = some o → M0 a = none → H a = some o
  stay : ∀ a, H0 a ≠ none → H a ≠ none
  gsub : Sub G0 G
  gnew : ∀ a, G a ≠ none → G0 a = none → H0 a = none
  mnew : ∀ a, M a ≠ none → M0 a = none → H0 a = none
structure Rel (K : PySem.W.Frag) (B : Bs) (r : En) (M : Sto) (σ : L2.St) (H G : Hp) : Prop where
  wd : Wd K M H G
  len : r.length = σ.length
  slots : ∀ (i : Nat) d, r[i]? = some (some d) → ∃ v, σ[i]? = some (some v) ∧ Rep K G d v
  sin : Since B.H B.G B.M M H G

theorem Since.refl {H G : Hp} {M : Sto} : Since H G M M H G := ⟨fun _ _ h _ => h, fun _ h => h, Sub.rfl', fun _ h e => absurd e h, fun _ h e => absurd e h⟩
theorem Since.trans {K : PySem.W.Frag} {H0 G0 H1 G1 H2 G2 : Hp} {M0 M1 M2 : Sto} (w1 : Wd K M1 H1 G1) (a : Since H0 G0 M0 M1 H1 G1) (b : Since H1 G1 M1 M2 H2 G2) : Since H0 G0 M0 M2 H2 G2 where
  keep := fun c o h n => b.keep c o (a.keep c o h n) (by
    cases q : M1 c with
    | none => rfl
    | some x => have := a.mnew c (by rw [q]; simp) n; rw [this] at h; cases h)
  stay := fun c h => b.stay c (a.stay c h)
  gsub := a.gsub.tr b.gsub
  gnew := fun c h n => by
    cases q : G1 c with
    | some x => exact a.gnew c (by rw [q]; simp) n
    | none =>
      have h1 := b.gnew c h q
      cases z : H0 c with
      | none => rfl
      | some o => exact absurd h1 (a.stay c (by rw [z]; simp))
  mnew := fun c h n => by
    cases q : M1 c with
    | some x => exact a.mnew c (by rw [q]; simp) n
    | none =>
      have h1 := b.mnew c h q
      cases z : H0 c with
      | none => rfl
      | some o => exact absurd h1 (a.stay c (by rw [z]; simp))
theorem Rel.go {K : PySem.W.Frag} {B : Bs} {r : En} {M M' : Sto} {σ : L2.St} {H G H' G' : Hp} (R : Rel K B r M σ H G) (w : Wd K M' H' G') (s : Since H G M M' H' G') : Rel K B r M' σ H' G' :=
  ⟨w, R.len, fun i d e => let ⟨v, h1, h2⟩ := R.slots i d e; ⟨v, h1, h2.mono s.gsub⟩, Since.trans R.wd R.sin s⟩
structure Grow (H G H' G' : Hp) : Prop where
  same : ∀ a o, H a = some o → H' a = some o
  gsub : Sub G G'
  sub : Sub G' H'
  gnew : ∀ a, G' a ≠ none → G a = none → H a = none
theorem Grow.refl {H G : Hp} (s : Sub G H) : Grow H G H G := ⟨fun _ _ h => h, Sub.rfl', s, fun _ h e => absurd e h⟩
theorem Grow.since {K : PySem.W.Frag} {M : Sto} {H G H' G' : Hp} (w : Wd K M H G) (g : Grow H G H' G') : Since H G M M H' G' :=
  ⟨fun a o h _ => g.same a o h, fun a h => by
    cases q : H a with
    | none => exact absurd q h
    | some o => rw [g.same a o q]; simp, g.gsub, g.gnew, fun a h e => absurd e h⟩
theorem Grow.wd {K : PySem.W.Frag} {M : Sto} {H G H' G' : Hp} (w : Wd K M H G) (g : Grow H G H' G') : Wd K M H' G' :=
  ⟨g.sub, fun a c e => by
    obtain ⟨h1, h2⟩ := w.cells a c e
    refine ⟨?_, h2.move g.gsub (g.same a)⟩
    cases q : G' a with
    | none => rfl
    | some o => exact absurd (g.gnew a (by rw [q]; simp) h1) h2.there⟩
theorem Rel.grow {K : PySem.W.Frag} {B : Bs} {r : En} {M : Sto} {σ : L2.St} {H G H' G' : Hp} (R : Rel K B r M σ H G) (g : Grow H G H' G') : Rel K B r M σ H' G' := R.go (g.wd R.wd) (g.since R.wd)
theorem Grow.trans {H G H1 G1 H2 G2 : Hp} (a : Grow H G H1 G1) (b : Grow H1 G1 H2 G2) : Grow H G H2 G2 :=
  ⟨fun c o h => b.same c o (a.same c o h), a.gsub.tr b.gsub, b.sub, fun c h n => by
    cases q : G1 c with
    | some x => exact a.gnew c (by rw [q]; simp) n
    | none =>
      have h1 := b.gnew c h q
      cases z : H c with
      | none => rfl
      | some o => rw [a.same c o z] at h1; cases h1⟩
theorem grow_upd {H G : Hp} {p : Addr} {o : HO} (s : Sub G H) (hp : H p = none) : Grow H G (upd H p o) (upd G p o) where
  same := fun a u h => by rw [upd_ne (ne_of_none h hp)]; exact h
  gsub := fun a u h => by rw [upd_ne (ne_of_none (s _ _ h) hp)]; exact h
  sub := fun a u h => by
    by_cases e : a = p
    · subst e; rw [upd_same] at h ⊢; exact h
    · rw [upd_ne e] at h ⊢; exact s _ _ h
  gnew := fun a h n => by
    by_cases e : a = p
    · subst e; exact hp
    · rw [upd_ne e] at h; exact absurd n h

abbrev PD := D → Sto → Prop
abbrev DTE := En → Sto → PD → Prop
abbrev DTT := En → Sto → (Bool → Sto → Prop) → Prop
abbrev DTA := En → Sto → (List D → Sto → Prop) → Prop
structure Ek where
  nx : En → Sto → Prop
  rt : D → Sto → Prop
  bk : En → Sto → Prop := fun _ _ => False
  ct : En → Sto → Prop := fun _ _ => False
abbrev DTS := Ek → En → Sto → Prop
abbrev DTG := D → En → Sto → (En → Sto → Prop) → Prop

def lift (K : PySem.W.Frag) (B : Bs) (f : DTE) : TE := fun σ H Q => ∃ r M G Ψ, Rel K B r M σ H G ∧ f r M Ψ ∧ ∀ d M' v H' G', Ψ d M' → Rel K B r M' σ H' G' → Sub G G' → Rep K G' d v → Q v H'
def liftT (K : PySem.W.Frag) (B : Bs) (f : DTT) : TT := fun σ H Q => ∃ r M G Ψ, Rel K B r M σ H G ∧ f r M Ψ ∧ ∀ b M' H' G', Ψ b M' → Rel K B r M' σ H' G' → Sub G G' → Q b H'
def liftA (K : PySem.W.Frag) (B : Bs) (f : DTA) : TA := fun σ H Q => ∃ r M G Ψ, Rel K B r M σ H G ∧ f r M Ψ ∧ ∀ ds M' vs H' G', Ψ ds M' → Rel K B r M' σ H' G' → Sub G G' → RepL K G' ds vs → Q vs H'
structure EkOk (K : PySem.W.Frag) (B : Bs) (G : Hp) (E : Ek) (D' : Ends) : Prop where
  nx : ∀ r' M' σ' H' G', E.nx r' M' → Rel K B r' M' σ' H' G' → Sub G G' → D'.nx σ' H'
  rt : ∀ d r' M' v σ' H' G', E.rt d M' → Rel K B r' M' σ' H' G' → Rep K G' d v → D'.rt v H'
  bk : ∀ r' M' σ' H' G', E.bk r' M' → Rel K B r' M' σ' H' G' → Sub G G' → D'.bk σ' H'
  ct : ∀ r' M' σ' H' G', E.ct r' M' → Rel K B r' M' σ' H' G' → Sub G G' → D'.ct σ' H'
theorem EkOk.mono {K : PySem.W.Frag} {B : Bs} {G G1 : Hp} {E : Ek} {D' : Ends} (k : EkOk K B G E D') (s : Sub G G1) : EkOk K B G1 E D' :=
  ⟨fun r' M' σ' H' G' q R t => k.nx r' M' σ' H' G' q R (s.tr t), k.rt, fun r' M' σ' H' G' q R t => k.bk r' M' σ' H' G' q R (s.tr t), fun r' M' σ' H' G' q R t => k.ct r' M' σ' H' G' q R (s.tr t)⟩
def liftS (K : PySem.W.Frag) (B : Bs) (f : DTS) : TS := fun D σ H => ∃ r M G E, Rel K B r M σ H G ∧ f E r M ∧ EkOk K B G E D
def liftG (K : PySem.W.Frag) (B : Bs) (f : DTG) : TG := fun v σ H Q => ∃ d r M G Ψ, Rel K B r M σ H G ∧ Rep K G d v ∧ f d r M Ψ ∧ ∀ r' M' σ' H' G', Ψ r' M' → Rel K B r' M' σ' H' G' → Sub G G' → Q σ' H'

theorem PE_imp {X : Cx} {e : Expr} {t t' : TE} (h : PE X e t) (i : ∀ σ H Q, t' σ H Q → t σ H Q) : PE X e t' := ⟨fun pins s σ H Q I q => h.run pins s σ H Q I (i _ _ _ q)⟩
theorem PT_imp {X : Cx} {e : Expr} {t t' : TT} (h : PT X e t) (i : ∀ σ H Q, t' σ H Q → t σ H Q) : PT X e t' := ⟨fun pins s σ H Q I q => h.run pins s σ H Q I (i _ _ _ q)⟩
theorem PW_imp {X : Cx} {e : Expr} {t t' : TT} (h : PW X e t) (i : ∀ σ H Q, t' σ H Q → t σ H Q) : PW X e t' := ⟨fun wh pins s σ H Q I q => h.run wh pins s σ H Q I (i _ _ _ q)⟩
theorem PA_imp {X : Cx} {e : List Expr} {t t' : TA} (h : PA X e t) (i : ∀ σ H Q, t' σ H Q → t σ H Q) : PA X e t' := ⟨fun pos pins s σ H Q I q => h.run pos pins s σ H Q I (i _ _ _ q)⟩
theorem PS_imp {X : Cx} {e : Stmt} {t t' : TS} (h : PS X e t) (i : ∀ D σ H, t' D σ H → t D σ H) : PS X e t' := ⟨fun pins s σ H D I q => h.run pins s σ H D I (i _ _ _ q)⟩
theorem PSs_imp {X : Cx} {e : List Stmt} {t t' : TS} (h : PSs X e t) (i : ∀ D σ H, t' D σ H → t D σ H) : PSs X e t' := ⟨fun pins s σ H D I q => h.run pins s σ H D I (i _ _ _ q)⟩
theorem PG_imp {X : Cx} {e : Expr} {t t' : TG} (h : PG X e t) (i : ∀ v σ H Q, t' v σ H Q → t v σ H Q) : PG X e t' := ⟨fun pins s σ H x v Q I r q => h.run pins s σ H x v Q I r (i _ _ _ _ q)⟩
abbrev DE (X : Cx) (B : Bs) (e : Expr) (f : DTE) : Prop := PE X e (lift X.K B f)
abbrev DT (X : Cx) (B : Bs) (e : Expr) (f : DTT) : Prop := PT X e (liftT X.K B f)
abbrev DW (X : Cx) (B : Bs) (e : Expr) (f : DTT) : Prop := PW X e (liftT X.K B f)
abbrev DA (X : Cx) (B : Bs) (e : List Expr) (f : DTA) : Prop := PA X e (liftA X.K B f)
abbrev DS (X : Cx) (B : Bs) (e : Stmt) (f : DTS) : Prop := PS X e (liftS X.K B f)
abbrev DSs (X : Cx) (B : Bs) (e : List Stmt) (f : DTS) : Prop := PSs X e (liftS X.K B f)
abbrev DG (X : Cx) (B : Bs) (e : Expr) (f : DTG) : Prop := PG X e (liftG X.K B f)

section
variable {X : Cx} {B : Bs} {pos : Pos} {a b e : Expr} {es : List Expr} {fa fb : DTE} {ga : DTA}
def getS (r : En) (i : Nat) (k : D → Prop) : Prop := match r[i]? with
  | some (some d) => k d
  | _ => False
theorem getS_some {r : En} {i : Nat} {k : D → Prop} (h : getS r i k) : ∃ d, r[i]? = some (some d) ∧ k d := by
  unfold getS at h
  split at h
  · rename_i d e
    exact ⟨d, e, h⟩
  · exact h.elim
theorem de_var {i : Nat} {x : Str} (hN : X.N[i]? = some x := by rfl) (hv : Vis X.env.scope x := by first | exact Or.inl rfl | exact Or.inr (Or.inl rfl) | exact Or.inr (Or.inr rfl)) (hd : (x == ("__debug__" : Str)) = false := by decide)
    (hcd : (x == ("__classdict__" : Str)) = false := by decide) : DE X B (.Name x pos) (fun r M Ψ => getS r i fun d => Ψ d M) := by
  refine PE_imp (pe_var hN hv hd hcd) fun σ H Q ⟨r, M, G, Ψ, R, h, k⟩ => ?_
  obtain ⟨d, e, h⟩ := getS_some h
  obtain ⟨v, h1, h2⟩ := R.slots _ _ e
  exact ⟨v, h1, k d M v H G h R Sub.rfl' h2⟩
theorem de_c {v : V} (h : PE X e (tC v)) {d : D} (hr : ∀ G, Rep X.K G d v) : DE X B e (fun _ M Ψ => Ψ d M) :=
  PE_imp h fun σ H Q ⟨r, M, G, Ψ, R, h, k⟩ => k _ _ _ _ _ h R Sub.rfl' (hr G)
theorem de_int {i j} : DE X B (.Constant (.int i) j pos) (fun _ M Ψ => Ψ (.int i) M) := de_c pe_int fun _ => .int
theorem de_bl {b j} : DE X B (.Constant (.bool b) j pos) (fun _ M Ψ => Ψ (.bl b) M) := de_c pe_bl fun _ => .bl
theorem de_non {j} : DE X B (.Constant .none j pos) (fun _ M Ψ => Ψ .non M) := de_c pe_non fun _ => .non
theorem de_str {x j} : DE X B (.Constant (.str x) j pos) (fun _ M Ψ => Ψ (.str x) M) := de_c pe_str fun _ => .str
theorem de_glob {x : Str} {v : V} {u : Value} {d : D} (hm : X.mg x = some u) (r : RelV v u) (hr : ∀ G, Rep X.K G d v) (hg : Gl X x := by rfl) (hd : (x == ("__debug__" : Str)) = false := by decide) : DE X B (.Name x pos) (fun _ M Ψ => Ψ d M) := de_c (pe_glob hg hm r hd) hr

theorem da_nil : DA X B [] (fun _ M Ψ => Ψ [] M) := PA_imp pa_nil fun σ H Q ⟨r, M, G, Ψ, R, h, k⟩ => k [] M [] H G h R Sub.rfl' .nil
theorem da_cons {fs : DTA} (ha : DE X B e fa) (hr : DA X B es fs) (hs : starEach (e :: es) X.env = (false, eval e X.env) :: starEach es X.env := by rfl) :
    DA X B (e :: es) (fun r M Ψ => fa r M fun d M1 => fs r M1 fun ds M2 => Ψ (d :: ds) M2) := by
  refine PA_imp (pa_cons ha hr hs) fun σ H Q ⟨r, M, G, Ψ, R, h, k⟩ => ?_
  refine ⟨r, M, G, _, R, h, fun d M1 v H1 G1 q1 R1 s1 p1 => ?_⟩
  exact ⟨r, M1, G1, _, R1, q1, fun ds M2 vs H2 G2 q2 R2 s2 p2 => k _ _ _ _ _ q2 R2 (s1.tr s2) (.cons (p1.mono s2) p2)⟩
theorem de_tup {x1} (h : DA X B es ga) : DE X B (.Tuple es x1 pos) (fun r M Ψ => ga r M fun ds M1 => ds.length ≤ sizeLine ∧ Ψ (.tup ds) M1) := by
  refine PE_imp (pe_tup h) fun σ H Q ⟨r, M, G, Ψ, R, h, k⟩ => ?_
  refine ⟨r, M, G, _, R, h, fun ds M1 vs H1 G1 ⟨z, q⟩ R1 s1 p1 => ⟨by rw [← p1.length]; exact z, fun p hp => ?_⟩⟩
  have g : Grow H1 G1 (upd H1 p (.tup vs)) (upd G1 p (.tup vs)) := grow_upd R1.wd.sub hp
  exact k _ _ _ _ _ q (R1.grow g) (s1.tr g.gsub) (.tup (SqT.of upd_same) (p1.mono g.gsub))
theorem de_lst (h : DA X B es ga) : DE X B (.List es pos) (fun r M Ψ => ga r M fun ds M1 => ds.length ≤ sizeLine ∧ Ψ (.lst ds) M1) := by
  refine PE_imp (pe_lst h) fun σ H Q ⟨r, M, G, Ψ, R, h, k⟩ => ?_
  refine ⟨r, M, G, _, R, h, fun ds M1 vs H1 G1 ⟨z, q⟩ R1 s1 p1 => ⟨by rw [← p1.length]; exact z, fun p hp => ?_⟩⟩
  have g : Grow H1 G1 (upd H1 p (.lst vs)) (upd G1 p (.lst vs)) := grow_upd R1.wd.sub hp
  exact k _ _ _ _ _ q (R1.grow g) (s1.tr g.gsub) (.lst (.inl upd_same) (p1.mono g.gsub))
def updM (M : Sto) (p : Addr) (c : Cell) : Sto := fun a => if a = p then some c else M a
theorem updM_same {M : Sto} {p : Addr} {c : Cell} : updM M p c p = some c := if_pos rfl
theorem updM_ne {M : Sto} {p a : Addr} {c : Cell} (h : a ≠ p) : updM M p c a = M a := if_neg h
theorem updM_updM {M : Sto} {p : Addr} {c c' : Cell} : updM (updM M p c) p c' = updM M p c' := by
  funext a; unfold updM; split <;> rfl
theorem cell_new {K : PySem.W.Frag} {M : Sto} {H G : Hp} {p : Addr} {o : HO} {c : Cell} (w : Wd K M H G) (hp : H p = none) (hc : CellAt K G (upd H p o) p c) : Wd K (updM M p c) (upd H p o) G ∧ Since H G M (updM M p c) (upd H p o) G := by
  have gp : G p = none := by
    cases q : G p with
    | none => rfl
    | some u => rw [w.sub _ _ q] at hp; cases hp
  refine ⟨⟨fun a u h => ?_, fun a u h => ?_⟩, ⟨fun a u h n => ?_, fun a h => ?_, Sub.rfl', fun a h n => absurd n h, fun a h n => ?_⟩⟩
  · rw [upd_ne (ne_of_none (w.sub _ _ h) hp)]; exact w.sub _ _ h
  · by_cases e : a = p
    · subst e; rw [updM_same] at h; cases h; exact ⟨gp, hc⟩
    · rw [updM_ne e] at h
      obtain ⟨h1, h2⟩ := w.cells a u h
      exact ⟨h1, h2.move Sub.rfl' fun o z => by rw [upd_ne e]; exact z⟩
  · rw [upd_ne (ne_of_none h hp)]; exact h
  · by_cases e : a = p
    · subst e; rw [upd_same]; simp
    · rw [upd_ne e]; exact h
  · by_cases e : a = p
    · subst e; exact hp
    · rw [updM_ne e] at h; exact absurd n h
theorem cell_put {K : PySem.W.Frag} {M : Sto} {H G : Hp} {p : Addr} {o : HO} {c c0 : Cell} (w : Wd K M H G) (hp : M p = some c0) (hc : CellAt K G (upd H p o) p c) : Wd K (updM M p c) (upd H p o) G ∧ Since H G M (updM M p c) (upd H p o) G := by
  obtain ⟨gp, hat⟩ := w.cells p c0 hp
  refine ⟨⟨fun a u h => ?_, fun a u h => ?_⟩, ⟨fun a u h n => ?_, fun a h => ?_, Sub.rfl', fun a h n => absurd n h, fun a h n => ?_⟩⟩
  · rw [upd_ne (ne_of_none h gp)]; exact w.sub _ _ h
  · by_cases e : a = p
    · subst e; rw [updM_same] at h; cases h; exact ⟨gp, hc⟩
    · rw [updM_ne e] at h
      obtain ⟨h1, h2⟩ := w.cells a u h
      exact ⟨h1, h2.move Sub.rfl' fun o z => by rw [upd_ne e]; exact z⟩
  · have e : a ≠ p := fun z => by subst z; rw [hp] at n; cases n
    rw [upd_ne e]; exact h
  · by_cases e : a = p
    · subst e; rw [upd_same]; simp
    · rw [upd_ne e]; exact h
  · by_cases e : a = p
    · subst e; rw [hp] at n; cases n
    · rw [updM_ne e] at h; exact absurd n h
theorem Wd.nomem {K : PySem.W.Frag} {M : Sto} {H G : Hp} {p : Addr} (w : Wd K M H G) (hp : H p = none) : M p = none := by
  cases q : M p with
  | none => rfl
  | some c => exact absurd hp (w.cells p c q).2.there
theorem de_lstM (h : DA X B es ga) : DE X B (.List es pos) (fun r M Ψ => ga r M fun ds M1 => ds.length ≤ sizeLine ∧ ∀ p, M1 p = none → Ψ (.ref p) (updM M1 p (.lst ds))) := by
  refine PE_imp (pe_lst h) fun σ H Q ⟨r, M, G, Ψ, R, h, k⟩ => ?_
  refine ⟨r, M, G, _, R, h, fun ds M1 vs H1 G1 ⟨z, q⟩ R1 s1 p1 => ⟨by rw [← p1.length]; exact z, fun p hp => ?_⟩⟩
  obtain ⟨w, s⟩ := cell_new (c := .lst ds) (o := .lst vs) R1.wd hp ⟨vs, upd_same, p1⟩
  exact k _ _ _ _ _ (q p (R1.wd.nomem hp)) (R1.go w s) s1 .ref

def Ok2 (K : PySem.W.Frag) (r : R2) (g : Sto → D → D → (D → Prop) → Prop) : Prop := ∀ (M : Sto) (H G : Hp) (x y : D) (v u : V) (φ : D → Prop) (Q : VK), Wd K M H G → Rep K G x v → Rep K G y u → g M x y φ →
  (∀ d w H' G', φ d → Grow H G H' G' → Rep K G' d w → Q w H') → r v u H Q
theorem tOp_ok {r : R2} {g : Sto → D → D → (D → Prop) → Prop} (ok : Ok2 X.K r g) {σ : L2.St} {H : Hp} {Q : VK} (h : lift X.K B (fun r M Ψ => fa r M fun x M1 => fb r M1 fun y M2 => g M2 x y fun z => Ψ z M2) σ H Q) : tOp r (lift X.K B fa) (lift X.K B fb) σ H Q := by
  obtain ⟨r, M, G, Ψ, R, h, k⟩ := h
  refine ⟨r, M, G, _, R, h, fun d M1 v H1 G1 q1 R1 s1 p1 => ?_⟩
  refine ⟨r, M1, G1, _, R1, q1, fun y M2 u H2 G2 q2 R2 s2 p2 => ?_⟩
  exact ok M2 H2 G2 _ _ _ _ _ _ R2.wd (p1.mono s2) p2 q2 fun d w H' G' f g p => k _ _ _ _ _ f (R2.grow g) ((s1.tr s2).tr g.gsub) p
theorem de_op {op : Operator} {r : R2} {g : Sto → D → D → (D → Prop) → Prop} (ho : OpR X (binaryOp op) r) (ok : Ok2 X.K r g) (ha : DE X B a fa) (hb : DE X B b fb) :
    DE X B (.BinOp a op b pos) (fun r M Ψ => fa r M fun x M1 => fb r M1 fun y M2 => g M2 x y fun z => Ψ z M2) := PE_imp (pe_op ho ha hb) fun σ H Q h => tOp_ok ok h
theorem de_cmp {op : CmpOp} {r : R2} {g : Sto → D → D → (D → Prop) → Prop} (ho : OpR X (compareOp op) r) (ok : Ok2 X.K r g) (hm : behindInMarks op b = false) (ha : DE X B a fa) (hb : DE X B b fb) :
    DE X B (.Compare a [op] [b] pos) (fun r M Ψ => fa r M fun x M1 => fb r M1 fun y M2 => g M2 x y fun z => Ψ z M2) := PE_imp (pe_cmpR ho ha hb hm) fun σ H Q h => tOp_ok ok h
end
end Z
namespace Z
open PySem PySem.Spec PyProof.Rows L2

def lstOf (M : Sto) : D → Option (List D)
  | .lst l => some l
  | .ref p => match M p with
    | some (.lst l) => some l
    | _ => none
  | _ => none
def tupOf : D → Option (List D)
  | .tup l => some l
  | .tpl l => some l
  | _ => none
section
variable {K : PySem.W.Frag} {M : Sto} {H G : Hp} {d : D} {v : V} {l : List D}
theorem lstOf_ref {a : Addr} (e : lstOf M (.ref a) = some l) : M a = some (.lst l) := by
  have e' : (match M a with | some (.lst l) => some l | _ => none) = some l := e
  split at e'
  · rename_i l' q
    rw [q, Option.some.inj e']
  · cases e'
theorem lst_rep (w : Wd K M H G) (r : Rep K G d v) (e : lstOf M d = some l) : ∃ a vs, v = .ref a ∧ Rd H a (.lst vs) ∧ RepL K G l vs := by
  cases r with
  | lst h r => cases e; exact ⟨_, _, rfl, w.sub.rd h, r⟩
  | ref =>
    obtain ⟨_, vs, h, r⟩ := w.cells _ _ (lstOf_ref e)
    exact ⟨_, vs, rfl, .inl h, r⟩
  | _ => cases e
theorem lst_rep' (w : Wd K M H G) (r : Rep K G d v) (e : lstOf M d = some l) : ∃ a vs, v = .ref a ∧ SqL K H a vs ∧ RepL K G l vs :=
  let ⟨a, vs, h1, h2, h3⟩ := lst_rep w r e
  ⟨a, vs, h1, .inl h2, h3⟩
theorem tup_rep (w : Wd K M H G) (r : Rep K G d v) (e : tupOf d = some l) : ∃ a vs, v = .ref a ∧ SqT K H a vs ∧ RepL K G l vs := by
  cases r with
  | tup h r => cases e; exact ⟨_, _, rfl, w.sub.sqT h, r⟩
  | tpl h r => cases e; exact ⟨_, _, rfl, w.sub.sqT (SqT.of h), r⟩
  | _ => cases e
theorem repL_bls {ns : List Bool} : ∀ {vs : List V}, RepL K G (ns.map D.bl) vs → vs = ns.map V.bl := by
  induction ns with
  | nil => intro vs r; cases r; rfl
  | cons n ns ih => intro vs r; cases r with | cons r1 r2 => cases r1; rw [ih r2]; rfl
end

def Dok (j : Int) : Prop := j ≠ 0 ∧ j.natAbs.log2 < 9000
theorem dok_of {j : Int} {n : Nat} (h0 : j ≠ 0) (h : j.natAbs < 2 ^ n) (hn : n ≤ 9000 := by decide) : Dok j := by
  refine ⟨h0, Nat.lt_of_lt_of_le ((Nat.log2_lt (by omega)).mpr h) hn⟩
def addD (M : Sto) (x y : D) (φ : D → Prop) : Prop := match x, y with
  | .int i, .int j => φ (.int (i + j))
  | .str a, .str b => a.length + b.length ≤ sizeLine ∧ φ (.str (a ++ b))
  | .tup a, .tup b => a.length + b.length ≤ sizeLine ∧ φ (.tup (a ++ b))
  | .int i, .bl b => φ (.int (i + b2i b))
  | x, y => ∃ a b, lstOf M x = some a ∧ lstOf M y = some b ∧ a.length + b.length ≤ sizeLine ∧ φ (.lst (a ++ b))
def subD (_ : Sto) (x y : D) (φ : D → Prop) : Prop := match x, y with
  | .int i, .int j => φ (.int (i - j))
  | _, _ => False
def mulD (_ : Sto) (x y : D) (φ : D → Prop) : Prop := match x, y with
  | .int i, .int j => IntMulOk i j ∧ φ (.int (i * j))
  | _, _ => False
def fdivD (_ : Sto) (x y : D) (φ : D → Prop) : Prop := match x, y with
  | .int i, .int j => Dok j ∧ φ (.int (i.fdiv j))
  | _, _ => False
def fmodD (_ : Sto) (x y : D) (φ : D → Prop) : Prop := match x, y with
  | .int i, .int j => j ≠ 0 ∧ φ (.int (i.fmod j))
  | _, _ => False
def powD (_ : Sto) (x y : D) (φ : D → Prop) : Prop := match x, y with
  | .int i, .int j => CPow i j ∧ φ (.int (i ^ j.toNat))
  | _, _ => False
section
variable {X : Cx}
theorem rd_lst {pins : List (Addr × Obj)} {σ : L2.St} {H : Hp} {s : Shared} {l : Addr} {xs : List V} (I : Inv X pins σ H s) (h : Rd H l (.lst xs)) : xs.length ≤ sizeLine ∧ ∃ (its : List Value) (n : Nat), Vals xs its ∧ xs.length = its.length ∧ s.heap.get? l = some { cls := .type "list", data := .seq its.toArray n } := by
  obtain ⟨z, its, n, r, e⟩ := h.ok I.hok
  exact ⟨z, its, n, r, r.length, e⟩
def rCatL : R2 := fun x y H Q => ∃ l b xs zs, x = .ref l ∧ y = .ref b ∧ Rd H l (.lst xs) ∧ Rd H b (.lst zs) ∧ xs.length + zs.length ≤ sizeLine ∧ ∀ p, H p = none → Q (.ref p) (upd H p (.lst (xs ++ zs)))
theorem op_catL : OpR X (binaryOp .Add) rCatL := by
  intro pins s σ H x y v u Q I rx ry h
  obtain ⟨l, b, xs, zs, rfl, rfl, hH, hB, hz, q⟩ := h
  cases rx
  cases ry
  obtain ⟨z, its, n, r, hl, e⟩ := rd_lst I hH
  obtain ⟨z2, its2, n2, r2, hl2, e2⟩ := rd_lst I hB
  refine PySem.P.add_list e e2 ?_ (by rw [List.size_toArray, List.size_toArray]; omega)
  have ea : its.toArray ++ its2.toArray = (its ++ its2).toArray := by simp
  rw [ea]
  exact ⟨.ref _, _, I.lnew (t' := s.toks) (r.append r2) (by rw [List.length_append]; omega), rfl, q _ I.fresh⟩
theorem op_fdivZ : OpR X (binaryOp .FloorDiv) (rI (fun _ j => Dok j) fun i j => .int (i.fdiv j)) := opI fun _ _ _ _ _ _ _ hc q => floordiv_int hc.1 q (.inl (PyProof.noPylong_of_log2 hc.2))
theorem op_mulZ : OpR X (binaryOp .Mult) (rI IntMulOk fun i j => .int (i * j)) := opI fun _ _ _ _ _ _ _ hc q => mul_int q hc

theorem ok_int (C : Int → Int → Prop) (g : Int → Int → V) (gd : Int → Int → D) (hg : ∀ K G i j, Rep K G (gd i j) (g i j)) (f : Sto → D → D → (D → Prop) → Prop) (hf : ∀ M x y φ, f M x y φ → ∃ i j, x = .int i ∧ y = .int j ∧ C i j ∧ φ (gd i j)) {K : PySem.W.Frag} : Ok2 K (rI C g) f := fun M H G x y v u φ Q w rx ry h k => by
  obtain ⟨i, j, rfl, rfl, c, q⟩ := hf _ _ _ _ h
  cases rx
  cases ry
  exact ⟨i, j, rfl, rfl, c, k _ _ _ _ q (Grow.refl w.sub) (hg _ _ _ _)⟩
theorem ok_sub {K : PySem.W.Frag} : Ok2 K (rI0 fun i j => .int (i - j)) subD := fun M H G x y v u φ Q w rx ry h k => by
  unfold subD at h
  split at h
  · cases rx; cases ry; exact ⟨_, _, rfl, rfl, k _ _ _ _ h (Grow.refl w.sub) .int⟩
  · exact h.elim
theorem ok_mul {K : PySem.W.Frag} : Ok2 K (rI IntMulOk fun i j => .int (i * j)) mulD := ok_int _ _ (fun i j => .int (i * j)) (fun _ _ _ _ => .int) _ fun M x y φ h => by
  unfold mulD at h
  split at h
  · exact ⟨_, _, rfl, rfl, h⟩
  · exact h.elim
theorem ok_fdiv {K : PySem.W.Frag} : Ok2 K (rI (fun _ j => Dok j) fun i j => .int (i.fdiv j)) fdivD := ok_int _ _ (fun i j => .int (i.fdiv j)) (fun _ _ _ _ => .int) _ fun M x y φ h => by
  unfold fdivD at h
  split at h
  · exact ⟨_, _, rfl, rfl, h⟩
  · exact h.elim
theorem ok_fmod {K : PySem.W.Frag} : Ok2 K (rI (fun _ j => j ≠ 0) fun i j => .int (i.fmod j)) fmodD := ok_int _ _ (fun i j => .int (i.fmod j)) (fun _ _ _ _ => .int) _ fun M x y φ h => by
  unfold fmodD at h
  split at h
  · exact ⟨_, _, rfl, rfl, h⟩
  · exact h.elim
theorem ok_pow {K : PySem.W.Frag} : Ok2 K (rI CPow fun i j => .int (i ^ j.toNat)) powD := ok_int _ _ (fun i j => .int (i ^ j.toNat)) (fun _ _ _ _ => .int) _ fun M x y φ h => by
  unfold powD at h
  split at h
  · exact ⟨_, _, rfl, rfl, h⟩
  · exact h.elim
def rAddA (K : PySem.W.Frag) : R2 := fun x y H Q => rI0 (fun i j => .int (i + j)) x y H Q ∨ (∃ i j, x = .str i ∧ y = .str j ∧ i.length + j.length ≤ sizeLine ∧ Q (.str (i ++ j)) H) ∨ rCatA K x y H Q ∨
  (∃ i k, x = .int i ∧ y = .bl k ∧ Q (.int (i + b2i k)) H) ∨ rCatL x y H Q
theorem op_addA : OpR X (binaryOp .Add) (rAddA X.K) := op_add.or (op_add_str.or (op_catA.or (op_add_ib.or op_catL)))
theorem ok_add {K : PySem.W.Frag} : Ok2 K (rAddA K) addD := fun M H G x y v u φ Q w rx ry h k => by
  unfold addD at h
  split at h
  · cases rx; cases ry; exact .inl ⟨_, _, rfl, rfl, k _ _ _ _ h (Grow.refl w.sub) .int⟩
  · cases rx; cases ry; exact .inr (.inl ⟨_, _, rfl, rfl, h.1, k _ _ _ _ h.2 (Grow.refl w.sub) .str⟩)
  · rename_i a b
    obtain ⟨p, vs, rfl, h1, r1⟩ := tup_rep w rx (l := a) rfl
    obtain ⟨q, us, rfl, h2, r2⟩ := tup_rep w ry (l := b) rfl
    refine .inr (.inr (.inl ⟨p, q, vs, us, rfl, rfl, h1, h2, by rw [← r1.length, ← r2.length]; exact h.1, fun e => ?_, fun _ e => ?_, fun _ _ p hp => ?_⟩))
    · subst e; cases r1
      exact k _ _ _ _ h.2 (Grow.refl w.sub) ry
    · subst e; cases r2
      rw [List.append_nil] at h
      exact k _ _ _ _ h.2 (Grow.refl w.sub) rx
    · have g : Grow H G (upd H p (.tup (vs ++ us))) (upd G p (.tup (vs ++ us))) := grow_upd w.sub hp
      exact k _ _ _ _ h.2 g (.tup (SqT.of upd_same) ((r1.app r2).mono g.gsub))
  · cases rx; cases ry; exact .inr (.inr (.inr (.inl ⟨_, _, rfl, rfl, k _ _ _ _ h (Grow.refl w.sub) .int⟩)))
  · obtain ⟨a, b, e1, e2, z, q⟩ := h
    obtain ⟨p, vs, rfl, h1, r1⟩ := lst_rep w rx e1
    obtain ⟨q', us, rfl, h2, r2⟩ := lst_rep w ry e2
    refine .inr (.inr (.inr (.inr ⟨p, q', vs, us, rfl, rfl, h1, h2, by rw [← r1.length, ← r2.length]; exact z, fun p hp => ?_⟩)))
    have g : Grow H G (upd H p (.lst (vs ++ us))) (upd G p (.lst (vs ++ us))) := grow_upd w.sub hp
    exact k _ _ _ _ q g (.lst (.inl upd_same) ((r1.app r2).mono g.gsub))
end
section
variable {X : Cx} {B : Bs} {pos : Pos} {a b e : Expr} {es : List Expr} {fa fb : DTE} {ga : DTA}
theorem de_add (ha : DE X B a fa) (hb : DE X B b fb) : DE X B (.BinOp a .Add b pos) (fun r M Ψ => fa r M fun x M1 => fb r M1 fun y M2 => addD M2 x y fun z => Ψ z M2) := de_op op_addA ok_add ha hb
theorem de_sub (ha : DE X B a fa) (hb : DE X B b fb) : DE X B (.BinOp a .Sub b pos) (fun r M Ψ => fa r M fun x M1 => fb r M1 fun y M2 => subD M2 x y fun z => Ψ z M2) := de_op op_sub ok_sub ha hb
theorem de_mul (ha : DE X B a fa) (hb : DE X B b fb) : DE X B (.BinOp a .Mult b pos) (fun r M Ψ => fa r M fun x M1 => fb r M1 fun y M2 => mulD M2 x y fun z => Ψ z M2) := de_op op_mulZ ok_mul ha hb
theorem de_fdiv (ha : DE X B a fa) (hb : DE X B b fb) : DE X B (.BinOp a .FloorDiv b pos) (fun r M Ψ => fa r M fun x M1 => fb r M1 fun y M2 => fdivD M2 x y fun z => Ψ z M2) := de_op op_fdivZ ok_fdiv ha hb
theorem de_fmod (ha : DE X B a fa) (hb : DE X B b fb) : DE X B (.BinOp a .Mod b pos) (fun r M Ψ => fa r M fun x M1 => fb r M1 fun y M2 => fmodD M2 x y fun z => Ψ z M2) := de_op op_modN ok_fmod ha hb
theorem de_pow (ha : DE X B a fa) (hb : DE X B b fb) : DE X B (.BinOp a .Pow b pos) (fun r M Ψ => fa r M fun x M1 => fb r M1 fun y M2 => powD M2 x y fun z => Ψ z M2) := de_op op_pow ok_pow ha hb
theorem de_neg (ha : DE X B a fa) : DE X B (.UnaryOp .USub a pos) (fun r M Ψ => fa r M fun x M1 => match x with | .int i => Ψ (.int (-i)) M1 | _ => False) :=
  PE_imp (pe_un un_neg ha) fun σ H Q ⟨r, M, G, Ψ, R, h, k⟩ => by
    refine ⟨r, M, G, _, R, h, fun d M1 v H1 G1 q1 R1 s1 p1 => ?_⟩
    cases p1 with
    | int => exact ⟨_, rfl, k _ _ _ _ _ q1 R1 s1 .int⟩
    | _ => exact q1.elim
end
end Z
namespace Z
open PySem PySem.Spec PyProof.Rows L2

mutual
def pd : D → Option PyData
  | .non => some .none
  | .bl b => some (.bool b)
  | .int i => some (.int i)
  | .str x => some (.str x)
  | .tup l => (pdL l).map .tuple
  | .lst l => (pdL l).map .list
  | .tpl l => (pdL l).map .tuple
  | _ => none
def pdL : List D → Option (List PyData)
  | [] => some []
  | d :: r => match pd d, pdL r with
    | some x, some xs => some (x :: xs)
    | _, _ => none
end
def toPd (M : Sto) (d : D) : Option PyData := match lstOf M d with
  | some l => (pdL l).map .list
  | none => pd d
section
variable {K : PySem.W.Frag} {G H : Hp}
mutual
theorem dp_of (s : Sub G H) : ∀ (d : D) (v : V) (p : PyData), Rep K G d v → pd d = some p → Dp K H v p
  | .non, _, _, r, e => by cases r; cases e; exact .non
  | .bl b, _, _, r, e => by cases r; cases e; exact .bl b
  | .int i, _, _, r, e => by cases r; cases e; exact .int i
  | .str x, _, _, r, e => by cases r; cases e; exact .str x
  | .tup l, _, _, r, e => by
    cases r with
    | tup h r =>
      obtain ⟨q, e1, e2⟩ := Option.map_eq_some_iff.mp (show (pdL l).map PyData.tuple = some _ from e)
      subst e2
      exact .tup (s.sqT h) (dp_all s l _ _ r e1)
  | .lst l, _, _, r, e => by
    cases r with
    | lst h r =>
      obtain ⟨q, e1, e2⟩ := Option.map_eq_some_iff.mp (show (pdL l).map PyData.list = some _ from e)
      subst e2
      exact .lst (.inl (s.rd h)) (dp_all s l _ _ r e1)
  | .tpl l, _, _, r, e => by
    cases r with
    | tpl h r =>
      obtain ⟨q, e1, e2⟩ := Option.map_eq_some_iff.mp (show (pdL l).map PyData.tuple = some _ from e)
      subst e2
      exact .tup (s.sqT (SqT.of h)) (dp_all s l _ _ r e1)
  | .ty _, _, _, _, e => by cases e
  | .ref _, _, _, _, e => by cases e
  | .dic _, _, _, _, e => by cases e
  | .dlk _, _, _, _, e => by cases e
  | .fn _, _, _, _, e => by cases e
  | .obj _ _, _, _, _, e => by cases e
theorem dp_all (s : Sub G H) : ∀ (l : List D) (vs : List V) (ps : List PyData), RepL K G l vs → pdL l = some ps → DpAll K H vs ps
  | [], _, _, r, e => by cases r; cases e; exact .nil
  | d :: l, _, _, r, e => by
    cases r with
    | cons r1 r2 =>
      unfold pdL at e
      split at e
      · rename_i x xs e1 e2
        cases e
        exact .cons (dp_of s d _ _ r1 e1) (dp_all s l _ _ r2 e2)
      · cases e
end
theorem toPd_dp {M : Sto} {d : D} {v : V} {p : PyData} (w : Wd K M H G) (r : Rep K G d v) (e : toPd M d = some p) : Dp K H v p := by
  unfold toPd at e
  split at e
  · rename_i l q
    obtain ⟨a, vs, rfl, h, r2⟩ := lst_rep' w r q
    obtain ⟨ps, e1, e2⟩ := Option.map_eq_some_iff.mp e
    subst e2
    exact .lst h (dp_all w.sub l _ _ r2 e1)
  · exact dp_of w.sub d v p r e
end
def eqvD (M : Sto) (x y : D) (φ : Bool → Prop) : Prop := match x, y with
  | .int i, .int j => φ (decide (i = j))
  | .str a, .str b => φ (decide (a = b))
  | .bl a, .bl b => φ (decide (a = b))
  | x, y => ∃ p q, toPd M x = some p ∧ toPd M y = some q ∧ SeqAt.shaped p = true ∧ SeqAt.shaped q = true ∧ φ (PyData.eqv p q)
@[irreducible] def eqD (M : Sto) (x y : D) (φ : D → Prop) : Prop := eqvD M x y fun b => φ (.bl b)
@[irreducible] def neD (M : Sto) (x y : D) (φ : D → Prop) : Prop := eqvD M x y fun b => φ (.bl (!b))
def cmpD (p : Int → Int → Bool) (_ : Sto) (x y : D) (φ : D → Prop) : Prop := match x, y with
  | .int i, .int j => φ (.bl (p i j))
  | _, _ => False
abbrev ltD := cmpD fun i j => decide (i < j)
abbrev leD := cmpD fun i j => decide (i ≤ j)
abbrev gtD := cmpD fun i j => decide (j < i)
abbrev geD := cmpD fun i j => decide (j ≤ i)
def isN (d : D) : Bool := match d with
  | .non => true
  | _ => false
def isD (_ : Sto) (x y : D) (φ : D → Prop) : Prop := match y with
  | .non => φ (.bl (isN x))
  | _ => False
def isntD (_ : Sto) (x y : D) (φ : D → Prop) : Prop := match y with
  | .non => φ (.bl (!isN x))
  | _ => False
def flatD (d : D) : Bool := match d with
  | .non => true
  | .bl _ => true
  | .int _ => true
  | .str _ => true
  | _ => false
def inQ (M : Sto) (x y : D) (φ : Bool → Prop) : Prop := match y with
  | .str z => ∃ c, x = .str ⟨#[c]⟩ ∧ φ (decide (c ∈ z.cps.toList))
  | .tup l => ∃ p ps, pd x = some p ∧ pdL l = some ps ∧ l.all flatD = true ∧
      flatD x = true ∧ φ (ps.any fun z => PyData.eqv z p)
  | y => ∃ l p ps, lstOf M y = some l ∧ toPd M x = some p ∧ pdL l = some ps ∧ SeqAt.shaped p = true ∧ SeqAt.shaped (.list ps) = true ∧ φ (ps.any fun z => PyData.eqv z p)
def inD (M : Sto) (x y : D) (φ : D → Prop) : Prop := inQ M x y fun b => φ (.bl b)
def ninD (M : Sto) (x y : D) (φ : D → Prop) : Prop := inQ M x y fun b => φ (.bl (!b))

section
variable {K : PySem.W.Frag} {M : Sto} {H G : Hp}
theorem repN {d : D} {v : V} (r : Rep K G d v) : decide (v = .non) = isN d := by
  cases r <;> simp [isN]
def rEqA (K : PySem.W.Frag) : R2 := fun x y H Q => rEq x y H Q ∨ rEqD K x y H Q
def rNeA (K : PySem.W.Frag) : R2 := fun x y H Q => rNe x y H Q ∨ rNeD K x y H Q
theorem ok_eq : Ok2 K (rEqA K) eqD := fun M H G x y v u φ Q w rx ry h k => by
  unfold eqD eqvD at h
  split at h
  · cases rx; cases ry
    exact .inl ⟨rfl, k _ _ _ _ h (Grow.refl w.sub) (by rw [show decide (V.int _ = V.int _) = _ from dec_int, Bool.beq_eq_decide_eq]; exact .bl)⟩
  · cases rx; cases ry
    exact .inl ⟨rfl, k _ _ _ _ h (Grow.refl w.sub) (by rw [show decide (V.str _ = V.str _) = _ from dec_str, Bool.beq_eq_decide_eq]; exact .bl)⟩
  · cases rx; cases ry
    exact .inl ⟨rfl, k _ _ _ _ h (Grow.refl w.sub) (by rw [show decide (V.bl _ = V.bl _) = _ from dec_bl, Bool.beq_eq_decide_eq]; exact .bl)⟩
  · obtain ⟨p, q, e1, e2, s1, s2, h⟩ := h
    exact .inr ⟨p, q, toPd_dp w rx e1, toPd_dp w ry e2, s1, s2, k _ _ _ _ h (Grow.refl w.sub) .bl⟩
theorem ok_ne : Ok2 K (rNeA K) neD := fun M H G x y v u φ Q w rx ry h k => by
  unfold neD eqvD at h
  split at h
  · cases rx; cases ry
    exact .inl ⟨rfl, k _ _ _ _ h (Grow.refl w.sub) (by rw [show decide (V.int _ = V.int _) = _ from dec_int, Bool.beq_eq_decide_eq]; exact .bl)⟩
  · cases rx; cases ry
    exact .inl ⟨rfl, k _ _ _ _ h (Grow.refl w.sub) (by rw [show decide (V.str _ = V.str _) = _ from dec_str, Bool.beq_eq_decide_eq]; exact .bl)⟩
  · cases rx; cases ry
    exact .inl ⟨rfl, k _ _ _ _ h (Grow.refl w.sub) (by rw [show decide (V.bl _ = V.bl _) = _ from dec_bl, Bool.beq_eq_decide_eq]; exact .bl)⟩
  · obtain ⟨p, q, e1, e2, s1, s2, h⟩ := h
    exact .inr ⟨p, q, toPd_dp w rx e1, toPd_dp w ry e2, s1, s2, k _ _ _ _ h (Grow.refl w.sub) .bl⟩
theorem ok_cmp (p : Int → Int → Bool) : Ok2 K (rI0 fun i j => .bl (p i j)) (cmpD p) := fun M H G x y v u φ Q w rx ry h k => by
  unfold cmpD at h
  split at h
  · cases rx; cases ry; exact ⟨_, _, rfl, rfl, k _ _ _ _ h (Grow.refl w.sub) .bl⟩
  · exact h.elim
theorem ok_is : Ok2 K (fun x y H Q => y = .non ∧ Q (.bl (decide (x = .non))) H) isD := fun M H G x y v u φ Q w rx ry h k => by
  unfold isD at h
  split at h
  · cases ry
    exact ⟨rfl, by rw [repN rx]; exact k _ _ _ _ h (Grow.refl w.sub) .bl⟩
  · exact h.elim
theorem ok_isnt : Ok2 K (fun x y H Q => y = .non ∧ Q (.bl (!decide (x = .non))) H) isntD := fun M H G x y v u φ Q w rx ry h k => by
  unfold isntD at h
  split at h
  · cases ry
    exact ⟨rfl, by rw [repN rx]; exact k _ _ _ _ h (Grow.refl w.sub) .bl⟩
  · exact h.elim
end
theorem pd_flat {K : PySem.W.Frag} {G : Hp} {d : D} {v : V} {p : PyData} (r : Rep K G d v) (e : pd d = some p) (f : flatD d = true) : flatV v = true := by
  cases r <;> first | rfl | exact absurd f Bool.false_ne_true
theorem eqv_flat {K : PySem.W.Frag} {G : Hp} {d c : D} {v u : V} {p q : PyData} (r : Rep K G d v) (r' : Rep K G c u) (e : pd d = some p) (e' : pd c = some q) (f : flatD d = true)
    (f' : flatD c = true) : eqV v u = PyData.eqv p q := by
  cases r <;> first | exact absurd f Bool.false_ne_true | (cases r' <;> first | exact absurd f' Bool.false_ne_true | (cases e; cases e'; simp [eqV, PyData.eqv]))
theorem any_flat {K : PySem.W.Frag} {G : Hp} {c : D} {u : V} {q : PyData} (r' : Rep K G c u) (e' : pd c = some q) (f' : flatD c = true) :
    ∀ {l : List D} {vs : List V} {ps : List PyData}, RepL K G l vs → pdL l = some ps → l.all flatD = true →
      vs.all flatV = true ∧ inV u vs = ps.any fun z => PyData.eqv z q
  | _, _, _, .nil, e, f => by cases e; exact ⟨rfl, rfl⟩
  | d :: l, v :: vs, ps, .cons r1 r2, e, f => by
    unfold pdL at e
    split at e
    · rename_i x xs e1 e2
      cases e
      rw [List.all_cons, Bool.and_eq_true] at f
      obtain ⟨h1, h2⟩ := any_flat r' e' f' r2 e2 f.2
      refine ⟨by rw [List.all_cons, Bool.and_eq_true]; exact ⟨pd_flat r1 e1 f.1, h1⟩, ?_⟩
      unfold inV at h2 ⊢
      rw [List.any_cons, List.any_cons, h2, eqv_flat r1 r' e1 e' f.1 f']
    · cases e
section
variable {X : Cx}
def rInA (K : PySem.W.Frag) : R2 := fun x y H Q => (∃ (c : Nat) (z : Str), x = .str ⟨#[c]⟩ ∧ y = .str z ∧ Q (.bl (decide (c ∈ z.cps.toList))) H) ∨ rIn K false x y H Q ∨ rInD K x y H Q
def rNinA (K : PySem.W.Frag) : R2 := fun x y H Q => (∃ (c : Nat) (z : Str), x = .str ⟨#[c]⟩ ∧ y = .str z ∧ Q (.bl (!decide (c ∈ z.cps.toList))) H) ∨ rIn K true x y H Q ∨ rNotInD K x y H Q
theorem ok_in {K : PySem.W.Frag} : Ok2 K (rInA K) inD := fun M H G x y v u φ Q w rx ry h k => by
  unfold inD inQ at h
  split at h
  · obtain ⟨c, rfl, h⟩ := h
    cases rx; cases ry
    exact .inl ⟨c, _, rfl, rfl, k _ _ _ _ h (Grow.refl w.sub) .bl⟩
  · rename_i l
    obtain ⟨p, ps, e1, e2, f, f', h⟩ := h
    obtain ⟨a, vs, rfl, h1, r1⟩ := tup_rep w ry (l := l) rfl
    obtain ⟨z1, z2⟩ := any_flat rx e1 f' r1 e2 f
    refine .inr (.inl ⟨a, vs, rfl, .inr h1, pd_flat rx e1 f', z1, ?_⟩)
    show Q (.bl (inV v vs)) H
    rw [z2]
    exact k _ _ _ _ h (Grow.refl w.sub) .bl
  · obtain ⟨l, p, ps, e0, e1, e2, s1, s2, h⟩ := h
    obtain ⟨a, vs, rfl, h1, r1⟩ := lst_rep' w ry e0
    exact .inr (.inr ⟨p, ps, toPd_dp w rx e1, .lst h1 (dp_all w.sub l _ _ r1 e2), s1, s2, k _ _ _ _ h (Grow.refl w.sub) .bl⟩)
theorem ok_nin {K : PySem.W.Frag} : Ok2 K (rNinA K) ninD := fun M H G x y v u φ Q w rx ry h k => by
  unfold ninD inQ at h
  split at h
  · obtain ⟨c, rfl, h⟩ := h
    cases rx; cases ry
    exact .inl ⟨c, _, rfl, rfl, k _ _ _ _ h (Grow.refl w.sub) .bl⟩
  · rename_i l
    obtain ⟨p, ps, e1, e2, f, f', h⟩ := h
    obtain ⟨a, vs, rfl, h1, r1⟩ := tup_rep w ry (l := l) rfl
    obtain ⟨z1, z2⟩ := any_flat rx e1 f' r1 e2 f
    refine .inr (.inl ⟨a, vs, rfl, .inr h1, pd_flat rx e1 f', z1, ?_⟩)
    show Q (.bl (!inV v vs)) H
    rw [z2]
    exact k _ _ _ _ h (Grow.refl w.sub) .bl
  · obtain ⟨l, p, ps, e0, e1, e2, s1, s2, h⟩ := h
    obtain ⟨a, vs, rfl, h1, r1⟩ := lst_rep' w ry e0
    exact .inr (.inr ⟨p, ps, toPd_dp w rx e1, .lst h1 (dp_all w.sub l _ _ r1 e2), s1, s2, k _ _ _ _ h (Grow.refl w.sub) .bl⟩)
theorem room65 {k : Nat} {A : Around} (r : Room k A) : A.units + 65 < cLine := by have := r.un; omega
end

section
variable {X : Cx} {B : Bs} {pos : Pos} {a b c e : Expr} {es : List Expr} {fa fb fc : DTE} {ga : DTA} {ta tb : DTT} {k : Nat}
abbrev bin2 (g : Sto → D → D → (D → Prop) → Prop) (fa fb : DTE) : DTE := fun r M Ψ => fa r M fun x M1 => fb r M1 fun y M2 => g M2 x y fun z => Ψ z M2
theorem de_eq (hr : Room k X.A) (ha : DE X B a fa) (hb : DE X B b fb) : DE X B (.Compare a [.Eq] [b] pos) (bin2 eqD fa fb) := de_cmp (op_eq.or (op_eqD hr.units)) ok_eq (nomark _) ha hb
theorem de_ne (hr : Room k X.A) (ha : DE X B a fa) (hb : DE X B b fb) : DE X B (.Compare a [.NotEq] [b] pos) (bin2 neD fa fb) := de_cmp (op_ne.or (op_neD hr.units)) ok_ne (nomark _) ha hb
theorem de_is (ha : DE X B a fa) (hb : DE X B b fb) : DE X B (.Compare a [.Is] [b] pos) (bin2 isD fa fb) := de_cmp op_isN ok_is (nomark _) ha hb
theorem de_isnt (ha : DE X B a fa) (hb : DE X B b fb) : DE X B (.Compare a [.IsNot] [b] pos) (bin2 isntD fa fb) := de_cmp op_notN ok_isnt (nomark _) ha hb
theorem de_in (hr : Room k X.A) (ha : DE X B a fa) (hb : DE X B b fb) (hm : behindInMarks .In b = false := by rfl) : DE X B (.Compare a [.In] [b] pos) (bin2 inD fa fb) := de_cmp (op_in_sign.or (op_in_seq.or (op_inD (room65 hr)))) ok_in hm ha hb
@[irreducible] def blD (k : Bool → Prop) (d : D) : Prop := match d with
  | .bl b => k b
  | _ => False
theorem tTest_ok (σ : L2.St) (H : Hp) (Q : Bool → Hp → Prop) (h : liftT X.K B (fun r M Ψ => fa r M fun x M1 => blD (fun b => Ψ b M1) x) σ H Q) : tTest (lift X.K B fa) σ H Q := by
  obtain ⟨r, M, G, Ψ, R, h, k⟩ := h
  refine ⟨r, M, G, _, R, h, fun d M1 v H1 G1 q1 R1 s1 p1 => ?_⟩
  unfold blD at q1
  cases p1 with
  | bl => exact ⟨_, rfl, k _ _ _ _ q1 R1 s1⟩
  | _ => exact q1.elim
theorem PE_test {t : TE} (h : PE X e t) (he : ∀ whole, isTrue e X.env whole = (do let v ← whole; standAt e.pos; holding [v] (truthy v)) := by intro _; rfl) : PT X e (tTest t) := by
  refine ⟨fun pins s σ H Q I hw => ?_⟩
  refine isTrue_plain (thn (h.run pins s σ H _ I hw) fun v s1 ⟨x, H1, I1, r1, q1⟩ => ?_) (he _)
  obtain ⟨d, rfl, q⟩ := q1
  cases r1
  exact wpAny_truthy_bool ⟨H1, I1, q⟩
theorem dt_val (h : DE X B e fa) (he : ∀ whole, isTrue e X.env whole = (do let v ← whole; standAt e.pos; holding [v] (truthy v)) := by intro _; rfl) : DT X B e (fun r M Ψ => fa r M fun x M1 => blD (fun b => Ψ b M1) x) :=
  PT_imp (PE_test h he) tTest_ok
theorem tOp_okT {r : R2} {g : Sto → D → D → (D → Prop) → Prop} (ok : Ok2 X.K r g) (σ : L2.St) (H : Hp) (Q : Bool → Hp → Prop) (h : liftT X.K B (fun r M Ψ => fa r M fun x M1 => fb r M1 fun y M2 => g M2 x y fun z => blD (fun b => Ψ b M2) z) σ H Q) :
    tTest (tOp r (lift X.K B fa) (lift X.K B fb)) σ H Q := by
  obtain ⟨r, M, G, Ψ, R, h, k⟩ := h
  refine ⟨r, M, G, _, R, h, fun d M1 v H1 G1 q1 R1 s1 p1 => ?_⟩
  refine ⟨r, M1, G1, _, R1, q1, fun y M2 u H2 G2 q2 R2 s2 p2 => ?_⟩
  refine ok M2 H2 G2 _ _ _ _ _ _ R2.wd (p1.mono s2) p2 q2 fun d w H' G' f g p => ?_
  unfold blD at f
  cases p with
  | bl => exact ⟨_, rfl, k _ _ _ _ f (R2.grow g) ((s1.tr s2).tr g.gsub)⟩
  | _ => exact f.elim
abbrev bin2T (g : Sto → D → D → (D → Prop) → Prop) (fa fb : DTE) : DTT := fun r M Ψ => fa r M fun x M1 => fb r M1 fun y M2 => g M2 x y fun z => blD (fun b => Ψ b M2) z
theorem dt_cmp {op : CmpOp} {r : R2} {g : Sto → D → D → (D → Prop) → Prop} (ho : OpR X (compareOp op) r) (ok : Ok2 X.K r g) (hm : behindInMarks op b = false) (ha : DE X B a fa) (hb : DE X B b fb) :
    DT X B (.Compare a [op] [b] pos) (bin2T g fa fb) := PT_imp (pt_cmpR ho ha hb hm) (tOp_okT ok)
theorem dt_ne (hr : Room k X.A) (ha : DE X B a fa) (hb : DE X B b fb) : DT X B (.Compare a [.NotEq] [b] pos) (bin2T neD fa fb) := dt_cmp (op_ne.or (op_neD hr.units)) ok_ne (nomark _) ha hb
theorem dt_lt (ha : DE X B a fa) (hb : DE X B b fb) : DT X B (.Compare a [.Lt] [b] pos) (bin2T ltD fa fb) := dt_cmp op_lt (ok_cmp _) (nomark _) ha hb
theorem dt_le (ha : DE X B a fa) (hb : DE X B b fb) : DT X B (.Compare a [.LtE] [b] pos) (bin2T leD fa fb) := dt_cmp op_le (ok_cmp _) (nomark _) ha hb
theorem dt_gt (ha : DE X B a fa) (hb : DE X B b fb) : DT X B (.Compare a [.Gt] [b] pos) (bin2T gtD fa fb) := dt_cmp op_gt (ok_cmp _) (nomark _) ha hb
theorem dt_is (ha : DE X B a fa) (hb : DE X B b fb) : DT X B (.Compare a [.Is] [b] pos) (bin2T isD fa fb) := dt_cmp op_isN ok_is (nomark _) ha hb
theorem dt_isnt (ha : DE X B a fa) (hb : DE X B b fb) : DT X B (.Compare a [.IsNot] [b] pos) (bin2T isntD fa fb) := dt_cmp op_notN ok_isnt (nomark _) ha hb
theorem dt_nin (hr : Room k X.A) (ha : DE X B a fa) (hb : DE X B b fb) (hm : behindInMarks .NotIn b = false := by rfl) : DT X B (.Compare a [.NotIn] [b] pos) (bin2T ninD fa fb) := dt_cmp (op_notIn_sign.or (op_notIn_seq.or (op_notInD (room65 hr)))) ok_nin hm ha hb
def chainD (g g' : Sto → D → D → (D → Prop) → Prop) (fa fb fc : DTE) (r : En) (M : Sto) (Ψ : Bool → Sto → Prop) : Prop :=
  fa r M fun x M1 => fb r M1 fun y M2 => g M2 x y fun z => blD (fun b => if b = true then fc r M2 fun u M3 => g' M3 y u fun z' => blD (fun b => Ψ b M3) z' else Ψ false M2) z
theorem tChain_ok {r r' : R2} {g g' : Sto → D → D → (D → Prop) → Prop} (ok : Ok2 X.K r g) (ok' : Ok2 X.K r' g') (σ : L2.St) (H : Hp) (Q : VK) (h : lift X.K B (fun r M Ψ => chainD g g' fa fb fc r M fun b M1 => Ψ (.bl b) M1) σ H Q) :
    tChain r r' (lift X.K B fa) (lift X.K B fb) (lift X.K B fc) σ H Q := by
  obtain ⟨r, M, G, Ψ, R, h, k⟩ := h
  refine ⟨r, M, G, _, R, h, fun d M1 v H1 G1 q1 R1 s1 p1 => ?_⟩
  refine ⟨r, M1, G1, _, R1, q1, fun y M2 u H2 G2 q2 R2 s2 p2 => ?_⟩
  refine ok M2 H2 G2 _ _ _ _ _ _ R2.wd (p1.mono s2) p2 q2 fun d w H' G' f g p => ?_
  have s3 : Sub G G' := (s1.tr s2).tr g.gsub
  unfold blD at f
  cases p with
  | @bl c =>
    refine ⟨c, rfl, ?_⟩
    cases c with
    | false => exact k _ _ _ _ _ f (R2.grow g) s3 .bl
    | true =>
      refine ⟨r, M2, G', _, R2.grow g, f, fun z M4 w H4 G4 q4 R4 s4 p4 => ?_⟩
      refine ok' M4 H4 G4 _ _ _ _ _ _ R4.wd (p2.mono (g.gsub.tr s4)) p4 q4 fun d w H5 G5 f g p => ?_
      cases p with
      | bl => exact k _ _ _ _ _ f (R4.grow g) ((s3.tr s4).tr g.gsub) .bl
      | _ => exact f.elim
  | _ => exact f.elim
theorem tChain_okT {r r' : R2} {g g' : Sto → D → D → (D → Prop) → Prop} (ok : Ok2 X.K r g) (ok' : Ok2 X.K r' g') (σ : L2.St) (H : Hp) (Q : Bool → Hp → Prop) (h : liftT X.K B (fun r M Ψ => chainD g g' fa fb fc r M Ψ) σ H Q) :
    tTest (tChain r r' (lift X.K B fa) (lift X.K B fb) (lift X.K B fc)) σ H Q := by
  obtain ⟨r, M, G, Ψ, R, h, k⟩ := h
  exact tChain_ok ok ok' σ H _ ⟨r, M, G, fun d M => (match d with | .bl b => Ψ b M | _ => False : Prop), R, h, fun d M' v H' G' q R' s p => by
    cases p with
    | bl => exact ⟨_, rfl, k _ _ _ _ q R' s⟩
    | _ => exact q.elim⟩
theorem de_chain {op op' : CmpOp} {r r' : R2} {g g' : Sto → D → D → (D → Prop) → Prop} (o : OpR X (compareOp op) r ∧ Ok2 X.K r g) (o' : OpR X (compareOp op') r' ∧ Ok2 X.K r' g') (ha : DE X B a fa) (hb : DE X B b fb) (hc : DE X B c fc) (hm : lastMarks [op, op'] [b, c] = false := by rfl) :
    DE X B (.Compare a [op, op'] [b, c] pos) (fun r M Ψ => chainD g g' fa fb fc r M fun b M1 => Ψ (.bl b) M1) := PE_imp (pe_chain o.1 o'.1 ha hb hc hm) (tChain_ok o.2 o'.2)
theorem dt_chain {op op' : CmpOp} {r r' : R2} {g g' : Sto → D → D → (D → Prop) → Prop} (o : OpR X (compareOp op) r ∧ Ok2 X.K r g) (o' : OpR X (compareOp op') r' ∧ Ok2 X.K r' g') (ha : DE X B a fa) (hb : DE X B b fb) (hc : DE X B c fc) (hm : lastMarks [op, op'] [b, c] = false := by rfl) :
    DT X B (.Compare a [op, op'] [b, c] pos) (fun r M Ψ => chainD g g' fa fb fc r M Ψ) := PT_imp (pt_chain o.1 o'.1 ha hb hc hm) (tChain_okT o.2 o'.2)
theorem oc_le : OpR X (compareOp .LtE) (rI0 fun i j => .bl (decide (i ≤ j))) ∧ Ok2 X.K (rI0 fun i j => .bl (decide (i ≤ j))) leD := ⟨op_le, ok_cmp _⟩
theorem dt_not (ha : DT X B a ta) : DT X B (.UnaryOp .Not a pos) (fun r M Ψ => ta r M fun b M1 => Ψ (!b) M1) :=
  PT_imp (pt_not ha) fun σ H Q ⟨r, M, G, Ψ, R, h, k⟩ => ⟨r, M, G, _, R, h, fun b M' H' G' q R' s => k _ _ _ _ q R' s⟩
theorem dw_and1 (ha : DT X B a ta) : DW X B (.BoolOp .And [a] pos) ta := pw_and1 ha
theorem dw_or1 (ha : DT X B a ta) : DW X B (.BoolOp .Or [a] pos) ta := pw_or1 ha
theorem dw_and (ha : DT X B a ta) (hb : DW X B (.BoolOp .And (b :: es) pos) tb) : DW X B (.BoolOp .And (a :: b :: es) pos) (fun r M Ψ => ta r M fun c M1 => if c = true then tb r M1 Ψ else Ψ false M1) :=
  PW_imp (pw_and ha hb) fun σ H Q ⟨r, M, G, Ψ, R, h, k⟩ => by
    refine ⟨r, M, G, _, R, h, fun c M1 H1 G1 q R1 s1 => ?_⟩
    cases c with
    | true => exact ⟨r, M1, G1, Ψ, R1, q, fun b M' H' G' q R' s => k _ _ _ _ q R' (s1.tr s)⟩
    | false => exact k _ _ _ _ q R1 s1
theorem dw_or (ha : DT X B a ta) (hb : DW X B (.BoolOp .Or (b :: es) pos) tb) : DW X B (.BoolOp .Or (a :: b :: es) pos) (fun r M Ψ => ta r M fun c M1 => if c = true then Ψ true M1 else tb r M1 Ψ) :=
  PW_imp (pw_or ha hb) fun σ H Q ⟨r, M, G, Ψ, R, h, k⟩ => by
    refine ⟨r, M, G, _, R, h, fun c M1 H1 G1 q R1 s1 => ?_⟩
    cases c with
    | false => exact ⟨r, M1, G1, Ψ, R1, q, fun b M' H' G' q R' s => k _ _ _ _ q R' (s1.tr s)⟩
    | true => exact k _ _ _ _ q R1 s1
theorem de_and1 {op} (ha : DE X B a fa) : DE X B (.BoolOp op [a] pos) fa := pe_one ha
theorem de_and (ha : DE X B a fa) (hb : DE X B (.BoolOp .And (b :: es) pos) fb) : DE X B (.BoolOp .And (a :: b :: es) pos) (fun r M Ψ => fa r M fun x M1 => blD (fun c => if c = true then fb r M1 Ψ else Ψ (.bl false) M1) x) :=
  PE_imp (pe_and ha hb) fun σ H Q ⟨r, M, G, Ψ, R, h, k⟩ => by
    refine ⟨r, M, G, _, R, h, fun d M1 v H1 G1 q R1 s1 p1 => ?_⟩
    unfold blD at q
    cases p1 with
    | @bl c =>
      refine ⟨c, rfl, ?_⟩
      cases c with
      | true => exact ⟨r, M1, G1, Ψ, R1, q, fun d M' v H' G' q R' s p => k _ _ _ _ _ q R' (s1.tr s) p⟩
      | false => exact k _ _ _ _ _ q R1 s1 .bl
    | _ => exact q.elim
theorem de_not (ha : DE X B a fa) : DE X B (.UnaryOp .Not a pos) (fun r M Ψ => fa r M fun x M1 => blD (fun c => Ψ (.bl (!c)) M1) x) :=
  PE_imp (pe_not ha) fun σ H Q ⟨r, M, G, Ψ, R, h, k⟩ => by
    refine ⟨r, M, G, _, R, h, fun d M1 v H1 G1 q R1 s1 p1 => ?_⟩
    unfold blD at q
    cases p1 with
    | bl => exact ⟨_, rfl, k _ _ _ _ _ q R1 s1 .bl⟩
    | _ => exact q.elim
theorem de_if (hc : DT X B c ta) (ha : DE X B a fa) (hb : DE X B b fb) : DE X B (.IfExp c a b pos) (fun r M Ψ => ta r M fun t M1 => if t = true then fa r M1 Ψ else fb r M1 Ψ) :=
  PE_imp (pe_ifExp hc ha hb) fun σ H Q ⟨r, M, G, Ψ, R, h, k⟩ => by
    refine ⟨r, M, G, _, R, h, fun t M1 H1 G1 q R1 s1 => ?_⟩
    cases t with
    | true => exact ⟨r, M1, G1, Ψ, R1, q, fun d M' v H' G' q R' s p => k _ _ _ _ _ q R' (s1.tr s) p⟩
    | false => exact ⟨r, M1, G1, Ψ, R1, q, fun d M' v H' G' q R' s p => k _ _ _ _ _ q R' (s1.tr s) p⟩
end
end Z
namespace Z
open PySem PySem.Spec PyProof.Rows L2

theorem Rel.set {K : PySem.W.Frag} {B : Bs} {r : En} {M : Sto} {σ : L2.St} {H G : Hp} {d : D} {v : V} (R : Rel K B r M σ H G) (p : Rep K G d v) (i : Nat) : Rel K B (r.set i (some d)) M (σ.set i (some v)) H G where
  wd := R.wd
  len := by rw [List.length_set, List.length_set]; exact R.len
  slots := fun j e h => by
    by_cases hj : i = j
    · subst hj
      by_cases hi : i < r.length
      · rw [List.getElem?_set_self hi] at h
        cases h
        exact ⟨v, by rw [List.getElem?_set_self (by rw [← R.len]; exact hi)], p⟩
      · rw [List.getElem?_eq_none (by simpa using hi)] at h; cases h
    · rw [List.getElem?_set_ne hj] at h ⊢
      exact R.slots j e h
  sin := R.sin
theorem Rel.unset {K : PySem.W.Frag} {B : Bs} {r : En} {M : Sto} {σ : L2.St} {H G : Hp} (R : Rel K B r M σ H G) (i : Nat) (o : Option V) : Rel K B (r.set i none) M (σ.set i o) H G where
  wd := R.wd
  len := by rw [List.length_set, List.length_set]; exact R.len
  slots := fun j e h => by
    by_cases hj : i = j
    · subst hj
      by_cases hi : i < r.length
      · rw [List.getElem?_set_self hi] at h; cases h
      · rw [List.getElem?_eq_none (by simpa using hi)] at h; cases h
    · rw [List.getElem?_set_ne hj] at h ⊢
      exact R.slots j e h
  sin := R.sin

def Wk (M0 : Sto) (r : En) (M : Sto) (r' : En) (M' : Sto) : Prop := ∀ (K : PySem.W.Frag) (B : Bs) (σ : L2.St) (H G : Hp), B.M = M0 → Rel K B r M σ H G → ∃ G', Rel K B r' M' σ H G' ∧ Sub G G'
theorem Wk.refl {M0 : Sto} {r : En} {M : Sto} : Wk M0 r M r M := fun _ _ _ _ G _ R => ⟨G, R, Sub.rfl'⟩
theorem Wk.trans {M0 : Sto} {r r1 r2 : En} {M M1 M2 : Sto} (a : Wk M0 r M r1 M1) (b : Wk M0 r1 M1 r2 M2) : Wk M0 r M r2 M2 := fun K B σ H G e R => by
  obtain ⟨G1, R1, s1⟩ := a K B σ H G e R
  obtain ⟨G2, R2, s2⟩ := b K B σ H G1 e R1
  exact ⟨G2, R2, s1.tr s2⟩
theorem Wk.slots {M0 : Sto} {r r' : En} {M : Sto} (hl : r'.length = r.length) (h : ∀ (i : Nat) d, r'[i]? = some (some d) → r[i]? = some (some d)) : Wk M0 r M r' M := fun K B σ H G _ R =>
  ⟨G, ⟨R.wd, hl.trans R.len, fun i d e => R.slots i d (h i d e), R.sin⟩, Sub.rfl'⟩
def Cl (M0 : Sto) (P : En → Sto → Prop) (r : En) (M : Sto) : Prop := ∃ r' M', Wk M0 r M r' M' ∧ P r' M'
theorem Cl.of {M0 : Sto} {P : En → Sto → Prop} {r : En} {M : Sto} (h : P r M) : Cl M0 P r M := ⟨r, M, Wk.refl, h⟩

mutual
def sb (g : Addr → D) : D → D
  | .non => .non
  | .bl b => .bl b
  | .int i => .int i
  | .str x => .str x
  | .ty n => .ty n
  | .ref a => g a
  | .tup l => .tup (sbL g l)
  | .lst l => .lst (sbL g l)
  | .lk l => .lk (sbL g l)
  | .dic l => .dic (sbD g l)
  | .dlk l => .dlk (sbD g l)
  | .obj C fs => .obj C (sbF g fs)
  | .fn Q => .fn Q
  | .tpl l => .tpl (sbL g l)
def sbL (g : Addr → D) : List D → List D
  | [] => []
  | d :: r => sb g d :: sbL g r
def sbD (g : Addr → D) : List (D × D) → List (D × D)
  | [] => []
  | (c, d) :: r => (c, sb g d) :: sbD g r
def sbF (g : Addr → D) : List (Str × D) → List (Str × D)
  | [] => []
  | (c, d) :: r => (c, sb g d) :: sbF g r
end
section
variable {K : PySem.W.Frag} {G : Hp} {g : Addr → D}
mutual
theorem Rep.sb (hg : ∀ a, Rep K G (g a) (.ref a)) : ∀ {d : D} {v : V}, Rep K G d v → Rep K G (sb g d) v
  | _, _, .non => .non
  | _, _, .bl => .bl
  | _, _, .int => .int
  | _, _, .str => .str
  | _, _, .ty => .ty
  | _, _, .ref => hg _
  | _, _, .fn h q => .fn h q
  | _, _, .tpl h r => .tpl h (r.sb hg)
  | _, _, .tup h r => .tup h (r.sb hg)
  | _, _, .lst h r => .lst h (r.sb hg)
  | _, _, .lk h r => .lk h (r.sb hg)
  | _, _, .dic h r => .dic h (r.sb hg)
  | _, _, .dlk h r => .dlk h (r.sb hg)
  | _, _, .dit h r => .dit h (r.sb hg)
  | _, _, .obj h r => .obj h (r.sb hg)
theorem RepL.sb (hg : ∀ a, Rep K G (g a) (.ref a)) : ∀ {d : List D} {v : List V}, RepL K G d v → RepL K G (sbL g d) v
  | _, _, .nil => .nil
  | _, _, .cons h r => .cons (h.sb hg) (r.sb hg)
theorem RepF.sb (hg : ∀ a, Rep K G (g a) (.ref a)) : ∀ {d : List (Str × D)} {v : List (Str × V)}, RepF K G d v → RepF K G (sbF g d) v
  | _, _, .nil => .nil
  | _, _, .cons h r => .cons (h.sb hg) (r.sb hg)
theorem RepD.sb (hg : ∀ a, Rep K G (g a) (.ref a)) : ∀ {d : List (D × D)} {v : List (Key × V)}, RepD K G d v → RepD K G (sbD g d) v
  | _, _, .nil => .nil
  | _, _, .cons e h r => .cons e (h.sb hg) (r.sb hg)
theorem RepT.sb (hg : ∀ a, Rep K G (g a) (.ref a)) : ∀ {d : List (D × D)} {v : List (List Key × V)}, RepT K G d v → RepT K G (sbD g d) v
  | _, _, .nil => .nil
  | _, _, .cons e h r => .cons e (h.sb hg) (r.sb hg)
end
end
def sbC (g : Addr → D) (a : Addr) : Option Cell → D
  | some (.lst l) => .lst (sbL g l)
  | some (.dic l) => .dic (sbD g l)
  | some (.dit l) => .dic (sbD g l)
  | some (.frd _ _ _) => .ref a
  | some (.ins C fs) => .obj C (sbF g fs)
  | some (.tab _) => .ref a
  | some (.raw _) => .ref a
  | some (.key _ _) => .ref a
  | none => .ref a
def fzA (M0 M : Sto) : Nat → Addr → D
  | 0, a => .ref a
  | n + 1, a => match M0 a with
    | some _ => .ref a
    | none => sbC (fzA M0 M n) a (M a)
def fz (M0 M : Sto) (n : Nat) (d : D) : D := sb (fzA M0 M n) d
def rs (M0 M : Sto) : Sto := fun a => match M0 a with
  | some _ => M a
  | none => none
def frzG (M0 M : Sto) (H G : Hp) : Hp := fun a => match G a with
  | some o => some o
  | none => match M0 a, M a with
    | none, some _ => H a
    | _, _ => none
section
variable {K : PySem.W.Frag} {M0 M : Sto} {H G : Hp}
theorem frzG_sub : Sub G (frzG M0 M H G) := fun a o h => by unfold frzG; rw [h]
theorem frzG_at {a : Addr} (w : Wd K M H G) (h0 : M0 a = none) {c : Cell} (h : M a = some c) : frzG M0 M H G a = H a := by
  unfold frzG
  rw [(w.cells a c h).1, h0, h]
theorem rep_frz (w : Wd K M H G) : ∀ (n : Nat) (a : Addr), Rep K (frzG M0 M H G) (fzA M0 M n a) (.ref a)
  | 0, a => .ref
  | n + 1, a => by
    have ih := rep_frz w n
    unfold fzA
    split
    · exact .ref
    · rename_i h0
      cases q : M a with
      | none => exact .ref
      | some c =>
        have hat := (w.cells a c q).2
        have e := frzG_at w h0 q
        cases c with
        | lst l =>
          obtain ⟨vs, h, r⟩ := hat
          exact .lst (.inl (e.trans h)) ((r.mono frzG_sub).sb ih)
        | dic l => obtain ⟨vs, h, r⟩ := hat; exact .dic (e.trans h) ((r.mono frzG_sub).sb ih)
        | dit l => obtain ⟨vs, h, r⟩ := hat; exact .dit (e.trans h) ((r.mono frzG_sub).sb ih)
        | frd o kvs l => exact .ref
        | raw o => exact .ref
        | key o bs => exact .ref
        | ins C fs =>
          obtain ⟨dx, vs, h, r⟩ := hat
          exact .obj (e.trans h) ((r.mono frzG_sub).sb ih)
        | tab q => exact .ref
theorem frz_end {H0 G0 : Hp} (w : Wd K M H G) (s : Since H0 G0 M0 M H G) : Wd K (rs M0 M) H (frzG M0 M H G) ∧ Since H0 G0 M0 (rs M0 M) H (frzG M0 M H G) := by
  refine ⟨⟨fun a o h => ?_, fun a c h => ?_⟩, ⟨s.keep, s.stay, s.gsub.tr frzG_sub, fun a h n => ?_, fun a h n => ?_⟩⟩
  · unfold frzG at h
    split at h
    · rename_i o' q; cases h; exact w.sub _ _ q
    · split at h
      · exact h
      · cases h
  · unfold rs at h
    split at h
    · rename_i x q
      obtain ⟨h1, h2⟩ := w.cells a c h
      refine ⟨?_, h2.move frzG_sub fun _ z => z⟩
      unfold frzG
      rw [h1, q]
    · cases h
  · unfold frzG at h
    split at h
    · rename_i o q; exact s.gnew a (by rw [q]; simp) n
    · split at h
      · rename_i q1 q2; exact s.mnew a (by rw [q2]; simp) q1
      · exact absurd rfl h
  · unfold rs at h
    rw [n] at h
    exact absurd rfl h
def frz1 (p : Addr) (H G : Hp) : Hp := fun a => if a = p then H a else G a
end

theorem EkOk.of {K : PySem.W.Frag} {B : Bs} {f : DTS} {D' : Ends} {σ : L2.St} {H : Hp} (h : liftS K B f D' σ H) : ∃ r M G E, Rel K B r M σ H G ∧ f E r M ∧ EkOk K B G E D' := h
theorem EkOk.to {K : PySem.W.Frag} {B : Bs} {f : DTS} {D' : Ends} {σ : L2.St} {H : Hp} {r : En} {M : Sto} {G : Hp} {E : Ek} (R : Rel K B r M σ H G) (h : f E r M) (k : EkOk K B G E D') : liftS K B f D' σ H := ⟨r, M, G, E, R, h, k⟩
section
variable {X : Cx} {B : Bs} {pos : Pos} {e c : Expr} {es : List Expr} {fa : DTE} {ta : DTT} {st : Stmt} {ss body els : List Stmt} {f g : DTS}
theorem dss_nil : DSs X B [] (fun E r M => E.nx r M) := PSs_imp pss_nil fun D' σ H h => let ⟨r, M, G, E, R, q, k⟩ := EkOk.of h; k.nx _ _ _ _ _ q R Sub.rfl'
theorem dss_cons (h1 : DS X B st f) (h2 : DSs X B ss g) : DSs X B (st :: ss) (fun E r M => f { E with nx := g E } r M) := PSs_imp (pss_cons h1 h2) fun D' σ H h => by
  obtain ⟨r, M, G, E, R, q, k⟩ := EkOk.of h
  exact EkOk.to R q ⟨fun r' M' σ' H' G' q' R' s => EkOk.to R' q' (k.mono s), k.rt, k.bk, k.ct⟩
theorem dss_one (h1 : DS X B st f) : DSs X B [st] f := pss_one h1
theorem ds_break : DS X B (.Break pos) (fun E r M => E.bk r M) := PS_imp ps_break fun D' σ H h => let ⟨r, M, G, E, R, q, k⟩ := EkOk.of h; k.bk _ _ _ _ _ q R Sub.rfl'
theorem ds_cont : DS X B (.Continue pos) (fun E r M => E.ct r M) := PS_imp ps_continue fun D' σ H h => let ⟨r, M, G, E, R, q, k⟩ := EkOk.of h; k.ct _ _ _ _ _ q R Sub.rfl'
theorem ds_expr (he : DE X B e fa) (hs : swapsWith e none pos.line X.env = pure false := by rfl) : DS X B (.Expr e pos) (fun E r M => fa r M fun _ M1 => E.nx r M1) := PS_imp (ps_expr he hs) fun D' σ H h => by
  obtain ⟨r, M, G, E, R, q, k⟩ := EkOk.of h
  exact ⟨r, M, G, _, R, q, fun d M' v H' G' q' R' s p => k.nx _ _ _ _ _ q' R' s⟩
theorem ds_ret (he : DE X B e fa) : DS X B (.Return (some e) pos) (fun E r M => fa r M fun d M1 => E.rt d M1) := PS_imp (ps_ret he) fun D' σ H h => by
  obtain ⟨r, M, G, E, R, q, k⟩ := EkOk.of h
  exact ⟨r, M, G, _, R, q, fun d M' v H' G' q' R' s p => k.rt _ _ _ _ _ _ _ q' R' p⟩
theorem ds_if (hc : DT X B c ta) (ha : DSs X B body f) (hb : DSs X B els g) : DS X B (.If c body els pos) (fun E r M => ta r M fun b M1 => if b = true then f E r M1 else g E r M1) := PS_imp (ps_if hc ha hb) fun D' σ H h => by
  obtain ⟨r, M, G, E, R, q, k⟩ := EkOk.of h
  refine ⟨r, M, G, _, R, q, fun b M' H' G' q' R' s => ?_⟩
  cases b with
  | true => exact EkOk.to R' q' (k.mono s)
  | false => exact EkOk.to R' q' (k.mono s)
abbrev DTGs := List D → En → Sto → (En → Sto → Prop) → Prop
def liftGs (K : PySem.W.Frag) (B : Bs) (f : DTGs) : TGs := fun vs σ H Q => ∃ ds r M G Ψ, Rel K B r M σ H G ∧ RepL K G ds vs ∧ f ds r M Ψ ∧ ∀ r' M' σ' H' G', Ψ r' M' → Rel K B r' M' σ' H' G' → Sub G G' → Q σ' H'
abbrev DGs (X : Cx) (B : Bs) (es : List Expr) (f : DTGs) : Prop := PGs X es (liftGs X.K B f)
theorem PGs_imp {X : Cx} {e : List Expr} {t t' : TGs} (h : PGs X e t) (i : ∀ v σ H Q, t' v σ H Q → t v σ H Q) : PGs X e t' := ⟨fun pins s σ H vs us Q I r q => h.run pins s σ H vs us Q I r (i _ _ _ _ q)⟩
theorem dg_name {i : Nat} {x : Str} (hN : X.N.Nodup) (hi : X.N[i]? = some x := by rfl) (hx : Loc X.env.scope x := by first | exact Or.inl rfl | exact Or.inr rfl)
    (hf : X.fn x = true ∨ X.env.scope.names.lookup x = some .local := by first | exact .inl rfl | exact .inr rfl | assumption) : DG X B (.Name x pos) (fun d r M Ψ => Ψ (r.set i (some d)) M) :=
  PG_imp (pg_name hN hi hx hf) fun v σ H Q ⟨d, r, M, G, Ψ, R, p, h, k⟩ => k _ _ _ _ _ h (R.set p i) Sub.rfl'
theorem dgs_nil : DGs X B [] (fun ds r M Ψ => ds = [] ∧ Ψ r M) := PGs_imp pgs_nil fun vs σ H Q ⟨ds, r, M, G, Ψ, R, p, ⟨e, h⟩, k⟩ => by
  subst e; cases p
  exact ⟨rfl, k _ _ _ _ _ h R Sub.rfl'⟩
theorem dgs_cons {f : DTG} {fs : DTGs} (h1 : DG X B e f) (h2 : DGs X B es fs) (hs : (assignEach (e :: es) X.env).map (·.2) = assign e X.env :: (assignEach es X.env).map (·.2) := by rfl) :
    DGs X B (e :: es) (fun ds r M Ψ => match ds with | d :: l => f d r M fun r1 M1 => fs l r1 M1 Ψ | [] => False) := PGs_imp (pgs_cons h1 h2 hs) fun vs σ H Q ⟨ds, r, M, G, Ψ, R, p, h, k⟩ => by
  cases p with
  | nil => exact h.elim
  | cons p1 p2 => exact ⟨_, _, rfl, _, r, M, G, _, R, p1, h, fun r' M' σ' H' G' q R' s => ⟨_, r', M', G', Ψ, R', p2.mono s, q, fun _ _ _ _ _ q R s' => k _ _ _ _ _ q R (s.tr s')⟩⟩
def tupN (n : Nat) (f : DTGs) : DTG := fun d r M Ψ => match d with
  | .tup l => l.length = n ∧ f l r M Ψ
  | .tpl l => l.length = n ∧ f l r M Ψ
  | _ => False
theorem dg_tup {k n : Nat} {f : DTGs} (hc : X.calm = true) (h : DGs X B es f) (hn : (assignEach es X.env).length = n := by rfl) (hf : List.findIdx? (fun x => x.fst) (assignEach es X.env) = none := by rfl) : DG X B (.Tuple es k pos) (tupN n f) :=
  PG_imp (pg_tup hc h hn hf) fun v σ H Q ⟨d, r, M, G, Ψ, R, p, h, k⟩ => by
    cases p with
    | tup h1 r1 => exact ⟨_, _, rfl, R.wd.sub.sqT h1, by rw [← r1.length]; exact h.1, _, r, M, G, Ψ, R, r1, h.2, k⟩
    | tpl h1 r1 => exact ⟨_, _, rfl, R.wd.sub.sqT (SqT.of h1), by rw [← r1.length]; exact h.1, _, r, M, G, Ψ, R, r1, h.2, k⟩
    | _ => exact h.elim
theorem ds_set {i : Nat} {x : Str} {pos' : Pos} (hN : X.N.Nodup) (he : DE X B e fa) (hi : X.N[i]? = some x := by rfl) (hx : Loc X.env.scope x := by first | exact Or.inl rfl | exact Or.inr rfl)
    (hs : swapsWith e (some (.Name x pos')) pos.line X.env = pure false := by rfl) (hf : X.fn x = true ∨ X.env.scope.names.lookup x = some .local := by first | exact .inl rfl | exact .inr rfl | assumption) :
    DS X B (.Assign [.Name x pos'] e pos) (fun E r M => fa r M fun d M1 => E.nx (r.set i (some d)) M1) := PS_imp (ps_set hN hi hx he hs hf) fun D' σ H h => by
  obtain ⟨r, M, G, E, R, q, k⟩ := EkOk.of h
  exact ⟨r, M, G, _, R, q, fun d M' v H' G' q' R' s p => k.nx _ _ _ _ _ q' (R'.set p i) s⟩
theorem ds_par {i j : Nat} {x y : Str} {a b : Expr} {ga : DTA} {px py pt : Pos} {kt k2 : Nat} {pt2 : Pos} (hc : X.calm = true) (hN : X.N.Nodup) (ha : DA X B [a, b] ga) (hi : X.N[i]? = some x := by rfl) (hj : X.N[j]? = some y := by rfl) (hij : i ≠ j := by decide)
    (hx : X.env.scope.names.lookup x = some .local := by rfl) (hy : X.env.scope.names.lookup y = some .local := by rfl)
    (hw : swappedStores [.Tuple [.Name x px, .Name y py] kt pt] (.Tuple [a, b] k2 pt2) X.env = pure (some [x, y]) := by rfl) (hs : swapsWithSole [.Tuple [.Name x px, .Name y py] kt pt] (.Tuple [a, b] k2 pt2) pos.line X.env = pure false := by rfl) :
    DS X B (.Assign [.Tuple [.Name x px, .Name y py] kt pt] (.Tuple [a, b] k2 pt2) pos) (fun E r M => ga r M fun ds M1 => match ds with | [d, d'] => E.nx ((r.set i (some d)).set j (some d')) M1 | _ => False) :=
  PS_imp (ps_par hc hN hi hj hij hx hy ha hw hs) fun D' σ H h => by
    obtain ⟨r, M, G, E, R, q, k⟩ := EkOk.of h
    refine ⟨r, M, G, _, R, q, fun ds M' vs H' G' q' R' s p => ?_⟩
    split at q'
    · cases p with
      | cons p1 p2 => cases p2 with
        | cons p2 p3 => cases p3; exact ⟨_, _, rfl, k.nx _ _ _ _ _ q' ((R'.set p1 i).set p2 j) s⟩
    · exact q'.elim
theorem ds_aug {i : Nat} {x : Str} {op : Operator} {ti : TIp} {g : Sto → D → D → (D → Prop) → Prop} {pos' : Pos} (ho : PIp X op ti) (ok : Ok2 X.K ti g) (hN : X.N.Nodup) (he : DE X B e fa) (hi : X.N[i]? = some x := by rfl) (hx : Loc X.env.scope x := by first | exact Or.inl rfl | exact Or.inr rfl)
    (hf : X.fn x = true ∨ X.env.scope.names.lookup x = some .local := by first | exact .inl rfl | exact .inr rfl | assumption) :
    DS X B (.AugAssign (.Name x pos') op e pos) (fun E r M => getS r i fun d => fa r M fun d' M1 => g M1 d d' fun z => E.nx (r.set i (some z)) M1) := PS_imp (ps_aug hN hi hx he ho hf) fun D' σ H h => by
  obtain ⟨r, M, G, E, R, q, k⟩ := EkOk.of h
  obtain ⟨d, e1, q⟩ := getS_some q
  obtain ⟨v, h1, h2⟩ := R.slots _ _ e1
  refine ⟨v, h1, r, M, G, _, R, q, fun d' M' v' H' G' q' R' s p => ?_⟩
  exact ok M' H' G' _ _ _ _ _ _ R'.wd (h2.mono s) p q' fun z w H2 G2 f g p2 => k.nx _ _ _ _ _ f ((R'.grow g).set p2 i) (s.tr g.gsub)

theorem ds_while (hp : PassesOwn (model X.prog X.w) X.A X.env X.xe) (hc : DT X B c ta) (hb : DSs X B body f) : DS X B (.While c body [] pos) (fun E r M => ∃ (Iv : En → Sto → Prop) (μ : En → Sto → Nat), Cl B.M Iv r M ∧ ∀ r M, Iv r M →
    ta r M fun b M1 => if b = true then f { E with nx := Cl B.M fun r' M' => Iv r' M' ∧ μ r' M' < μ r M, ct := Cl B.M fun r' M' => Iv r' M' ∧ μ r' M' < μ r M, bk := E.nx } r M1 else E.nx r M1) := PS_imp (ps_while hp hc hb) fun D' σ H h => by
  obtain ⟨r, M, G, E, R, ⟨Iv, μ, ⟨r0, M0, w0, i0⟩, turn⟩, k⟩ := EkOk.of h
  obtain ⟨G0, R0, s0⟩ := w0 _ _ _ _ _ rfl R
  refine ⟨fun n σ H => ∃ r M G1, Rel X.K B r M σ H G1 ∧ Sub G G1 ∧ Iv r M ∧ n = μ r M, ⟨_, r0, M0, G0, R0, s0, i0, rfl⟩, ?_⟩
  rintro n σ1 H1 ⟨r1, M1, G1, R1, s1, i1, rfl⟩
  refine ⟨r1, M1, G1, _, R1, turn r1 M1 i1, fun b M' H' G' q' R' s => ?_⟩
  cases b with
  | false => exact k.nx _ _ _ _ _ q' R' (s1.tr s)
  | true =>
    refine ⟨fun σ2 H2 => ∃ r2 M2 G2, Rel X.K B r2 M2 σ2 H2 G2 ∧ Sub G G2 ∧ Iv r2 M2 ∧ μ r2 M2 < μ r1 M1, fun σ2 H2 ⟨r2, M2, G2, R2, s2, i2, l2⟩ => ⟨_, l2, r2, M2, G2, R2, s2, i2, rfl⟩, EkOk.to R' q' ?_⟩
    have cl : ∀ r' M' σ' H' G2, Cl B.M (fun r' M' => Iv r' M' ∧ μ r' M' < μ r1 M1) r' M' → Rel X.K B r' M' σ' H' G2 → Sub G' G2 → ∃ r2 M2 G2, Rel X.K B r2 M2 σ' H' G2 ∧ Sub G G2 ∧ Iv r2 M2 ∧ μ r2 M2 < μ r1 M1 := fun r' M' σ' H' G2 ⟨r3, M3, w3, i3, l3⟩ R3 t => by
      obtain ⟨G3, R3, t3⟩ := w3 _ _ _ _ _ rfl R3
      exact ⟨r3, M3, G3, R3, ((s1.tr s).tr t).tr t3, i3, l3⟩
    exact ⟨cl, k.rt, fun _ _ _ _ _ q R t => k.nx _ _ _ _ _ q R ((s1.tr s).tr t), cl⟩
def Yld (K : PySem.W.Frag) (B : Bs) (J : It) (G0 : Hp) (xs : List D) (S : Sto → Prop) : Prop := ∀ i r M σ H G, Rel K B r M σ H G → Sub G0 G → S M →
  (i < xs.length → J.go i H ∧ ∀ x H', J.yld i H x H' → ∃ G' d, Grow H G H' G' ∧ xs[i]? = some d ∧ Rep K G' d x) ∧ (xs.length ≤ i → J.stop i H)
abbrev DTI := En → Sto → (List D → (Sto → Prop) → Sto → Prop) → Prop
def liftI (K : PySem.W.Frag) (B : Bs) (f : DTI) : TI := fun σ H Q => ∃ r M G Ψ, Rel K B r M σ H G ∧ f r M Ψ ∧ ∀ xs S M' J H' G', Ψ xs S M' → Rel K B r M' σ H' G' → Sub G G' → Yld K B J G' xs S → Q J H'
abbrev DI (X : Cx) (B : Bs) (tg iter : Expr) (f : DTI) : Prop := PI X tg iter (liftI X.K B f)
theorem PI_imp {X : Cx} {tg iter : Expr} {t t' : TI} (h : PI X tg iter t) (i : ∀ σ H Q, t' σ H Q → t σ H Q) : PI X tg iter t' := ⟨fun pins s σ H Q I q => h.run pins s σ H Q I (i _ _ _ q)⟩
@[irreducible] def forD (M0 : Sto) (wi : DTI) (g : DTG) (f : DTS) : DTS := fun E r M => wi r M fun xs S M1 => ∃ Iv : Nat → En → Sto → Prop, Cl M0 (Iv 0) r M1 ∧ (∀ i r M, Iv i r M → S M) ∧
  (∀ i d r M, xs[i]? = some d → Iv i r M → g d r M fun r' M' => f { E with nx := Cl M0 (Iv (i + 1)), ct := Cl M0 (Iv (i + 1)), bk := E.nx } r' M') ∧ ∀ r M, Iv xs.length r M → E.nx r M
theorem ds_for {tg iter : Expr} {wi : DTI} {g : DTG} (hp : PassesOwn (model X.prog X.w) X.A X.env X.xe) (hc : X.calm = true) (hi : DI X B tg iter wi) (hg : DG X B tg g) (hb : DSs X B body f) (h1 : ∀ x, foldedSetIterable iter X.env x = pure x := by intro _; rfl) :
    DS X B (.For tg iter body [] pos) (forD B.M wi g f) := PS_imp (ps_for hp hc hi hg hb h1) fun D' σ H h => by
  obtain ⟨r, M, G, E, R, q, k⟩ := EkOk.of h
  unfold forD at q
  refine ⟨r, M, G, _, R, q, fun xs S M' J H' G' ⟨Iv, ⟨r0, M0, w0, i0⟩, hS, turn, fin⟩ R' s y => ?_⟩
  obtain ⟨G0, R0, s0⟩ := w0 _ _ _ _ _ rfl R'
  refine ⟨fun i m σ H => ∃ r M G, Rel X.K B r M σ H G ∧ Sub G' G ∧ Iv i r M ∧ i ≤ xs.length ∧ m = xs.length - i, ⟨_, r0, M0, G0, R0, s0, i0, Nat.zero_le _, rfl⟩, ?_⟩
  rintro i m σ1 H1 ⟨r1, M1, G1, R1, s1, i1, hi, rfl⟩
  obtain ⟨y1, y2⟩ := y i r1 M1 σ1 H1 G1 R1 s1 (hS _ _ _ i1)
  by_cases hl : i < xs.length
  · obtain ⟨y3, y4⟩ := y1 hl
    refine .inr ⟨y3, fun σ2 H2 => ∃ r2 M2 G2, Rel X.K B r2 M2 σ2 H2 G2 ∧ Sub G' G2 ∧ Iv (i + 1) r2 M2, fun σ2 H2 ⟨r2, M2, G2, R2, s2, i2⟩ => ⟨_, by omega, r2, M2, G2, R2, s2, i2, hl, rfl⟩, fun x H2 hy => ?_⟩
    obtain ⟨G2, d, g2, hd, p⟩ := y4 x H2 hy
    have R2 := R1.grow g2
    have s2 := g2.gsub
    refine ⟨d, r1, M1, G2, _, R2, p, turn i d r1 M1 hd i1, fun r3 M3 σ3 H3 G3 q3 R3 s3 => EkOk.to R3 q3 ?_⟩
    have t3 : Sub G' G3 := (s1.tr s2).tr s3
    have cl : ∀ r' M' σ' H' G2, Cl B.M (Iv (i + 1)) r' M' → Rel X.K B r' M' σ' H' G2 → Sub G3 G2 → ∃ r2 M2 G2, Rel X.K B r2 M2 σ' H' G2 ∧ Sub G' G2 ∧ Iv (i + 1) r2 M2 := fun r' M' σ' H' G2 ⟨r4, M4, w4, i4⟩ R4 t => by
      obtain ⟨G4, R4, t4⟩ := w4 _ _ _ _ _ rfl R4
      exact ⟨r4, M4, G4, R4, (t3.tr t).tr t4, i4⟩
    exact ⟨cl, k.rt, fun _ _ _ _ _ q R t => k.nx _ _ _ _ _ q R ((s.tr t3).tr t), cl⟩
  · have e : i = xs.length := by omega
    subst e
    exact .inl ⟨y2 (Nat.le_refl _), k.nx _ _ _ _ _ (fin _ _ i1) R1 (s.tr s1)⟩
theorem di_list {l : Expr} {tg : Expr} (hl : DE X B l fa) : DI X B tg l (fun r M Ψ => fa r M fun d M1 => ∃ xs, lstOf M1 d = some xs ∧ Ψ xs (fun M => lstOf M d = some xs) M1) := PI_imp (pi_list hl) fun σ H Q ⟨r, M, G, Ψ, R, h, k⟩ => by
  refine ⟨r, M, G, _, R, h, fun d M1 v H1 G1 ⟨xs, e, q⟩ R1 s1 p => ?_⟩
  obtain ⟨a, vs, rfl, h1, r1⟩ := lst_rep' R1.wd p e
  refine ⟨a, rfl, ⟨vs, h1⟩, k xs _ M1 _ H1 G1 q R1 s1 fun i r2 M2 σ2 H2 G2 R2 t2 e2 => ?_⟩
  obtain ⟨a', vs', ea, h2, r2⟩ := lst_rep' R2.wd (p.mono t2) e2
  cases ea
  have hl := r2.length
  refine ⟨fun hi => ?_, fun hi => ⟨vs', h2, by omega⟩⟩
  obtain ⟨d', hd⟩ : ∃ d', xs[i]? = some d' := ⟨xs[i], by simp [hi]⟩
  obtain ⟨x, hx, px⟩ := r2.get hd
  refine ⟨⟨vs', x, h2, hx⟩, fun y H' hy => ?_⟩
  obtain ⟨e3, hy⟩ := hy
  subst e3
  have q3 := hy vs' h2
  rw [hx] at q3
  cases q3
  exact ⟨G2, d', Grow.refl R2.wd.sub, hd, px⟩
theorem di_tup {l : Expr} {tg : Expr} (hl : DE X B l fa) : DI X B tg l (fun r M Ψ => fa r M fun d M1 => ∃ xs, tupOf d = some xs ∧ Ψ xs (fun _ => True) M1) := PI_imp (pi_tup hl) fun σ H Q ⟨r, M, G, Ψ, R, h, k⟩ => by
  refine ⟨r, M, G, _, R, h, fun d M1 v H1 G1 ⟨xs, e, q⟩ R1 s1 p => ?_⟩
  obtain ⟨a, vs, rfl, h1, r1⟩ := tup_rep R1.wd p e
  refine ⟨a, rfl, ⟨vs, h1⟩, k xs _ M1 _ H1 G1 q R1 s1 fun i r2 M2 σ2 H2 G2 R2 t2 _ => ?_⟩
  obtain ⟨a', vs', ea, h2, r2⟩ := tup_rep R2.wd (p.mono t2) e
  cases ea
  have hl := r2.length
  refine ⟨fun hi => ?_, fun hi => ⟨vs', h2, by omega⟩⟩
  obtain ⟨d', hd⟩ : ∃ d', xs[i]? = some d' := ⟨xs[i], by simp [hi]⟩
  obtain ⟨x, hx, px⟩ := r2.get hd
  refine ⟨⟨vs', x, h2, hx⟩, fun y H' hy => ?_⟩
  obtain ⟨e3, hy⟩ := hy
  subst e3
  have q3 := hy vs' h2
  rw [hx] at q3
  cases q3
  exact ⟨G2, d', Grow.refl R2.wd.sub, hd, px⟩
def rngD (lo : Int) (n : Nat) : List D := (List.range n).map fun i => .int (lo + (i : Nat))
theorem rng_get {lo : Int} {n i : Nat} (h : i < n) : (rngD lo n)[i]? = some (.int (lo + i)) := by
  unfold rngD
  rw [List.getElem?_map, List.getElem?_range h]; rfl
theorem rng_len {lo : Int} {n : Nat} : (rngD lo n).length = n := by unfold rngD; rw [List.length_map, List.length_range]
theorem yld_rng {K : PySem.W.Frag} {G : Hp} {lo : Int} {n : Nat} : Yld K B (Itr lo n) G (rngD lo n) (fun _ => True) := fun i r M σ H G R s _ => by
  rw [rng_len]
  exact ⟨fun hi => ⟨hi, fun x H' ⟨e, ex⟩ => by subst e ex; exact ⟨G, _, Grow.refl R.wd.sub, rng_get hi, .int⟩⟩, fun hi => hi⟩
def fitR (i : Int) : Prop := -(2 ^ 62) ≤ i ∧ i < 2 ^ 62
theorem di_range1 {a : Expr} {tg : Expr} {ga : DTA} {p : Pos} (hm : X.mg "range" = none) (ha : DA X B [a] ga) (hg : Gl X "range" := by rfl) (hs : starEach [a] X.env = [(false, eval a X.env)] := by rfl) :
    DI X B tg (.Call (.Name "range" p) [a] [] pos) (fun r M Ψ => ga r M fun ds M1 => match ds with | [.int j] => fitR j ∧ Ψ (rngD 0 j.toNat) (fun _ => True) M1 | _ => False) := PI_imp (pi_range1 hg hm ha hs) fun σ H Q ⟨r, M, G, Ψ, R, h, k⟩ => by
  refine ⟨r, M, G, _, R, h, fun ds M1 vs H1 G1 q R1 s1 p => ?_⟩
  split at q
  · cases p with
    | cons p1 p2 => cases p1; cases p2; exact ⟨_, rfl, q.1.1, q.1.2, k _ _ _ _ _ _ q.2 R1 s1 yld_rng⟩
  · exact q.elim
end
end Z
namespace Z
open PySem PySem.Spec PyProof.Rows L2

abbrev XD := Addr × List (Str × D)
structure RepX (K : PySem.W.Frag) (G H : Hp) (x : XD) (cls : Value) (d : Option Addr) : Prop where
  cls : cls = .ref x.1
  own : ∃ dd fvs, d = some dd ∧ H dd = some (.xd fvs) ∧ RepF K G x.2 fvs
def wOf (K : PySem.W.Frag) (B : Bs) (Ξ : XD → En → Sto → Prop) : WX := fun cls d σ H => ∃ x r M G, Ξ x r M ∧ Rel K B r M σ H G ∧ RepX K G H x cls d
structure Zx (X : Cx) (B : Bs) (Ξ : XD → En → Sto → Prop) : Prop where
  tk : Takes X (wOf X.K B Ξ)
  po : PassesOwn (model X.prog X.w) X.A X.env X.xe

abbrev Ct := List D → Sto → (D → Sto → Prop) → (XD → Sto → Prop) → Prop
def spC (K : PySem.W.Frag) (n : Nat) (c : Ct) : Sp := fun vs H Q E => vs.length = n ∧ ∃ ds G M Ψ Ξ, Wd K M H G ∧ RepL K G ds vs ∧ c ds M Ψ Ξ ∧
  (∀ d M' v H' G', Ψ d M' → Wd K M' H' G' → Since H G M M' H' G' → Rep K G' d v → Q v H') ∧ ∀ x M' H' G' cls dd, Ξ x M' → Wd K M' H' G' → Since H G M M' H' G' → RepX K G' H' x cls dd → E cls dd H'

inductive FzR (M0 M' : Sto) : D → D → Sto → Prop where
  | same {d : D} : FzR M0 M' d d M'
  | drop {d : D} : FzR M0 M' d d (rs M0 M')
  | frz (n : Nat) {d : D} : FzR M0 M' d (fz M0 M' n d) (rs M0 M')
def rtF (M0 : Sto) (Ψ : D → Sto → Prop) : D → Sto → Prop := fun d M' => ∃ d' M'', FzR M0 M' d d' M'' ∧ Ψ d' M''
inductive FzX (M0 M' : Sto) : Sto → Prop where
  | same : FzX M0 M' M'
  | drop : FzX M0 M' (rs M0 M')
def exF (M0 : Sto) (Ξ : XD → Sto → Prop) : XD → En → Sto → Prop := fun x _ M' => ∃ M'', FzX M0 M' M'' ∧ Ξ x M''

theorem exF_take {K : PySem.W.Frag} {B : Bs} {Ξ : XD → Sto → Prop} {E : XK} (hE : ∀ x M' H' G' cls dd, Ξ x M' → Wd K M' H' G' → Since B.H B.G B.M M' H' G' → RepX K G' H' x cls dd → E cls dd H') :
    ∀ cls d σ H, wOf K B (exF B.M Ξ) cls d σ H → E cls d H := fun cls d σ H ⟨x, r, M, G, ⟨M', f, q⟩, R, rx⟩ => by
  cases f with
  | same => exact hE x M H G cls d q R.wd R.sin rx
  | drop =>
    obtain ⟨w1, s1⟩ := frz_end R.wd R.sin
    obtain ⟨e, dd, fvs, e1, e2, r2⟩ := rx
    exact hE x _ H _ cls d q w1 s1 ⟨e, dd, fvs, e1, e2, r2.mono frzG_sub⟩

section
variable {P : Program} {w : World} {K : PySem.W.Frag} {mg : Str → Option Value} {base : Heap}
def ent (N : Nat) (ds : List D) : En := ds.map some ++ List.replicate (N - ds.length) none
theorem rel_start {ds : List D} {vs : List V} {N : List Str} {H G : Hp} {M : Sto} (w : Wd K M H G) (r : RepL K G ds vs) : Rel K ⟨H, G, M⟩ (ent N.length ds) M (L2.start N vs) H G where
  wd := w
  len := by
    unfold ent L2.start
    rw [List.length_append, List.length_append, List.length_map, List.length_map, List.length_replicate, List.length_replicate, r.length]
  slots := fun i d h => by
    unfold ent at h
    unfold L2.start
    by_cases hi : i < ds.length
    · rw [List.getElem?_append_left (by simpa using hi), List.getElem?_map] at h
      cases e : ds[i]? with
      | none => rw [e] at h; cases h
      | some a =>
        rw [e] at h; cases h
        obtain ⟨v, h1, h2⟩ := r.get e
        exact ⟨v, by rw [List.getElem?_append_left (by rw [List.length_map, ← r.length]; exact hi), List.getElem?_map, h1]; rfl, h2⟩
    · rw [List.getElem?_append_right (by simpa using hi), List.getElem?_replicate] at h
      split at h <;> cases h
  sin := Since.refl
end

def BindD (K : PySem.W.Frag) (fd : FuncData) (ps : List Str) (b : Nat × List Str × (List D → List D → List D)) : Prop :=
  (∀ ds zs, ds.length = b.1 → zs.length = b.2.1.length → (b.2.2 ds zs).length = ps.length) ∧ ∃ gl gV, KBn K fd ps b.1 b.2.1 gl gV ∧ ∀ (G : Hp) ds vs zs us, RepL K G ds vs → RepL K G zs us → RepL K G (b.2.2 ds zs) (gV vs us)
structure Gf (P : Program) (w : World) (K : PySem.W.Frag) (mg : Str → Option Value) (base : Heap) (x : Str) (k : Nat) (c : Ct) (bs : List (Nat × List Str × (List D → List D → List D))) : Prop where
  ex : ∃ f fd ps, mg x = some (.ref f) ∧ PySem.W.keepIn K (.ref f) = true ∧ FnOk P w K mg base (L2.CX P w) k f fd ps (spC K ps.length c) ∧ ∀ b ∈ bs, BindD K fd ps b
def pos (n : Nat) : Nat × List Str × (List D → List D → List D) := (n, [], fun ds _ => ds)
section
variable {X : Cx} {B : Bs} {Ξ : XD → En → Sto → Prop} {k : Nat} {f : Addr} {fd : FuncData} {ps ks : List Str} {c : Ct} {pos apos : Pos} {e : Expr} {es : List Expr} {kws : List Keyword} {ga gk : DTA} {fa : DTE}
theorem run_c {pins : List (Addr × Obj)} {r : En} {M : Sto} {σ : L2.St} {H G : Hp} {s : Shared} {Q : VK} {vs zs : List V} {us ws : List Value} {ds dz : List D} {b : Nat × List Str × (List D → List D → List D)} {Ψ : D → Sto → Prop}
    (F : FnOk X.prog X.w X.K X.mg X.base (L2.CX X.prog X.w) k f fd ps (spC X.K ps.length c)) (hr : Room k X.A) (hb : BindD X.K fd ps b) (tk : Takes X (wOf X.K B Ξ)) (I : L2.Inv X pins σ H s) (R : Rel X.K B r M σ H G)
    (hv : Vals vs us) (hz : Vals zs ws) (rv : RepL X.K G ds vs) (rz : RepL X.K G dz zs) (l1 : ds.length = b.1) (l2 : dz.length = b.2.1.length) (hc : c (b.2.2 ds dz) M Ψ (fun x M' => Ξ x r M'))
    (hQ : ∀ d M' v H' G', Ψ d M' → Rel X.K B r M' σ H' G' → Sub G G' → Rep X.K G' d v → Q v H') : wpAny (model X.prog X.w) X.A (call (.ref f) us (b.2.1.zip ws)) (EP X pins σ Q) X.xe s := by
  obtain ⟨hl, gl, gV, kb, rel⟩ := hb
  have l3 := hl ds dz l1 l2
  have u1 : us.length = b.1 := by rw [← hv.length, ← rv.length]; exact l1
  have u2 : ws.length = b.2.1.length := by rw [← hz.length, ← rz.length]; exact l2
  have rr := rel G ds vs dz zs rv rz
  have hsp : spC X.K ps.length c (gV vs zs) H Q (fun cls d H' => wOf X.K B Ξ cls d σ H') := by
    refine ⟨by rw [← rr.length]; exact l3, _, G, M, Ψ, _, R.wd, rr, hc, fun d M' v H' G' q w s p => hQ d M' v H' G' q (R.go w s) s.gsub p, fun x M' H' G' cls dd q w s rx => ?_⟩
    exact ⟨x, r, M', G', q, R.go w s, rx⟩
  refine wpAny_call (codeAny_mono (F.run X.A X.stack s H ⟨us, b.2.1.zip ws⟩ (gl us ws) (gV vs zs) Q _ hr I.env0 (kb.to s us ws I.kIn u1 u2) (kb.rel hv hz) hsp) fun fr s' hq => ?_)
  cases fr with
  | error e => exact tk e s' (XE.of_call I (fun cls d H' h => h) hq)
  | ok fl =>
    cases fl with
    | ret u => exact I.after hq
    | next => exact False.elim hq
    | brk => exact False.elim hq
    | cont => exact False.elim hq
abbrev DK (X : Cx) (B : Bs) (e : List Keyword) (f : DTA) : Prop := PK X e (liftA X.K B f)
theorem PK_imp {X : Cx} {e : List Keyword} {t t' : TA} (h : PK X e t) (i : ∀ σ H Q, t' σ H Q → t σ H Q) : PK X e t' := ⟨fun pos pins s σ H Q I q => h.run pos pins s σ H Q I (i _ _ _ q)⟩
theorem dk_nil : DK X B [] (fun _ M Ψ => Ψ [] M) := PK_imp pk_nil fun σ H Q ⟨r, M, G, Ψ, R, h, k⟩ => k [] M [] H G h R Sub.rfl' .nil
theorem dk_cons {nm : Option Str} {kpos : Pos} {fs : DTA} (ha : DE X B e fa) (hr : DK X B kws fs) : DK X B (⟨nm, e, kpos⟩ :: kws) (fun r M Ψ => fa r M fun d M1 => fs r M1 fun ds M2 => Ψ (d :: ds) M2) := by
  refine PK_imp (pk_cons ha hr) fun σ H Q ⟨r, M, G, Ψ, R, h, k⟩ => ?_
  refine ⟨r, M, G, _, R, h, fun d M1 v H1 G1 q1 R1 s1 p1 => ?_⟩
  exact ⟨r, M1, G1, _, R1, q1, fun ds M2 vs H2 G2 q2 R2 s2 p2 => k _ _ _ _ _ q2 R2 (s1.tr s2) (.cons (p1.mono s2) p2)⟩
variable {P : Program} {w : World} {K : PySem.W.Frag} {mg : Str → Option Value} {base : Heap} {x : Str} {bs : List (Nat × List Str × (List D → List D → List D))} {n j : Nat} {g : List D → List D → List D} {p : Pos}
def callD (n m : Nat) (g : List D → List D → List D) (c : Ct) (Ξ : XD → En → Sto → Prop) (ds dz : List D) (r : En) (M : Sto) (Ψ : PD) : Prop := ds.length = n ∧ dz.length = m ∧ c (g ds dz) M Ψ (fun x M' => Ξ x r M')
theorem de_call (F : Gf X.prog X.w X.K X.mg X.base x j c bs) (hr : Room k X.A) (z : Zx X B Ξ) (hb : (n, [], g) ∈ bs) (ha : DA X B (e :: es) ga) (hj : j ≤ k := by decide) (hg : Gl X x := by rfl) (hdb : (x == ("__debug__" : Str)) = false := by decide)
    (he : starEach (e :: es) X.env = (false, eval e X.env) :: starEach es X.env := by rfl) (hpl : (backTo pos (starEach es X.env)).any (·.1) = false := by rfl) :
    DE X B (.Call (.Name x p) (e :: es) [] pos) (fun r M Ψ => ga r M fun ds M1 => callD n 0 g c Ξ ds [] r M1 Ψ) := by
  obtain ⟨f, fd, ps, hm, hk, FO, hbs⟩ := F.ex
  refine ⟨fun pins s σ H Q I ⟨r, M, G, Ψ, R, h, kk⟩ => ?_⟩
  refine wpAny_Call_Name_kw (ld_glob I hg hm ?_ hdb)
  refine PySem.W.callWith_K (h₀ := X.base) I.ok.mod.kin hk (thn (ha.run pos pins s σ H _ I ⟨r, M, G, _, R, h, fun ds M1 vs H1 G1 q R1 s1 p1 => (⟨ds, M1, G1, q, R1, s1, p1⟩ : ∃ ds M1 G1, callD n 0 g c Ξ ds [] r M1 Ψ ∧ Rel X.K B r M1 σ H1 G1 ∧ Sub G G1 ∧ RepL X.K G1 ds vs)⟩) fun us s1 ⟨vs, H1, I1, rv, ds, M1, G1, ⟨l1, _, q⟩, R1, t1, p1⟩ => ⟨I1.kIn, ?_⟩) he hpl
  exact run_c (zs := []) (ws := []) (dz := []) FO (hr.mono hj) (hbs _ hb) z.tk I1 R1 rv .nil p1 .nil l1 rfl q fun d M' v H' G' q R' s' p' => kk _ _ _ _ _ q R' (t1.tr s') p'
end
end Z
namespace Z
open PySem PySem.Spec PyProof.Rows L2

abbrev Post (K : PySem.W.Frag) (H G : Hp) (M : Sto) (φ : D → Sto → Prop) (Q : VK) : Prop := ∀ d M' w H' G', φ d M' → Wd K M' H' G' → Since H G M M' H' G' → Rep K G' d w → Q w H'
theorem Post.id {K : PySem.W.Frag} {H G : Hp} {M : Sto} {φ : D → Sto → Prop} {Q : VK} (k : Post K H G M φ Q) (w : Wd K M H G) {d : D} {v : V} (h : φ d M) (p : Rep K G d v) : Q v H := k _ _ _ _ _ h w Since.refl p
theorem Post.grow {K : PySem.W.Frag} {H G H' G' : Hp} {M : Sto} {φ : D → Sto → Prop} {Q : VK} (k : Post K H G M φ Q) (w : Wd K M H G) (g : Grow H G H' G') {d : D} {v : V} (h : φ d M) (p : Rep K G' d v) : Q v H' := k _ _ _ _ _ h (g.wd w) (g.since w) p
theorem CallR_or {X : Cx} {f : Value} {r r' : List V → Hp → VK → Prop} (h : CallR X f r) (h' : CallR X f r') : CallR X f (fun xs H Q => r xs H Q ∨ r' xs H Q) := by
  intro pins s σ H xs us Q I rx q
  rcases q with q | q
  · exact h pins s σ H xs us Q I rx q
  · exact h' pins s σ H xs us Q I rx q
def OkC (K : PySem.W.Frag) (r : List V → Hp → VK → Prop) (g : Sto → List D → PD → Prop) : Prop := ∀ (M : Sto) (H G : Hp) (ds : List D) (vs : List V) (φ : PD) (Q : VK), Wd K M H G → RepL K G ds vs → g M ds φ → Post K H G M φ Q → r vs H Q
section
variable {X : Cx} {B : Bs} {pos apos : Pos} {a b e o : Expr} {es : List Expr} {fa fb fo : DTE} {ga : DTA} {k : Nat}
theorem de_callB {r : List V → Hp → VK → Prop} {g : Sto → List D → PD → Prop} {x : Str} {id : String} {p : Pos} (hc : CallR X (.builtin id) r) (ok : OkC X.K r g) (hm : X.mg x = none) (hv : bootBuiltins x = some (.builtin id)) (ha : DA X B (e :: es) ga)
    (hg : Gl X x := by rfl) (hn : x ≠ "__name__" := by decide) (hdb : (x == ("__debug__" : Str)) = false := by decide)
    (he : starEach (e :: es) X.env = (false, eval e X.env) :: starEach es X.env := by rfl) (hpl : (backTo pos (starEach es X.env)).any (·.1) = false := by rfl) :
    DE X B (.Call (.Name x p) (e :: es) [] pos) (fun r M Ψ => ga r M fun ds M1 => g M1 ds Ψ) := PE_imp (pe_callB hc hg hm hv ha hn hdb he hpl) fun σ H Q ⟨r, M, G, Ψ, R, h, k⟩ =>
  ⟨r, M, G, _, R, h, fun ds M1 vs H1 G1 q R1 s1 p1 => ok M1 H1 G1 ds vs Ψ Q R1.wd p1 q fun d M' w H' G' f w' s' p' => k _ _ _ _ _ f (R1.go w' s') (s1.tr s'.gsub) p'⟩
theorem de_callT {r : List V → Hp → VK → Prop} {g : Sto → List D → PD → Prop} {x : Str} {id : String} {p : Pos} (hc : CallR X (.type id) r) (ok : OkC X.K r g) (hm : X.mg x = none) (hv : bootBuiltins x = some (.type id)) (ha : DA X B (e :: es) ga)
    (hg : Gl X x := by rfl) (hn : x ≠ "__name__" := by decide) (hdb : (x == ("__debug__" : Str)) = false := by decide)
    (he : starEach (e :: es) X.env = (false, eval e X.env) :: starEach es X.env := by rfl) (hpl : (backTo pos (starEach es X.env)).any (·.1) = false := by rfl) :
    DE X B (.Call (.Name x p) (e :: es) [] pos) (fun r M Ψ => ga r M fun ds M1 => g M1 ds Ψ) := PE_imp (pe_callTy hc hg hm hv ha hn hdb he hpl) fun σ H Q ⟨r, M, G, Ψ, R, h, k⟩ =>
  ⟨r, M, G, _, R, h, fun ds M1 vs H1 G1 q R1 s1 p1 => ok M1 H1 G1 ds vs Ψ Q R1.wd p1 q fun d M' w H' G' f w' s' p' => k _ _ _ _ _ f (R1.go w' s') (s1.tr s'.gsub) p'⟩
theorem de_ty {x : Str} {n : String} (hm : X.mg x = none) (hv : bootBuiltins x = some (.type n)) (hg : Gl X x := by rfl) (hn : x ≠ "__name__" := by decide) (hd : (x == ("__debug__" : Str)) = false := by decide) : DE X B (.Name x pos) (fun _ M Ψ => Ψ (.ty n) M) :=
  de_c (v := .ty n) (pe_bltn hg hm hv rfl hn hd) fun _ => .ty

def dicOf (M : Sto) : D → Option (List (D × D))
  | .dic l => some l
  | .dlk l => some l
  | .ref p => match M p with
    | some (.dic l) => some l
    | some (.dit l) => some l
    | _ => none
  | _ => none
theorem dicOf_ref {M : Sto} {a : Addr} {l : List (D × D)} (e : dicOf M (.ref a) = some l) : M a = some (.dic l) ∨ M a = some (.dit l) := by
  have e' : (match M a with | some (.dic l) => some l | some (.dit l) => some l | _ => none) = some l := e
  split at e'
  · rename_i l' q
    exact .inl (by rw [q, Option.some.inj e'])
  · rename_i l' q
    exact .inr (by rw [q, Option.some.inj e'])
  · cases e'
theorem dic_rep {K : PySem.W.Frag} {M : Sto} {H G : Hp} {d : D} {v : V} {l : List (D × D)} (w : Wd K M H G) (r : Rep K G d v) (e : dicOf M d = some l) : ∃ a, v = .ref a ∧ ((∃ kvs, Rd H a (.dK kvs) ∧ RepD K G l kvs) ∨ ∃ kvs, H a = some (.dT kvs) ∧ RepT K G l kvs) := by
  cases r with
  | dic h r => cases e; exact ⟨_, rfl, .inl ⟨_, .inl (w.sub _ _ h), r⟩⟩
  | dlk h r => cases e; exact ⟨_, rfl, .inl ⟨_, .inr ⟨_, w.sub _ _ h⟩, r⟩⟩
  | dit h r => cases e; exact ⟨_, rfl, .inr ⟨_, w.sub _ _ h, r⟩⟩
  | ref =>
    rcases dicOf_ref e with e | e
    · obtain ⟨kvs, h1, h2⟩ := (w.cells _ _ e).2
      exact ⟨_, rfl, .inl ⟨kvs, .inl h1, h2⟩⟩
    · exact ⟨_, rfl, .inr (w.cells _ _ e).2⟩
  | _ => cases e
theorem RepD.length {K : PySem.W.Frag} {G : Hp} : ∀ {l : List (D × D)} {kvs : List (Key × V)}, RepD K G l kvs → l.length = kvs.length
  | _, _, .nil => rfl
  | _, _, .cons _ _ r => congrArg (· + 1) r.length
theorem RepT.length {K : PySem.W.Frag} {G : Hp} : ∀ {l : List (D × D)} {kvs : List (List Key × V)}, RepT K G l kvs → l.length = kvs.length
  | _, _, .nil => rfl
  | _, _, .cons _ _ r => congrArg (· + 1) r.length
def lenD (M : Sto) (ds : List D) (φ : PD) : Prop := match ds with
  | [.str x] => x.length ≤ sizeLine ∧ φ (.int x.length) M
  | [.tup l] => φ (.int l.length) M
  | [.lst l] => φ (.int l.length) M
  | [d] => ∃ l, lstOf M d = some l ∧ φ (.int l.length) M
  | _ => False
theorem ok_len {K : PySem.W.Frag} : OkC K (fun xs H Q => ∃ x n, xs = [x] ∧ LenV K x H n ∧ Q (.int n) H) lenD := fun M H G ds vs φ Q w r h k => by
  unfold lenD at h
  split at h
  · cases r with
    | cons r1 r2 => cases r2; cases r1; exact ⟨_, _, rfl, ⟨h.1, rfl⟩, k.id w h.2 .int⟩
  · cases r with
    | cons r1 r2 =>
      cases r2
      obtain ⟨p, us, rfl, h1, r3⟩ := tup_rep w r1 rfl
      exact ⟨_, _, rfl, .inr ⟨_, h1, rfl⟩, by rw [← r3.length]; exact k.id w h .int⟩
  · cases r with
    | cons r1 r2 =>
      cases r2
      obtain ⟨p, us, rfl, h1, r3⟩ := lst_rep' w r1 rfl
      exact ⟨_, _, rfl, .inl ⟨_, h1, rfl⟩, by rw [← r3.length]; exact k.id w h .int⟩
  · cases r with
    | cons r1 r2 =>
      cases r2
      obtain ⟨l, e, h⟩ := h
      obtain ⟨p, us, rfl, h1, r3⟩ := lst_rep' w r1 e
      exact ⟨_, _, rfl, .inl ⟨_, h1, rfl⟩, by rw [← r3.length]; exact k.id w h .int⟩
  · exact h.elim
theorem de_len {p : Pos} (hm : X.mg "len" = none) (ha : DA X B [a] ga) (hg : Gl X "len" := by rfl) (he : starEach [a] X.env = (false, eval a X.env) :: starEach [] X.env := by rfl) : DE X B (.Call (.Name "len" p) [a] [] pos) (fun r M Ψ => ga r M fun ds M1 => lenD M1 ds Ψ) :=
  de_callB call_len ok_len hm PySem.boot_len ha hg (by decide) (by decide) he rfl
def max2D (M : Sto) (ds : List D) (φ : PD) : Prop := match ds with
  | [.int i, .int j] => φ (.int (if j > i then j else i)) M
  | _ => False
def min2D (M : Sto) (ds : List D) (φ : PD) : Prop := match ds with
  | [.int i, .int j] => φ (.int (if j < i then j else i)) M
  | _ => False
def intD (M : Sto) (ds : List D) (φ : PD) : Prop := match ds with
  | [.int i] => φ (.int i) M
  | [.bl b] => φ (.int (if b then 1 else 0)) M
  | _ => False
def strD (M : Sto) (ds : List D) (φ : PD) : Prop := match ds with
  | [.int i] => i.natAbs.log2 < 1920 ∧ φ (.str (toString i)) M
  | _ => False
def allD (M : Sto) (ds : List D) (φ : PD) : Prop := match ds with
  | [d] => ∃ bs : List Bool, lstOf M d = some (bs.map .bl) ∧ φ (.bl (bs.all id)) M
  | _ => False
def anyD (M : Sto) (ds : List D) (φ : PD) : Prop := match ds with
  | [d] => ∃ bs : List Bool, lstOf M d = some (bs.map .bl) ∧ φ (.bl (bs.any id)) M
  | _ => False
def listD (M : Sto) (ds : List D) (φ : PD) : Prop := match ds with
  | [.tup l] => φ (.lst l) M
  | [d] => ∃ l, lstOf M d = some l ∧ φ (.lst l) M
  | _ => False
def tupleD (M : Sto) (ds : List D) (φ : PD) : Prop := match ds with
  | [.tup l] => φ (.tup l) M
  | [d] => ∃ l, lstOf M d = some l ∧ φ (.tup l) M
  | _ => False
section
variable {K : PySem.W.Frag}
theorem ok_int1 : OkC K (fun xs H Q => (∃ i, xs = [.int i] ∧ Q (.int i) H) ∨ ∃ k, xs = [.bl k] ∧ Q (.int (if k then 1 else 0)) H) intD := fun M H G ds vs φ Q w r h k => by
  unfold intD at h
  split at h
  · cases r with | cons r1 r2 => cases r2; cases r1; exact .inl ⟨_, rfl, k.id w h .int⟩
  · cases r with | cons r1 r2 => cases r2; cases r1; exact .inr ⟨_, rfl, k.id w h .int⟩
  · exact h.elim
theorem ok_str1 : OkC K (fun xs H Q => ∃ i : Int, xs = [.int i] ∧ i.natAbs.log2 < 1920 ∧ Q (.str (toString i)) H) strD := fun M H G ds vs φ Q w r h k => by
  unfold strD at h
  split at h
  · cases r with | cons r1 r2 => cases r2; cases r1; exact ⟨_, rfl, h.1, k.id w h.2 .str⟩
  · exact h.elim
theorem one_lst {M : Sto} {H G : Hp} {d : D} {vs : List V} {l : List D} (w : Wd K M H G) (r : RepL K G [d] vs) (e : lstOf M d = some l) : ∃ a us, vs = [.ref a] ∧ SqL K H a us ∧ RepL K G l us := by
  cases r with
  | cons r1 r2 =>
    cases r2
    obtain ⟨a, us, rfl, h1, h2⟩ := lst_rep' w r1 e
    exact ⟨a, us, rfl, h1, h2⟩
theorem ok_all : OkC K (rAll K) allD := fun M H G ds vs φ Q w r h k => by
  unfold allD at h
  split at h
  · obtain ⟨ns, e, h⟩ := h
    obtain ⟨a, us, rfl, h1, h2⟩ := one_lst w r e
    have := repL_bls h2; subst this
    exact ⟨a, ns, rfl, h1, k.id w h .bl⟩
  · exact h.elim
theorem ok_any : OkC K (rAny K) anyD := fun M H G ds vs φ Q w r h k => by
  unfold anyD at h
  split at h
  · obtain ⟨ns, e, h⟩ := h
    obtain ⟨a, us, rfl, h1, h2⟩ := one_lst w r e
    have := repL_bls h2; subst this
    exact ⟨a, ns, rfl, h1, k.id w h .bl⟩
  · exact h.elim
theorem ok_list1 : OkC K (fun xs H Q => ∃ p ys, xs = [.ref p] ∧ (SqL K H p ys ∨ SqT K H p ys) ∧ ∀ l, H l = none → Q (.ref l) (upd H l (.lst ys))) listD := fun M H G ds vs φ Q w r h k => by
  unfold listD at h
  split at h
  · cases r with
    | cons r1 r2 =>
      cases r2
      obtain ⟨p, us, rfl, h1, r3⟩ := tup_rep w r1 rfl
      refine ⟨p, us, rfl, .inr h1, fun l hl => ?_⟩
      have g := grow_upd (o := .lst us) w.sub hl
      exact k.grow w g h (.lst (.inl upd_same) (r3.mono g.gsub))
  · obtain ⟨l, e, h⟩ := h
    obtain ⟨a, us, rfl, h1, r3⟩ := one_lst w r e
    refine ⟨a, us, rfl, .inl h1, fun l hl => ?_⟩
    have g := grow_upd (o := .lst us) w.sub hl
    exact k.grow w g h (.lst (.inl upd_same) (r3.mono g.gsub))
  · exact h.elim
theorem ok_tuple1 : OkC K (fun xs H Q => ∃ p ys, xs = [.ref p] ∧ ((SqL K H p ys ∧ ∀ l, H l = none → Q (.ref l) (upd H l (.tup ys))) ∨ (SqT K H p ys ∧ Q (.ref p) H))) tupleD := fun M H G ds vs φ Q w r h k => by
  unfold tupleD at h
  split at h
  · cases r with
    | cons r1 r2 =>
      cases r2
      obtain ⟨p, us, rfl, h1, r3⟩ := tup_rep w r1 rfl
      exact ⟨p, us, rfl, .inr ⟨h1, k.id w h r1⟩⟩
  · obtain ⟨l, e, h⟩ := h
    obtain ⟨a, us, rfl, h1, r3⟩ := one_lst w r e
    refine ⟨a, us, rfl, .inl ⟨h1, fun l hl => ?_⟩⟩
    have g := grow_upd (o := .tup us) w.sub hl
    exact k.grow w g h (.tup (SqT.of upd_same) (r3.mono g.gsub))
  · exact h.elim
end
def tyN (M : Sto) : D → Option String
  | .non => some "NoneType"
  | .bl _ => some "bool"
  | .int _ => some "int"
  | .str _ => some "str"
  | .tup _ => some "tuple"
  | .tpl _ => some "tuple"
  | .lst _ => some "list"
  | .dic _ => some "dict"
  | .ref p => match M p with
    | some (.lst _) => some "list"
    | some (.dic _) => some "dict"
    | some (.dit _) => some "dict"
    | _ => none
  | _ => none
def isB (t c : String) : Bool := t == c || (t == "bool" && c == "int")
def okTy : List String := ["NoneType", "bool", "int", "str", "tuple", "list", "dict"]
def okCl : List String := ["bool", "int", "str", "tuple", "list"]
theorem kit_isB {K : PySem.W.Frag} : ∀ t ∈ okTy, ∀ c ∈ okCl, PySem.W.kitOne K (.type t) (.type c) = some (isB t c) := by
  have h : ∀ t ∈ okTy, ∀ c ∈ okCl, kitB t c = some (isB t c) := by decide +kernel
  exact fun t ht c hc => kit_ty (h t ht c hc)
theorem tyN_ok {M : Sto} {d : D} {t : String} (e : tyN M d = some t) : t ∈ okTy := by
  unfold tyN at e
  split at e <;> first | (cases e; decide) | (split at e <;> first | (cases e; decide) | cases e) | cases e
theorem tyN_x {K : PySem.W.Frag} {M : Sto} {H G : Hp} {d : D} {v : V} {t : String} (w : Wd K M H G) (r : Rep K G d v) (e : tyN M d = some t) : TyX K H v (.type t) := by
  cases r with
  | non => cases e; exact .base .non
  | bl => cases e; exact .base (.bl _)
  | int => cases e; exact .base (.int _)
  | str => cases e; exact .base (.str _)
  | ty => cases e
  | tup h r =>
    cases e
    rcases w.sub.sqT h with (h | ⟨o, h⟩) | ⟨o, its, n, h1, h2, _⟩
    · exact .base (.tup h)
    · exact .fTuple h
    · exact .kTuple h1 h2
  | tpl h r => cases e; exact .base (.tup (w.sub _ _ h))
  | lst h r =>
    cases e
    rcases w.sub.rd h with h | ⟨o, h⟩
    · exact .base (.lst h)
    · exact .base (.frz h)
  | dic h r => cases e; exact .base (.dK (w.sub _ _ h))
  | dit h r => cases e; exact .base (.dT (w.sub _ _ h))
  | obj h r => cases e
  | lk h r => cases e
  | fn h q => cases e
  | dlk h r => cases e
  | @ref a =>
    have e' : (match M a with | some (.lst _) => some "list" | some (.dic _) => some "dict" | some (.dit _) => some "dict" | _ => none) = some t := e
    split at e'
    · rename_i l q
      cases e'
      obtain ⟨_, vs, h, _⟩ := w.cells _ _ q
      exact .base (.lst h)
    · rename_i l q
      cases e'
      obtain ⟨vs, h, _⟩ := (w.cells _ _ q).2
      exact .base (.dK h)
    · rename_i l q
      cases e'
      obtain ⟨vs, h, _⟩ := (w.cells _ _ q).2
      exact .base (.dT h)
    · cases e'
def isiD (M : Sto) (ds : List D) (φ : PD) : Prop := match ds with
  | [d, .ty c] => c ∈ okCl ∧ ∃ t, tyN M d = some t ∧ φ (.bl (isB t c)) M
  | [d, .tup cs] => ∃ ns : List String, cs = ns.map .ty ∧ (∀ c ∈ ns, c ∈ okCl) ∧ ∃ t, tyN M d = some t ∧ φ (.bl (ns.any fun c => isB t c)) M
  | _ => False
def rIsiS (K : PySem.W.Frag) : List V → Hp → VK → Prop := fun xs H Q => ∃ (x : V) (tp : Addr) (cs : List V) (t : Value) (us : List Value) (b : Bool), xs = [x, .ref tp] ∧ SqT K H tp cs ∧ Paired ClsV cs us ∧ TyX K H x t ∧ PySem.W.kitAny K t us = some b ∧ Q (.bl b) H
theorem call_isiS : CallR X (.builtin "isinstance") (rIsiS X.K) := by
  intro pins s σ H xs us Q I r h
  obtain ⟨x, tp, cs, t, ws, b, rfl, hT, k, ty, e, q⟩ := h
  obtain ⟨u1, u2, rfl, r1, r2⟩ := vals2 r
  cases (show u2 = Value.ref tp from r2)
  obtain ⟨P, Z, p, hx⟩ := kit_of I r1 ty
  obtain ⟨its, rv, ⟨o, h1, h2, n, h3⟩, _⟩ := I.tuple hT
  have e3 := ClsV.all k rv
  subst e3
  obtain ⟨oc, od, dt, sl⟩ := o
  simp only at h2 h3
  subst h2 h3
  exact PySem.W.kia_tup Z I.kIn p h1 e hx fun tk => ⟨.bl b, H, I.tok tk, rfl, q⟩
theorem kit_any {K : PySem.W.Frag} {t : String} (ht : t ∈ okTy) : ∀ {ns : List String}, (∀ c ∈ ns, c ∈ okCl) → PySem.W.kitAny K (.type t) (ns.map Value.type) = some (ns.any fun c => isB t c)
  | [], _ => rfl
  | c :: ns, h => by
    have h1 := kit_isB (K := K) t ht c (h c List.mem_cons_self)
    have ih := kit_any (K := K) ht (ns := ns) fun d hd => h d (List.mem_cons_of_mem _ hd)
    rw [List.map_cons, List.any_cons]
    unfold PySem.W.kitAny
    rw [h1]
    cases isB t c with
    | true => rfl
    | false => exact ih
theorem repL_tys {K : PySem.W.Frag} {G : Hp} : ∀ {ns : List String} {vs : List V}, RepL K G (ns.map D.ty) vs → vs = ns.map V.ty
  | [], _, r => by cases r; rfl
  | n :: ns, _, r => by cases r with | cons r1 r2 => cases r1; rw [repL_tys r2]; rfl
theorem cls_tys : ∀ ns : List String, Paired ClsV (ns.map V.ty) (ns.map Value.type)
  | [] => .nil
  | n :: ns => .cons (.ty n) (cls_tys ns)
theorem ok_isi {K : PySem.W.Frag} : OkC K (fun xs H Q => rIsi K xs H Q ∨ rIsiS K xs H Q) isiD := fun M H G ds vs φ Q w r h k => by
  unfold isiD at h
  split at h
  · obtain ⟨hc, t, e, h⟩ := h
    cases r with
    | cons r1 r2 => cases r2 with
      | cons r2 r3 =>
        cases r3; cases r2
        exact .inl ⟨_, _, _, _, _, rfl, .ty _, tyN_x w r1 e, kit_isB t (tyN_ok e) _ hc, k.id w h .bl⟩
  · obtain ⟨ns, rfl, hc, t, e, h⟩ := h
    cases r with
    | cons r1 r2 => cases r2 with
      | cons r2 r3 =>
        cases r3
        obtain ⟨p, us, rfl, h1, r4⟩ := tup_rep w r2 rfl
        have := repL_tys r4; subst this
        exact .inr ⟨_, p, _, _, _, _, rfl, h1, cls_tys ns, tyN_x w r1 e, kit_any (tyN_ok e) hc, k.id w h .bl⟩
  · exact h.elim
theorem boot_isinstance : bootBuiltins "isinstance" = some (.builtin "isinstance") := by decide +kernel
theorem de_isi {p : Pos} (hm : X.mg "isinstance" = none) (ha : DA X B [a, b] ga) (hg : Gl X "isinstance" := by rfl) (he : starEach [a, b] X.env = (false, eval a X.env) :: starEach [b] X.env := by rfl) (hpl : (backTo pos (starEach [b] X.env)).any (·.1) = false := by rfl) :
    DE X B (.Call (.Name "isinstance" p) [a, b] [] pos) (fun r M Ψ => ga r M fun ds M1 => isiD M1 ds Ψ) :=
  de_callB (CallR_or call_isi call_isiS) ok_isi hm boot_isinstance ha hg (by decide) (by decide) he hpl
end
end Z
namespace Z
open PySem PySem.Spec PyProof.Rows L2

def optK {α : Type} (o : Option α) (φ : α → Prop) : Prop := match o with
  | some d => φ d
  | none => False
theorem optK_some {α : Type} {o : Option α} {φ : α → Prop} (h : optK o φ) : ∃ d, o = some d ∧ φ d := by
  unfold optK at h
  split at h
  · exact ⟨_, rfl, h⟩
  · exact h.elim
theorem optK_of {α : Type} {o : Option α} {φ : α → Prop} {d : α} (e : o = some d) (h : φ d) : optK o φ := by rw [e]; exact h
def ixD (M : Sto) (x y : D) (φ : D → Prop) : Prop := match x, y with
  | .tup l, .int i => optK (atI l i) φ
  | .str z, .int i => z.length ≤ sizeLine ∧ optK (atI z.cps.toList i) fun c => φ (.str ⟨#[c]⟩)
  | x, .int i => optK (lstOf M x) fun l => optK (atI l i) φ
  | _, _ => False
theorem RepL.atI {K : PySem.W.Frag} {G : Hp} {l : List D} {vs : List V} {i : Int} {d : D} (r : RepL K G l vs) (e : L2.atI l i = some d) : ∃ v, L2.atI vs i = some v ∧ Rep K G d v := by
  unfold L2.atI at e ⊢
  rw [← r.length]
  cases q : ixN l.length i with
  | none => rw [q] at e; cases e
  | some j => rw [q] at e; exact r.get e
theorem ok_ix {K : PySem.W.Frag} : Ok2 K (rIx K) ixD := fun M H G x y v u φ Q w rx ry h k => by
  unfold ixD at h
  split at h
  · rename_i l i
    obtain ⟨d, e, h⟩ := optK_some h
    obtain ⟨a, vs, rfl, h1, r1⟩ := tup_rep w rx (l := l) rfl
    cases ry
    obtain ⟨v, e2, p⟩ := r1.atI e
    exact .inr (.inl ⟨a, vs, _, v, rfl, rfl, h1, e2, k _ _ _ _ h (Grow.refl w.sub) p⟩)
  · obtain ⟨z, h⟩ := h
    obtain ⟨c, e, h⟩ := optK_some h
    cases rx; cases ry
    exact .inr (.inr ⟨_, _, c, rfl, rfl, z, e, k _ _ _ _ h (Grow.refl w.sub) .str⟩)
  · obtain ⟨l, e0, h⟩ := optK_some h
    obtain ⟨d, e, h⟩ := optK_some h
    obtain ⟨a, vs, rfl, h1, r1⟩ := lst_rep' w rx e0
    cases ry
    obtain ⟨v, e2, p⟩ := r1.atI e
    exact .inl ⟨a, vs, _, v, rfl, rfl, h1, e2, k _ _ _ _ h (Grow.refl w.sub) p⟩
  · exact h.elim
section
variable {X : Cx} {B : Bs} {pos apos p2 : Pos} {a b e o : Expr} {es : List Expr} {fa fb fo fc : DTE} {ga : DTA} {k : Nat}
theorem de_ix (ha : DE X B a fa) (hb : DE X B b fb) (hs : PlainIx b := by exact fun _ _ => rfl) : DE X B (.Subscript a b pos) (bin2 ixD fa fb) := PE_imp (pe_ix ix_seq ha hb hs) fun σ H Q h => tOp_ok ok_ix h
def liftO (K : PySem.W.Frag) (B : Bs) (f : En → Sto → (Option Int → Sto → Prop) → Prop) : TO := fun σ H Q => ∃ r M G Ψ, Rel K B r M σ H G ∧ f r M Ψ ∧ ∀ b M' H' G', Ψ b M' → Rel K B r M' σ H' G' → Sub G G' → Q b H'
theorem PO_imp {X : Cx} {e : Option Expr} {t t' : TO} (h : PO X e t) (i : ∀ σ H Q, t' σ H Q → t σ H Q) : PO X e t' := ⟨fun pins s σ H Q I q => h.run pins s σ H Q I (i _ _ _ q)⟩
abbrev DO (X : Cx) (B : Bs) (e : Option Expr) (f : En → Sto → (Option Int → Sto → Prop) → Prop) : Prop := PO X e (liftO X.K B f)
theorem do_none : DO X B none (fun _ M Ψ => Ψ none M) := PO_imp po_none fun σ H Q ⟨r, M, G, Ψ, R, h, k⟩ => k _ _ _ _ h R Sub.rfl'
def inK (d : D) (φ : Int → Prop) : Prop := match d with
  | .int i => φ i
  | _ => False
theorem do_some (h : DE X B e fa) : DO X B (some e) (fun r M Ψ => fa r M fun d M1 => inK d fun i => Ψ (some i) M1) := PO_imp (po_some h) fun σ H Q ⟨r, M, G, Ψ, R, h, k⟩ => by
  refine ⟨r, M, G, _, R, h, fun d M1 v H1 G1 q R1 s1 p1 => ?_⟩
  cases p1 with
  | int => exact ⟨_, rfl, k _ _ _ _ q R1 s1⟩
  | _ => exact q.elim
def cutD {α : Type} (xs : List α) (lo hi : Option Int) : List α := (xs.drop (HT.sIx xs.length 0 lo)).take (HT.sIx xs.length xs.length hi - HT.sIx xs.length 0 lo)
def slD (M : Sto) (x : D) (lo hi : Option Int) (φ : D → Prop) : Prop := match x with
  | .str z => z.length ≤ sizeLine ∧ φ (.str (cutS z lo hi))
  | .tup l => φ (.tup (cutD l lo hi))
  | .lk l => φ (.lst (cutD l lo hi))
  | x => optK (lstOf M x) fun l => φ (.lst (cutD l lo hi))
theorem RepL.cut {K : PySem.W.Frag} {G : Hp} {l : List D} {vs : List V} (r : RepL K G l vs) (lo hi : Option Int) : RepL K G (cutD l lo hi) (cutV vs lo hi) := by
  unfold cutD cutV
  rw [← r.length]
  exact (r.drop _).take _
def rSlAll (K : PySem.W.Frag) : V → Option Int → Option Int → Hp → VK → Prop := fun x lo hi H Q => rSlL K x lo hi H Q ∨ rSlA K x lo hi H Q ∨ rSlS x lo hi H Q
theorem cut_whole {α : Type} (l : List α) (lo hi : Option Int) (h : HT.sIx l.length 0 lo = 0 ∧ HT.sIx l.length l.length hi = l.length) : cutD l lo hi = l := by
  unfold cutD
  rw [h.1, h.2]
  simp
theorem sl_ok {K : PySem.W.Frag} {M : Sto} {H G : Hp} {x : D} {v : V} {lo hi : Option Int} {φ : D → Prop} {Q : VK} (w : Wd K M H G) (rx : Rep K G x v) (h : slD M x lo hi φ) (k : ∀ d w H' G', φ d → Grow H G H' G' → Rep K G' d w → Q w H') : rSlAll K v lo hi H Q := by
  unfold slD at h
  split at h
  · cases rx
    exact .inr (.inr ⟨_, rfl, h.1, k _ _ _ _ h.2 (Grow.refl w.sub) .str⟩)
  · rename_i l
    obtain ⟨a, vs, rfl, h1, r1⟩ := tup_rep w rx (l := l) rfl
    have hl := r1.length
    refine .inr (.inl ⟨a, vs, rfl, h1, fun e => ?_, fun e p hp => ?_⟩)
    · rw [← hl] at e
      rw [cut_whole l lo hi e] at h
      exact k _ _ _ _ h (Grow.refl w.sub) rx
    · have g := grow_upd (o := .tup (cutV vs lo hi)) w.sub hp
      exact k _ _ _ _ h g (.tup (SqT.of upd_same) ((r1.cut lo hi).mono g.gsub))
  · rename_i l
    cases rx with
    | @lk _ _ vs h1 r1 =>
      refine .inl ⟨_, vs, rfl, w.sub.sqL h1, fun p hp => ?_⟩
      have g := grow_upd (o := .lst (cutV vs lo hi)) w.sub hp
      exact k _ _ _ _ h g (.lst (.inl upd_same) ((r1.cut lo hi).mono g.gsub))
  · obtain ⟨l, e, h⟩ := optK_some h
    obtain ⟨a, vs, rfl, h1, r1⟩ := lst_rep' w rx e
    refine .inl ⟨a, vs, rfl, h1, fun p hp => ?_⟩
    have g := grow_upd (o := .lst (cutV vs lo hi)) w.sub hp
    exact k _ _ _ _ h g (.lst (.inl upd_same) ((r1.cut lo hi).mono g.gsub))
theorem de_slice {lo hi : Option Expr} {fl fh : En → Sto → (Option Int → Sto → Prop) → Prop} (he : DE X B e fa) (hl : DO X B lo fl) (hu : DO X B hi fh) :
    DE X B (.Subscript e (.Slice lo hi none p2) pos) (fun r M Ψ => fa r M fun x M1 => fl r M1 fun l M2 => fh r M2 fun u M3 => slD M3 x l u fun d => Ψ d M3) :=
  PE_imp (pe_slice (r := rSlAll X.K) (sl_list.or (sl_tupA.or sl_str)) he hl hu) fun σ H Q ⟨r, M, G, Ψ, R, h, k⟩ => by
    refine ⟨r, M, G, _, R, h, fun x M1 v H1 G1 q1 R1 s1 p1 => ?_⟩
    refine ⟨r, M1, G1, _, R1, q1, fun l M2 H2 G2 q2 R2 s2 => ?_⟩
    refine ⟨r, M2, G2, _, R2, q2, fun u M3 H3 G3 q3 R3 s3 => ?_⟩
    exact sl_ok R3.wd (p1.mono (s2.tr s3)) q3 fun d w H' G' f g p => k _ _ _ _ _ f (R3.grow g) (((s1.tr s2).tr s3).tr g.gsub) p
def setD (d : D) (i : Int) (v : D) (M : Sto) (φ : Sto → Prop) : Prop := match d with
  | .ref p => match M p with
    | some (.lst l) => optK (ixN l.length i) fun j => φ (updM M p (.lst (l.set j v)))
    | _ => False
  | _ => False
theorem ds_setix {value : Expr} {p3 : Pos} (hv : DE X B value fc) (ho : DE X B a fa) (hi : DE X B b fb) (hs : swapsWithSole [.Subscript a b p3] value pos.line X.env = pure false := by rfl) (hw : swappedStores [.Subscript a b p3] value X.env = pure none := by rfl)
    (h1 : (assignEach [.Subscript a b p3] X.env).map (·.2) = [assign (.Subscript a b p3) X.env] := by rfl)
    (h2 : ∀ v, assign (.Subscript a b p3) X.env v = (do let ov ← holding [v] (eval a X.env); let iv ← holding [v, ov] (eval b X.env); standAt p3; holding [v, ov, iv] (setItem ov iv v); release [v, ov, iv] []) := by intro _; rfl) :
    DS X B (.Assign [.Subscript a b p3] value pos) (fun E r M => fc r M fun d M1 => fa r M1 fun x M2 => fb r M2 fun y M3 => inK y fun i => setD x i d M3 fun M4 => E.nx r M4) :=
  PS_imp (ps_asg hv (pg_sub ho hi set_list h2) hs hw h1) fun D' σ H h => by
    obtain ⟨r, M, G, E, R, q, k⟩ := EkOk.of h
    refine ⟨r, M, G, _, R, q, fun d M1 v H1 G1 q1 R1 s1 p1 => ?_⟩
    refine ⟨r, M1, G1, _, R1, q1, fun x M2 u H2 G2 q2 R2 s2 p2 => ?_⟩
    refine ⟨r, M2, G2, _, R2, q2, fun y M3 t H3 G3 q3 R3 s3 p3 => ?_⟩
    cases p3 with
    | int =>
      have q4 : setD x _ d M3 _ := q3
      unfold setD at q4
      split at q4
      · split at q4
        · rename_i p l e
          obtain ⟨j, ej, q5⟩ := optK_some q4
          cases p2
          obtain ⟨gp, vs, hp, rl⟩ := R3.wd.cells _ _ e
          obtain ⟨w, s⟩ := cell_put (c := .lst (l.set j d)) (o := .lst (vs.set j v)) R3.wd e ⟨_, upd_same, rl.set ((p1.mono s2).mono s3) j⟩
          exact ⟨_, vs, _, j, rfl, rfl, hp, by rw [← rl.length]; exact ej, k.nx _ _ _ _ _ q5 (R3.go w s) ((s1.tr s2).tr s3)⟩
        · exact q4.elim
      · exact q4.elim
    | _ => exact q3.elim

def signs (x : Str) : List D := x.cps.toList.map fun c => .str ⟨#[c]⟩
theorem di_str {tg : Expr} (he : DE X B e fa) : DI X B tg e (fun r M Ψ => fa r M fun d M1 => match d with | .str x => Ψ (signs x) (fun _ => True) M1 | _ => False) := PI_imp (pi_str he) fun σ H Q ⟨r, M, G, Ψ, R, h, k⟩ => by
  refine ⟨r, M, G, _, R, h, fun d M1 v H1 G1 q R1 s1 p => ?_⟩
  cases p with
  | @str x =>
    refine ⟨x, rfl, k _ _ _ _ _ _ q R1 s1 fun i r2 M2 σ2 H2 G2 R2 t2 _ => ?_⟩
    have hl : (signs x).length = x.cps.size := by unfold signs; rw [List.length_map, Array.length_toList]
    rw [hl]
    refine ⟨fun hi => ⟨hi, fun y H' ⟨e1, c, e2, e3⟩ => ?_⟩, fun hi => hi⟩
    subst e1 e3
    refine ⟨G2, _, Grow.refl R2.wd.sub, ?_, .str⟩
    unfold signs
    rw [List.getElem?_map, Array.getElem?_toList, e2]; rfl
  | _ => exact q.elim
def zipD (xs ys : List D) : List D := (xs.zip ys).map fun p => .tup [p.1, p.2]
theorem yld_pair {K : PySem.W.Frag} {r : En} {M : Sto} {σ : L2.St} {H G : Hp} {T : Addr} {x y : V} {c d : D} (R : Rel K B r M σ H G) (hT : H T = none) (p1 : Rep K G c x) (p2 : Rep K G d y) :
    Grow H G (upd H T (.tup [x, y])) (upd G T (.tup [x, y])) ∧ Rep K (upd G T (.tup [x, y])) (.tup [c, d]) (.ref T) := by
  have g := grow_upd (o := .tup [x, y]) R.wd.sub hT
  exact ⟨g, .tup (SqT.of upd_same) (.cons (p1.mono g.gsub) (.cons (p2.mono g.gsub) .nil))⟩
theorem zip_get {xs ys : List D} {i : Nat} {x y : D} (h1 : xs[i]? = some x) (h2 : ys[i]? = some y) : (zipD xs ys)[i]? = some (.tup [x, y]) := by
  unfold zipD
  rw [List.getElem?_map, List.getElem?_zip_eq_some (z := (x, y)) |>.mpr ⟨h1, h2⟩]; rfl
theorem di_zip {e2 : Expr} {p tpos : Pos} {elts : List Expr} {kk : Nat} (hm : X.mg "zip" = none) (ha : DA X B [e, e2] ga) (hg : Gl X "zip" := by rfl) (hs : starEach [e, e2] X.env = (false, eval e X.env) :: starEach [e2] X.env := by rfl) (hpl : (backTo pos (starEach [e2] X.env)).any (·.1) = false := by rfl) :
    DI X B (.Tuple elts kk tpos) (.Call (.Name "zip" p) [e, e2] [] pos) (fun r M Ψ => ga r M fun ds M1 => match ds with
      | [.tup xs, .tup ys] => Ψ (zipD xs ys) (fun _ => True) M1
      | [x, y] => ∃ xs ys, lstOf M1 x = some xs ∧ lstOf M1 y = some ys ∧ Ψ (zipD xs ys) (fun M => lstOf M x = some xs ∧ lstOf M y = some ys) M1
      | _ => False) := PI_imp (RZ.pi_zipA hg hm ha hs hpl) fun σ H Q ⟨r, M, G, Ψ, R, h, k⟩ => by
  refine ⟨r, M, G, _, R, h, fun ds M1 vs H1 G1 q R1 s1 p => ?_⟩
  split at q
  · rename_i xs ys
    cases p with
    | cons p1 p => cases p with
      | cons p2 p =>
        cases p
        obtain ⟨a, us, rfl, h1, r1⟩ := tup_rep R1.wd p1 (l := xs) rfl
        obtain ⟨b, ws, rfl, h2, r2⟩ := tup_rep R1.wd p2 (l := ys) rfl
        refine ⟨a, b, us, ws, rfl, .inr ⟨h1, h2, k _ _ _ _ _ _ q R1 s1 fun i r3 M3 σ3 H3 G3 R3 t3 _ => ?_⟩⟩
        obtain ⟨a', us', ea, h1', r1'⟩ := tup_rep R3.wd (p1.mono t3) (l := xs) rfl
        obtain ⟨b', ws', eb, h2', r2'⟩ := tup_rep R3.wd (p2.mono t3) (l := ys) rfl
        cases ea; cases eb
        have l1 := r1'.length
        have l2 := r2'.length
        have hz : (zipD xs ys).length = min xs.length ys.length := by unfold zipD; rw [List.length_map, List.length_zip]
        rw [hz]
        refine ⟨fun hi => ?_, fun hi => ⟨us', ws', h1', h2', by omega⟩⟩
        have i1 : i < xs.length := by omega
        have i2 : i < ys.length := by omega
        obtain ⟨x, hx, px⟩ := r1'.get (i := i) (d := xs[i]) (by simp [i1])
        obtain ⟨y, hy, py⟩ := r2'.get (i := i) (d := ys[i]) (by simp [i2])
        refine ⟨⟨us', ws', x, y, h1', h2', hx, hy⟩, fun v H' ⟨T, x', y', e1, hT, e2, f1, f2⟩ => ?_⟩
        subst e1 e2
        have z1 := f1 us' h1'
        have z2 := f2 ws' h2'
        rw [hx] at z1; rw [hy] at z2
        cases z1; cases z2
        obtain ⟨w1, w3⟩ := yld_pair R3 hT px py
        exact ⟨_, _, w1, zip_get (by simp [i1]) (by simp [i2]), w3⟩
  · rename_i x0 y0 _
    obtain ⟨xs, ys, e1, e2, q⟩ := q
    cases p with
    | cons p1 p => cases p with
      | cons p2 p =>
        cases p
        obtain ⟨a, us, rfl, h1, r1⟩ := lst_rep' R1.wd p1 e1
        obtain ⟨b, ws, rfl, h2, r2⟩ := lst_rep' R1.wd p2 e2
        refine ⟨a, b, us, ws, rfl, .inl ⟨h1, h2, k _ _ _ _ _ _ q R1 s1 fun i r3 M3 σ3 H3 G3 R3 t3 hS => ?_⟩⟩
        obtain ⟨a', us', ea, h1', r1'⟩ := lst_rep' R3.wd (p1.mono t3) hS.1
        obtain ⟨b', ws', eb, h2', r2'⟩ := lst_rep' R3.wd (p2.mono t3) hS.2
        cases ea; cases eb
        have l1 := r1'.length
        have l2 := r2'.length
        have hz : (zipD xs ys).length = min xs.length ys.length := by unfold zipD; rw [List.length_map, List.length_zip]
        rw [hz]
        refine ⟨fun hi => ?_, fun hi => ⟨us', ws', h1', h2', by omega⟩⟩
        have i1 : i < xs.length := by omega
        have i2 : i < ys.length := by omega
        obtain ⟨x, hx, px⟩ := r1'.get (i := i) (d := xs[i]) (by simp [i1])
        obtain ⟨y, hy, py⟩ := r2'.get (i := i) (d := ys[i]) (by simp [i2])
        refine ⟨⟨us', ws', x, y, h1', h2', hx, hy⟩, fun v H' ⟨T, x', y', e1, hT, e2, f1, f2⟩ => ?_⟩
        subst e1 e2
        have z1 := f1 us' h1'
        have z2 := f2 ws' h2'
        rw [hx] at z1; rw [hy] at z2
        cases z1; cases z2
        obtain ⟨w1, w3⟩ := yld_pair R3 hT px py
        exact ⟨_, _, w1, zip_get (by simp [i1]) (by simp [i2]), w3⟩
  · exact q.elim
def enumD (xs : List D) : List D := zipD (rngD 0 xs.length) xs
theorem di_enum {p tpos : Pos} {elts : List Expr} {kk : Nat} (hm : X.mg "enumerate" = none) (ha : DA X B [e] ga) (hg : Gl X "enumerate" := by rfl) (hs : starEach [e] X.env = [(false, eval e X.env)] := by rfl) :
    DI X B (.Tuple elts kk tpos) (.Call (.Name "enumerate" p) [e] [] pos) (fun r M Ψ => ga r M fun ds M1 => match ds with
      | [x] => ∃ xs, lstOf M1 x = some xs ∧ Ψ (enumD xs) (fun M => lstOf M x = some xs) M1
      | _ => False) := PI_imp (pi_enum hg hm ha hs) fun σ H Q ⟨r, M, G, Ψ, R, h, k⟩ => by
  refine ⟨r, M, G, _, R, h, fun ds M1 vs H1 G1 q R1 s1 p => ?_⟩
  split at q
  · rename_i x0
    obtain ⟨xs, e1, q⟩ := q
    cases p with
    | cons p1 p =>
      cases p
      obtain ⟨a, us, rfl, h1, r1⟩ := lst_rep' R1.wd p1 e1
      refine ⟨a, us, rfl, h1, k _ _ _ _ _ _ q R1 s1 fun i r3 M3 σ3 H3 G3 R3 t3 hS => ?_⟩
      obtain ⟨a', us', ea, h1', r1'⟩ := lst_rep' R3.wd (p1.mono t3) hS
      cases ea
      have l1 := r1'.length
      have hz : (enumD xs).length = xs.length := by unfold enumD zipD; rw [List.length_map, List.length_zip, rng_len]; omega
      rw [hz]
      refine ⟨fun hi => ?_, fun hi => ⟨us', h1', by omega⟩⟩
      obtain ⟨x, hx, px⟩ := r1'.get (i := i) (d := xs[i]) (by simp [hi])
      refine ⟨⟨us', x, h1', hx⟩, fun v H' ⟨T, x', e1, hT, e2, f1⟩ => ?_⟩
      subst e1 e2
      have z1 := f1 us' h1'
      rw [hx] at z1
      cases z1
      obtain ⟨w1, w3⟩ := yld_pair (c := .int (i : Nat)) R3 hT .int px
      exact ⟨_, _, w1, zip_get (by rw [rng_get hi, Int.zero_add]) (by simp [hi]), w3⟩
  · exact q.elim
end
end Z
namespace Z
open PySem PySem.Spec PyProof.Rows L2

theorem wipe_get {σ : L2.St} {j : Nat} : ∀ {vs : List Nat}, (wipe σ vs)[j]? = if j ∈ vs then (σ[j]?).map (fun _ => none) else σ[j]?
  | [] => by simp [wipe]
  | v :: vs => by
    unfold wipe
    have ih := @wipe_get σ j vs
    by_cases hv : v = j
    · subst hv
      rw [if_pos List.mem_cons_self]
      by_cases hl : v < (wipe σ vs).length
      · rw [List.getElem?_set_self hl]
        rw [wipe_length] at hl
        rw [List.getElem?_eq_getElem hl]; rfl
      · rw [List.getElem?_eq_none (by simpa using hl)]
        rw [wipe_length] at hl
        rw [List.getElem?_eq_none (by omega)]; rfl
    · rw [List.getElem?_set_ne hv, ih]
      have e : (j ∈ v :: vs) ↔ j ∈ vs := by
        rw [List.mem_cons]
        exact ⟨fun z => z.resolve_left fun q => hv q.symm, .inr⟩
      by_cases hm : j ∈ vs
      · rw [if_pos hm, if_pos (e.mpr hm)]
      · rw [if_neg hm, if_neg fun z => hm (e.mp z)]
theorem wipe_set {σ : L2.St} {i : Nat} {o : Option V} {vs : List Nat} (h : i ∈ vs) : wipe (σ.set i o) vs = wipe σ vs := by
  apply List.ext_getElem?
  intro j
  rw [wipe_get, wipe_get]
  by_cases hj : j ∈ vs
  · rw [if_pos hj, if_pos hj]
    by_cases hij : i = j
    · subst hij
      by_cases hl : i < σ.length
      · rw [List.getElem?_set_self hl, List.getElem?_eq_getElem hl]; rfl
      · rw [List.getElem?_eq_none (by simpa using hl), List.getElem?_eq_none (by omega)]
    · rw [List.getElem?_set_ne hij]
  · rw [if_neg hj, if_neg hj]
    exact List.getElem?_set_ne fun e => hj (by rw [← e]; exact h)
theorem wipe_wipe {σ : L2.St} {vs : List Nat} : wipe (wipe σ vs) vs = wipe σ vs := by
  apply List.ext_getElem?
  intro j
  rw [wipe_get]
  by_cases hj : j ∈ vs
  · rw [if_pos hj, wipe_get, if_pos hj]
    cases σ[j]? <;> rfl
  · rw [if_neg hj]
def wipeD (r : En) : List Nat → En
  | [] => r
  | v :: vs => (wipeD r vs).set v none
theorem Rel.wipe {K : PySem.W.Frag} {B : Bs} {r : En} {M : Sto} {σ : L2.St} {H G : Hp} (R : Rel K B r M σ H G) : ∀ vs : List Nat, Rel K B (wipeD r vs) M (L2.wipe σ vs) H G
  | [] => R
  | v :: vs => (R.wipe vs).unset v none
def TgOk (K : PySem.W.Frag) (vs : List Nat) (g : TG) (as : D → En → (En → Prop) → Prop) : Prop := ∀ (B : Bs) (d : D) (v : V) (r : En) (M : Sto) (σ : L2.St) (H G : Hp) (Ψ : En → Prop) (Q : L2.St → Hp → Prop), Rel K B r M σ H G → Rep K G d v → as d r Ψ →
  (∀ r' σ', Ψ r' → Rel K B r' M σ' H G → L2.wipe σ' vs = L2.wipe σ vs → Q σ' H) → g v σ H Q
def asN (i : Nat) : D → En → (En → Prop) → Prop := fun d r Ψ => Ψ (r.set i (some d))
theorem tg_name {K : PySem.W.Frag} {vs : List Nat} {i : Nat} (h : i ∈ vs) : TgOk K vs (gName i) (asN i) := fun B d v r M σ H G Ψ Q R p a k => k _ _ a (R.set p i) (wipe_set h)
def asT2 (i j : Nat) : D → En → (En → Prop) → Prop := fun d r Ψ => match d with
  | .tup [a, b] => Ψ ((r.set i (some a)).set j (some b))
  | _ => False
theorem tg_tup2 {K : PySem.W.Frag} {vs : List Nat} {i j : Nat} (h : i ∈ vs) (h' : j ∈ vs) : TgOk K vs (gTup K 2 (gCons (gName i) (gCons (gName j) gNil))) (asT2 i j) := fun B d v r M σ H G Ψ Q R p a k => by
  unfold asT2 at a
  split at a
  · rename_i x y
    obtain ⟨t, us, rfl, h1, r1⟩ := tup_rep R.wd p rfl
    cases r1 with
    | cons r1 r2 => cases r2 with
      | cons r2 r3 =>
        cases r3
        exact ⟨t, _, rfl, h1, rfl, _, _, rfl, _, _, rfl, rfl, k _ _ a ((R.set r1 i).set r2 j) (by rw [wipe_set h', wipe_set h])⟩
  · exact a.elim
def liftAny (K : PySem.W.Frag) (f : DTE) : TE := fun σ H Q => ∃ B, lift K B f σ H Q
def liftTAny (K : PySem.W.Frag) (f : DTT) : TT := fun σ H Q => ∃ B, liftT K B f σ H Q
theorem Rel.poke {K : PySem.W.Frag} {B : Bs} {r : En} {M : Sto} {σ : L2.St} {H G : Hp} {p : Addr} {xs ys : List V} (R : Rel K B r M σ H G) (hp : H p = some (.lst xs)) (h0 : B.H p = none) (hM : M p = none) (hG : G p = none) : Rel K B r M σ (upd H p (.lst ys)) G where
  wd := ⟨fun a o e => by rw [upd_ne (by intro z; rw [z, hG] at e; cases e)]; exact R.wd.sub _ _ e, fun a c e => by
    obtain ⟨h1, h2⟩ := R.wd.cells a c e
    exact ⟨h1, h2.move Sub.rfl' fun o z => by rw [upd_ne (by intro q; rw [q, hM] at e; cases e)]; exact z⟩⟩
  len := R.len
  slots := R.slots
  sin := ⟨fun a o h n => by rw [upd_ne (by intro z; rw [z, h0] at h; cases h)]; exact R.sin.keep a o h n, fun a h => by rw [upd_ne (by intro z; rw [z, h0] at h; exact h rfl)]; exact R.sin.stay a h, R.sin.gsub, R.sin.gnew, R.sin.mnew⟩
@[irreducible] def compD (vs : List Nat) (wi : DTI) (as : D → En → (En → Prop) → Prop) (tt : DTT) (fe : DTE) (r : En) (M : Sto) (Φ : List D → Sto → Prop) : Prop := wi r M fun xs S M1 => ∃ Iv : Nat → List D → Sto → Prop, Iv 0 [] M1 ∧ (∀ i acc M, Iv i acc M → S M) ∧
  (∀ i d acc M, xs[i]? = some d → Iv i acc M → as d (wipeD r vs) fun r2 => tt r2 M fun b M3 => if b = true then fe r2 M3 fun y M4 => acc.length < sizeLine ∧ Iv (i + 1) (acc ++ [y]) M4 else Iv (i + 1) acc M3) ∧ ∀ acc M, Iv xs.length acc M → Φ acc M
section
variable {X : Cx} {B : Bs} {pos apos p2 : Pos} {e o : Expr} {es : List Expr} {fa fe : DTE} {tt : DTT} {ga : DTA} {k : Nat}
theorem comp_core {vs : List Nat} {wi : DTI} {g : TG} {as : D → En → (En → Prop) → Prop} (tg : TgOk X.K vs g as) {σ : L2.St} {H : Hp} {Q : VK} {r : En} {M : Sto} {G : Hp} {Φ : List D → Sto → Prop} (R : Rel X.K B r M σ H G) (h : compD vs wi as tt fe r M Φ)
    (hQ : ∀ acc M' H' G' D us, Φ acc M' → Rel X.K B r M' σ H' G' → Sub G G' → H' D = some (.lst us) → RepL X.K G' acc us → B.H D = none → M' D = none → G' D = none → Q (.ref D) H') : tLc (liftI X.K B wi) g (liftTAny X.K tt) (liftAny X.K fe) vs σ H Q := by
  unfold compD at h
  refine ⟨r, M, G, _, R, h, fun xs S M1 J H1 G1 ⟨Iv, i0, hS, turn, fin⟩ R1 s1 y => fun D hD => ?_⟩
  have bD : B.H D = none := by
    cases q : B.H D with
    | none => rfl
    | some o => exact absurd hD (R1.sin.stay D (by rw [q]; simp))
  have gD : G1 D = none := by
    cases q : G1 D with
    | none => rfl
    | some u => rw [R1.wd.sub _ _ q] at hD; cases hD
  have mD := R1.wd.nomem hD
  have R1' : Rel X.K B r M1 σ (upd H1 D (.lst [])) G1 := by
    refine R1.go ⟨fun a o e => by rw [upd_ne (ne_of_none (R1.wd.sub _ _ e) hD)]; exact R1.wd.sub _ _ e, fun a c e => ?_⟩ ⟨fun a o h _ => by rw [upd_ne (ne_of_none h hD)]; exact h, fun a h => ?_, Sub.rfl', fun a h n => absurd n h, fun a h n => absurd n h⟩
    · obtain ⟨h1, h2⟩ := R1.wd.cells a c e
      exact ⟨h1, h2.move Sub.rfl' fun o z => by rw [upd_ne (ne_of_none z hD)]; exact z⟩
    · by_cases z : a = D
      · rw [z, upd_same]; simp
      · rw [upd_ne z]; exact h
  refine ⟨fun i m H => ∃ acc us M G2, Rel X.K B r M σ H G2 ∧ Sub G1 G2 ∧ H D = some (.lst us) ∧ RepL X.K G2 acc us ∧ M D = none ∧ G2 D = none ∧ Iv i acc M ∧ i ≤ xs.length ∧ m = xs.length - i, ⟨_, [], [], M1, G1, R1', Sub.rfl', upd_same, .nil, mD, gD, i0, Nat.zero_le _, rfl⟩, ?_⟩
  rintro i m H2 ⟨acc, us, M2, G2, R2, s2, hL, rl, mD2, gD2, i2, hi, rfl⟩
  obtain ⟨y1, y2⟩ := y i r M2 σ H2 G2 R2 s2 (hS _ _ _ i2)
  by_cases hl : i < xs.length
  · obtain ⟨y3, y4⟩ := y1 hl
    refine .inr ⟨y3, fun H => ∃ acc us M G2, Rel X.K B r M σ H G2 ∧ Sub G1 G2 ∧ H D = some (.lst us) ∧ RepL X.K G2 acc us ∧ M D = none ∧ G2 D = none ∧ Iv (i + 1) acc M, fun H ⟨acc, us, M, G2, a1, a2, a3, a4, a5, a6, a7⟩ => ⟨_, by omega, acc, us, M, G2, a1, a2, a3, a4, a5, a6, a7, hl, rfl⟩, fun x H3 hy => ?_⟩
    -- the item has come: the list is what it was
    obtain ⟨G3, d, g3, hd, p⟩ := y4 x H3 hy
    have R3 := R2.grow g3
    have hL3 := g3.same _ _ hL
    have mem_free : ∀ {H' G' : Hp}, Grow H2 G2 H' G' → G' D = none := fun {H' G'} g => by
      cases q : G' D with
      | none => rfl
      | some u => have z := g.gnew D (by rw [q]; simp) gD2; rw [hL] at z; cases z
    have gD3 := mem_free g3
    -- the base of this turn
    have Rw := R3.wipe vs
    have Ri : Rel X.K ⟨H3, G3, M2⟩ (wipeD r vs) M2 (L2.wipe σ vs) H3 G3 := ⟨Rw.wd, Rw.len, Rw.slots, Since.refl⟩
    have back : ∀ {r' : En} {M' : Sto} {σ' : L2.St} {H' G' : Hp}, Rel X.K ⟨H3, G3, M2⟩ r' M' σ' H' G' → Rel X.K B r M' σ H' G' ∧ Sub G3 G' ∧ H' D = some (.lst us) ∧ M' D = none ∧ G' D = none := fun {r' M' σ' H' G'} R' => by
      refine ⟨R3.go R'.wd R'.sin, R'.sin.gsub, R'.sin.keep D _ hL3 mD2, ?_, ?_⟩
      · cases q : M' D with
        | none => rfl
        | some c => have z := R'.sin.mnew D (by rw [q]; simp) mD2; rw [show (⟨H3, G3, M2⟩ : Bs).H D = H3 D from rfl, hL3] at z; cases z
      · cases q : G' D with
        | none => rfl
        | some c => have z := R'.sin.gnew D (by rw [q]; simp) gD3; rw [show (⟨H3, G3, M2⟩ : Bs).H D = H3 D from rfl, hL3] at z; cases z
    refine tg ⟨H3, G3, M2⟩ d x (wipeD r vs) M2 (L2.wipe σ vs) H3 G3 _ _ Ri p (turn i d acc M2 hd i2) fun r' σ' q' R' hw => ⟨by rw [hw, wipe_wipe], ⟨H3, G3, M2⟩, r', M2, G3, _, R', q', fun b M4 H4 G4 q4 R4 s4 => ?_⟩
    cases b with
    | false =>
      obtain ⟨b1, b2, b3, b4, b5⟩ := back R4
      exact ⟨acc, us, M4, G4, b1, (s2.tr g3.gsub).tr b2, b3, (rl.mono g3.gsub).mono b2, b4, b5, q4⟩
    | true =>
      refine ⟨⟨H3, G3, M2⟩, r', M4, G4, _, R4, q4, fun y M5 v H5 G5 ⟨z5, q5⟩ R5 s5 p5 => ?_⟩
      obtain ⟨b1, b2, b3, b4, b5⟩ := back R5
      have rl5 := (rl.mono g3.gsub).mono b2
      exact ⟨us, b3, by rw [← rl.length]; exact z5, acc ++ [y], us ++ [v], M5, G5, b1.poke b3 bD b4 b5, (s2.tr g3.gsub).tr b2, upd_same, rl5.app (.cons p5 .nil), b4, b5, q5⟩
  · have e : i = xs.length := by omega
    subst e
    exact .inl ⟨y2 (Nat.le_refl _), hQ _ _ _ _ _ _ (fin _ _ i2) R2 (s1.tr s2) hL rl bD mD2 gD2⟩
theorem frz_list {K : PySem.W.Frag} {r : En} {M : Sto} {σ : L2.St} {H G : Hp} {p : Addr} {us : List V} {acc : List D} (R : Rel K B r M σ H G) (hp : H p = some (.lst us)) (rl : RepL K G acc us) (h0 : B.H p = none) (hM : M p = none) (hG : G p = none) :
    Rel K B r M σ H (upd G p (.lst us)) ∧ Sub G (upd G p (.lst us)) ∧ Rep K (upd G p (.lst us)) (.lst acc) (.ref p) := by
  have s : Sub G (upd G p (.lst us)) := fun a o e => by rw [upd_ne (by intro z; rw [z, hG] at e; cases e)]; exact e
  refine ⟨⟨⟨fun a o e => ?_, fun a c e => ?_⟩, R.len, fun i d e => let ⟨v, h1, h2⟩ := R.slots i d e; ⟨v, h1, h2.mono s⟩, ⟨R.sin.keep, R.sin.stay, R.sin.gsub.tr s, fun a h n => ?_, R.sin.mnew⟩⟩, s, .lst (.inl upd_same) (rl.mono s)⟩
  · by_cases z : a = p
    · rw [z, upd_same] at e; cases e; rw [z]; exact hp
    · rw [upd_ne z] at e; exact R.wd.sub _ _ e
  · obtain ⟨h1, h2⟩ := R.wd.cells a c e
    refine ⟨?_, h2.move s fun _ z => z⟩
    rw [upd_ne (by intro z; rw [z, hM] at e; cases e)]; exact h1
  · by_cases z : a = p
    · rw [z]; exact h0
    · rw [upd_ne z] at h; exact R.sin.gnew a h n
theorem mut_list {K : PySem.W.Frag} {r : En} {M : Sto} {σ : L2.St} {H G : Hp} {p : Addr} {us : List V} {acc : List D} (R : Rel K B r M σ H G) (hp : H p = some (.lst us)) (rl : RepL K G acc us) (h0 : B.H p = none) (hM : M p = none) (hG : G p = none) :
    Rel K B r (updM M p (.lst acc)) σ H G := by
  refine ⟨⟨R.wd.sub, fun a c e => ?_⟩, R.len, R.slots, ⟨R.sin.keep, R.sin.stay, R.sin.gsub, R.sin.gnew, fun a h n => ?_⟩⟩
  · by_cases z : a = p
    · subst z; rw [updM_same] at e; cases e; exact ⟨hG, us, hp, rl⟩
    · rw [updM_ne z] at e; exact R.wd.cells a c e
  · by_cases z : a = p
    · rw [z]; exact h0
    · rw [updM_ne z] at h; exact R.sin.mnew a h n
theorem de_lc {elt tg iter : Expr} {ifs : List Expr} {scope : Scope} {own : List (Str × Nat)} {wi : DTI} {g : TG} {as : D → En → (En → Prop) → Prop} (hc : X.calm = true) (hN : X.N.Nodup) (hi : DI X B tg iter wi) (ok : BlkOk X.N X.env.scope scope own) (tgk : TgOk X.K (own.map (·.2)) g as)
    (hg : ∀ (s : Shared) (H : Hp) (C : Addr) (cl : List (Str × Addr)) (fp : List Addr), PG (X.blk s H scope (compEnvC scope cl C X.env) fp) tg g)
    (ht : ∀ (B : Bs) (s : Shared) (H : Hp) (C : Addr) (cl : List (Str × Addr)) (fp : List Addr), PTs (X.blk s H scope (compEnvC scope cl C X.env) fp) ifs (liftT X.K B tt))
    (he : ∀ (B : Bs) (s : Shared) (H : Hp) (C : Addr) (cl : List (Str × Addr)) (fp : List Addr), PE (X.blk s H scope (compEnvC scope cl C X.env) fp) elt (lift X.K B fe)) (hs : ∀ x, foldedSetIterable iter X.env x = pure x := by intro _; rfl) :
    DE X B (.ListComp elt [⟨tg, iter, ifs, 0⟩] scope pos) (fun r M Ψ => compD (own.map (·.2)) wi as tt fe r M fun acc M' => Ψ (.lst acc) M') :=
  PE_imp (pe_lc hc hN hi ok hg (fun s H C cl fp => ⟨fun pins s1 σ H1 Q I ⟨B', q⟩ => (ht B' s H C cl fp).run pins s1 σ H1 Q I q⟩) (fun s H C cl fp => ⟨fun pins s1 σ H1 Q I ⟨B', q⟩ => (he B' s H C cl fp).run pins s1 σ H1 Q I q⟩) hs) fun σ H Q ⟨r, M, G, Ψ, R, h, k⟩ =>
    comp_core tgk R h fun acc M' H' G' D us q R' s hL rl h0 hM hG => by
      obtain ⟨a1, a2, a3⟩ := frz_list R' hL rl h0 hM hG
      exact k _ _ _ _ _ q a1 (s.tr a2) a3
theorem de_lcM {elt tg iter : Expr} {ifs : List Expr} {scope : Scope} {own : List (Str × Nat)} {wi : DTI} {g : TG} {as : D → En → (En → Prop) → Prop} (hc : X.calm = true) (hN : X.N.Nodup) (hi : DI X B tg iter wi) (ok : BlkOk X.N X.env.scope scope own) (tgk : TgOk X.K (own.map (·.2)) g as)
    (hg : ∀ (s : Shared) (H : Hp) (C : Addr) (cl : List (Str × Addr)) (fp : List Addr), PG (X.blk s H scope (compEnvC scope cl C X.env) fp) tg g)
    (ht : ∀ (B : Bs) (s : Shared) (H : Hp) (C : Addr) (cl : List (Str × Addr)) (fp : List Addr), PTs (X.blk s H scope (compEnvC scope cl C X.env) fp) ifs (liftT X.K B tt))
    (he : ∀ (B : Bs) (s : Shared) (H : Hp) (C : Addr) (cl : List (Str × Addr)) (fp : List Addr), PE (X.blk s H scope (compEnvC scope cl C X.env) fp) elt (lift X.K B fe)) (hs : ∀ x, foldedSetIterable iter X.env x = pure x := by intro _; rfl) :
    DE X B (.ListComp elt [⟨tg, iter, ifs, 0⟩] scope pos) (fun r M Ψ => compD (own.map (·.2)) wi as tt fe r M fun acc M' => ∀ p, M' p = none → Ψ (.ref p) (updM M' p (.lst acc))) :=
  PE_imp (pe_lc hc hN hi ok hg (fun s H C cl fp => ⟨fun pins s1 σ H1 Q I ⟨B', q⟩ => (ht B' s H C cl fp).run pins s1 σ H1 Q I q⟩) (fun s H C cl fp => ⟨fun pins s1 σ H1 Q I ⟨B', q⟩ => (he B' s H C cl fp).run pins s1 σ H1 Q I q⟩) hs) fun σ H Q ⟨r, M, G, Ψ, R, h, k⟩ =>
    comp_core tgk R h fun acc M' H' G' D us q R' s hL rl h0 hM hG => k _ _ _ _ _ (q D hM) (mut_list R' hL rl h0 hM hG) s .ref
theorem ds_setLc {i : Nat} {y : Str} {py spos : Pos} {elt tg iter : Expr} {ifs : List Expr} {scope : Scope} {own : List (Str × Nat)} {wi : DTI} {g : TG} {as : D → En → (En → Prop) → Prop} (hc : X.calm = true) (hN : X.N.Nodup) (hsw : swapsWith (.ListComp elt [⟨tg, iter, ifs, 0⟩] scope pos) (some (.Name y py)) spos.line X.env = pure true) (hi : DI X B tg iter wi) (ok : BlkOk X.N X.env.scope scope own) (tgk : TgOk X.K (own.map (·.2)) g as)
    (hg : ∀ (s : Shared) (H : Hp) (C : Addr) (cl : List (Str × Addr)) (fp : List Addr), PG (X.blk s H scope (compEnvC scope cl C X.env) fp) tg g)
    (ht : ∀ (B : Bs) (s : Shared) (H : Hp) (C : Addr) (cl : List (Str × Addr)) (fp : List Addr), PTs (X.blk s H scope (compEnvC scope cl C X.env) fp) ifs (liftT X.K B tt))
    (he : ∀ (B : Bs) (s : Shared) (H : Hp) (C : Addr) (cl : List (Str × Addr)) (fp : List Addr), PE (X.blk s H scope (compEnvC scope cl C X.env) fp) elt (lift X.K B fe)) (hs : ∀ x, foldedSetIterable iter X.env x = pure x := by intro _; rfl) (hy : X.N[i]? = some y := by rfl) (hyl : X.env.scope.names.lookup y = some .local := by rfl) :
    DS X B (.Assign [.Name y py] (.ListComp elt [⟨tg, iter, ifs, 0⟩] scope pos) spos) (fun E r M => compD (own.map (·.2)) wi as tt fe r M fun acc M' => E.nx (r.set i (some (.lst acc))) M') :=
  PS_imp (ps_setLc (tt := liftTAny X.K tt) (te := liftAny X.K fe) hc hN hy hyl hsw hi ok hg (fun s H C cl fp => ⟨fun pins s1 σ H1 Q I ⟨B', q⟩ => (ht B' s H C cl fp).run pins s1 σ H1 Q I q⟩) (fun s H C cl fp => ⟨fun pins s1 σ H1 Q I ⟨B', q⟩ => (he B' s H C cl fp).run pins s1 σ H1 Q I q⟩) hs) fun D' σ H h => by
    obtain ⟨r, M, G, E, R, h, k⟩ := EkOk.of h
    refine comp_core tgk R h fun acc M' H' G' D us q R' s hL rl h0 hM hG => ?_
    obtain ⟨a1, a2, a3⟩ := frz_list R' hL rl h0 hM hG
    exact k.nx _ _ _ _ _ q (a1.set a3 i) (s.tr a2)
theorem dts_nil : PTs X [] (liftT X.K B fun _ M Ψ => Ψ true M) := ⟨fun pins s σ H Q I ⟨r, M, G, Ψ, R, h, k⟩ => pts_nil.run pins s σ H Q I (k _ _ _ _ h R Sub.rfl')⟩
theorem dts_one {c : Expr} {ta : DTT} (h : DT X B c ta) : PTs X [c] (liftT X.K B ta) := pts_one h
end
end Z
namespace Z
open PySem PySem.Spec PyProof.Rows L2

structure OexG (K : PySem.W.Frag) (C : Addr) : Prop where
  base : ∃ (B newId initId : String) (bmB : List Value), ExcBaseFacts B newId initId bmB ∧ PySem.StoreFacts B bmB "object.__setattr__" "object" ∧ PySem.W.excOver K C bmB = true ∧
    ∃ nm q N bs bm sn sub ab col dd k0 k1 k2 k3 k5, K.lookup C = some (excClassObj nm q C N bs bm true sn sub ab col dd k0 k1 k2 k3 k5 newId) ∧ ∀ Y : String, bm.contains (.type Y) = bmB.contains (.type Y)
  sa : PySem.W.findIn K (.ref C) "__setattr__" = some (some (.builtin "object.__setattr__"))
  exC : PySem.W.subIn K (.ref C) (.type "BaseException") = some true
  tyC : PySem.W.typeIn K (.ref C) = some (.type "type")
  kC : PySem.W.keepIn K (.ref C) = true
section
variable {X : Cx} {pins : List (Addr × Obj)} {σ : L2.St} {H : Hp} {s : Shared} {a C dx : Addr} {f : Str} {y : V} {u : Value} {fs : List (Str × V)} {Q : Unit → Shared → Prop} {E : Value → Shared → Prop} {A : Around}
theorem taker_none {K : PySem.W.Frag} (h : PySem.W.findIn K (.ref C) f = some none) : PySem.W.takerIn K C f = some none := by
  unfold PySem.W.takerIn
  rw [h]
  rfl
open PySem.Builtin PySem.Builtin.ObjectAttr in
theorem ostG_new (T : OexG X.K C) (I : L2.Inv X pins σ H s) (e : H a = some (exo a C none)) (hno : PySem.W.findIn X.K (.ref C) f = some none) (ry : RelV y u)
    (h : ∀ dx s', H dx = none → dx ≠ a → L2.Inv X pins σ (upd (upd H dx (exd dx [(f, y)])) a (exo a C (some dx))) s' → Q () s') : wpAny (model X.prog X.w) A (setAttr (.ref a) f u) Q E s := by
  obtain ⟨B0, nw, ini, bmB, FB, SF, ov, nm, q, N, bs, bm, sn, sub, ab, col, dd, k0, k1, k2, k3, k5, hC, hbm⟩ := T.base
  obtain ⟨t1, ho⟩ := exo_at I.hok e
  have cl0 : PySem.W.clsIn X.K C = some { name := nm, bases := bs, mro := .ref C :: bm, ns := N, qualname := q, hasDict := true, slotNames := sn, subclasses := sub, abstract := ab, collection := col, hasDel := false } := by
    unfold PySem.W.clsIn
    rw [hC] <;> rfl
  have lk := PySem.W.looks_clsIn (M := model X.prog X.w) I.kIn cl0
  obtain ⟨hp, gn, dr, tk, os⟩ := s
  have J := (⟨ho, rfl, rfl, trivial⟩ : PySem.W.InstAt hp a { cls := .ref C, dict := none, data := .fields #[.ref t1, .none, .none, .none, .bool false, .none] } C none)
  have as_ : a ≠ hp.objs.size := Nat.ne_of_lt (Heap.lt_size ho)
  refine PySem.W.set_plain I.kIn J T.sa (PySem.W.osa_openX SF I.kIn J ov (taker_none hno) fun b => ?_)
  dsimp only
  unfold storeInOwnDict ownDictForStores
  repeat (first | with_reducible refine PySem.HandSPX.store_in_new ?_ ?_ | with_reducible refine wpAny_loadPart_at ho ?_ | with_reducible refine lk.at ?_ | wp_step)
  · exact ⟨_, #[], _, (Heap.get?_update_ne _ _ _ _ as_.symm).trans (Heap.get?_push_at rfl rfl), rfl, fun en he => absurd he (by simp), fun _ => rfl⟩
  intro h' tk' hn sb
  have gd : ∀ b o, b ≠ a → hp.get? b = some o → h'.get? b = some o := fun b o hb eo => (sb.2 b (Nat.ne_of_lt (Heap.lt_size eo))).trans ((Heap.get?_update_ne _ _ _ _ hb).trans (Heap.get?_push_of_some _ eo))
  have ga : h'.get? a = some { cls := .ref C, dict := some hp.objs.size, data := .fields #[.ref t1, .none, .none, .none, .bool false, .none] } := (sb.2 a as_).trans (Heap.get?_update_self _ (Heap.get?_push_of_some _ ho) rfl)
  -- between: the dict is there, the exception does not know of it
  obtain ⟨hm, em⟩ : ∃ hm : Heap, hm = h'.update a fun _ => { cls := .ref C, dict := none, data := .fields #[.ref t1, .none, .none, .none, .bool false, .none] } := ⟨_, rfl⟩
  have ma : hm.get? a = some { cls := .ref C, dict := none, data := .fields #[.ref t1, .none, .none, .none, .bool false, .none] } := by
    rw [em]
    exact Heap.get?_update_self _ ga rfl
  have mb : ∀ b, b ≠ a → hm.get? b = h'.get? b := fun b hb => by
    rw [em]
    exact Heap.get?_update_ne _ _ _ _ hb
  have nm1 : hm.Ns1 hp.objs.size (fun z => if z = f then some u else none) := hn.at fun o eo => (mb _ as_.symm).trans eo
  have I1 : L2.Inv X pins σ (upd H hp.objs.size (exd hp.objs.size [(f, y)])) ⟨hm, gn, dr, tk', os⟩ := I.laid (t' := tk') (fun b o eo => by
    by_cases hb : b = a
    · subst hb
      rw [ma, ← ho]
      exact eo
    · exact (mb b hb).trans (gd b o hb eo)) (Nat.le_refl _) (exd_ok nm1 (relO_put (fs := []) ry fun _ => True.intro))
  have e1 : upd H hp.objs.size (exd hp.objs.size [(f, y)]) a = some (exo a C none) := by rw [upd_ne as_, e]
  have I2 := I1.write (t' := tk') (h' := h') (x := a) (e := a) (o := exo a C (some hp.objs.size)) (by rw [e1]; exact True.intro) (.inl rfl) (fun b o hb eo => (mb b hb).symm.trans eo) ⟨_, ga⟩ (exo_ok ga)
  exact h _ _ (I.hok.fresh (Nat.le_refl _)) as_.symm I2
open PySem.Builtin PySem.Builtin.ObjectAttr in
theorem ostG_old (T : OexG X.K C) (I : L2.Inv X pins σ H s) (e : H a = some (exo a C (some dx))) (ed : H dx = some (exd dx fs)) (hl : fs.length ≤ 900) (hno : PySem.W.findIn X.K (.ref C) f = some none) (ry : RelV y u)
    (h : ∀ s', L2.Inv X pins σ (upd H dx (exd dx ((f, y) :: fs))) s' → Q () s') : wpAny (model X.prog X.w) A (setAttr (.ref a) f u) Q E s := by
  obtain ⟨B0, nw, ini, bmB, FB, SF, ov, nm, q, N, bs, bm, sn, sub, ab, col, dd, k0, k1, k2, k3, k5, hC, hbm⟩ := T.base
  obtain ⟨t1, ho⟩ := exo_at I.hok e
  obtain ⟨mA, hns, rel⟩ := exd_at I.hok ed
  have hw := within_of rel
  have cl0 : PySem.W.clsIn X.K C = some { name := nm, bases := bs, mro := .ref C :: bm, ns := N, qualname := q, hasDict := true, slotNames := sn, subclasses := sub, abstract := ab, collection := col, hasDel := false } := by
    unfold PySem.W.clsIn
    rw [hC] <;> rfl
  have lk := PySem.W.looks_clsIn (M := model X.prog X.w) I.kIn cl0
  obtain ⟨hp, gn, dr, tk, os⟩ := s
  obtain ⟨oD, _, _, hoD, _, _⟩ := hns.count hw
  have J := (⟨ho, rfl, rfl, hoD⟩ : PySem.W.InstAt hp a { cls := .ref C, dict := some dx, data := .fields #[.ref t1, .none, .none, .none, .bool false, .none] } C (some oD))
  refine PySem.W.set_plain I.kIn J T.sa (PySem.W.osa_openX SF I.kIn J ov (taker_none hno) fun b => ?_)
  dsimp only
  unfold storeInOwnDict ownDictForStores
  repeat (first | with_reducible refine PySem.OEX.store_in_old hns hw (by rw [List.length_map]; omega) ?_ | with_reducible refine wpAny_loadPart_at ho ?_ | with_reducible refine lk.at ?_ | wp_step)
  intro h' tk' hn sb
  obtain ⟨o2, e2⟩ : ∃ o, h'.get? dx = some o := by
    obtain ⟨o, _, _, z, _⟩ := hn
    exact ⟨o, z⟩
  exact h _ (I.write (t' := tk') (x := dx) (e := dx) (o := exd dx ((f, y) :: fs)) (by rw [ed]; exact True.intro) (.inl rfl) (fun b o hb eo => (sb.2 b hb).trans eo) ⟨o2, e2⟩ (exd_ok hn (relO_put ry rel)))
end
def tOstG (K : PySem.W.Frag) (f : Str) (to te : TE) : TS := fun D σ H => te σ H fun y H1 => to σ H1 fun x H2 => ∃ a C : Addr, x = .ref a ∧ OexG K C ∧ PySem.W.findIn K (.ref C) f = some none ∧ ((H2 a = some (exo a C none) ∧ ∀ dx, H2 dx = none → dx ≠ a → D.nx σ (upd (upd H2 dx (exd dx [(f, y)])) a (exo a C (some dx)))) ∨
    ∃ (dx : Addr) (fs : List (Str × V)), H2 a = some (exo a C (some dx)) ∧ H2 dx = some (exd dx fs) ∧ fs.length ≤ 900 ∧ D.nx σ (upd H2 dx (exd dx ((f, y) :: fs))))
theorem ps_ostG {X : Cx} {o e : Expr} {to te : TE} {f : Str} {p' pos : Pos} (ho : PE X o to) (he : PE X e te) (hs : swapsWith e (some (.Attribute o f p')) pos.line X.env = pure false := by rfl) : PS X (.Assign [.Attribute o f p'] e pos) (tOstG X.K f to te) :=
  ⟨fun pins s σ H D I h => plainObj_wpAny_Assign_Attribute (thn (he.run pins s σ H _ I h) fun u1 s1 ⟨y, H1, I1, ry, q1⟩ => thn (ho.run pins s1 σ H1 _ I1 q1) fun u2 s2 ⟨x, H2, I2, rx, a, C, ex, T, hno, q⟩ => by
    subst ex
    obtain rfl : u2 = Value.ref a := rx
    exact q.elim (fun ⟨ea, z⟩ => ostG_new T I2 ea hno ry fun dx s' n ne J => ⟨σ, _, J, z dx n ne⟩) fun ⟨dx, fs, ea, ed, hl, z⟩ => ostG_old T I2 ea ed hl hno ry fun s' J => ⟨σ, _, J, z⟩) hs⟩
def spX (C : Addr) (n : Nat) (g : List V → List (Str × V)) : Sp := fun vs H Q _ => vs.length = n + 1 ∧ ∃ a ws, vs = .ref a :: ws ∧ H a = some (exo a C none) ∧
  ∀ dx H', H dx = none → dx ≠ a → H' a = some (exo a C (some dx)) → H' dx = some (exd dx (g ws)) → (∀ b, b ≠ a → b ≠ dx → H' b = H b) → Q .non H'
section
variable {P : Program} {w : World} {K : PySem.W.Frag} {mg : Str → Option Value} {base : Heap}
def tag2 (t fl : Str) : List V → List (Str × V) := fun ws => match ws with
  | [v] => [(fl, v), ("tag", .str t)]
  | _ => []
theorem x1_ok {x qual : Str} {st : Stmt} {f C : Addr} {fd : FuncData} {t fl : Str} {j : Nat} {p1 p2 p3 p4 p5 p6 p7 p8 : Pos} {sc : Scope} (F : Fun K x qual st f fd) (T : OexG K C) (n1 : PySem.W.findIn K (.ref C) "tag" = some none) (n2 : PySem.W.findIn K (.ref C) fl = some none)
    (hb : defBody st = [.Assign [.Attribute (.Name "self" p1) "tag" p2] (.Constant (.str t) j p3) p4, .Assign [.Attribute (.Name "self" p5) fl p6] (.Name fl p7) p8]) (hs : defScope st = sc) (S : FnScope ["self", fl] ["self", fl] sc) (hv : sc.names.lookup ("self" : Str) = some .local) (hv2 : sc.names.lookup fl = some .local) (hd : (fl == ("__debug__" : Str)) = false)
    (hc : (fl == ("__classdict__" : Str)) = false) : FnOk P w K mg base (L2.CX P w) 1 f fd ["self", fl] (spX C 1 (tag2 t fl)) := by
  subst hs
  refine F.okX S (fun vs H Q E h => h.1) fun cdv A outer s H vs Q E hr h => ?_
  obtain ⟨hl, a, ws, rfl, ha, k⟩ := h
  obtain ⟨v, rfl⟩ : ∃ v, ws = [v] := by
    match ws, hl with
    | [v], _ => exact ⟨v, rfl⟩
  rw [hb]
  refine ⟨_, pss_cons (ps_ostG (pe_var (i := 0) rfl (.inl hv)) pe_str) (pss_one (ps_ostG (pe_var (i := 0) rfl (.inl hv)) (pe_var (i := 1) rfl (.inl hv2) hd hc))), ?_⟩
  refine ⟨_, rfl, a, C, rfl, T, n1, .inl ⟨ha, fun dx hdx hne => ?_⟩⟩
  refine ⟨_, rfl, _, rfl, a, C, rfl, T, n2, .inr ⟨dx, _, upd_same, by rw [upd_ne hne, upd_same], Nat.le_of_ble_eq_true rfl, ?_⟩⟩
  refine k dx _ hdx hne (by rw [upd_ne hne.symm, upd_same]) upd_same fun b h1 h2 => ?_
  rw [upd_ne h2, upd_ne h1, upd_ne h2]
structure Xf (P : Program) (w : World) (K : PySem.W.Frag) (mg : Str → Option Value) (base : Heap) (x : Str) (C : Addr) (n : Nat) (g : List V → List (Str × V)) : Prop where
  cls : OexG K C
  mgC : mg x = some (.ref C)
  ex : ∃ fI fd ps, PySem.W.findIn K (.ref C) "__init__" = some (some (.ref fI)) ∧ PySem.W.typeIn K (.ref fI) = some (.type "function") ∧ FnOk P w K mg base (L2.CX P w) 1 fI fd ps (spX C n g) ∧ Binds K fd ps [] ∧ ps.length = n + 1
end
section
variable {X : Cx} {B : Bs} {Ξ : XD → En → Sto → Prop} {pos p : Pos} {e : Expr} {es : List Expr} {ga : DTA} {k n : Nat} {x : Str} {C : Addr} {g : List V → List (Str × V)}
theorem mk_x (XF : Xf X.prog X.w X.K X.mg X.base x C n g) (hr : Room k X.A) (hk : 2 ≤ k) {pins : List (Addr × Obj)} {s : Shared} {σ : L2.St} {H : Hp} {Q : XK} {us : List Value} {vs : List V} (I : L2.Inv X pins σ H s) (rv : Vals vs us) (hl : vs.length = n) (hn : n ≤ 1000)
    (q : ∀ d H', H d = none → H' d = some (.xd (g vs)) → (∀ b, b ≠ d → H' b = H b) → Q (.ref C) (some d) H') : wpAny (model X.prog X.w) X.A (call (.ref C) us) (MkP X pins σ Q) X.xe s := by
  obtain ⟨fI, fd, ps, iC, tI, FO, hb, lp⟩ := XF.ex
  have T := XF.cls
  obtain ⟨B0, nw, ini, bmB, FB, SF, ov, nm, qq, N, bs, bm, sn, sub, ab, col, dd, k0, k1, k2, k3, k5, hC, hbm⟩ := T.base
  obtain ⟨hp, gn, dr, tk, os⟩ := s
  generalize ea : hp.objs.size + 1 = a
  have hsz : hp.objs.size ≤ a := by omega
  have na : H a = none := I.hok.fresh hsz
  have kk : ∀ b o, hp.get? b = some o → ((hp.push (PySem.W.kdv_tup us)).push (PySem.HandSPX.excO C hp.objs.size)).get? b = some o := fun b o z => Heap.get?_push_of_some _ (Heap.get?_push_of_some _ z)
  have hget : ((hp.push (PySem.W.kdv_tup us)).push (PySem.HandSPX.excO C hp.objs.size)).get? a = some (PySem.HandSPX.excO C hp.objs.size) := by rw [← ea]; heap_get
  have I2 : L2.Inv X pins σ (upd H a (exo a C none)) ⟨(hp.push (PySem.W.kdv_tup us)).push (PySem.HandSPX.excO C hp.objs.size), gn, dr, tk, os⟩ := I.laid (t' := tk) kk hsz (exo_ok hget)
  have r2 : Vals (V.ref a :: vs) (Value.ref a :: us) := .cons rfl rv
  have hul : (Value.ref a :: us ++ []).length = ps.length := by rw [List.append_nil, ← r2.length, lp, List.length_cons, hl]
  have hus : us.length ≤ sizeLine := by rw [← rv.length, hl, sizeLine_eq]; omega
  have hsp : spX C n g (V.ref a :: vs) (upd H a (exo a C none)) (fun v H2 => v = .non ∧ ∃ d, H d = none ∧ H2 a = some (exo a C (some d)) ∧ H2 d = some (exd d (g vs)) ∧ Q (.ref C) (some d) (upd (del H2 a) d (.xd (g vs)))) (fun _ _ _ => False) := by
    refine ⟨by rw [List.length_cons, hl], a, vs, rfl, upd_same, fun dx H' h1 h2 h3 h4 h5 => ⟨rfl, dx, ?_, h3, h4, q dx _ ?_ upd_same fun b hb => ?_⟩⟩
    · rw [upd_ne h2] at h1; exact h1
    · rw [upd_ne h2] at h1; exact h1
    · rw [upd_ne hb]
      by_cases z : b = a
      · rw [z, del_same, na]
      · rw [del_ne z, h5 b z hb, upd_ne z]
  refine wpAny_call (PySem.HandSPX.call_own FB hbm (I.kIn _ _ hC) (PySem.W.looks_findIn I.kIn iC) (fun self => PySem.W.bind_fn I.kIn self tI) hus ?_)
  rw [ea]
  refine codeAny_mono (FO.run _ X.stack _ _ ⟨Value.ref a :: us, []⟩ (Value.ref a :: us) _ _ (fun _ _ _ => False) ((hr.mono hk).make C us []) (I2.env0.make C us []) ?_ r2 hsp) fun r s' hq' => ?_
  · have z := hb ⟨(hp.push (PySem.W.kdv_tup us)).push (PySem.HandSPX.excO C hp.objs.size), gn, dr, tk, os⟩ (Value.ref a :: us) I2.kIn hul
    rw [List.append_nil] at z
    exact z
  · cases r with
    | error er =>
      obtain ⟨_, _, _, _, _, _, _, _, _, _, _, _, z⟩ := hq'
      exact z.elim
    | ok fl =>
      cases fl with
      | ret u =>
        obtain ⟨v, H2, os2, bare2, un2, hok2, rv2, ev, d, hd, e1, e2, q2⟩ := hq'
        subst ev
        obtain ⟨h2, g2, d2, t2, os'⟩ := s'
        exact ⟨rv2, mk_end (raises_own T.exC T.tyC) I hsz kk un2 hok2 os2 bare2 e1 e2 hd q2⟩
      | next => exact False.elim hq'
      | brk => exact False.elim hq'
      | cont => exact False.elim hq'
theorem ds_raise1 {t fl : Str} {p2 : Pos} (XF : Xf X.prog X.w X.K X.mg X.base x C 1 (tag2 t fl)) (hr : Room k X.A) (z : Zx X B Ξ) (hc : X.calm = true) (ha : DA X B [e] ga) (hk : 2 ≤ k := by decide) (hg : Gl X x := by rfl) (hdb : (x == ("__debug__" : Str)) = false := by decide)
    (he : starEach [e] X.env = (false, eval e X.env) :: starEach [] X.env := by rfl) : DS X B (.Raise (some (.Call (.Name x p) [e] [] p2)) none pos) (fun E r M => ga r M fun ds M1 => match ds with | [d] => Ξ (C, [(fl, d), ("tag", .str t)]) r M1 | _ => False) := by
  have mk : PMk X (.Call (.Name x p) [e] [] p2) (fun σ H Q => liftA X.K B ga σ H fun vs H1 => vs.length = 1 ∧ ∀ d H', H1 d = none → H' d = some (.xd (tag2 t fl vs)) → (∀ b, b ≠ d → H' b = H1 b) → Q (.ref C) (some d) H') := by
    intro pins s σ H Q I h
    refine wpAny_Call_Name_kw (ld_glob I hg XF.mgC ?_ hdb)
    exact PySem.W.callWith_K (h₀ := X.base) I.ok.mod.kin XF.cls.kC (thn (ha.run p2 pins s σ H _ I h) fun us s1 ⟨vs, H1, I1, rv, l1, q1⟩ => ⟨I1.kIn, mk_x XF hr hk I1 rv l1 (by omega) q1⟩) he rfl
  refine PS_imp (ps_raise hc z.tk mk) fun D' σ H h => ?_
  obtain ⟨r, M, G, E, R, q, _⟩ := EkOk.of h
  refine ⟨r, M, G, _, R, q, fun ds M1 vs H1 G1 q1 R1 s1 p1 => ?_⟩
  split at q1
  · rename_i d
    cases p1 with
    | @cons _ _ v _ p1 p2 =>
      cases p2
      refine ⟨rfl, fun dd H' hd h' hb => ⟨(C, [(fl, d), ("tag", .str t)]), r, M1, G1, q1, ?_, rfl, dd, _, rfl, h', .cons p1 (.cons .str .nil)⟩⟩
      have e : H' = upd H1 dd (.xd (tag2 t fl [v])) := by
        funext b
        by_cases z : b = dd
        · rw [z, upd_same]; exact h'
        · rw [upd_ne z]; exact hb b z
      rw [e]
      refine R1.go ⟨fun a o y => by rw [upd_ne (ne_of_none (R1.wd.sub _ _ y) hd)]; exact R1.wd.sub _ _ y, fun a c y => ?_⟩ ⟨fun a o y _ => by rw [upd_ne (ne_of_none y hd)]; exact y, fun a y => ?_, Sub.rfl', fun a y n => absurd n y, fun a y n => absurd n y⟩
      · obtain ⟨h1, h2⟩ := R1.wd.cells a c y
        exact ⟨h1, h2.move Sub.rfl' fun o z => by rw [upd_ne (ne_of_none z hd)]; exact z⟩
      · by_cases z : a = dd
        · rw [z, upd_same]; simp
        · rw [upd_ne z]; exact y
  · exact q1.elim
end
end Z
namespace Z
open PySem PySem.Spec PyProof.Rows L2

def objOf (M : Sto) : D → Option (Addr × List (Str × D))
  | .obj C fs => some (C, fs)
  | .ref p => match M p with
    | some (.ins C fs) => some (C, fs)
    | _ => none
  | _ => none
theorem objOf_ref {M : Sto} {a C : Addr} {fs : List (Str × D)} (e : objOf M (.ref a) = some (C, fs)) : M a = some (.ins C fs) := by
  have e' : (match M a with | some (.ins C fs) => some (C, fs) | _ => none) = some (C, fs) := e
  split at e'
  · rename_i l' q
    cases e'
    exact q
  · cases e'
theorem obj_rep {K : PySem.W.Frag} {M : Sto} {H G : Hp} {d : D} {v : V} {C : Addr} {fs : List (Str × D)} (w : Wd K M H G) (r : Rep K G d v) (e : objOf M d = some (C, fs)) : ∃ a dx fvs, v = .ref a ∧ H a = some (.ins C dx fvs) ∧ RepF K G fs fvs := by
  cases r with
  | obj h r => cases e; exact ⟨_, _, _, rfl, w.sub _ _ h, r⟩
  | ref =>
    obtain ⟨_, dx, fvs, h, r⟩ := w.cells _ _ (objOf_ref e)
    exact ⟨_, dx, fvs, rfl, h, r⟩
  | _ => cases e
def isO (C : Addr) (M : Sto) (x : D) (φ : List (Str × D) → Prop) : Prop := match objOf M x with
  | some (C', fs) => C' = C ∧ φ fs
  | none => False
theorem isO_some {C : Addr} {M : Sto} {x : D} {φ : List (Str × D) → Prop} (h : isO C M x φ) : ∃ fs, objOf M x = some (C, fs) ∧ φ fs := by
  unfold isO at h
  split at h
  · rename_i C' fs e
    obtain ⟨rfl, h⟩ := h
    exact ⟨fs, e, h⟩
  · exact h.elim
theorem RepF.put {K : PySem.W.Frag} {G : Hp} {f : Str} {d : D} {v : V} (p : Rep K G d v) : ∀ {fs : List (Str × D)} {gs : List (Str × V)}, RepF K G fs gs → RepF K G (putD f d fs) (putF f v gs)
  | _, _, .nil => .cons p .nil
  | _, _, .cons (f := g) q r => by
    unfold putD putF
    by_cases e : g = f
    · rw [if_pos e, if_pos e]; exact .cons p r
    · rw [if_neg e, if_neg e]; exact .cons q (r.put p)
section
variable {X : Cx} {B : Bs} {Ξ : XD → En → Sto → Prop} {k j n : Nat} {c : Ct} {pos apos p p' : Pos} {e o : Expr} {es : List Expr} {kws : List Keyword} {ga gk : DTA} {fa fo : DTE} {C f : Addr} {fn m x : Str} {ks : List Str} {g : List D → List D → List D} {bs : List (Nat × List Str × (List D → List D → List D))}
theorem de_fld (T : Cls X.K C) (nf : NoAttr X.K C fn) (ho : DE X B o fo) (hb : attributeBase o fn X.env (eval o X.env) = eval o X.env := by rfl) :
    DE X B (.Attribute o fn pos) (fun r M Ψ => fo r M fun x M1 => isO C M1 x fun fs => optK (fs.lookup fn) fun d => Ψ d M1) := PE_imp (pe_fld ho hb) fun σ H Q ⟨r, M, G, Ψ, R, h, k⟩ => by
  refine ⟨r, M, G, _, R, h, fun x M1 v H1 G1 q R1 s1 p1 => ?_⟩
  obtain ⟨fs, e1, q⟩ := isO_some q
  obtain ⟨d, e2, q⟩ := optK_some q
  obtain ⟨a, dx, fvs, rfl, h1, r1⟩ := obj_rep R1.wd p1 e1
  obtain ⟨u, e3, p3⟩ := r1.look e2
  exact ⟨a, C, dx, fvs, u, rfl, h1, T, nf, e3, k _ _ _ _ _ q R1 s1 p3⟩
theorem ds_fld {value : Expr} (T : Cls X.K C) (nf : NoAttr X.K C fn) (hv : DE X B value fa) (ho : DE X B o fo) (hs : swapsWith value (some (.Attribute o fn p')) pos.line X.env = pure false := by rfl) :
    DS X B (.Assign [.Attribute o fn p'] value pos) (fun E r M => fa r M fun d M1 => fo r M1 fun x M2 => match x with
      | .ref a => match M2 a with
        | some (.ins C' fs) => C' = C ∧ fs.length < 1000 ∧ E.nx r (updM M2 a (.ins C (putD fn d fs)))
        | _ => False
      | _ => False) := PS_imp (ps_fld ho hv hs) fun D' σ H h => by
  obtain ⟨r, M, G, E, R, q, k⟩ := EkOk.of h
  refine ⟨r, M, G, _, R, q, fun d M1 v H1 G1 q1 R1 s1 p1 => ?_⟩
  refine ⟨r, M1, G1, _, R1, q1, fun x M2 u H2 G2 q2 R2 s2 p2 => ?_⟩
  split at q2
  · split at q2
    · rename_i a _ C' fs em
      obtain ⟨rfl, hl, q2⟩ := q2
      cases p2
      obtain ⟨ga, dx, fvs, h1, r1⟩ := R2.wd.cells _ _ em
      obtain ⟨w, s⟩ := cell_put (c := .ins C' (putD fn d fs)) (o := .ins C' dx (putF fn v fvs)) R2.wd em ⟨dx, _, upd_same, r1.put (p1.mono s2)⟩
      exact ⟨a, C', dx, fvs, rfl, h1, T, nf, by rw [← r1.length]; exact hl, k.nx _ _ _ _ _ q2 (R2.go w s) (s1.tr s2)⟩
    · exact q2.elim
  · exact q2.elim
structure Mf (P : Program) (w : World) (K : PySem.W.Frag) (mg : Str → Option Value) (base : Heap) (C : Addr) (m : Str) (k : Nat) (c : Ct) (bs : List (Nat × List Str × (List D → List D → List D))) : Prop where
  ex : ∃ f fd ps, Meth K C m f ∧ FnOk P w K mg base (L2.CX P w) k f fd ps (spC K ps.length c) ∧ ∀ b ∈ bs, BindD K fd ps b
theorem de_meth {pl : Sem Bool} (F : Mf X.prog X.w X.K X.mg X.base C m j c bs) (T : Cls X.K C) (hr : Room k X.A) (z : Zx X B Ξ) (hb : (n + 1, [], g) ∈ bs) (ho : DE X B o fo) (ha : DA X B (e :: es) ga) (hj : j ≤ k := by decide)
    (hst : starEach (e :: es) X.env = (false, eval e X.env) :: starEach es X.env := by rfl) (hpl : (backTo pos (starEach es X.env)).any (·.1) = false := by rfl)
    (ht : eval (.Call (.Attribute o m apos) (e :: es) [] pos) X.env = (do let ov ← eval o X.env; standAt apos.atName; let (f, first) ← holding [ov] (getMethod ov m pl); callWith pos f first (backTo pos (starEach (e :: es) X.env)) (backToKw pos (keywordEach [] X.env))) := by rfl) :
    DE X B (.Call (.Attribute o m apos) (e :: es) [] pos) (fun r M Ψ => fo r M fun x M1 => isO C M1 x fun fs => fs.lookup m = none ∧ ga r M1 fun ds M2 => callD (n + 1) 0 g c Ξ (x :: ds) [] r M2 Ψ) := by
  obtain ⟨f, fd, ps, mt, FO, hbs⟩ := F.ex
  refine ⟨fun pins s σ H Q I ⟨r, M, G, Ψ, R, h, kk⟩ => ?_⟩
  refine PySem.W.methodCall_KW (pl := pl) (thn (ho.run pins s σ H _ I ⟨r, M, G, _, R, h, fun x M1 v H1 G1 q R1 s1 p1 => (⟨x, M1, G1, q, R1, s1, p1⟩ : ∃ x M1 G1, (isO C M1 x fun fs => fs.lookup m = none ∧ ga r M1 fun ds M2 => callD (n + 1) 0 g c Ξ (x :: ds) [] r M2 Ψ) ∧ Rel X.K B r M1 σ H1 G1 ∧ Sub G G1 ∧ Rep X.K G1 x v)⟩) fun u s1 ⟨v, H1, I1, rx, x, M1, G1, q, R1, t1, p1⟩ => ?_) ht
  obtain ⟨fs, e1, l, q⟩ := isO_some q
  obtain ⟨a, dx, fvs, rfl, h1, r1⟩ := obj_rep R1.wd p1 e1
  obtain rfl : u = Value.ref a := rx
  refine getmeth_ok I1 h1 T mt (r1.none l) ?_
  refine PySem.W.callWith_K (first := [.ref a]) (h₀ := X.base) I.ok.mod.kin mt.kp (thn (ha.run pos pins s1 σ H1 _ I1 ⟨r, M1, G1, _, R1, q, fun ds M2 vs H2 G2 q R2 s2 p2 => (⟨ds, M2, G2, q, R2, s2, p2⟩ : ∃ ds M2 G2, callD (n + 1) 0 g c Ξ (x :: ds) [] r M2 Ψ ∧ Rel X.K B r M2 σ H2 G2 ∧ Sub G1 G2 ∧ RepL X.K G2 ds vs)⟩) fun us s2 ⟨vs, H2, I2, rv, ds, M2, G2, ⟨l1, _, q⟩, R2, t2, p2⟩ => ⟨I2.kIn, ?_⟩) hst hpl
  exact run_c (us := .ref a :: us) (vs := .ref a :: vs) (zs := []) (ws := []) (dz := []) FO (hr.mono hj) (hbs _ hb) z.tk I2 R2 (.cons rfl rv) .nil (.cons (p1.mono t2) p2) .nil l1 rfl q fun d M' v H' G' q R' s' p' => kk _ _ _ _ _ q R' ((t1.tr t2).tr s') p'
theorem de_methK0 {pl : Sem Bool} (F : Mf X.prog X.w X.K X.mg X.base C m j c bs) (T : Cls X.K C) (hr : Room k X.A) (z : Zx X B Ξ) (hb : (1, ks, g) ∈ bs) (ho : DE X B o fo) (hkw : DK X B kws gk) (hj : j ≤ k := by decide)
    (hall : (backToKw pos (keywordEach kws X.env)).all (·.1.isSome) = true := by rfl) (hks : (backToKw pos (keywordEach kws X.env)).filterMap (·.1) = ks := by rfl)
    (hpl : ((backTo pos (starEach [] X.env)).any (·.1) || (backToKw pos (keywordEach kws X.env)).any (·.1.isNone)) = false := by rfl)
    (ht : eval (.Call (.Attribute o m apos) [] kws pos) X.env = (do let ov ← eval o X.env; standAt apos.atName; let (f, first) ← holding [ov] (getMethod ov m pl); callWith pos f first (backTo pos (starEach [] X.env)) (backToKw pos (keywordEach kws X.env))) := by rfl) :
    DE X B (.Call (.Attribute o m apos) [] kws pos) (fun r M Ψ => fo r M fun x M1 => isO C M1 x fun fs => fs.lookup m = none ∧ gk r M1 fun dz M3 => callD 1 ks.length g c Ξ [x] dz r M3 Ψ) := by
  obtain ⟨f, fd, ps, mt, FO, hbs⟩ := F.ex
  refine ⟨fun pins s σ H Q I ⟨r, M, G, Ψ, R, h, kk⟩ => ?_⟩
  refine PySem.W.methodCall_KW (pl := pl) (thn (ho.run pins s σ H _ I ⟨r, M, G, _, R, h, fun x M1 v H1 G1 q R1 s1 p1 => (⟨x, M1, G1, q, R1, s1, p1⟩ : ∃ x M1 G1, (isO C M1 x fun fs => fs.lookup m = none ∧ gk r M1 fun dz M3 => callD 1 ks.length g c Ξ [x] dz r M3 Ψ) ∧ Rel X.K B r M1 σ H1 G1 ∧ Sub G G1 ∧ Rep X.K G1 x v)⟩) fun u s1 ⟨v, H1, I1, rx, x, M1, G1, q, R1, t1, p1⟩ => ?_) ht
  obtain ⟨fs, e1, l, q⟩ := isO_some q
  obtain ⟨a, dx, fvs, rfl, h1, r1⟩ := obj_rep R1.wd p1 e1
  obtain rfl : u = Value.ref a := rx
  refine getmeth_ok I1 h1 T mt (r1.none l) ?_
  refine PySem.W.callWith_KW0 (first := [.ref a]) (h₀ := X.base) I.ok.mod.kin mt.kp hall ?_ hpl
  refine thn (hkw.run pos pins s1 σ H1 _ I1 ⟨r, M1, G1, _, R1, q, fun dz M3 us H3 G3 q R3 s3 p3 => (⟨dz, M3, G3, q, R3, s3, p3⟩ : ∃ dz M3 G3, callD 1 ks.length g c Ξ [x] dz r M3 Ψ ∧ Rel X.K B r M3 σ H3 G3 ∧ Sub G1 G3 ∧ RepL X.K G3 dz us)⟩) fun ws s3 ⟨zs, H3, I3, rz, dz, M3, G3, ⟨l1, l2, q⟩, R3, t3, p3⟩ => ⟨I3.kIn, ?_⟩
  rw [hks]
  exact run_c (us := [.ref a]) (vs := [.ref a]) FO (hr.mono hj) (hbs _ hb) z.tk I3 R3 (.cons rfl .nil) rz (.cons (p1.mono t3) .nil) p3 l1 l2 q fun d M' v H' G' q R' s' p' => kk _ _ _ _ _ q R' ((t1.tr t3).tr s') p'
end
end Z
namespace Z
open PySem PySem.Spec PyProof.Rows L2

abbrev noX : XD → Sto → Prop := fun _ _ => False
theorem Env0_at {P : Program} {w : World} {K : PySem.W.Frag} {mg : Str → Option Value} {base : Heap} {A A' : Around} {outer : List Env} {s : Shared} {H : Hp} (e : Env0 P w K mg base A outer s H) (h : A'.frames = A.frames) : Env0 P w K mg base A' outer s H :=
  ⟨h.trans e.frames, e.mod, e.bs, e.bsz, e.funs, e.frf, e.hok, e.bare⟩
section
variable {X : Cx} {B : Bs} {Ξ : XD → En → Sto → Prop} {k j n : Nat} {c : Ct} {pos apos p p' p1 p2 : Pos} {a b e o : Expr} {es : List Expr} {kws : List Keyword} {ga gk : DTA} {fa fb fo : DTE} {C : Addr} {fn m x : Str} {ks : List Str} {g : List D → List D → List D} {bs : List (Nat × List Str × (List D → List D → List D))}
theorem run_n {f : Addr} {fd : FuncData} {ps : List Str} {pins : List (Addr × Obj)} {M : Sto} {σ : L2.St} {H G : Hp} {s : Shared} {Q : VK} {vs : List V} {us : List Value} {ds : List D} {Ψ : D → Sto → Prop} {A : Around} {E : Value → Shared → Prop}
    (F : FnOk X.prog X.w X.K X.mg X.base (L2.CX X.prog X.w) k f fd ps (spC X.K ps.length c)) (hr : Room k A) (hA : A.frames = X.A.frames) (hb : BindD X.K fd ps (ds.length, [], fun ds _ => ds)) (I : L2.Inv X pins σ H s) (w : Wd X.K M H G) (hv : Vals vs us) (rv : RepL X.K G ds vs)
    (hc : c ds M Ψ noX) (hQ : Post X.K H G M Ψ Q) : wpAny (model X.prog X.w) A (call (.ref f) us) (EP X pins σ Q) E s := by
  obtain ⟨hl, gl, gV, kb, rel⟩ := hb
  have rr := rel G ds vs [] [] rv .nil
  have u1 : us.length = ds.length := by rw [← hv.length, ← rv.length]
  have hsp : spC X.K ps.length c (gV vs []) H Q (fun _ _ _ => False) := ⟨by rw [← rr.length]; exact hl ds [] rfl rfl, _, G, M, Ψ, _, w, rr, hc, fun d M' v H' G' q w s p => hQ d M' v H' G' q w s p, fun _ _ _ _ _ _ z _ _ _ => z.elim⟩
  refine wpAny_call (codeAny_mono (F.run A X.stack s H ⟨us, []⟩ (gl us []) (gV vs []) Q _ hr (Env0_at I.env0 hA) (kb.to s us [] I.kIn u1 rfl) (kb.rel hv .nil) hsp) fun fr s' hq => ?_)
  cases fr with
  | error e =>
    obtain ⟨_, _, _, _, _, _, _, _, _, _, _, _, z⟩ := hq
    exact z.elim
  | ok fl =>
    cases fl with
    | ret u => exact I.after hq
    | next => exact False.elim hq
    | brk => exact False.elim hq
    | cont => exact False.elim hq
theorem cmp_back {pins : List (Addr × Obj)} {σ : L2.St} {Q : VK} {v : Value} {s' : Shared} (h : EP X pins σ Q v s') : PySem.W.CmpBack (EP X pins σ Q) v s' := by
  obtain ⟨x, H', I', r, q⟩ := id h
  cases x with
  | non => cases r; exact h
  | bl _ => cases r; exact h
  | int _ => obtain ⟨_, rfl⟩ := r; exact h
  | str _ => obtain ⟨_, rfl⟩ := r; exact h
  | byt _ => obtain ⟨_, rfl⟩ := r; exact h
  | flt _ => obtain ⟨_, rfl⟩ := r; exact h
  | ref _ => cases r; exact h
  | ty _ => cases r; exact h
def OkP2 (K : PySem.W.Frag) (r : R2) (g : Sto → D → D → PD → Prop) : Prop := ∀ (M : Sto) (H G : Hp) (x y : D) (v u : V) (φ : PD) (Q : VK), Wd K M H G → Rep K G x v → Rep K G y u → g M x y φ → Post K H G M φ Q → r v u H Q
theorem tOp_okP {r : R2} {g : Sto → D → D → PD → Prop} (ok : OkP2 X.K r g) {σ : L2.St} {H : Hp} {Q : VK} (h : lift X.K B (fun r M Ψ => fa r M fun x M1 => fb r M1 fun y M2 => g M2 x y Ψ) σ H Q) : tOp r (lift X.K B fa) (lift X.K B fb) σ H Q := by
  obtain ⟨r, M, G, Ψ, R, h, k⟩ := h
  refine ⟨r, M, G, _, R, h, fun d M1 v H1 G1 q1 R1 s1 p1 => ?_⟩
  refine ⟨r, M1, G1, _, R1, q1, fun y M2 u H2 G2 q2 R2 s2 p2 => ?_⟩
  exact ok M2 H2 G2 _ _ _ _ _ _ R2.wd (p1.mono s2) p2 q2 fun d M' w H' G' f w' s' p => k _ _ _ _ _ f (R2.go w' s') ((s1.tr s2).tr s'.gsub) p
theorem bind2 {fd : FuncData} {ps : List Str} {K : PySem.W.Frag} (h : BindD K fd ps (Z.pos 2)) {x y : D} : BindD K fd ps ([x, y].length, [], fun ds _ => ds) := h
def eqR (K : PySem.W.Frag) (C : Addr) (M : Sto) (y : D) : Prop := (∃ fs, objOf M y = some (C, fs)) ∨ ∃ t, tyN M y = some t ∧ PySem.W.notFirst K C (.type t) = true
def rOwnE (K : PySem.W.Frag) (C : Addr) (c : Ct) (neg : Bool) : R2 := fun v u H Q => ∃ a dx fs t, v = .ref a ∧ H a = some (.ins C dx fs) ∧ (TyX K H u t ∨ ∃ b dy gs, u = .ref b ∧ H b = some (.ins C dy gs) ∧ t = .ref C) ∧ PySem.W.notFirst K C t = true ∧
  ∃ M G x y, Wd K M H G ∧ Rep K G x v ∧ Rep K G y u ∧ c [x, y] M (fun d M' => ∃ b, d = .bl b ∧ ∀ H' G', Wd K M' H' G' → Since H G M M' H' G' → Q (.bl (if neg then !b else b)) H') noX
def ownE (K : PySem.W.Frag) (C : Addr) (c : Ct) (neg : Bool) (M : Sto) (x y : D) (φ : PD) : Prop := isO C M x fun _ => eqR K C M y ∧ c [x, y] M (fun d M' => blD (fun b => φ (.bl (if neg then !b else b)) M') d) noX
def Mono (c : Ct) : Prop := ∀ ds M (Ψ Ψ' : PD) (Ξ Ξ' : XD → Sto → Prop), (∀ d M', Ψ d M' → Ψ' d M') → (∀ x M', Ξ x M' → Ξ' x M') → c ds M Ψ Ξ → c ds M Ψ' Ξ'
theorem looks_ty {pins : List (Addr × Obj)} {σ : L2.St} {H : Hp} {s : Shared} {v : V} {u t : Value} (I : L2.Inv X pins σ H s) (r : RelV v u) (h : TyX X.K H v t ∨ ∃ b dy gs, v = .ref b ∧ H b = some (.ins C dy gs) ∧ t = .ref C) (M : Model) : PySem.W.Looks M s.heap (typeOf u) t := by
  rcases h with h | ⟨b, dy, gs, rfl, hb, rfl⟩
  · obtain ⟨P, k, p, _⟩ := kit_of I r h
    exact k.ty M _ I.kIn p
  · cases r
    obtain ⟨mB, J, _⟩ := ins_get I.hok hb
    obtain ⟨od, J, _⟩ := J.look
    exact J.type
end
theorem slot_ne : Slot "object" "__ne__" "object.__ne__" := .of (owner := "object") (n := "__ne__") (by rw [typeLookup_type, builtinLookup_eq_fast]; kernel_rfl) (by decide +kernel) (by decide +kernel) (by decide +kernel) (.inl (by decide +kernel)) (by rw [isSubtype_type]; kernel_rfl)
section
variable {prog : Program} {w : World} {A : Around} {E : Value → Shared → Prop} {s : Shared} {K : PySem.W.Frag} {x C L f : Addr} {h₀ : Heap} {m : Str → Option Value} {ox : Obj} {od : Option Obj} {b tb : Value}
theorem ne_entry {Q : Fin → Shared → Prop} (X : K.In s.heap) (hu : A.units < cLine) (I : PySem.W.InstAt s.heap x ox C od) (hs : PySem.W.findIn K (.ref C) "__eq__" = some (some (.ref f))) (hf : PySem.W.isFn K (.ref f) = true)
    (h : wpAny (model prog w) A (call (.ref f) [.ref x, b]) (fun v s' => ∃ y, v = .bool y ∧ Q (.done (.ret (.bool (!y)))) s') E s) : wpAny (model prog w) A (Builtin.«object.__ne__» ⟨[.ref x, b], []⟩) Q E s := by
  unfold Builtin.«object.__ne__»
  repeat (first
    | with_reducible refine wpAny_cRoomFor hu ?_
    | (refine wpAny_bind (m := callSpecialIfBound? (.ref x) (Str.ofString "__eq__") [b])
        (PySem.W.ifBound_K X I hs hf (wpAny_mono h (fun r s' hr => by
          obtain ⟨y, rfl, hq⟩ := hr
          repeat (first | exact hq | exact wpAny_pure hq | exact wpAny_truthy_bool hq | (refine wpAny_bind (m := truthy (.bool _)) (wpAny_truthy_bool ?_)) | wp_step)) fun _ _ e => e)))
    | wp_step)
theorem ne_K {Q : Value → Shared → Prop} (hu : A.units + 1 < cLine) (F : PyProof.Rows.Fr h₀ L s.heap m) (X₀ : K.In h₀) (I : PySem.W.InstAt s.heap x ox C od) (hb : PySem.W.Looks (model prog w) s.heap (typeOf b) tb) (hn : PySem.W.notFirst K C tb = true)
    (hne : PySem.W.findIn K (.ref C) "__ne__" = some (some (.builtin "object.__ne__"))) (hm : PySem.W.mroIn K C (.type "object") = some true) (hs : PySem.W.findIn K (.ref C) "__eq__" = some (some (.ref f))) (hf : PySem.W.isFn K (.ref f) = true)
    (h : wpAny (model prog w) A.in1 (call (.ref f) [.ref x, b]) (fun v s' => ∃ y, v = .bool y ∧ Q (.bool (!y)) s') E s) : wpAny (model prog w) A (richCompare .NotEq (.ref x) b) Q E s := by
  have X := X₀.keeps F.keep
  have cl : wpAny (model prog w) A (call (.builtin "object.__ne__") [.ref x, b]) (fun r s' => ∃ y, r = .bool y ∧ Q (.bool y) s') E s := by
    refine wpAny_call (codeAny_call_builtin slot_ne.plain PySem.F.cmpEntry_ne (PySem.W.check_slot PySem.F.cmpKind_ne PySem.F.cmpSplit_ne (I.type.andThen (PySem.W.looks_mroIn X hm)) (PySem.F.cmpArgs_ne _ _) (ne_entry (A := A.in1) X hu I hs hf (wpAny_mono h (fun v s' hv => ?_) fun _ _ e => e))))
    obtain ⟨y, rfl, hq⟩ := hv
    exact ⟨y, rfl, _, rfl, hq⟩
  have one : wpAny (model prog w) A (tryCompare (.ref x) (cmpInfo .NotEq).2.1 b) (fun r s' => ∃ v, r = some v ∧ Q v s') E s := by
    rw [cmpInfo_NotEq]
    unfold tryCompare
    simp only [callSpecialIfBound?, bindSpecialIfBound?]
    refine wpAny_bind (wpAny_holding (wpAny_bind (wpAny_bind (wpAny_bind (I.type.here ((PySem.W.looks_findIn X hne).here ?_))))))
    simp only [slot_ne.bind]
    refine wpAny_bind (wpAny_askSetting (wpAny_ite ?_))
    have fin : ∀ R : Option Value → Shared → Prop, (∀ y s', Q (.bool y) s' → R (some (.bool y)) s') → wpAny (model prog w) A (call (.builtin "object.__ne__") ([.ref x] ++ [b]) >>= fun v => pure (some v)) R E s := fun R hR =>
      wpAny_bind (wpAny_mono cl (fun v s' h' => by obtain ⟨y, rfl, hq⟩ := h'; exact wpAny_pure (hR _ _ hq)) fun _ _ h' => h')
    split
    · exact wpAny_bind (wpAny_pure (wpAny_pure (fin _ fun y s' hq => wpAny_pure ⟨_, rfl, hq⟩)))
    · exact wpAny_tryCatch (wpAny_bind (wpAny_pure (wpAny_pure (fin _ fun y s' hq => wpAny_pure ⟨_, rfl, hq⟩))))
  unfold richCompare
  simp only [oneThing_ref]
  refine wpAny_holding (wpAny_bind (wpAny_cRoomFor (Nat.lt_of_succ_lt hu) ?_))
  refine wpAny_bind (I.type.here (wpAny_bind (hb.here ?_)))
  split
  · rename_i q
    have e : PySem.W.subIn K tb (.ref C) = some false := by
      rcases Bool.or_eq_true_iff.mp hn with e | e
      · rw [beq_iff_eq.mp e] at q; simp at q
      · exact beq_iff_eq.mp e
    refine wpAny_bind ((PySem.W.looks_subIn X e).here ?_)
    simp only [Bool.false_eq_true, if_false]
    refine wpAny_bind (wpAny_mono one (fun r s' z => ?_) fun _ _ e => e)
    obtain ⟨v, rfl, hq⟩ := z
    exact wpAny_pure hq
  · refine wpAny_bind (wpAny_pure ?_)
    simp only [Bool.false_eq_true, if_false]
    refine wpAny_bind (wpAny_mono one (fun r s' z => ?_) fun _ _ e => e)
    obtain ⟨v, rfl, hq⟩ := z
    exact wpAny_pure hq
end
section
variable {X : Cx} {B : Bs} {Ξ : XD → En → Sto → Prop} {k j n : Nat} {c : Ct} {pos apos p p' p1 p2 : Pos} {a b e o : Expr} {es : List Expr} {kws : List Keyword} {ga gk : DTA} {fa fb fo : DTE} {C : Addr} {fn m x : Str} {ks : List Str} {g : List D → List D → List D} {bs : List (Nat × List Str × (List D → List D → List D))}
structure CmpF (K : PySem.W.Frag) (C : Addr) : Prop where
  ne : PySem.W.findIn K (.ref C) "__ne__" = some (some (.builtin "object.__ne__"))
  top : PySem.W.mroIn K C (.type "object") = some true
theorem ok_ownE {K : PySem.W.Frag} {C : Addr} {c : Ct} {neg : Bool} (hc : Mono c) : OkP2 K (rOwnE K C c neg) (ownE K C c neg) := fun M H G x y v u φ Q w rx ry h k => by
  obtain ⟨fs, e1, h, hc'⟩ := isO_some h
  obtain ⟨a, dx, fvs, rfl, h1, _⟩ := obj_rep w rx e1
  have fin : c [x, y] M (fun d M' => ∃ b, d = .bl b ∧ ∀ H' G', Wd K M' H' G' → Since H G M M' H' G' → Q (.bl (if neg then !b else b)) H') noX := hc _ _ _ _ _ _ (fun d M' z => by
    unfold blD at z
    cases d with
    | bl b => exact ⟨b, rfl, fun H' G' w' s' => k _ _ _ _ _ z w' s' .bl⟩
    | _ => exact z.elim) (fun _ _ z => z) hc'
  rcases h with ⟨gs, e2⟩ | ⟨t, e2, e3⟩
  · obtain ⟨b, dy, gvs, rfl, h2, _⟩ := obj_rep w ry e2
    exact ⟨a, dx, _, .ref C, rfl, h1, .inr ⟨b, dy, _, rfl, h2, rfl⟩, by simp [PySem.W.notFirst], M, G, x, y, w, rx, ry, fin⟩
  · exact ⟨a, dx, _, .type t, rfl, h1, .inl (tyN_x w ry e2), e3, M, G, x, y, w, rx, ry, fin⟩
theorem op_ownEq (F : Mf X.prog X.w X.K X.mg X.base C "__eq__" j c bs) (hr : Room k X.A) (hb : Z.pos 2 ∈ bs) (hj : j ≤ k := by decide) : OpR X (compareOp .Eq) (rOwnE X.K C c false) := by
  obtain ⟨f, fd, ps, mt, FO, hbs⟩ := F.ex
  intro pins s σ H x y v u Q I rx ry h
  obtain ⟨a, dx, fs, t, rfl, h1, h2, h3, M, G, x', y', w, r1, r2, hq⟩ := h
  cases rx
  obtain ⟨mA, J, _⟩ := ins_get I.hok h1
  obtain ⟨od, J, _⟩ := J.look
  obtain ⟨m, hF⟩ := I.fr
  show wpAny _ _ (richCompare .Eq _ _) _ _ _
  refine PySem.W.cmp_K (op := .Eq) hr.units0 hF I.ok.mod.kin J (looks_ty I ry h2 _) h3 mt.at_ mt.fn ?_
  refine wpAny_mono (run_n (Q := Q) (vs := [.ref a, y]) FO (hr.mono hj) rfl (bind2 (hbs _ hb)) I w (.cons rfl (.cons ry .nil)) (.cons r1 (.cons r2 .nil)) hq fun d M' v' H' G' z w' s' p => ?_) (fun _ _ z => cmp_back z) fun _ _ z => z
  obtain ⟨b, rfl, z⟩ := z
  cases p
  exact z H' G' w' s'
theorem op_ownNe (F : Mf X.prog X.w X.K X.mg X.base C "__eq__" j c bs) (T : CmpF X.K C) (hr : Room k X.A) (hb : Z.pos 2 ∈ bs) (hj : j + 1 ≤ k := by decide) : OpR X (compareOp .NotEq) (rOwnE X.K C c true) := by
  obtain ⟨f, fd, ps, mt, FO, hbs⟩ := F.ex
  intro pins s σ H x y v u Q I rx ry h
  obtain ⟨a, dx, fs, t, rfl, h1, h2, h3, M, G, x', y', w, r1, r2, hq⟩ := h
  cases rx
  obtain ⟨mA, J, _⟩ := ins_get I.hok h1
  obtain ⟨od, J, _⟩ := J.look
  obtain ⟨m, hF⟩ := I.fr
  show wpAny _ _ (richCompare .NotEq _ _) _ _ _
  have hr1 : Room (j + 1) X.A := hr.mono hj
  refine ne_K hr1.in1.units0 hF I.ok.mod.kin J (looks_ty I ry h2 _) h3 T.ne T.top mt.at_ mt.fn ?_
  refine wpAny_mono (run_n (Q := fun v H' => ∃ y, v = .bl y ∧ Q (.bl (!y)) H') (vs := [.ref a, y]) FO hr1.in1 rfl (bind2 (hbs _ hb)) I w (.cons rfl (.cons ry .nil)) (.cons r1 (.cons r2 .nil)) hq fun d M' v' H' G' z w' s' p => ?_) (fun u s' z => ?_) fun _ _ z => z
  · obtain ⟨b, rfl, z⟩ := z
    cases p
    exact ⟨b, rfl, z H' G' w' s'⟩
  · obtain ⟨v, H', I', r, b, rfl, q⟩ := z
    cases r
    exact ⟨b, rfl, .bl (!b), H', I', rfl, q⟩
theorem de_ownEq (F : Mf X.prog X.w X.K X.mg X.base C "__eq__" j c bs) (hc : Mono c) (hr : Room k X.A) (hb : Z.pos 2 ∈ bs) (ha : DE X B a fa) (hb' : DE X B b fb) (hm : behindInMarks .Eq b = false := by rfl) (hj : j ≤ k := by decide) :
    DE X B (.Compare a [.Eq] [b] pos) (fun r M Ψ => fa r M fun x M1 => fb r M1 fun y M2 => ownE X.K C c false M2 x y Ψ) := PE_imp (pe_cmpR (op_ownEq F hr hb hj) ha hb' hm) fun σ H Q h => tOp_okP (ok_ownE hc) h
theorem de_ownNe (F : Mf X.prog X.w X.K X.mg X.base C "__eq__" j c bs) (T : CmpF X.K C) (hc : Mono c) (hr : Room k X.A) (hb : Z.pos 2 ∈ bs) (ha : DE X B a fa) (hb' : DE X B b fb) (hm : behindInMarks .NotEq b = false := by rfl) (hj : j + 1 ≤ k := by decide) :
    DE X B (.Compare a [.NotEq] [b] pos) (fun r M Ψ => fa r M fun x M1 => fb r M1 fun y M2 => ownE X.K C c true M2 x y Ψ) := PE_imp (pe_cmpR (op_ownNe F T hr hb hj) ha hb' hm) fun σ H Q h => tOp_okP (ok_ownE hc) h
end
end Z
namespace Z
open PySem PySem.Spec PyProof.Rows L2

structure Cf (P : Program) (w : World) (K : PySem.W.Frag) (mg : Str → Option Value) (base : Heap) (x : Str) (C : Addr) (k : Nat) (c : Ct) (bs : List (Nat × List Str × (List D → List D → List D))) : Prop where
  gl : mg x = some (.ref C)
  ex : ∃ f fd ps, Mk K C f ∧ FnOk P w K mg base (L2.CX P w) k f fd ps (spC K ps.length c) ∧ ∀ b ∈ bs, BindD K fd ps b
theorem own_new {K : PySem.W.Frag} {M : Sto} {H G : Hp} {p : Addr} {o : HO} (w : Wd K M H G) (hp : H p = none) : Wd K M (upd H p o) G ∧ Since H G M M (upd H p o) G := by
  refine ⟨⟨fun a u h => ?_, fun a u h => ?_⟩, ⟨fun a u h n => ?_, fun a h => ?_, Sub.rfl', fun a h n => absurd n h, fun a h n => absurd n h⟩⟩
  · rw [upd_ne (ne_of_none (w.sub _ _ h) hp)]; exact w.sub _ _ h
  · obtain ⟨h1, h2⟩ := w.cells a u h
    exact ⟨h1, h2.move Sub.rfl' fun o z => by rw [upd_ne (ne_of_none z hp)]; exact z⟩
  · rw [upd_ne (ne_of_none h hp)]; exact h
  · by_cases e : a = p
    · subst e; rw [upd_same]; simp
    · rw [upd_ne e]; exact h
theorem ins_frz {K : PySem.W.Frag} {M : Sto} {H G H' G' : Hp} {p C : Addr} {fs : List (Str × D)} (wd : Wd K M H G) (hp : H p = none) (w : Wd K (updM M p (.ins C fs)) H' G') (s : Since H G M (updM M p (.ins C fs)) H' G') :
    Wd K M H' (frz1 p H' G') ∧ Since H G M M H' (frz1 p H' G') ∧ Sub G' (frz1 p H' G') ∧ Rep K (frz1 p H' G') (.obj C fs) (.ref p) := by
  obtain ⟨gp, dx, fvs, h1, r1⟩ := w.cells p _ updM_same
  have mp := wd.nomem hp
  have sg : Sub G' (frz1 p H' G') := fun a o e => by
    unfold frz1
    rw [if_neg (by intro z; rw [z, gp] at e; cases e)]; exact e
  refine ⟨⟨fun a o e => ?_, fun a u e => ?_⟩, ⟨s.keep, s.stay, s.gsub.tr sg, fun a e n => ?_, fun a e n => absurd n e⟩, sg, .obj (dx := dx) (by unfold frz1; rw [if_pos rfl]; exact h1) (r1.mono sg)⟩
  · unfold frz1 at e
    split at e
    · exact e
    · exact w.sub _ _ e
  · have z : a ≠ p := fun z => by rw [z, mp] at e; cases e
    obtain ⟨h2, h3⟩ := w.cells a u (by rw [updM_ne z]; exact e)
    exact ⟨by unfold frz1; rw [if_neg z]; exact h2, h3.move sg fun _ z => z⟩
  · unfold frz1 at e
    split at e
    · rename_i z; rw [z]; exact hp
    · exact s.gnew a e n
section
variable {X : Cx} {B : Bs} {Ξ : XD → En → Sto → Prop} {k j n : Nat} {c : Ct} {pos apos p p' : Pos} {e o : Expr} {es : List Expr} {kws : List Keyword} {ga gk : DTA} {fa fo : DTE} {C : Addr} {fn m x : Str} {ks : List Str} {g : List D → List D → List D} {bs : List (Nat × List Str × (List D → List D → List D))}
theorem run_mk {pins : List (Addr × Obj)} {r : En} {M : Sto} {σ : L2.St} {H G : Hp} {s : Shared} {Q : VK} {vs zs : List V} {us ws : List Value} {ds dz : List D} {b : Nat × List Str × (List D → List D → List D)} {f : Addr} {fd : FuncData} {ps : List Str} {Ψ : Addr → D → Sto → Prop} {Ξ' : Addr → XD → Sto → Prop}
    (mk : Mk X.K C f) (F : FnOk X.prog X.w X.K X.mg X.base (L2.CX X.prog X.w) k f fd ps (spC X.K ps.length c)) (hr : Room (k + 1) X.A) (hb : BindD X.K fd ps b) (tk : Takes X (wOf X.K B Ξ)) (I : L2.Inv X pins σ H s) (R : Rel X.K B r M σ H G)
    (hv : Vals vs us) (hz : Vals zs ws) (rv : RepL X.K G ds vs) (rz : RepL X.K G dz zs) (l1 : ds.length + 1 = b.1) (l2 : dz.length = b.2.1.length)
    (hc : ∀ p, M p = none → c (b.2.2 (.ref p :: ds) dz) (updM M p (.ins C [])) (Ψ p) (Ξ' p))
    (hQ : ∀ p d M' v H' G', H p = none → Ψ p d M' → Wd X.K M' H' G' → Since H G M M' H' G' → Rep X.K G' d v → v = .non ∧ Q (.ref p) H')
    (hE : ∀ p x M' H' G', H p = none → Ξ' p x M' → Wd X.K M' H' G' → Since H G M M' H' G' → ∃ M2 G2, Sub G' G2 ∧ Ξ x r M2 ∧ Wd X.K M2 H' G2 ∧ Since H G M M2 H' G2) :
    wpAny (model X.prog X.w) X.A (call (.ref C) us (b.2.1.zip ws)) (EP X pins σ Q) X.xe s := by
  obtain ⟨hl, gl, gV, kb, rel⟩ := hb
  have hx : H (s.heap.objs.size + 1) = none := I.hok.fresh (Nat.le_succ _)
  have hd : H s.heap.objs.size = none := I.hok.fresh (Nat.le_refl _)
  have hne : s.heap.objs.size + 1 ≠ s.heap.objs.size := (Nat.ne_of_lt (Nat.lt_succ_self _)).symm
  obtain ⟨w1, s1⟩ := own_new (o := .own (s.heap.objs.size + 1)) R.wd hd
  obtain ⟨w2, s2⟩ := cell_new (p := s.heap.objs.size + 1) (c := .ins C []) (o := .ins C s.heap.objs.size []) w1 (by rw [upd_ne hne]; exact hx) ⟨_, _, upd_same, .nil⟩
  have t2 := Since.trans w1 s1 s2
  have I2 := Inv.made (C := C) I
  have rr := rel G (.ref (s.heap.objs.size + 1) :: ds) (.ref (s.heap.objs.size + 1) :: vs) dz zs (.cons .ref rv) rz
  have l3 := hl (.ref (s.heap.objs.size + 1) :: ds) dz (by simpa using l1) l2
  have r1 : Vals (V.ref (s.heap.objs.size + 1) :: vs) (Value.ref (s.heap.objs.size + 1) :: us) := .cons rfl hv
  have u1 : (Value.ref (s.heap.objs.size + 1) :: us).length = b.1 := by rw [← r1.length, List.length_cons, ← rv.length]; exact l1
  have u2 : ws.length = b.2.1.length := by rw [← hz.length, ← rz.length]; exact l2
  have hsp : spC X.K ps.length c (gV (.ref (s.heap.objs.size + 1) :: vs) zs) (upd (upd H s.heap.objs.size (.own (s.heap.objs.size + 1))) (s.heap.objs.size + 1) (.ins C s.heap.objs.size [])) (fun v H2 => v = .non ∧ Q (.ref (s.heap.objs.size + 1)) H2) (fun cls d H' => wOf X.K B Ξ cls d σ H') := by
    refine ⟨by rw [← rr.length]; exact l3, _, G, _, _, _, w2, rr, hc _ (R.wd.nomem hx), fun d M' v H' G' q w s p => hQ _ d M' v H' G' hx q w (Since.trans w2 t2 s) p, fun x M' H' G' cls dd q w s rx => ?_⟩
    obtain ⟨M2, G2, g2, q2, w3, s3⟩ := hE _ x M' H' G' hx q w (Since.trans w2 t2 s)
    obtain ⟨e, dd', fvs, e1, e2, r2⟩ := rx
    exact ⟨x, r, M2, G2, q2, R.go w3 s3, e, dd', fvs, e1, e2, r2.mono g2⟩
  refine wpAny_call (make_map (f := f) I.kIn mk.makes mk.init (beq_iff_eq.mp mk.fn) (codeAny_mono (F.run _ X.stack _ _ ⟨Value.ref (s.heap.objs.size + 1) :: us, b.2.1.zip ws⟩ (gl (Value.ref (s.heap.objs.size + 1) :: us) ws) _ _ _ (hr.make C us (b.2.1.zip ws))
    (I2.env0.make C us (b.2.1.zip ws)) (kb.to _ (Value.ref (s.heap.objs.size + 1) :: us) ws I2.kIn u1 u2) (kb.rel r1 hz) hsp) fun r s' hq' => ?_))
  cases r with
  | error e => exact tk e s' (XE.of_call I2 (fun cls d H' h => h) hq')
  | ok fl =>
    cases fl with
    | ret u =>
      obtain ⟨v, H', I3, rv, ev, q3⟩ := I2.after hq'
      subst ev
      exact ⟨rv, ⟨V.ref (s.heap.objs.size + 1), H', I3, rfl, q3⟩⟩
    | next => exact False.elim hq'
    | brk => exact False.elim hq'
    | cont => exact False.elim hq'
def mkD (n m : Nat) (g : List D → List D → List D) (C : Addr) (c : Ct) (Ξ : XD → En → Sto → Prop) (ds dz : List D) (r : En) (M : Sto) (Ψ : PD) : Prop := ds.length = n ∧ dz.length = m ∧ ∀ p, M p = none → c (g (.ref p :: ds) dz) (updM M p (.ins C []))
  (fun d M' => d = .non ∧ ∃ fs, M' = updM M p (.ins C fs) ∧ Ψ (.obj C fs) M) (fun x M' => ∃ fs, M' = updM M p (.ins C fs) ∧ Ξ x r M)
theorem run_mkD {pins : List (Addr × Obj)} {r : En} {M : Sto} {σ : L2.St} {H G : Hp} {s : Shared} {Q : VK} {vs zs : List V} {us ws : List Value} {ds dz : List D} {b : Nat × List Str × (List D → List D → List D)} {f : Addr} {fd : FuncData} {ps : List Str} {Ψ : PD}
    (mk : Mk X.K C f) (F : FnOk X.prog X.w X.K X.mg X.base (L2.CX X.prog X.w) k f fd ps (spC X.K ps.length c)) (hr : Room (k + 1) X.A) (hb : BindD X.K fd ps b) (tk : Takes X (wOf X.K B Ξ)) (I : L2.Inv X pins σ H s) (R : Rel X.K B r M σ H G)
    (hv : Vals vs us) (hz : Vals zs ws) (rv : RepL X.K G ds vs) (rz : RepL X.K G dz zs) (l1 : ds.length + 1 = b.1) (l2 : dz.length = b.2.1.length) (hc : mkD ds.length dz.length b.2.2 C c Ξ ds dz r M Ψ)
    (hQ : ∀ d M' v H' G', Ψ d M' → Rel X.K B r M' σ H' G' → Sub G G' → Rep X.K G' d v → Q v H') : wpAny (model X.prog X.w) X.A (call (.ref C) us (b.2.1.zip ws)) (EP X pins σ Q) X.xe s := by
  refine run_mk mk F hr hb tk I R hv hz rv rz l1 l2 hc.2.2 (fun p d M' v H' G' hp q w s rp => ?_) fun p x M' H' G' hp q w s => ?_
  · obtain ⟨rfl, fs, rfl, q⟩ := q
    cases rp
    obtain ⟨w1, s1, g1, p1⟩ := ins_frz R.wd hp w s
    exact ⟨rfl, hQ _ _ _ _ _ q (R.go w1 s1) s1.gsub p1⟩
  · obtain ⟨fs, rfl, q⟩ := q
    obtain ⟨w1, s1, g1, p1⟩ := ins_frz R.wd hp w s
    exact ⟨M, _, g1, q, w1, s1⟩
theorem de_make (F : Cf X.prog X.w X.K X.mg X.base x C j c bs) (hr : Room k X.A) (z : Zx X B Ξ) (hb : (n + 1, [], g) ∈ bs) (ha : DA X B (e :: es) ga) (hj : j + 1 ≤ k := by decide) (hg : Gl X x := by rfl) (hdb : (x == ("__debug__" : Str)) = false := by decide)
    (he : starEach (e :: es) X.env = (false, eval e X.env) :: starEach es X.env := by rfl) (hpl : (backTo pos (starEach es X.env)).any (·.1) = false := by rfl) :
    DE X B (.Call (.Name x p) (e :: es) [] pos) (fun r M Ψ => ga r M fun ds M1 => mkD n 0 g C c Ξ ds [] r M1 Ψ) := by
  obtain ⟨f, fd, ps, mk, FO, hbs⟩ := F.ex
  refine ⟨fun pins s σ H Q I ⟨r, M, G, Ψ, R, h, kk⟩ => ?_⟩
  refine wpAny_Call_Name_kw (ld_glob I hg F.gl ?_ hdb)
  refine PySem.W.callWith_K (h₀ := X.base) I.ok.mod.kin mk.kp (thn (ha.run pos pins s σ H _ I ⟨r, M, G, _, R, h, fun ds M1 vs H1 G1 q R1 s1 p1 => (⟨ds, M1, G1, q, R1, s1, p1⟩ : ∃ ds M1 G1, mkD n 0 g C c Ξ ds [] r M1 Ψ ∧ Rel X.K B r M1 σ H1 G1 ∧ Sub G G1 ∧ RepL X.K G1 ds vs)⟩) fun us s1 ⟨vs, H1, I1, rv, ds, M1, G1, q, R1, t1, p1⟩ => ⟨I1.kIn, ?_⟩) he hpl
  obtain ⟨l1, l2, q⟩ := q
  exact run_mkD (zs := []) (ws := []) (dz := []) (b := (n + 1, [], g)) mk FO (hr.mono hj) (hbs _ hb) z.tk I1 R1 rv .nil p1 .nil (congrArg Nat.succ l1) rfl ⟨rfl, rfl, q⟩ fun d M' v H' G' q R' s' p' => kk _ _ _ _ _ q R' (t1.tr s') p'
end
end Z
namespace Z
open PySem PySem.Spec PyProof.Rows L2

section
variable {X : Cx} {B : Bs} {Ξ : XD → En → Sto → Prop} {k j n : Nat} {c : Ct} {pos apos p p' : Pos} {e o : Expr} {es : List Expr} {kws : List Keyword} {ga gk : DTA} {fa fo : DTE} {C : Addr} {fn m x : Str} {ks : List Str} {g : List D → List D → List D} {bs : List (Nat × List Str × (List D → List D → List D))}
def OkM (K : PySem.W.Frag) (r : V → List V → Hp → VK → Prop) (g : Sto → D → List D → PD → Prop) : Prop := ∀ (M : Sto) (H G : Hp) (x : D) (v : V) (ds : List D) (vs : List V) (φ : PD) (Q : VK), Wd K M H G → Rep K G x v → RepL K G ds vs → g M x ds φ → Post K H G M φ Q → r v vs H Q
def isS : D → Prop
  | .str _ => True
  | _ => False
theorem de_sm1 {id : String} {name : Str} {r : V → List V → Hp → VK → Prop} {g : Sto → D → List D → PD → Prop} (slot : Slot "str" name id) (ty : typeOf (.builtin id) = pure (.type "method_descriptor")) (rule : MtR X id r) (ok : OkM X.K r g) (ho : DE X B o fo) (he : DE X B e fa)
    (hs : starEach [e] X.env = [(false, eval e X.env)] := by rfl) (hbase : attributeBase o name X.env (eval o X.env) = eval o X.env := by rfl) (hline : (apos.endLine == pos.line) = true := by rfl) :
    DE X B (.Call (.Attribute o name apos) [e] [] pos) (fun r M Ψ => fo r M fun x M1 => isS x ∧ fa r M1 fun y M2 => g M2 x [y] Ψ) := PE_imp (pe_m1 slot ty rule ho he hs hbase hline) fun σ H Q ⟨r, M, G, Ψ, R, h, k⟩ => by
  refine ⟨r, M, G, _, R, h, fun x M1 v H1 G1 ⟨q1, q⟩ R1 s1 p1 => ⟨?_, r, M1, G1, _, R1, q, fun y M2 u H2 G2 q2 R2 s2 p2 => ?_⟩⟩
  · cases p1 <;> first | exact ⟨_, rfl⟩ | exact q1.elim
  · exact ok M2 H2 G2 _ _ _ _ _ _ R2.wd (p1.mono s2) (.cons p2 .nil) q2 fun d M' w H' G' f w' s' p => k _ _ _ _ _ f (R2.go w' s') ((s1.tr s2).tr s'.gsub) p
def strsD : List D → Option (List Str)
  | [] => some []
  | .str a :: l => (strsD l).map (a :: ·)
  | _ => none
theorem strsD_rep {K : PySem.W.Frag} {G : Hp} : ∀ {l : List D} {vs : List V} {ys : List Str}, RepL K G l vs → strsD l = some ys → vs = ys.map V.str
  | _, _, ys, .nil, h => by cases h; rfl
  | _, _, ys, .cons (d := d) p r, h => by
    cases p with
    | str =>
      unfold strsD at h
      obtain ⟨zs, e, rfl⟩ := Option.map_eq_some_iff.mp h
      rw [strsD_rep r e]; rfl
    | _ => cases h
theorem strsD_map : ∀ ys : List Str, strsD (ys.map D.str) = some ys
  | [] => rfl
  | y :: r => by show (strsD (r.map D.str)).map (y :: ·) = _; rw [strsD_map r]; rfl
def joinD (M : Sto) (x : D) (ds : List D) (φ : PD) : Prop := match x, ds with
  | .str a, [d] => ∃ l ys, (lstOf M d = some l ∨ tupOf d = some l) ∧ strsD l = some ys ∧ (ys.map (·.length)).sum + ys.length * a.length ≤ 16777216 ∧ φ (.str (Txt.join a ys)) M
  | _, _ => False
theorem ok_join {K : PySem.W.Frag} : OkM K (fun x xs H Q => ∃ a p, ∃ ys : List Str, x = .str a ∧ xs = [.ref p] ∧ (SqL K H p (ys.map V.str) ∨ SqT K H p (ys.map V.str)) ∧ (ys.map (·.length)).sum + ys.length * a.length ≤ 16777216 ∧ Q (.str (Txt.join a ys)) H) joinD := fun M H G x v ds vs φ Q w r rs h k => by
  unfold joinD at h
  split at h
  · cases r
    cases rs with
    | cons r1 rs =>
      cases rs
      obtain ⟨l, ys, h1, h2, h3, h4⟩ := h
      rcases h1 with h1 | h1
      · obtain ⟨a, us, e0, e, r2⟩ := one_lst w (.cons r1 .nil) h1
        cases e0
        rw [strsD_rep r2 h2] at e
        exact ⟨_, a, ys, rfl, rfl, .inl e, h3, Post.id k w h4 .str⟩
      · obtain ⟨a, us, rfl, e, r2⟩ := tup_rep w r1 h1
        rw [strsD_rep r2 h2] at e
        exact ⟨_, a, ys, rfl, rfl, .inr e, h3, Post.id k w h4 .str⟩
  · exact h.elim
theorem de_join (ho : DE X B o fo) (he : DE X B e fa) (hs : starEach [e] X.env = [(false, eval e X.env)] := by rfl) (hbase : attributeBase o "join" X.env (eval o X.env) = eval o X.env := by rfl) (hline : (apos.endLine == pos.line) = true := by rfl) :
    DE X B (.Call (.Attribute o "join" apos) [e] [] pos) (fun r M Ψ => fo r M fun x M1 => isS x ∧ fa r M1 fun y M2 => joinD M2 x [y] Ψ) := de_sm1 PySem.F.slot_str_join PySem.F.type_str_join mt_join ok_join ho he hs hbase hline

def fmtD (d : D) (φ : Str → Prop) : Prop := match d with
  | .str y => y.length ≤ sizeLine ∧ φ y
  | .int i => i.natAbs.log2 < 1920 ∧ φ (toString i)
  | _ => False
theorem de_fmt (he : DE X B e fa) : DE X B (.FormattedValue e (-1) none pos) (fun r M Ψ => fa r M fun d M1 => fmtD d fun y => Ψ (.str y) M1) := PE_imp (pe_fmt he) fun σ H Q ⟨r, M, G, Ψ, R, h, k⟩ => by
  refine ⟨r, M, G, _, R, h, fun d M1 v H1 G1 q R1 s1 p1 => ?_⟩
  unfold fmtD at q
  split at q
  · cases p1; exact .inl ⟨_, rfl, q.1, k _ _ _ _ _ q.2 R1 s1 .str⟩
  · cases p1; exact .inr ⟨_, rfl, q.1, k _ _ _ _ _ q.2 R1 s1 .str⟩
  · exact q.elim
inductive DJ (X : Cx) (B : Bs) : List Expr → List DTE → Prop where
  | nil : DJ X B [] []
  | cons {e : Expr} {t : DTE} {es : List Expr} {ts : List DTE} (h : DE X B e t) (r : DJ X B es ts) : DJ X B (e :: es) (t :: ts)
theorem DJ.pj : ∀ {es : List Expr} {ts : List DTE}, DJ X B es ts → PJ X es (ts.map (lift X.K B))
  | _, _, .nil => .nil
  | _, _, .cons h r => .cons h r.pj
def jsD : List DTE → Str → En → Sto → (Str → Sto → Prop) → Prop
  | [], acc, _, M, φ => φ acc M
  | t :: ts, acc, r, M, φ => t r M fun d M1 => match d with
    | .str y => (acc ++ y).length ≤ sizeLine ∧ jsD ts (acc ++ y) r M1 φ
    | _ => False
theorem js_ok {σ : L2.St} {Q : Str → Hp → Prop} {φ : Str → Sto → Prop} {r : En} : ∀ {ts : List DTE} {acc : Str} {M : Sto} {H G : Hp}, Rel X.K B r M σ H G → jsD ts acc r M φ →
    (∀ y M' H' G', φ y M' → Rel X.K B r M' σ H' G' → Sub G G' → Q y H') → tJs (ts.map (lift X.K B)) acc σ H Q
  | [], acc, M, H, G, R, h, k => k _ _ _ _ h R Sub.rfl'
  | t :: ts, acc, M, H, G, R, h, k => ⟨r, M, G, _, R, h, fun d M1 v H1 G1 q R1 s1 p1 => by
    split at q
    · cases p1
      exact ⟨_, rfl, q.1, js_ok R1 q.2 fun y M' H' G' q R' s => k y M' H' G' q R' (s1.tr s)⟩
    · exact q.elim⟩
theorem de_joined {v1 v2 : Expr} {rest : List Expr} {ts : List DTE} (h : DJ X B (v1 :: v2 :: rest) ts) : DE X B (.JoinedStr (v1 :: v2 :: rest) pos) (fun r M Ψ => jsD ts Str.empty r M fun y M1 => Ψ (.str y) M1) := PE_imp (pe_joined h.pj) fun σ H Q ⟨r, M, G, Ψ, R, h, k⟩ =>
  js_ok R h fun y M' H' G' q R' s => k _ _ _ _ _ q R' s .str
end
end Z
namespace Z
open PySem PySem.Spec PyProof.Rows L2

section
variable {P : Program} {w : World} {K : PySem.W.Frag} {mg : Str → Option Value} {base : Heap} {x qual : Str} {st : Stmt} {f : Addr} {fd : FuncData} {N ps : List Str} {k : Nat} {dvs : List V} {kws : List (Str × V)}
abbrev FnZ (K : PySem.W.Frag) (x qual : Str) (st : Stmt) (dvs : List V) (kws : List (Str × V)) (f : Addr) (fd : FuncData) : Prop := FunD K x qual (defArgs st) (defBody st) (defScope st) dvs kws f fd
theorem fnD (F : FnZ K x qual st dvs kws f fd) (S : FnScope N ps (defScope st)) (c : Ct)
    (hb : ∀ (cdv : Value) (A : Around) (outer : List Env) (s : Shared) (H : Hp) (E : XK) (B : Bs) (Ξ : XD → Sto → Prop), Room k (A.deeper (envOfC qual (defScope st) s.heap.objs.size f cdv)) →
      Zx (cxOf (L2.CX P w) P w K mg base N qual (defScope st) f cdv A outer s H E) B (exF B.M Ξ) →
      ∃ t, DSs (cxOf (L2.CX P w) P w K mg base N qual (defScope st) f cdv A outer s H E) B (defBody st) t ∧
        ∀ (ds : List D) (Ψ : D → Sto → Prop), ds.length = ps.length → c ds B.M Ψ Ξ → t { nx := fun _ M' => rtF B.M Ψ .non M', rt := rtF B.M Ψ } (ent N.length ds) B.M) :
    FnOk P w K mg base (L2.CX P w) (k + 1) f fd ps (spC K ps.length c) := by
  refine F.ok S (fun vs H Q E h => h.1) fun cdv A outer s H vs Q E hr h => ?_
  obtain ⟨hl, ds, G, M, Ψ, Ξ, wd, r, hc, hQ, hE⟩ := h
  have tk0 : Takes (cxOf (L2.CX P w) P w K mg base N qual (defScope st) f cdv A outer s H E) (fun cls d _ H => E cls d H) := takes_of rfl rfl rfl rfl
  obtain ⟨t, ht, q⟩ := hb cdv A outer s H E ⟨H, G, M⟩ Ξ hr ⟨tk0.imp (exF_take (B := ⟨H, G, M⟩) hE), passes_of rfl⟩
  have end_ : ∀ (d : D) (r' : En) (M' : Sto) (v : V) (σ' : L2.St) (H' G' : Hp), rtF M Ψ d M' → Rel K ⟨H, G, M⟩ r' M' σ' H' G' → Rep K G' d v → Q v H' := fun d r' M' v σ' H' G' ⟨d', M'', fr, q⟩ R' p => by
    cases fr with
    | same => exact hQ _ _ _ _ _ q R'.wd R'.sin p
    | drop =>
      obtain ⟨w1, s1⟩ := frz_end R'.wd R'.sin
      exact hQ _ _ _ _ _ q w1 s1 (p.mono frzG_sub)
    | frz n =>
      obtain ⟨w1, s1⟩ := frz_end R'.wd R'.sin
      exact hQ _ _ _ _ _ q w1 s1 ((p.mono frzG_sub).sb (rep_frz R'.wd n))
  refine ⟨_, ht, ent N.length ds, M, G, _, rel_start wd r, q ds Ψ (r.length.trans hl) hc, ⟨fun r' M' σ' H' G' q' R' s' => ?_, fun d r' M' v σ' H' G' q' R' p => end_ d r' M' v σ' H' G' q' R' p, fun _ _ _ _ _ q' _ _ => q'.elim, fun _ _ _ _ _ q' _ _ => q'.elim⟩⟩
  exact end_ .non r' M' .non σ' H' G' q' R' .non
theorem fun_of (F : FnZ K x qual st [] kws f fd) : Fun K x qual st f fd := by
  obtain ⟨oc, od, dV, kV, doc, pm, an, cdv, ct, osl, rfl, lk, hcd, hD, _⟩ := F.ex
  rcases hD with ⟨_, rfl⟩ | ⟨e, _⟩
  · exact ⟨⟨oc, od, kV, doc, pm, an, cdv, ct, osl, rfl, lk, hcd⟩, F.kp⟩
  · exact absurd rfl e
inductive Src where
  | p (i : Nat) | k (i : Nat) | d (i : Nat)
def srcO {α : Type} (us its ws : List α) : Src → Option α
  | .p i => us[i]?
  | .k i => ws[i]?
  | .d i => its[i]?
def gS {α : Type} : List Src → List α → List α → List α → List α
  | [], _, _, _ => []
  | s :: ss, us, its, ws => match srcO us its ws s with
    | some a => a :: gS ss us its ws
    | none => gS ss us its ws
theorem get_vals {as : List V} {bs : List Value} (r : Vals as bs) (i : Nat) : (as[i]? = none ∧ bs[i]? = none) ∨ ∃ a b, as[i]? = some a ∧ bs[i]? = some b ∧ L2.RelV a b := by
  rcases Nat.lt_or_ge i as.length with h | h
  · obtain ⟨u, hu, ru⟩ := r.get (List.getElem?_eq_getElem h)
    exact .inr ⟨_, _, List.getElem?_eq_getElem h, hu, ru⟩
  · exact .inl ⟨List.getElem?_eq_none h, List.getElem?_eq_none (r.length ▸ h)⟩
theorem get_reps {G : Hp} {as : List D} {bs : List V} (r : RepL K G as bs) (i : Nat) : (as[i]? = none ∧ bs[i]? = none) ∨ ∃ a b, as[i]? = some a ∧ bs[i]? = some b ∧ Rep K G a b := by
  rcases Nat.lt_or_ge i as.length with h | h
  · obtain ⟨u, hu, ru⟩ := r.get (List.getElem?_eq_getElem h)
    exact .inr ⟨_, _, List.getElem?_eq_getElem h, hu, ru⟩
  · exact .inl ⟨List.getElem?_eq_none h, List.getElem?_eq_none (r.length ▸ h)⟩
theorem vals_gS {us its ws : List Value} {vs ds zs : List V} (r1 : Vals vs us) (r2 : Vals ds its) (r3 : Vals zs ws) : ∀ ss : List Src, Vals (gS ss vs ds zs) (gS ss us its ws)
  | [] => .nil
  | s :: ss => by
    have ih := vals_gS r1 r2 r3 ss
    have g : (srcO vs ds zs s = none ∧ srcO us its ws s = none) ∨ ∃ a b, srcO vs ds zs s = some a ∧ srcO us its ws s = some b ∧ L2.RelV a b := by
      cases s with
      | p i => exact get_vals r1 i
      | k i => exact get_vals r3 i
      | d i => exact get_vals r2 i
    rcases g with ⟨h1, h2⟩ | ⟨a, b, h1, h2, r⟩
    · simp only [gS, h1, h2]; exact ih
    · simp only [gS, h1, h2]; exact .cons r ih
theorem rep_gS {G : Hp} {us its ws : List V} {vs ds zs : List D} (r1 : RepL K G vs us) (r2 : RepL K G ds its) (r3 : RepL K G zs ws) : ∀ ss : List Src, RepL K G (gS ss vs ds zs) (gS ss us its ws)
  | [] => .nil
  | s :: ss => by
    have ih := rep_gS r1 r2 r3 ss
    have g : (srcO vs ds zs s = none ∧ srcO us its ws s = none) ∨ ∃ a b, srcO vs ds zs s = some a ∧ srcO us its ws s = some b ∧ Rep K G a b := by
      cases s with
      | p i => exact get_reps r1 i
      | k i => exact get_reps r3 i
      | d i => exact get_reps r2 i
    rcases g with ⟨h1, h2⟩ | ⟨a, b, h1, h2, r⟩
    · simp only [gS, h1, h2]; exact ih
    · simp only [gS, h1, h2]; exact .cons r ih
theorem bind0 (F : FnZ K x qual st [] kws f fd) (n : Nat) (hn : ps.length = n)
    (h : ∀ (kV doc pm : Value) (an : Option Addr) (cdv ct : Value) (us : List Value), us.length = n → bindArgs (PySem.W.fnOf x qual (defArgs st) (defBody st) (defScope st) .none kV doc pm an cdv ct) ⟨us, []⟩ = pure (ps.zip us)) : BindD K fd ps (Z.pos n) := by
  obtain ⟨oc, od, dV, kV, doc, pm, an, cdv, ct, osl, rfl, lk, hcd, hD, _⟩ := F.ex
  rcases hD with ⟨_, rfl⟩ | ⟨e, _⟩
  · exact ⟨fun ds zs h _ => h.trans hn.symm, fun us _ => us, fun vs _ => vs, ⟨fun s us ws _ h1 h2 => .of_eq (by
      have e : ws = [] := List.length_eq_zero_iff.mp h2
      rw [e]; exact h kV doc pm an cdv ct us h1), fun r _ => r⟩, fun G ds vs zs us r _ => r⟩
  · exact absurd rfl e
theorem bind0k (F : FnZ K x qual st [] kws f fd) (n : Nat) (ks : List Str) (ss : List Src) (hl : ∀ {α : Type} (us its ws : List α), us.length = n → its.length = 0 → ws.length = ks.length → (gS ss us its ws).length = ps.length)
    (h : ∀ (kV doc pm : Value) (an : Option Addr) (cdv ct : Value) (us ws : List Value), us.length = n → ws.length = ks.length → bindArgs (PySem.W.fnOf x qual (defArgs st) (defBody st) (defScope st) .none kV doc pm an cdv ct) ⟨us, ks.zip ws⟩ = pure (ps.zip (gS ss us [] ws))) :
    BindD K fd ps (n, ks, fun ds dz => gS ss ds [] dz) := by
  obtain ⟨oc, od, dV, kV, doc, pm, an, cdv, ct, osl, rfl, lk, hcd, hD, _⟩ := F.ex
  rcases hD with ⟨_, rfl⟩ | ⟨e, _⟩
  · exact ⟨fun ds zs h1 h2 => hl ds [] zs h1 rfl h2, fun us ws => gS ss us [] ws, fun us ws => gS ss us [] ws, ⟨fun s us ws _ h1 h2 => .of_eq (h kV doc pm an cdv ct us ws h1 h2), fun r1 r2 => vals_gS r1 .nil r2 ss⟩, fun G ds vs zs us r1 r2 => rep_gS r1 .nil r2 ss⟩
  · exact absurd rfl e
theorem bindd (F : FnZ K x qual st dvs kws f fd) (n : Nat) (ks : List Str) (ss : List Src) (dd : List D) (hdd : ∀ G, RepL K G dd dvs) (hd : dvs ≠ []) (hl : ∀ {α : Type} (us its ws : List α), us.length = n → its.length = dd.length → ws.length = ks.length → (gS ss us its ws).length = ps.length)
    (h : ∀ (T : Addr) (kV doc pm : Value) (an : Option Addr) (cdv ct : Value) (us its ws : List Value), us.length = n → its.length = dd.length → ws.length = ks.length →
      ∃ k, bindArgs (PySem.W.fnOf x qual (defArgs st) (defBody st) (defScope st) (.ref T) kV doc pm an cdv ct) ⟨us, ks.zip ws⟩ = seqItems? (.ref T) >>= k ∧ k (some its.toArray) = pure (ps.zip (gS ss us its ws))) :
    BindD K fd ps (n, ks, fun ds dz => gS ss ds dd dz) := by
  obtain ⟨oc, od, dV, kV, doc, pm, an, cdv, ct, osl, rfl, lk, hcd, hD, _⟩ := F.ex
  rcases hD with ⟨e, _⟩ | ⟨_, T, o, its, m, rfl, lT, oT, rT⟩
  · exact absurd e hd
  · have l1 : its.length = dd.length := rT.length.symm.trans (hdd (fun _ => none)).length.symm
    refine ⟨fun ds zs h1 h2 => hl ds dd zs h1 rfl h2, fun us ws => gS ss us its ws, fun us ws => gS ss us dvs ws, ⟨fun s us ws X h1 h2 => ?_, fun r1 r2 => vals_gS r1 rT r2 ss⟩, fun G ds vs zs us r1 r2 => rep_gS r1 (hdd G) r2 ss⟩
    obtain ⟨k, e1, e2⟩ := h T kV doc pm an cdv ct us its ws h1 l1 h2
    refine BindsTo.of_looks fun M => ?_
    rw [e1]
    exact looks_items X lT oT (.of_pure e2)
theorem bindk0 (F : FnZ K x qual st [] kws f fd) (n : Nat) (ks : List Str) (ss : List Src) (md : List D) (ms : List (Str × V)) (hmd : ∀ G, RepL K G md (ms.map (·.2))) (hk : kws ≠ []) (hms : ∀ q ∈ ms, q ∈ kws)
    (hl : ∀ {α : Type} (us its ws : List α), us.length = n → its.length = md.length → ws.length = ks.length → (gS ss us its ws).length = ps.length)
    (h : ∀ (D' : Addr) (doc pm : Value) (an : Option Addr) (cdv ct : Value) (us mv ws : List Value), us.length = n → mv.length = md.length → ws.length = ks.length →
      KwChain D' ((ms.map (·.1)).zip mv) (bindArgs (PySem.W.fnOf x qual (defArgs st) (defBody st) (defScope st) .none (.ref D') doc pm an cdv ct) ⟨us, ks.zip ws⟩) (ps.zip (gS ss us mv ws))) :
    BindD K fd ps (n, ks, fun ds dz => gS ss ds md dz) := by
  have l2 : md.length = ms.length := by rw [(hmd (fun _ => none)).length, List.length_map]
  obtain ⟨mv, kb⟩ := FunD.kbinds0 (ps := ps) F n ks ms (fun us mv ws => gS ss us mv ws) hk hms (fun r1 r3 r4 => vals_gS r1 r3 r4 ss) (fun D' doc pm an cdv ct us mv ws h1 h3 h4 => h D' doc pm an cdv ct us mv ws h1 (h3.trans l2.symm) h4)
  exact ⟨fun ds zs h1 h2 => hl ds md zs h1 rfl h2, _, _, kb, fun G ds vs zs us r1 r2 => rep_gS r1 (hmd G) r2 ss⟩
theorem all_nil {α : Type} {p : α → Prop} : ∀ b ∈ ([] : List α), p b := fun _ h => by cases h
theorem all_cons {α : Type} {p : α → Prop} {a : α} {l : List α} (h : p a) (r : ∀ b ∈ l, p b) : ∀ b ∈ a :: l, p b := fun b hb => by
  rcases List.mem_cons.mp hb with e | e
  · rw [e]; exact h
  · exact r b e
end

abbrev FF := PySem.W.Frag → Bool
def gaM (x m : Str) (K : PySem.W.Frag) : Addr := He.ma K (He.ga K x) m
def recA (T : String) (p : Addr) (K : PySem.W.Frag) : Addr := match PySem.W.recIn K p T with
  | some (.ref g :: _) => g
  | _ => 0
def recB (T : String) (p : Addr) (K : PySem.W.Frag) : Addr := match PySem.W.recIn K p T with
  | some (_ :: .ref g :: _) => g
  | _ => 0
inductive At where
  | g (x : Str)
  | mt (x m : Str)
  | pr (x m : Str)
  | sm (x m : Str)
  | cm (x m : Str)
  | st (x m : Str)
def At.ad (K : PySem.W.Frag) : At → Addr
  | .g x => He.ga K x
  | .mt x m => gaM x m K
  | .pr x m => recA "property" (gaM x m K) K
  | .sm x m => recA "staticmethod" (gaM x m K) K
  | .cm x m => recA "classmethod" (gaM x m K) K
  | .st x m => recB "property" (gaM x m K) K
def fnA (K : PySem.W.Frag) (a : Addr) : He.FnW := match K.lookup a with
  | some ⟨_, _, .func fd, _⟩ => some (fd.name, fd.qualname, fd.params, fd.body, fd.scope, fd.globals, fd.closure.map (fun c => (c.1, 0)), fd.builtins)
  | _ => none
structure DefZ where
  at_ : At
  name : Str
  qual : Str
  st : Stmt
  dfl : List He.Dv := []
  kdf : List (Str × He.Dv) := []
  sup : Bool := false
def DefZ.val (d : DefZ) : He.FnW := some (d.name, d.qual, defArgs d.st, .stmts (defBody d.st), defScope d.st, mainGlobals, (if d.sup then [("__class__", 0)] else []), builtinsNs)
def DefZ.dvs (K : PySem.W.Frag) (d : DefZ) : List V := d.dfl.map (He.Dv.v K)
def DefZ.kws (K : PySem.W.Frag) (d : DefZ) : List (Str × V) := d.kdf.map fun q => (q.1, q.2.v K)
def DefZ.ok (K : PySem.W.Frag) (d : DefZ) : Bool := PySem.W.keepIn K (.ref (d.at_.ad K)) && (match K.lookup (d.at_.ad K) with
  | some ⟨_, _, .func fd, _⟩ => PySem.W.codeIn K fd.code d.qual && (He.dflB K fd.defaults (d.dvs K) && He.kwdB K fd.kwdefaults (d.kws K))
  | _ => false)
theorem DefZ.funD {K : PySem.W.Frag} {d : DefZ} (e : fnA K (d.at_.ad K) = d.val) (c : d.ok K = true) (hs : d.sup = false := by rfl) : ∃ fd, FnZ K d.name d.qual d.st (d.dvs K) (d.kws K) (d.at_.ad K) fd := by
  obtain ⟨kp, c2⟩ := He.ba c
  unfold fnA at e
  cases q : K.lookup (d.at_.ad K) with
  | none =>
    rw [q] at c2
    cases c2
  | some o =>
    obtain ⟨oc, od, dt, osl⟩ := o
    rw [q] at c2 e
    cases dt with
    | func fd =>
      obtain ⟨n1, n2, n3, n4, n5, n6, n7, n8, n9, n10, n11, n12, n13, n14, n15⟩ := fd
      have e2 : (some (n1, n2, n3, n4, n5, n6, n7.map (fun c => (c.1, 0)), n15) : He.FnW) = (some (d.name, d.qual, defArgs d.st, .stmts (defBody d.st), defScope d.st, mainGlobals, (if d.sup then [("__class__", 0)] else []), builtinsNs) : He.FnW) := e
      rw [hs] at e2
      simp only [Option.some.injEq, Prod.mk.injEq, Bool.false_eq_true, if_false, List.map_eq_nil_iff] at e2
      obtain ⟨h1, h2, h3, h4, h5, h6, h7, h8⟩ := e2
      subst h1 h2 h3 h4 h5 h6 h7 h8
      have c3 : (PySem.W.codeIn K n13 d.qual && (He.dflB K n8 (d.dvs K) && He.kwdB K n9 (d.kws K))) = true := c2
      obtain ⟨k1, k2⟩ := He.ba c3
      obtain ⟨k2, k3⟩ := He.ba k2
      exact ⟨_, ⟨oc, od, n8, n9, n10, n11, n12, n13, n14, osl, rfl, q, k1, He.dflB_ok k2, He.kwdB_ok k3⟩, kp⟩
    | _ => cases c2
def obsZ (fa : List FF) (fn : List DefZ) (K : PySem.W.Frag) : He.AlD := ((fa.all fun f => f K) && fn.all fun d => d.ok K, fn.map fun d => fnA K (d.at_.ad K))
def valZ (fn : List DefZ) : He.AlD := (true, fn.map DefZ.val)
def SaysZ (fa : List FF) (fn : List DefZ) (K : PySem.W.Frag) : Prop := obsZ fa fn K = valZ fn
section
variable {fa : List FF} {fn : List DefZ} {K : PySem.W.Frag}
theorem SaysZ.fact (c : SaysZ fa fn K) (i : Nat) {f : FF} (h : fa[i]? = some f := by rfl) : f K = true := by
  have c1 := (He.ba (show ((fa.all fun f => f K) && fn.all fun d => d.ok K) = true from congrArg (fun z : He.AlD => z.1) c)).1
  exact List.all_eq_true.mp c1 f (List.mem_of_getElem? h)
theorem SaysZ.def_ (c : SaysZ fa fn K) (i : Nat) {d : DefZ} (h : fn[i]? = some d := by rfl) (hs : d.sup = false := by rfl) : ∃ fd, FnZ K d.name d.qual d.st (d.dvs K) (d.kws K) (d.at_.ad K) fd := by
  have c2 := (He.ba (show ((fa.all fun f => f K) && fn.all fun d => d.ok K) = true from congrArg (fun z : He.AlD => z.1) c)).2
  have e : fn.map (fun d => fnA K (d.at_.ad K)) = fn.map DefZ.val := congrArg (fun z : He.AlD => z.2) c
  have e2 : (fn.map fun d => fnA K (d.at_.ad K))[i]? = (fn.map DefZ.val)[i]? := by rw [e]
  rw [List.getElem?_map, List.getElem?_map, h] at e2
  exact DefZ.funD (Option.some.inj e2) (List.all_eq_true.mp c2 d (List.mem_of_getElem? h)) hs
end
def isF (f : He.Fa) : FF := fun K => f.ok K
def cmpF (x : Str) : FF := fun K => He.eqO (PySem.W.findIn K (.ref (He.ga K x)) "__ne__") (some (some (.builtin "object.__ne__"))) && decide (PySem.W.mroIn K (He.ga K x) (.type "object") = some true)
theorem cmpF_ok {x : Str} {K : PySem.W.Frag} (c : cmpF x K = true) : CmpF K (He.ga K x) := ⟨He.eqO_ok (He.ba c).1, of_decide_eq_true (He.ba c).2⟩
def notF (x : Str) (t : String) : FF := fun K => PySem.W.notFirst K (He.ga K x) (.type t)
end Z
namespace Z
open PySem PySem.Spec PyProof.Rows L2
def excBx (x : Str) (bmB : List Value) (newId : String) : FF := fun K => (match K.lookup (He.ga K x) with
  | some ⟨.type t, _, .cls cd, sl⟩ => decide (t = "type") && ((match cd.mro, sl.toList with
    | .ref C :: bm, [_, _, _, _, some (.builtin n), _] => decide (C = He.ga K x) && (decide (n = newId) && (PySem.W.excTail bmB bm && (cd.hasDict && !cd.hasDel)))
    | _, _ => false))
  | _ => false) && PySem.W.excOver K (He.ga K x) bmB
theorem excBx_ok {x : Str} {K : PySem.W.Frag} {bmB : List Value} {newId : String} (c : excBx x bmB newId K = true) : PySem.W.excOver K (He.ga K x) bmB = true ∧
    ∃ nm q N bs bm sn sub ab col dd k0 k1 k2 k3 k5, K.lookup (He.ga K x) = some (excClassObj nm q (He.ga K x) N bs bm true sn sub ab col dd k0 k1 k2 k3 k5 newId) ∧ ∀ Y : String, bm.contains (.type Y) = bmB.contains (.type Y) := by
  obtain ⟨c0, c1⟩ := He.ba c
  refine ⟨c1, ?_⟩
  split at c0
  · rename_i t dd cd sl e
    obtain ⟨h1, h2⟩ := He.ba c0
    split at h2
    · rename_i C bm k0 k1 k2 k3 n k5 em es
      obtain ⟨h3, h4⟩ := He.ba h2
      obtain ⟨h5, h6⟩ := He.ba h4
      obtain ⟨h7, h8⟩ := He.ba h6
      obtain ⟨h9, h10⟩ := He.ba h8
      obtain ⟨nm, bs, mro, N, q, hd, sn, sub, ab, col, del⟩ := cd
      have e1 := of_decide_eq_true h1
      have e3 := of_decide_eq_true h3
      have e5 := of_decide_eq_true h5
      obtain ⟨sl⟩ := sl
      simp only at em es h9 h10
      subst em es e1 e5 h9
      have e10 : del = false := by cases del <;> simp_all
      subst e10
      refine ⟨nm, q, N, bs, bm, sn, sub, ab, col, dd, k0, k1, k2, k3, k5, ?_, fun Y => PySem.W.excTail_contains Y _ h7⟩
      rw [e, e3]
    · cases h2
  · cases c0
def veT : List Value := [.type "ValueError", .type "Exception", .type "BaseException", .type "object"]
def leT : List Value := [.type "LookupError", .type "Exception", .type "BaseException", .type "object"]
def ieT : List Value := [.type "IndexError", .type "LookupError", .type "Exception", .type "BaseException", .type "object"]
def excF (x : Str) : FF := fun K => (excBx x veT "ValueError.__new__" K || (excBx x leT "LookupError.__new__" K || excBx x ieT "IndexError.__new__" K)) && (He.eqO (PySem.W.findIn K (.ref (He.ga K x)) "__setattr__") (some (some (.builtin "object.__setattr__"))) && (decide (PySem.W.subIn K (.ref (He.ga K x)) (.type "BaseException") = some true) &&
    (decide (PySem.W.typeIn K (.ref (He.ga K x)) = some (.type "type")) && PySem.W.keepIn K (.ref (He.ga K x)))))
theorem excF_ok {x : Str} {K : PySem.W.Frag} (c : excF x K = true) : OexG K (He.ga K x) := by
  obtain ⟨c0, c⟩ := He.ba c
  obtain ⟨c1, c⟩ := He.ba c
  obtain ⟨c2, c⟩ := He.ba c
  obtain ⟨c3, c4⟩ := He.ba c
  refine ⟨?_, He.eqO_ok c1, of_decide_eq_true c2, of_decide_eq_true c3, c4⟩
  rcases Bool.or_eq_true_iff.mp c0 with h | h
  · obtain ⟨a, b⟩ := excBx_ok h
    exact ⟨_, _, _, _, PySem.F.excBase_ValueError, PySem.F.store_ValueError, a, b⟩
  rcases Bool.or_eq_true_iff.mp h with h | h
  · obtain ⟨a, b⟩ := excBx_ok h
    exact ⟨_, _, _, _, PySem.F.excBase_LookupError, PySem.F.store_LookupError, a, b⟩
  · obtain ⟨a, b⟩ := excBx_ok h
    exact ⟨_, _, _, _, PySem.F.excBase_IndexError, PySem.F.store_IndexError, a, b⟩
theorem methF_ok {x m : Str} {K : PySem.W.Frag} (c : isF (.meth x m) K = true) : Meth K (He.ga K x) m ((At.mt x m).ad K) := He.meth_ok c
theorem mkrF_ok {x : Str} {K : PySem.W.Frag} (c : isF (.mkr x) K = true) : Mk K (He.ga K x) ((At.mt x "__init__").ad K) := He.mkr_ok c
section
variable {K : PySem.W.Frag} {h : Heap} {mg : Str → Option Value}
end
section
variable {X : Cx} {B : Bs} {pos : Pos}
theorem de_gstr {x z : Str} (h : ∃ t, X.mg x = some (.str z t)) (hg : Gl X x := by rfl) (hd : (x == ("__debug__" : Str)) = false := by decide) : DE X B (.Name x pos) (fun _ M Ψ => Ψ (.str z) M) := by
  obtain ⟨t, h⟩ := h
  exact de_glob h (v := .str z) ⟨t, rfl⟩ (fun _ => .str) hg hd
theorem de_gint {x : Str} {i : Int} (h : ∃ t, X.mg x = some (.int i t)) (hg : Gl X x := by rfl) (hd : (x == ("__debug__" : Str)) = false := by decide) : DE X B (.Name x pos) (fun _ M Ψ => Ψ (.int i) M) := by
  obtain ⟨t, h⟩ := h
  exact de_glob h (v := .int i) ⟨t, rfl⟩ (fun _ => .int) hg hd
end
def scr (ns : List Int) : D := .lk (ns.map .int)
def noM : Sto := fun _ => none
theorem repL_scr {K : PySem.W.Frag} {G : Hp} : ∀ ns : List Int, RepL K G (ns.map D.int) (ns.map V.int)
  | [] => .nil
  | _ :: r => .cons .int (repL_scr r)
theorem law_at {l : PySem.W.OpenLaw} {w : World} {K : PySem.W.Frag} {k : Nat} {mg : Str → Option Value} {fa : Addr} {h : Heap} {fd : FuncData} {c : Ct} {x : Str} (hb : ∀ (s : Shared) (u : Value), BindsTo s fd ⟨[u], []⟩ [(x, u)])
    (F : ∀ base : Heap, K.In base → base.Ns mainGlobals mg → FnOk l.prog w K mg base (L2.CX l.prog w) k fa fd [x] (spC K 1 c))
    (hc : ∀ (ns : List Int), ns.length ≤ 63 → (∀ z ∈ ns, Builtin.Int.intBits z ≤ 1048576) → c [scr ns] noM (fun d _ => d = .bl true) noX) : LamX.LawAtS l w K (L2.CX l.prog w) k 63 x mg fa h := by
  refine ⟨fd, [], spC K 1 c, (fun p hp => nomatch hp), (fun p hp => nomatch hp), (fun p hp => nomatch hp), hb, fun H a ns hl hbits _ hS => ?_, fun base KX G _ => F base KX G⟩
  refine ⟨rfl, [scr ns], H, noM, _, _, ⟨Sub.rfl', fun a c e => nomatch (show (none : Option Cell) = some c from e)⟩, .cons (.lk hS (repL_scr ns)) .nil, hc ns hl hbits, fun d M' v H' G' q _ _ r => ?_, fun _ _ _ _ _ _ z _ _ _ => z⟩
  subst q
  cases r
  rfl
end Z
namespace Z
open PySem PySem.Spec PyProof.Rows L2
theorem bt_all : bootBuiltins "all" = some (.builtin "all") := by decide +kernel
theorem bt_any : bootBuiltins "any" = some (.builtin "any") := by decide +kernel
theorem bt_int : bootBuiltins "int" = some (.type "int") := by decide +kernel
theorem bt_list : bootBuiltins "list" = some (.type "list") := by decide +kernel
theorem bt_str : bootBuiltins "str" = some (.type "str") := by decide +kernel
theorem bt_tuple : bootBuiltins "tuple" = some (.type "tuple") := by decide +kernel
section
variable {X : Cx} {B : Bs} {pos p : Pos} {a b : Expr} {ga : DTA}
theorem de_int1 (hm : X.mg "int" = none) (ha : DA X B [a] ga) (hg : Gl X "int" := by rfl) (he : starEach [a] X.env = (false, eval a X.env) :: starEach [] X.env := by rfl) : DE X B (.Call (.Name "int" p) [a] [] pos) (fun r M Ψ => ga r M fun ds M1 => intD M1 ds Ψ) :=
  de_callT call_int1 ok_int1 hm bt_int ha hg (by decide) (by decide) he rfl
theorem de_str1 (hm : X.mg "str" = none) (ha : DA X B [a] ga) (hg : Gl X "str" := by rfl) (he : starEach [a] X.env = (false, eval a X.env) :: starEach [] X.env := by rfl) : DE X B (.Call (.Name "str" p) [a] [] pos) (fun r M Ψ => ga r M fun ds M1 => strD M1 ds Ψ) :=
  de_callT call_str_int ok_str1 hm bt_str ha hg (by decide) (by decide) he rfl
theorem de_all1 (hc : X.calm = true) (hm : X.mg "all" = none) (ha : DA X B [a] ga) (hg : Gl X "all" := by rfl) (he : starEach [a] X.env = (false, eval a X.env) :: starEach [] X.env := by rfl) : DE X B (.Call (.Name "all" p) [a] [] pos) (fun r M Ψ => ga r M fun ds M1 => allD M1 ds Ψ) :=
  de_callB (cr_all hc) ok_all hm bt_all ha hg (by decide) (by decide) he rfl
theorem de_any1 (hc : X.calm = true) (hm : X.mg "any" = none) (ha : DA X B [a] ga) (hg : Gl X "any" := by rfl) (he : starEach [a] X.env = (false, eval a X.env) :: starEach [] X.env := by rfl) : DE X B (.Call (.Name "any" p) [a] [] pos) (fun r M Ψ => ga r M fun ds M1 => anyD M1 ds Ψ) :=
  de_callB (cr_any hc) ok_any hm bt_any ha hg (by decide) (by decide) he rfl
theorem de_list1 (hm : X.mg "list" = none) (ha : DA X B [a] ga) (hg : Gl X "list" := by rfl) (he : starEach [a] X.env = (false, eval a X.env) :: starEach [] X.env := by rfl) : DE X B (.Call (.Name "list" p) [a] [] pos) (fun r M Ψ => ga r M fun ds M1 => listD M1 ds Ψ) :=
  de_callT call_list_of ok_list1 hm bt_list ha hg (by decide) (by decide) he rfl
theorem de_tuple1 (hm : X.mg "tuple" = none) (ha : DA X B [a] ga) (hg : Gl X "tuple" := by rfl) (he : starEach [a] X.env = (false, eval a X.env) :: starEach [] X.env := by rfl) : DE X B (.Call (.Name "tuple" p) [a] [] pos) (fun r M Ψ => ga r M fun ds M1 => tupleD M1 ds Ψ) :=
  de_callT call_tuple_of ok_tuple1 hm bt_tuple ha hg (by decide) (by decide) he rfl
end
theorem zx_blk {X : Cx} {B : Bs} {s : Shared} {H : Hp} {scope : Scope} {ce : Env} {fp : List Addr} : Zx (X.blk s H scope ce fp) B (fun _ _ _ => False) := ⟨takes0.imp fun _ _ _ _ ⟨_, _, _, _, z, _⟩ => z.elim, PassesOwn.never⟩
end Z
namespace Z
open PySem PySem.Spec PyProof.Rows L2
structure OwnF (K : PySem.W.Frag) (C : Addr) : Prop where
  cl : Cls K C
  ha : PySem.W.findIn K (.ref C) "__class__" = some (some (.builtin "object.__class__"))
  hn : PySem.W.specialIn K (.builtin "object.__class__") "__get__" = some (some (.builtin "getset_descriptor.__get__"))
  htk : PySem.W.takesIn K (.builtin "object.__class__") = some true
  hm : PySem.W.mroIn K C (.type "object") = some true
  self : PySem.W.kitOne K (.ref C) (.ref C) = some true
  other : ∀ t ∈ okTy, PySem.W.kitOne K (.type t) (.ref C) = some false
def ownF (x : Str) : FF := fun K => (isF (.cls x) K && (He.eqO (PySem.W.findIn K (.ref (He.ga K x)) "__class__") (some (some (.builtin "object.__class__"))) && (He.eqO (PySem.W.specialIn K (.builtin "object.__class__") "__get__") (some (some (.builtin "getset_descriptor.__get__"))) &&
  (decide (PySem.W.takesIn K (.builtin "object.__class__") = some true) && (decide (PySem.W.mroIn K (He.ga K x) (.type "object") = some true) && (decide (PySem.W.kitOne K (.ref (He.ga K x)) (.ref (He.ga K x)) = some true) && okTy.all fun t => decide (PySem.W.kitOne K (.type t) (.ref (He.ga K x)) = some false)))))))
theorem ownF_ok {x : Str} {K : PySem.W.Frag} (c : ownF x K = true) : OwnF K (He.ga K x) := by
  obtain ⟨c1, c⟩ := He.ba c
  obtain ⟨c2, c⟩ := He.ba c
  obtain ⟨c3, c⟩ := He.ba c
  obtain ⟨c4, c⟩ := He.ba c
  obtain ⟨c5, c⟩ := He.ba c
  obtain ⟨c6, c7⟩ := He.ba c
  exact ⟨He.cls_ok c1, He.eqO_ok c2, He.eqO_ok c3, of_decide_eq_true c4, of_decide_eq_true c5, of_decide_eq_true c6, fun t ht => of_decide_eq_true (List.all_eq_true.mp c7 t ht)⟩
section
variable {X : Cx} {B : Bs} {pos p : Pos} {a b : Expr} {ga : DTA} {C : Addr}
end
section
variable {P : Program} {w : World} {K : PySem.W.Frag} {mg : Str → Option Value} {base : Heap} {h : Heap} {x m : Str} {k : Nat} {c : Ct} {ps : List Str} {fd : FuncData} {bs : List (Nat × List Str × (List D → List D → List D))} {qual nm : Str} {st : Stmt} {dvs : List V} {kws : List (Str × V)}
theorem gf_mk (hg : mg x = some (.ref ((At.g x).ad K))) (F : FnZ K nm qual st dvs kws ((At.g x).ad K) fd) (ok : FnOk P w K mg base (L2.CX P w) k ((At.g x).ad K) fd ps (spC K ps.length c)) (hb : ∀ b ∈ bs, BindD K fd ps b) : Gf P w K mg base x k c bs := ⟨_, fd, ps, hg, F.kp, ok, hb⟩
theorem mf_mk (hm : Meth K (He.ga K x) m ((At.mt x m).ad K)) (ok : FnOk P w K mg base (L2.CX P w) k ((At.mt x m).ad K) fd ps (spC K ps.length c)) (hb : ∀ b ∈ bs, BindD K fd ps b) : Mf P w K mg base (He.ga K x) m k c bs := ⟨_, fd, ps, hm, ok, hb⟩
theorem cf_mk (hg : mg x = some (.ref (He.ga K x))) (hm : Mk K (He.ga K x) ((At.mt x "__init__").ad K)) (ok : FnOk P w K mg base (L2.CX P w) k ((At.mt x "__init__").ad K) fd ps (spC K ps.length c)) (hb : ∀ b ∈ bs, BindD K fd ps b) : Cf P w K mg base x (He.ga K x) k c bs := ⟨hg, _, fd, ps, hm, ok, hb⟩
end
end Z
namespace Z
open PySem PySem.Spec PyProof.Rows L2
section
variable {X : Cx} {B : Bs} {Ξ : XD → En → Sto → Prop} {k j n : Nat} {c : Ct} {pos : Pos} {a b : Expr} {fa fb : DTE} {C : Addr} {bs : List (Nat × List Str × (List D → List D → List D))}
end
section
variable {vs : List Nat} {as : D → En → (En → Prop) → Prop} {tt : DTT} {fe : DTE} {r : En} {M : Sto} {Φ : List D → Sto → Prop} {xs : List D} {S : Sto → Prop}
abbrev CompB (vs : List Nat) (as : D → En → (En → Prop) → Prop) (tt : DTT) (fe : DTE) (r : En) (M : Sto) (xs : List D) (S : Sto → Prop) (Φ : List D → Sto → Prop) : Prop := ∃ Iv : Nat → List D → Sto → Prop, Iv 0 [] M ∧ (∀ i acc M, Iv i acc M → S M) ∧
  (∀ i d acc M, xs[i]? = some d → Iv i acc M → as d (wipeD r vs) fun r2 => tt r2 M fun b M3 => if b = true then fe r2 M3 fun y M4 => acc.length < sizeLine ∧ Iv (i + 1) (acc ++ [y]) M4 else Iv (i + 1) acc M3) ∧ ∀ acc M, Iv xs.length acc M → Φ acc M
theorem comp_fm (keep : D → Bool) (g : D → D) (hS : S M) (hl : xs.length ≤ sizeLine) (he : ∀ d ∈ xs, ∀ (Q : D → Sto → Prop) (R : Sto → Prop), (if keep d = true then Q (g d) M else R M) → as d (wipeD r vs) fun r2 => tt r2 M fun b M3 => if b = true then fe r2 M3 Q else R M3)
    (fin : Φ ((xs.filter keep).map g) M) : CompB vs as tt fe r M xs S Φ := by
  refine ⟨fun i acc M' => M' = M ∧ acc = ((xs.take i).filter keep).map g, ⟨rfl, rfl⟩, fun i acc M' h => h.1 ▸ hS, fun i d acc M' hd h => ?_, fun acc M' h => ?_⟩
  · obtain ⟨rfl, rfl⟩ := h
    have hi : i < xs.length := (List.getElem?_eq_some_iff.mp hd).1
    have ed : xs[i] = d := (List.getElem?_eq_some_iff.mp hd).2
    have et : xs.take (i + 1) = xs.take i ++ [d] := by rw [List.take_succ, hd]; rfl
    refine he d (ed ▸ List.getElem_mem hi) _ _ ?_
    cases q : keep d with
    | true =>
      rw [if_pos rfl]
      refine ⟨?_, rfl, ?_⟩
      · rw [List.length_map]
        have := List.length_filter_le keep (xs.take i)
        rw [List.length_take] at this
        omega
      · rw [et, List.filter_append, List.map_append, List.filter_cons, if_pos q]; rfl
    | false =>
      rw [if_neg (by simp)]
      refine ⟨rfl, ?_⟩
      rw [et, List.filter_append, List.map_append, List.filter_cons, if_neg (by rw [q]; simp)]
      simp
  · obtain ⟨rfl, rfl⟩ := h
    rw [List.take_length]
    exact fin
theorem comp_map (g : D → D) (hS : S M) (hl : xs.length ≤ sizeLine) (he : ∀ d ∈ xs, ∀ (Q : D → Sto → Prop), Q (g d) M → as d (wipeD r vs) fun r2 => fe r2 M Q) (fin : Φ (xs.map g) M) : CompB vs as (fun _ M Ψ => Ψ true M) fe r M xs S Φ := by
  refine comp_fm (fun _ => true) g hS hl (fun d hd Q R q => ?_) ?_
  · rw [if_pos rfl] at q
    have h := he d hd Q q
    have e : (fun r2 => fe r2 M Q) = (fun r2 => (fun _ M Ψ => Ψ true M : DTT) r2 M fun b M3 => if b = true then fe r2 M3 Q else R M3) := by
      funext r2
      show _ = (if true = true then fe r2 M Q else R M)
      rw [if_pos rfl]
    rw [e] at h
    exact h
  · rw [List.filter_eq_self.mpr (fun _ _ => rfl)]; exact fin
theorem comp_st (I : Sto → Prop) (Pg : D → D → Prop) (h0 : I M) (hS : ∀ M', I M' → S M') (hl : xs.length ≤ sizeLine) (he : ∀ d ∈ xs, ∀ M', I M' → ∀ (Q : D → Sto → Prop), (∀ y M4, I M4 → Pg d y → Q y M4) → as d (wipeD r vs) fun r2 => fe r2 M' Q)
    (fin : ∀ acc M', I M' → acc.length = xs.length → (∀ (i : Nat) d y, xs[i]? = some d → acc[i]? = some y → Pg d y) → Φ acc M') : CompB vs as (fun _ M Ψ => Ψ true M) fe r M xs S Φ := by
  refine ⟨fun i acc M' => I M' ∧ acc.length = i ∧ ∀ (j : Nat) d y, xs[j]? = some d → acc[j]? = some y → Pg d y, ⟨h0, rfl, fun j d y _ h => by simp at h⟩, fun i acc M' h => hS _ h.1, fun i d acc M' hd h => ?_, fun acc M' h => fin acc M' h.1 h.2.1 h.2.2⟩
  obtain ⟨h1, h2, h3⟩ := h
  have hi : i < xs.length := (List.getElem?_eq_some_iff.mp hd).1
  have ed : xs[i] = d := (List.getElem?_eq_some_iff.mp hd).2
  have h := he d (ed ▸ List.getElem_mem hi) M' h1 (fun y M4 => acc.length < sizeLine ∧ I M4 ∧ (acc ++ [y]).length = i + 1 ∧ ∀ (j : Nat) d y', xs[j]? = some d → (acc ++ [y])[j]? = some y' → Pg d y') (fun y M4 a b => ⟨by omega, a, by rw [List.length_append, h2]; rfl, fun j d' y' e1 e2 => by
    rcases Nat.lt_or_ge j acc.length with hj | hj
    · rw [List.getElem?_append_left hj] at e2; exact h3 j d' y' e1 e2
    · rw [List.getElem?_append_right hj] at e2
      have hj2 : j = i := by
        have := (List.getElem?_eq_some_iff.mp e2).1
        simp at this; omega
      subst hj2
      rw [h2, Nat.sub_self] at e2
      cases e2
      rw [hd] at e1; cases e1
      exact b⟩)
  have e : (fun r2 => fe r2 M' (fun y M4 => acc.length < sizeLine ∧ I M4 ∧ (acc ++ [y]).length = i + 1 ∧ ∀ (j : Nat) d y', xs[j]? = some d → (acc ++ [y])[j]? = some y' → Pg d y')) = (fun r2 => (fun _ M Ψ => Ψ true M : DTT) r2 M' fun b M3 => if b = true then fe r2 M3 (fun y M4 => acc.length < sizeLine ∧ I M4 ∧ (acc ++ [y]).length = i + 1 ∧ ∀ (j : Nat) d y', xs[j]? = some d → (acc ++ [y])[j]? = some y' → Pg d y') else (I M3 ∧ acc.length = i + 1 ∧ ∀ (j : Nat) d y, xs[j]? = some d → acc[j]? = some y → Pg d y)) := by
    funext r2
    show _ = (if true = true then _ else _)
    rw [if_pos rfl]
  rw [e] at h
  exact h
end
theorem for_n {M0 : Sto} {xs : List D} {S : Sto → Prop} {r : En} {M : Sto} {g : DTG} {f : DTS} {E : Ek} (Iv : Nat → En → Sto → Prop) (h0 : Iv 0 r M) (hS : ∀ i r M, Iv i r M → S M)
    (turn : ∀ i d r M, xs[i]? = some d → Iv i r M → g d r M fun r' M' => f { E with nx := Cl M0 (Iv (i + 1)), ct := Cl M0 (Iv (i + 1)), bk := E.nx } r' M') (fin : ∀ r M, Iv xs.length r M → E.nx r M) :
    ∃ Iv : Nat → En → Sto → Prop, Cl M0 (Iv 0) r M ∧ (∀ i r M, Iv i r M → S M) ∧ (∀ i d r M, xs[i]? = some d → Iv i r M → g d r M fun r' M' => f { E with nx := Cl M0 (Iv (i + 1)), ct := Cl M0 (Iv (i + 1)), bk := E.nx } r' M') ∧ ∀ r M, Iv xs.length r M → E.nx r M := ⟨Iv, .of h0, hS, turn, fin⟩
section
variable {vs : List Nat} {wi : DTI} {as : D → En → (En → Prop) → Prop} {tt : DTT} {fe : DTE} {r : En} {M : Sto} {Φ : List D → Sto → Prop}
theorem compD_of (Pw : List D → (Sto → Prop) → Sto → Prop) (hw : ∀ K : List D → (Sto → Prop) → Sto → Prop, (∀ xs S M1, Pw xs S M1 → K xs S M1) → wi r M K) (h : ∀ xs S M1, Pw xs S M1 → CompB vs as tt fe r M1 xs S Φ) : compD vs wi as tt fe r M Φ := by unfold compD; exact hw _ h
theorem compD_map {xs : List D} {S : Sto → Prop} (hw : ∀ K : List D → (Sto → Prop) → Sto → Prop, K xs S M → wi r M K) (g : D → D) (hS : S M) (hl : xs.length ≤ sizeLine) (he : ∀ d ∈ xs, ∀ (Q : D → Sto → Prop), Q (g d) M → as d (wipeD r vs) fun r2 => fe r2 M Q) (fin : Φ (xs.map g) M) :
    compD vs wi as (fun _ M Ψ => Ψ true M) fe r M Φ := by unfold compD; exact hw _ (comp_map g hS hl he fin)
theorem compD_fm {xs : List D} {S : Sto → Prop} (hw : ∀ K : List D → (Sto → Prop) → Sto → Prop, K xs S M → wi r M K) (keep : D → Bool) (g : D → D) (hS : S M) (hl : xs.length ≤ sizeLine)
    (he : ∀ d ∈ xs, ∀ (Q : D → Sto → Prop) (R : Sto → Prop), (if keep d = true then Q (g d) M else R M) → as d (wipeD r vs) fun r2 => tt r2 M fun b M3 => if b = true then fe r2 M3 Q else R M3)
    (fin : Φ ((xs.filter keep).map g) M) : compD vs wi as tt fe r M Φ := by unfold compD; exact hw _ (comp_fm keep g hS hl he fin)
end
section
variable {M0 : Sto} {wi : DTI} {g : DTG} {f : DTS} {E : Ek} {r : En} {M : Sto}
theorem forD_n {xs : List D} {S : Sto → Prop} (hw : ∀ K : List D → (Sto → Prop) → Sto → Prop, K xs S M → wi r M K) (Iv : Nat → En → Sto → Prop) (h0 : Iv 0 r M) (hS : ∀ i r M, Iv i r M → S M)
    (turn : ∀ i d r M, xs[i]? = some d → Iv i r M → g d r M fun r' M' => f { E with nx := Cl M0 (Iv (i + 1)), ct := Cl M0 (Iv (i + 1)), bk := E.nx } r' M') (fin : ∀ r M, Iv xs.length r M → E.nx r M) : forD M0 wi g f E r M := by unfold forD; exact hw _ (for_n Iv h0 hS turn fin)
end
structure Hand where
  cs : List Int
  i : Int
  r : Int
  m : Int
def hd (h : Hand) : Cell := .lst [.lst (h.cs.map .int), .int h.i, .int h.r, .int h.m]
def HandAt (M : Sto) (p : Addr) : Prop := ∃ h, M p = some (hd h) ∧ h.cs.length ≤ 63 ∧ 0 ≤ h.i
def Dr (p : Addr) (M M' : Sto) : Prop := HandAt M' p ∧ ∀ q, q ≠ p → M' q = M q
theorem Dr.refl {p : Addr} {M : Sto} (h : HandAt M p) : Dr p M M := ⟨h, fun _ _ => rfl⟩
theorem Dr.trans {p : Addr} {M M1 M2 : Sto} (a : Dr p M M1) (b : Dr p M1 M2) : Dr p M M2 := ⟨b.1, fun q h => (b.2 q h).trans (a.2 q h)⟩
end Z
namespace Z
open PySem PySem.Spec PyProof.Rows L2
theorem big_ok : (1000000 : Nat) ≤ sizeLine := by decide
theorem ite_t {c : Bool} {p q : Prop} (h : c = true) (x : p) : if c = true then p else q := by rw [if_pos h]; exact x
theorem ite_f {c : Bool} {p q : Prop} (h : c = false) (x : q) : if c = true then p else q := by rw [if_neg (by rw [h]; simp)]; exact x
theorem bl_t {f : Bool → Prop} {c : Bool} (h : c = true) (x : f true) : blD f (.bl c) := by rw [h]; unfold blD; exact x
theorem bl_f {f : Bool → Prop} {c : Bool} (h : c = false) (x : f false) : blD f (.bl c) := by rw [h]; unfold blD; exact x
theorem bl_c {f : Bool → Prop} {c : Bool} (h1 : c = true → f true) (h2 : c = false → f false) : blD f (.bl c) := by
  unfold blD
  cases c with
  | true => exact h1 rfl
  | false => exact h2 rfl
theorem ln {l : List D} {n : Nat} (h : l.length = n) (hn : n ≤ 1000000) : l.length ≤ sizeLine := h ▸ Nat.le_trans hn big_ok
theorem eqI {M : Sto} {i j : Int} {φ : D → Prop} (h : φ (.bl (decide (i = j)))) : eqD M (.int i) (.int j) φ := by unfold eqD; exact h
theorem ix_ref {M : Sto} {p : Addr} {i : Int} {l : List D} {φ : D → Prop} (e : M p = some (.lst l)) (h : optK (L2.atI l i) φ) : ixD M (.ref p) (.int i) φ := by
  unfold ixD
  simp only [lstOf, e]
  exact h
theorem set_ref {M : Sto} {p : Addr} {i : Int} {l : List D} {v : D} {j : Nat} {φ : Sto → Prop} (e : M p = some (.lst l)) (hj : L2.ixN l.length i = some j) (h : φ (updM M p (.lst (l.set j v)))) : setD (.ref p) i v M φ := by
  unfold setD
  simp only [e, hj, optK]
  exact h
theorem fld_hd {f : Str} {d : D} {fs : List (Str × D)} {φ : D → Prop} (h : φ d) : optK (((f, d) :: fs).lookup f) φ := optK_of List.lookup_cons_self h
theorem look_ne {f g : Str} {d : D} (h : (f == g) = false) : List.lookup f [(g, d)] = none := by
  rw [List.lookup_cons, h]; rfl
theorem lmem {α : Type} {xs : List α} {i : Nat} {d : α} (h : xs[i]? = some d) : d ∈ xs := by
  obtain ⟨h1, h2⟩ := List.getElem?_eq_some_iff.mp h
  exact h2 ▸ List.getElem_mem h1
theorem ty_int {M : Sto} {d : D} (h : tyN M d = some "int") : ∃ i, d = .int i := by
  unfold tyN at h
  split at h <;> first | exact ⟨_, rfl⟩ | (exfalso; revert h; decide) | (split at h <;> (exfalso; revert h; decide)) | cases h
theorem ty_str {M : Sto} {d : D} (h : tyN M d = some "str") : ∃ x, d = .str x := by
  unfold tyN at h
  split at h <;> first | exact ⟨_, rfl⟩ | (exfalso; revert h; decide) | (split at h <;> (exfalso; revert h; decide)) | cases h
theorem signs_mem {x : Str} {d : D} (h : d ∈ signs x) : ∃ c ∈ x.cps.toList, d = .str ⟨#[c]⟩ := by
  obtain ⟨c, hc, e⟩ := List.mem_map.mp h
  exact ⟨c, hc, e.symm⟩
theorem signs_len {x : Str} : (signs x).length = x.cps.size := by unfold signs; rw [List.length_map, Array.length_toList]
theorem mok_s {i j : Int} (h : j.natAbs < 2 ^ 40) : IntMulOk i j := IntMulOk.of_right (by
  have := PyProof.Rows.intBits_le h
  omega)
theorem rng_at {lo : Int} {n i : Nat} {d : D} (h : (rngD lo n)[i]? = some d) : i < n ∧ d = .int (lo + i) := by
  have hi : i < n := by
    have := (List.getElem?_eq_some_iff.mp h).1
    rw [rng_len] at this; exact this
  rw [rng_get hi] at h
  cases h
  exact ⟨hi, rfl⟩
abbrev T4 := Int × Int × Int × Int
def tL (t : T4) : List D := [.int t.1, .int t.2.1, .int t.2.2.1, .int t.2.2.2]
def tD (t : T4) : D := .tup (tL t)
def mul4 (s t : T4) : T4 := (s.1 * t.1 + s.2.1 * t.2.2.1, s.1 * t.2.1 + s.2.1 * t.2.2.2, s.2.2.1 * t.1 + s.2.2.2 * t.2.2.1, s.2.2.1 * t.2.1 + s.2.2.2 * t.2.2.2)
def det4 (t : T4) : Int := t.1 * t.2.2.2 - t.2.1 * t.2.2.1
def O4 : T4 := (1, 0, 0, 1)
def L4 : T4 := (1, 0, 1, 1)
def R4 : T4 := (1, 1, 0, 1)
theorem det_mul (s t : T4) : det4 (mul4 s t) = det4 s * det4 t := by unfold det4 mul4; simp only; grind
theorem mul_assoc4 (r s t : T4) : mul4 (mul4 r s) t = mul4 r (mul4 s t) := by
  unfold mul4
  simp only [Prod.mk.injEq]
  refine ⟨?_, ?_, ?_, ?_⟩ <;> grind
theorem one_mul4 (t : T4) : mul4 O4 t = t := by
  obtain ⟨a, b, c, d⟩ := t
  unfold mul4 O4
  simp
theorem mul_one4 (t : T4) : mul4 t O4 = t := by
  obtain ⟨a, b, c, d⟩ := t
  unfold mul4 O4
  simp
def turnT (c : Nat) : T4 := if (⟨#[c]⟩ : Str) = ("R" : Str) then R4 else L4
theorem det_turn (c : Nat) : det4 (turnT c) = 1 := by unfold turnT; split <;> decide
def wL (l : List Nat) : T4 := l.foldl (fun t c => mul4 t (turnT c)) O4
theorem wL_from (l : List Nat) : ∀ t, l.foldl (fun t c => mul4 t (turnT c)) t = mul4 t (wL l) := by
  unfold wL
  induction l with
  | nil => intro t; exact (mul_one4 t).symm
  | cons c l ih =>
    intro t
    rw [List.foldl_cons, List.foldl_cons, ih, ih (mul4 O4 (turnT c)), one_mul4, mul_assoc4]
theorem wL_app (l l' : List Nat) : wL (l ++ l') = mul4 (wL l) (wL l') := by
  conv => lhs; unfold wL
  rw [List.foldl_append, wL_from]; rfl
theorem eqS {M : Sto} {i j : Str} {φ : D → Prop} (h : φ (.bl (decide (i = j)))) : eqD M (.str i) (.str j) φ := by unfold eqD; exact h
theorem neS {M : Sto} {i j : Str} {φ : D → Prop} (h : φ (.bl (!decide (i = j)))) : neD M (.str i) (.str j) φ := by unfold neD; exact h
theorem neI {M : Sto} {i j : Int} {φ : D → Prop} (h : φ (.bl (!decide (i = j)))) : neD M (.int i) (.int j) φ := by unfold neD; exact h
end Z
namespace Z
open PySem PySem.Spec PyProof.Rows L2
theorem fm0 {x m : Int} (h : 0 < m) : 0 ≤ x.fmod m := by
  rw [Int.fmod_eq_emod_of_nonneg x (Int.le_of_lt h)]
  exact Int.emod_nonneg x (by omega)
theorem fm1 {x m : Int} (h : 0 < m) : x.fmod m < m := by
  rw [Int.fmod_eq_emod_of_nonneg x (Int.le_of_lt h)]
  exact Int.emod_lt_of_pos x h
theorem fm_small {x m : Int} (h : 0 < m) (hm : m ≤ 2 ^ 39) : (x.fmod m).natAbs < 2 ^ 40 := by
  have h0 := fm0 (x := x) h
  have h1 := fm1 (x := x) h
  omega
theorem at_nat {α : Type} {xs : List α} {i : Int} {j : Nat} {d : α} (hi : i = (j : Int)) (h : xs[j]? = some d) : L2.atI xs i = some d := by
  subst hi
  have hj : j < xs.length := (List.getElem?_eq_some_iff.mp h).1
  unfold L2.atI L2.ixN
  rw [if_pos (by omega), if_pos (by omega)]
  simpa using h
theorem at_some {α : Type} {xs : List α} {i : Int} (h0 : 0 ≤ i) (h1 : i < xs.length) : ∃ d, L2.atI xs i = some d ∧ d ∈ xs := by
  obtain ⟨j, rfl⟩ := Int.eq_ofNat_of_zero_le h0
  have hj : j < xs.length := by omega
  exact ⟨xs[j], at_nat rfl (List.getElem?_eq_getElem hj), List.getElem_mem hj⟩
theorem cut_map {α β : Type} (f : α → β) (xs : List α) (lo hi : Option Int) : cutD (xs.map f) lo hi = (cutD xs lo hi).map f := by
  unfold cutD
  rw [List.length_map, List.map_take, List.map_drop]
theorem cut_len {α : Type} (xs : List α) (lo hi : Option Int) : (cutD xs lo hi).length ≤ xs.length := by
  unfold cutD
  rw [List.length_take, List.length_drop]
  omega
theorem dok_s {j : Int} (h : 0 < j) (h' : j < 2 ^ 40) : Dok j := dok_of (n := 40) (by omega) (by omega) (by decide)
def LR (w : List Nat) : Prop := ∀ c ∈ w, c = 76 ∨ c = 82
theorem lr_mem {c : Nat} : c ∈ ("LR" : Str).cps.toList ↔ c = 76 ∨ c = 82 := by
  have e : ("LR" : Str).cps.toList = [76, 82] := by decide +kernel
  rw [e]
  simp
theorem joinL_one : ∀ w : List Nat, TL.joinL [] (w.map fun c => [c]) = w
  | [] => rfl
  | [c] => rfl
  | c :: d :: w => by
    have ih := joinL_one (d :: w)
    show [c] ++ ([] ++ TL.joinL [] ((d :: w).map fun c => [c])) = _
    rw [ih]
    rfl
theorem join_chars (w : List Nat) : Txt.join Str.empty (w.map fun c => (⟨#[c]⟩ : Str)) = ⟨w.toArray⟩ := by
  have h := SX.join_S [] (w.map fun c => [c])
  rw [joinL_one, List.map_map] at h
  exact h
theorem chars_of {acc : List D} (h : ∀ y ∈ acc, ∃ c : Nat, (c = 76 ∨ c = 82) ∧ y = .str ⟨#[c]⟩) : ∃ w : List Nat, LR w ∧ acc = w.map (fun c => D.str ⟨#[c]⟩) := by
  induction acc with
  | nil => exact ⟨[], (fun c h => nomatch h), rfl⟩
  | cons y l ih =>
    obtain ⟨w, h1, h2⟩ := ih fun z hz => h z (List.mem_cons_of_mem _ hz)
    obtain ⟨c, hc, rfl⟩ := h y List.mem_cons_self
    refine ⟨c :: w, fun d hd => ?_, by rw [h2]; rfl⟩
    rcases List.mem_cons.mp hd with rfl | hd
    · exact hc
    · exact h1 d hd
theorem strsD_chars (w : List Nat) : strsD (w.map fun c => D.str ⟨#[c]⟩) = some (w.map fun c => (⟨#[c]⟩ : Str)) := by
  have := strsD_map (w.map fun c => (⟨#[c]⟩ : Str))
  rw [List.map_map] at this
  exact this
theorem chars_sum (w : List Nat) : ((w.map fun c => (⟨#[c]⟩ : Str)).map (·.length)).sum = w.length := by
  induction w with
  | nil => rfl
  | cons c w ih =>
    rw [List.map_cons, List.map_cons, List.sum_cons, ih, List.length_cons]
    show 1 + _ = _
    omega
def Nn (t : T4) : Prop := 0 ≤ t.1 ∧ 0 ≤ t.2.1 ∧ 0 ≤ t.2.2.1 ∧ 0 ≤ t.2.2.2
theorem Nn.mul {s t : T4} (a : Nn s) (b : Nn t) : Nn (mul4 s t) := by
  obtain ⟨a1, a2, a3, a4⟩ := a
  obtain ⟨b1, b2, b3, b4⟩ := b
  exact ⟨Int.add_nonneg (Int.mul_nonneg a1 b1) (Int.mul_nonneg a2 b3), Int.add_nonneg (Int.mul_nonneg a1 b2) (Int.mul_nonneg a2 b4), Int.add_nonneg (Int.mul_nonneg a3 b1) (Int.mul_nonneg a4 b3), Int.add_nonneg (Int.mul_nonneg a3 b2) (Int.mul_nonneg a4 b4)⟩
theorem nn_R : Nn R4 := ⟨by decide, by decide, by decide, by decide⟩
theorem nn_L : Nn L4 := ⟨by decide, by decide, by decide, by decide⟩
theorem nn_turn (c : Nat) : Nn (turnT c) := by
  unfold turnT
  split
  · exact nn_R
  · exact nn_L
theorem nn_fold (l : List Nat) : ∀ t : T4, Nn t → Nn (l.foldl (fun t c => mul4 t (turnT c)) t) := by
  induction l with
  | nil => intro t h; exact h
  | cons c l ih => intro t h; rw [List.foldl_cons]; exact ih _ (h.mul (nn_turn c))
theorem nn_wL (l : List Nat) : Nn (wL l) := nn_fold l O4 ⟨by decide, by decide, by decide, by decide⟩
theorem handAt_of {M : Sto} {p : Addr} {cs : List Int} {i r m : Int} (e : M p = some (.lst [.lst (cs.map .int), .int i, .int r, .int m])) (hc : cs.length ≤ 63) (hi : 0 ≤ i) : HandAt M p := ⟨⟨cs, i, r, m⟩, e, hc, hi⟩
theorem set_gen {M : Sto} {p : Addr} {i : Int} {l : List D} {v : D} {j : Nat} {φ : Sto → Prop} (e : M p = some (.lst l)) (hj : L2.ixN l.length i = some j) (h : ∀ M', M' p = some (.lst (l.set j v)) → (∀ b, b ≠ p → M' b = M b) → φ M') : setD (.ref p) i v M φ :=
  set_ref e hj (h _ updM_same fun b hb => updM_ne hb)
def itm (d : D) : Option (List D) := match d with
  | .str x => some (signs x)
  | .tup l => some l
  | .lst l => some l
  | _ => none
end Z
namespace Z
open PySem PySem.Spec PyProof.Rows L2
theorem fn_no {P : Program} {w : World} {K : PySem.W.Frag} {mg : Str → Option Value} {base : Heap} {k n : Nat} {f : Addr} {fd : FuncData} {ps : List Str} {c : Ct} (h : ∀ ds M Ψ Ξ, ¬ c ds M Ψ Ξ) : FnOk P w K mg base (L2.CX P w) k f fd ps (spC K n c) :=
  ⟨fun _ _ _ _ ⟨_, _, _, _, _, _, _, _, z, _⟩ => (h _ _ _ _ z).elim, fun _ _ _ _ _ _ _ _ _ _ _ _ _ ⟨_, _, _, _, _, _, _, _, z, _⟩ => (h _ _ _ _ z).elim⟩
def Same (M : Sto) : Nat → D → D → Prop
  | 0, _, _ => False
  | n + 1, x, y => (x = .non ∧ y = .non) ∨ (∃ b, x = .bl b ∧ y = .bl b) ∨ (∃ i, x = .int i ∧ y = .int i) ∨ (∃ s, x = .str s ∧ y = .str s) ∨
    (∃ xs ys, ((lstOf M x = some xs ∧ lstOf M y = some ys) ∨ (x = .tup xs ∧ y = .tup ys)) ∧ xs.length = ys.length ∧ xs.length ≤ 1000000 ∧ ∀ (i : Nat) a b, xs[i]? = some a → ys[i]? = some b → Same M n a b)
end Z
namespace Z
open PySem PySem.Spec PyProof.Rows L2
def iL (t : T4) : List Int := [t.1, t.2.1, t.2.2.1, t.2.2.2]
def gF (g : Nat) (l : List Int) : Nat := l.foldl (fun g x => Nat.gcd g x.natAbs) g
def gN (l : List Int) : Nat := gF 0 l
def lead (l : List Int) : Int := (l.filter fun x => decide (x ≠ 0)).headD 0
end Z
namespace Z
open PySem PySem.Spec PyProof.Rows L2
theorem eqB {M : Sto} {i j : Bool} {φ : D → Prop} (h : φ (.bl (decide (i = j)))) : eqD M (.bl i) (.bl j) φ := by unfold eqD; exact h
theorem neB {M : Sto} {i j : Bool} {φ : D → Prop} (h : φ (.bl (!decide (i = j)))) : neD M (.bl i) (.bl j) φ := by unfold neD; exact h
theorem lst_cs {M : Sto} {x : D} {l : List D} (h : lstOf M x = some l) : x = .lst l ∨ ∃ p, x = .ref p ∧ M p = some (.lst l) := by
  cases x with
  | lst l' => cases h; exact .inl rfl
  | ref p => exact .inr ⟨p, rfl, lstOf_ref h⟩
  | _ => cases h
theorem lst_ty {M : Sto} {x : D} {l : List D} (h : lstOf M x = some l) : tyN M x = some "list" := by
  rcases lst_cs h with rfl | ⟨p, rfl, e⟩
  · rfl
  · simp only [tyN, e]
theorem zip_mem {xs ys : List D} {d : D} (h : d ∈ zipD xs ys) : ∃ (i : Nat) (a b : D), xs[i]? = some a ∧ ys[i]? = some b ∧ d = .tup [a, b] := by
  unfold zipD at h
  obtain ⟨⟨a, b⟩, h1, rfl⟩ := List.mem_map.mp h
  obtain ⟨i, hi, e⟩ := List.getElem_of_mem h1
  have e2 := List.getElem?_eq_getElem hi
  rw [e] at e2
  have := List.getElem?_zip_eq_some.mp e2
  exact ⟨i, a, b, this.1, this.2, rfl⟩
theorem zip_len {xs ys : List D} : (zipD xs ys).length = min xs.length ys.length := by unfold zipD; rw [List.length_map, List.length_zip]
theorem all_bl {xs : List D} : (xs.map fun _ => D.bl true) = (xs.map fun _ => true).map D.bl := by rw [List.map_map]; rfl
theorem all_tt (xs : List D) : (xs.map fun _ => true).all id = true := by
  rw [List.all_map, List.all_eq_true]
  intro _ _; rfl
section
variable {M : Sto} {n : Nat}
theorem Same.i (i : Int) : Same M (n + 1) (.int i) (.int i) := .inr (.inr (.inl ⟨i, rfl, rfl⟩))
theorem Same.b (i : Bool) : Same M (n + 1) (.bl i) (.bl i) := .inr (.inl ⟨i, rfl, rfl⟩)
theorem Same.s (i : Str) : Same M (n + 1) (.str i) (.str i) := .inr (.inr (.inr (.inl ⟨i, rfl, rfl⟩)))
theorem Same.no : Same M (n + 1) .non .non := .inl ⟨rfl, rfl⟩
inductive SameL (M : Sto) (n : Nat) : List D → List D → Prop
  | nil : SameL M n [] []
  | cons {a b : D} {xs ys : List D} : Same M n a b → SameL M n xs ys → SameL M n (a :: xs) (b :: ys)
theorem SameL.len : ∀ {xs ys : List D}, SameL M n xs ys → xs.length = ys.length
  | _, _, .nil => rfl
  | _, _, .cons _ r => congrArg (· + 1) r.len
theorem SameL.get : ∀ {xs ys : List D}, SameL M n xs ys → ∀ (i : Nat) a b, xs[i]? = some a → ys[i]? = some b → Same M n a b
  | _, _, .nil, i, a, b, h, _ => by simp at h
  | _, _, .cons h r, 0, a, b, h1, h2 => by simp at h1 h2; subst h1 h2; exact h
  | _, _, .cons h r, i + 1, a, b, h1, h2 => r.get i a b (by simpa using h1) (by simpa using h2)
theorem Same.t {xs ys : List D} (h : SameL M n xs ys) (hl : xs.length ≤ 1000000) : Same M (n + 1) (.tup xs) (.tup ys) :=
  .inr (.inr (.inr (.inr ⟨xs, ys, .inr ⟨rfl, rfl⟩, h.len, hl, h.get⟩)))
theorem Same.l {xs ys : List D} (h : SameL M n xs ys) (hl : xs.length ≤ 1000000) : Same M (n + 1) (.lst xs) (.lst ys) :=
  .inr (.inr (.inr (.inr ⟨xs, ys, .inl ⟨rfl, rfl⟩, h.len, hl, h.get⟩)))
theorem SameL.ints : ∀ l : List Int, SameL M (n + 1) (l.map .int) (l.map .int)
  | [] => .nil
  | i :: l => .cons (.i i) (SameL.ints l)
theorem Same.T (t : T4) : Same M (n + 2) (tD t) (tD t) := Same.t (SameL.ints (iL t)) (show 4 ≤ 1000000 by decide)
end
def sc (m : Int) (t : T4) : T4 := (m * t.1, m * t.2.1, m * t.2.2.1, m * t.2.2.2)
end Z
namespace Z
open PySem PySem.Spec PyProof.Rows L2
section
variable {X : Cx} {B : Bs} {pos apos : Pos} {e o : Expr} {es : List Expr} {fa fo : DTE} {ga : DTA}
theorem ds_par3 {i j l : Nat} {x y z : Str} {a b c : Expr} {px py pz pt : Pos} {kt k2 : Nat} {pt2 : Pos} (hc : X.calm = true) (hN : X.N.Nodup) (ha : DA X B [a, b, c] ga) (hi : X.N[i]? = some x := by rfl) (hj : X.N[j]? = some y := by rfl) (hl : X.N[l]? = some z := by rfl) (hij : i ≠ j := by decide) (hil : i ≠ l := by decide) (hjl : j ≠ l := by decide)
    (hx : X.env.scope.names.lookup x = some .local := by rfl) (hy : X.env.scope.names.lookup y = some .local := by rfl) (hz : X.env.scope.names.lookup z = some .local := by rfl)
    (hw : swappedStores [.Tuple [.Name x px, .Name y py, .Name z pz] kt pt] (.Tuple [a, b, c] k2 pt2) X.env = pure (some [x, y, z]) := by rfl) (hs : swapsWithSole [.Tuple [.Name x px, .Name y py, .Name z pz] kt pt] (.Tuple [a, b, c] k2 pt2) pos.line X.env = pure false := by rfl) :
    DS X B (.Assign [.Tuple [.Name x px, .Name y py, .Name z pz] kt pt] (.Tuple [a, b, c] k2 pt2) pos) (fun E r M => ga r M fun ds M1 => match ds with | [d, d', d''] => E.nx (((r.set i (some d)).set j (some d')).set l (some d'')) M1 | _ => False) :=
  PS_imp (ps_par3 hc hN hi hj hl hij hil hjl hx hy hz ha hw hs) fun D' σ H h => by
    obtain ⟨r, M, G, E, R, q, k⟩ := EkOk.of h
    refine ⟨r, M, G, _, R, q, fun ds M' vs H' G' q' R' s p => ?_⟩
    split at q'
    · cases p with
      | cons p1 p2 => cases p2 with
        | cons p2 p3 => cases p3 with
          | cons p3 p4 => cases p4; exact ⟨_, _, _, rfl, k.nx _ _ _ _ _ q' (((R'.set p1 i).set p2 j).set p3 l) s⟩
    · exact q'.elim
theorem tyV_lst {K : PySem.W.Frag} {M : Sto} {H G : Hp} {d : D} {v : V} {l : List D} (w : Wd K M H G) (r : Rep K G d v) (e : lstOf M d = some l) : tyV K "list" v H := by
  obtain ⟨a, vs, rfl, h, _⟩ := lst_rep' w r e
  exact .inl ⟨rfl, vs, h⟩
theorem de_lm1 {id : String} {name : Str} {r : V → List V → Hp → VK → Prop} {g : Sto → D → List D → PD → Prop} (slot : Slot "list" name id) (ty : typeOf (.builtin id) = pure (.type "method_descriptor")) (rule : MtR X id r) (ok : OkM X.K r g) (ho : DE X B o fo) (ha : DA X B (e :: es) ga)
    (hbase : attributeBase o name X.env (eval o X.env) = eval o X.env := by rfl)
    (hfew : ((backTo pos (starEach (e :: es) X.env)).all (fun x => !x.1) && (backToKw pos (keywordEach [] X.env)).all (fun x => x.1.isSome)
      && decide ((e :: es).length + ([] : List Keyword).length + (if ([] : List Keyword).isEmpty then 0 else 1) < 30)) = true := by rfl)
    (hline : (apos.endLine == pos.line) = true := by rfl) (hs : starEach (e :: es) X.env = (false, eval e X.env) :: starEach es X.env := by rfl) (hplain : (backTo pos (starEach es X.env)).any (·.1) = false := by rfl) :
    DE X B (.Call (.Attribute o name apos) (e :: es) [] pos) (fun r M Ψ => fo r M fun x M1 => (∃ l, lstOf M1 x = some l) ∧ ga r M1 fun ds M2 => g M2 x ds Ψ) :=
  PE_imp (pe_bm PySem.F.plainAttrs_list slot ty rule ho ha hbase hfew hline hs hplain) fun σ H Q ⟨r, M, G, Ψ, R, h, k⟩ => by
    refine ⟨r, M, G, _, R, h, fun x M1 v H1 G1 ⟨⟨l, e1⟩, q⟩ R1 s1 p1 => ⟨tyV_lst R1.wd p1 e1, r, M1, G1, _, R1, q, fun ds M2 us H2 G2 q2 R2 s2 p2 => ?_⟩⟩
    exact ok M2 H2 G2 _ _ _ _ _ _ R2.wd (p1.mono s2) p2 q2 fun d M' w H' G' f w' s' p => k _ _ _ _ _ f (R2.go w' s') ((s1.tr s2).tr s'.gsub) p
def lstAt (M : Sto) (x : D) (φ : Addr → List D → Prop) : Prop := match x with
  | .ref p => match M p with
    | some (.lst l) => φ p l
    | _ => False
  | _ => False
theorem lstAt_of {M : Sto} {p : Addr} {l : List D} {φ : Addr → List D → Prop} (e : M p = some (.lst l)) (h : φ p l) : lstAt M (.ref p) φ := by
  unfold lstAt
  simp only [e]
  exact h
theorem lstAt_some {M : Sto} {x : D} {φ : Addr → List D → Prop} (h : lstAt M x φ) : ∃ p l, x = .ref p ∧ M p = some (.lst l) ∧ φ p l := by
  unfold lstAt at h
  split at h
  · split at h
    · rename_i p _ l e
      exact ⟨p, l, rfl, e, h⟩
    · exact h.elim
  · exact h.elim
def appendD (M : Sto) (x : D) (ds : List D) (φ : PD) : Prop := match ds with
  | [d] => lstAt M x fun p l => l.length < sizeLine ∧ φ .non (updM M p (.lst (l ++ [d])))
  | _ => False
section
variable {K : PySem.W.Frag}
theorem RepL.dropLast {G : Hp} : ∀ {xs : List D} {us : List V}, RepL K G xs us → RepL K G xs.dropLast us.dropLast := fun {xs us} r => by
  rw [List.dropLast_eq_take, List.dropLast_eq_take, r.length]
  exact r.take _
theorem ok_append : OkM K rAppend appendD := fun M H G x v ds vs φ Q w r rs h k => by
  unfold appendD at h
  split at h
  · obtain ⟨p, l, rfl, e, hl, h⟩ := lstAt_some h
    cases r
    cases rs with
    | cons r1 rs =>
      cases rs
      obtain ⟨gp, us, hp, rl⟩ := w.cells _ _ e
      obtain ⟨w1, s1⟩ := cell_put (c := .lst (l ++ [_])) (o := .lst (us ++ [_])) w e ⟨_, upd_same, rl.app (.cons r1 .nil)⟩
      exact ⟨p, us, _, rfl, rfl, hp, by rw [← rl.length]; exact hl, k _ _ _ _ _ h w1 s1 .non⟩
  · exact h.elim
end
theorem de_append (ho : DE X B o fo) (ha : DA X B [e] ga) (hbase : attributeBase o "append" X.env (eval o X.env) = eval o X.env := by rfl) (hline : (apos.endLine == pos.line) = true := by rfl) (hs : starEach [e] X.env = (false, eval e X.env) :: starEach [] X.env := by rfl)
    (hfew : ((backTo pos (starEach [e] X.env)).all (fun x => !x.1) && (backToKw pos (keywordEach [] X.env)).all (fun x => x.1.isSome)
      && decide ([e].length + ([] : List Keyword).length + (if ([] : List Keyword).isEmpty then 0 else 1) < 30)) = true := by rfl) :
    DE X B (.Call (.Attribute o "append" apos) [e] [] pos) (fun r M Ψ => fo r M fun x M1 => (∃ l, lstOf M1 x = some l) ∧ ga r M1 fun ds M2 => appendD M2 x ds Ψ) := de_lm1 PySem.F.slot_list_append PySem.F.type_list_append mt_append ok_append ho ha hbase hfew hline hs rfl
end
section
variable {X : Cx} {B : Bs} {k j : Nat} {c : Ct} {pos apos p : Pos} {a : Expr} {ga : DTA} {C : Addr} {bs : List (Nat × List Str × (List D → List D → List D))}
def rOwn1 (K : PySem.W.Frag) (C : Addr) (c : Ct) (ok : D → Prop) : List V → Hp → VK → Prop := fun xs H Q => ∃ a dx fs M G x Ψ, xs = [.ref a] ∧ H a = some (.ins C dx fs) ∧ Wd K M H G ∧ Rep K G x (.ref a) ∧ c [x] M Ψ noX ∧ Post K H G M (fun d M' => Ψ d M') (fun v H' => Q v H') ∧ ∀ d M', Ψ d M' → ok d
def own1D (C : Addr) (c : Ct) (ok : D → Prop) (M : Sto) (ds : List D) (φ : PD) : Prop := match ds with
  | [x] => isO C M x fun _ => c [x] M (fun d M' => ok d ∧ φ d M') noX
  | _ => False
theorem ok_own1 {K : PySem.W.Frag} {C : Addr} {c : Ct} {ok : D → Prop} : OkC K (rOwn1 K C c ok) (own1D C c ok) := fun M H G ds vs φ Q w r h k => by
  unfold own1D at h
  split at h
  · obtain ⟨fs, e1, h⟩ := isO_some h
    cases r with
    | cons r1 r2 =>
      cases r2
      obtain ⟨a, dx, fvs, rfl, h1, _⟩ := obj_rep w r1 e1
      exact ⟨a, dx, _, M, G, _, _, rfl, h1, w, r1, h, fun d M' w H' G' f w' s' p => k _ _ _ _ _ f.2 w' s' p, fun d M' f => f.1⟩
  · exact h.elim
theorem bind1 {fd : FuncData} {ps : List Str} {K : PySem.W.Frag} (h : BindD K fd ps (Z.pos 1)) {x : D} : BindD K fd ps ([x].length, [], fun ds _ => ds) := h
theorem call_ownR (F : Mf X.prog X.w X.K X.mg X.base C "__repr__" j c bs) (hr : Room k X.A) (hb : Z.pos 1 ∈ bs) (hj : j + 1 ≤ k := by decide) : CallR X (.builtin "repr") (rOwn1 X.K C c isS) := by
  obtain ⟨f, fd, ps, mt, FO, hbs⟩ := F.ex
  intro pins s σ H xs us Q I rx h
  obtain ⟨a, dx, fs, M, G, x, Ψ, rfl, h1, w, r1, hq, hP, hS⟩ := h
  cases rx with
  | cons rx ry =>
    cases rx; cases ry
    obtain ⟨mA, J, _⟩ := ins_get I.hok h1
    obtain ⟨od, J, _⟩ := J.look
    obtain ⟨m, hF⟩ := I.fr
    have hr1 : Room (j + 1) X.A := hr.mono hj
    refine PySem.W.repr_K hr1.in1.units0 hF I.ok.mod.kin J mt.at_ mt.fn ?_
    refine wpAny_mono (run_n (Q := fun v H' => (∃ y, v = .str y) ∧ Q v H') (vs := [.ref a]) FO hr1.in1 rfl (bind1 (hbs _ hb)) I w (.cons rfl .nil) (.cons r1 .nil) hq fun d M' v' H' G' z w' s' p => ⟨?_, hP d M' v' H' G' z w' s' p⟩) (fun u s' z => ?_) fun _ _ z => z
    · have := hS d M' z
      cases p <;> first | exact ⟨_, rfl⟩ | exact this.elim
    · obtain ⟨v, H', I', r, ⟨y, rfl⟩, q⟩ := z
      obtain ⟨t, rfl⟩ := r
      exact ⟨.str y, H', I', ⟨t, rfl⟩, q⟩
theorem bt_repr : bootBuiltins "repr" = some (.builtin "repr") := by decide +kernel
theorem de_reprO (F : Mf X.prog X.w X.K X.mg X.base C "__repr__" j c bs) (hm : X.mg "repr" = none) (hr : Room k X.A) (hb : Z.pos 1 ∈ bs) (ha : DA X B [a] ga) (hj : j + 1 ≤ k := by decide) (hg : Gl X "repr" := by rfl) (he : starEach [a] X.env = (false, eval a X.env) :: starEach [] X.env := by rfl) :
    DE X B (.Call (.Name "repr" p) [a] [] pos) (fun r M Ψ => ga r M fun ds M1 => own1D C c isS M1 ds Ψ) := de_callB (call_ownR F hr hb hj) ok_own1 hm bt_repr ha hg (by decide) (by decide) he rfl
def lenOk : D → Prop
  | .int n => 0 ≤ n ∧ n < 2 ^ 63
  | _ => False
theorem call_ownL (F : Mf X.prog X.w X.K X.mg X.base C "__len__" j c bs) (hr : Room k X.A) (hb : Z.pos 1 ∈ bs) (hj : j + 1 ≤ k := by decide) : CallR X (.builtin "len") (rOwn1 X.K C c lenOk) := by
  obtain ⟨f, fd, ps, mt, FO, hbs⟩ := F.ex
  intro pins s σ H xs us Q I rx h
  obtain ⟨a, dx, fs, M, G, x, Ψ, rfl, h1, w, r1, hq, hP, hS⟩ := h
  cases rx with
  | cons rx ry =>
    cases rx; cases ry
    obtain ⟨mA, J, _⟩ := ins_get I.hok h1
    obtain ⟨od, J, _⟩ := J.look
    obtain ⟨m, hF⟩ := I.fr
    have hr1 : Room (j + 1) X.A := hr.mono hj
    refine PySem.W.len_K hF I.ok.mod.kin J mt.at_ mt.fn ?_
    refine wpAny_mono (run_n (Q := fun v H' => (∃ n : Int, v = .int n ∧ 0 ≤ n ∧ n < 2 ^ 63) ∧ Q v H') (vs := [.ref a]) FO hr1.in1 rfl (bind1 (hbs _ hb)) I w (.cons rfl .nil) (.cons r1 .nil) hq fun d M' v' H' G' z w' s' p => ⟨?_, hP d M' v' H' G' z w' s' p⟩) (fun u s' z => ?_) fun _ _ z => z
    · have := hS d M' z
      cases p <;> first | exact ⟨_, rfl, this⟩ | exact this.elim
    · obtain ⟨v, H', I', r, ⟨n, rfl, hn⟩, q⟩ := z
      obtain ⟨t, rfl⟩ := r
      exact ⟨hn, .int n, H', I'.tok _, ⟨_, rfl⟩, q⟩
theorem de_lenO (F : Mf X.prog X.w X.K X.mg X.base C "__len__" j c bs) (hm : X.mg "len" = none) (hr : Room k X.A) (hb : Z.pos 1 ∈ bs) (ha : DA X B [a] ga) (hj : j + 1 ≤ k := by decide) (hg : Gl X "len" := by rfl) (he : starEach [a] X.env = (false, eval a X.env) :: starEach [] X.env := by rfl) :
    DE X B (.Call (.Name "len" p) [a] [] pos) (fun r M Ψ => ga r M fun ds M1 => own1D C c lenOk M1 ds Ψ) := de_callB (call_ownL F hr hb hj) ok_own1 hm PySem.boot_len ha hg (by decide) (by decide) he rfl
end
section
variable {X : Cx} {B : Bs} {pos : Pos} {e : Expr} {fa : DTE}
theorem ok_ipa {K : PySem.W.Frag} {f : Int → Int → Int} {g : Sto → D → D → (D → Prop) → Prop} (hg : ∀ M x y φ, g M x y φ → ∃ i j, x = .int i ∧ y = .int j ∧ φ (.int (f i j))) : Ok2 K (ipI f) g := fun M H G x y v u φ Q w rx ry h k => by
  obtain ⟨i, j, rfl, rfl, q⟩ := hg _ _ _ _ h
  cases rx; cases ry
  exact ⟨i, j, rfl, rfl, k _ _ _ _ q (Grow.refl w.sub) .int⟩
def iaddD (_ : Sto) (x y : D) (φ : D → Prop) : Prop := match x, y with
  | .int i, .int j => φ (.int (i + j))
  | _, _ => False
theorem ds_iadd {i : Nat} {x : Str} {pos' : Pos} (hN : X.N.Nodup) (he : DE X B e fa) (hi : X.N[i]? = some x := by rfl) (hx : Loc X.env.scope x := by first | exact Or.inl rfl | exact Or.inr rfl)
    (hf : X.fn x = true ∨ X.env.scope.names.lookup x = some .local := by first | exact .inl rfl | exact .inr rfl | assumption) :
    DS X B (.AugAssign (.Name x pos') .Add e pos) (fun E r M => getS r i fun d => fa r M fun d' M1 => iaddD M1 d d' fun z => E.nx (r.set i (some z)) M1) :=
  ds_aug ip_add (ok_ipa fun M x y φ h => by unfold iaddD at h; split at h; exact ⟨_, _, rfl, rfl, h⟩; exact h.elim) hN he hi hx hf
end
end Z
namespace Z
open PySem PySem.Spec PyProof.Rows L2
section
variable {X : Cx}
end
section
variable {X : Cx} {B : Bs} {k : Nat} {pos p : Pos} {a : Expr} {ga : DTA}
end
end Z
namespace Z
open PySem PySem.Spec PyProof.Rows L2
def bR (t : T4) : Bool := decide (t.2.2.1 ≤ t.1) && decide (t.2.2.2 ≤ t.2.1)
def bL (t : T4) : Bool := decide (t.1 ≤ t.2.2.1) && decide (t.2.1 ≤ t.2.2.2)
structure Bal (t : T4) : Prop where
  r : bR t = false
  l : bL t = false
structure Tk (t : T4) (w : List Nat) (u : T4) : Prop where
  lr : LR w
  eq : mul4 (wL w) u = t
  nn : Nn u
  bal : Bal u
theorem turn_R : turnT 82 = R4 := by unfold turnT; rw [if_pos (by decide +kernel)]
theorem turn_L : turnT 76 = L4 := by unfold turnT; rw [if_neg (by decide +kernel)]
theorem wL_nil : wL [] = O4 := rfl
theorem wL_one (c : Nat) : wL [c] = turnT c := one_mul4 _
theorem wL_cons (c : Nat) (l : List Nat) : wL (c :: l) = mul4 (turnT c) (wL l) := by
  rw [show c :: l = [c] ++ l from rfl, wL_app, wL_one]
theorem mul_R (t : T4) : mul4 R4 t = (t.1 + t.2.2.1, t.2.1 + t.2.2.2, t.2.2.1, t.2.2.2) := by unfold mul4 R4; simp
theorem mul_L (t : T4) : mul4 L4 t = (t.1, t.2.1, t.1 + t.2.2.1, t.2.1 + t.2.2.2) := by unfold mul4 L4; simp
theorem beg_R {t : T4} (h : Nn t) (hd : 0 < det4 t) : bR (mul4 R4 t) = true ∧ bL (mul4 R4 t) = false := by
  rw [mul_R]
  obtain ⟨a, b, c, d⟩ := t
  obtain ⟨h1, h2, h3, h4⟩ := h
  simp only at h1 h2 h3 h4
  unfold bR bL
  simp only
  refine ⟨by rw [decide_eq_true (by omega), decide_eq_true (by omega)]; rfl, ?_⟩
  rw [Bool.and_eq_false_iff]
  by_cases e : a = 0
  · right
    refine decide_eq_false fun z => ?_
    have : b = 0 := by omega
    subst this e
    unfold det4 at hd
    simp at hd
  · left; exact decide_eq_false (by omega)
theorem beg_L {t : T4} (h : Nn t) (hd : 0 < det4 t) : bL (mul4 L4 t) = true ∧ bR (mul4 L4 t) = false := by
  rw [mul_L]
  obtain ⟨a, b, c, d⟩ := t
  obtain ⟨h1, h2, h3, h4⟩ := h
  simp only at h1 h2 h3 h4
  unfold bR bL
  simp only
  refine ⟨by rw [decide_eq_true (by omega), decide_eq_true (by omega)]; rfl, ?_⟩
  rw [Bool.and_eq_false_iff]
  by_cases e : c = 0
  · right
    refine decide_eq_false fun z => ?_
    have : d = 0 := by omega
    subst this e
    unfold det4 at hd
    simp at hd
  · left; exact decide_eq_false (by omega)
theorem R4_inj {s t : T4} (h : mul4 R4 s = mul4 R4 t) : s = t := by
  rw [mul_R, mul_R] at h
  obtain ⟨a, b, c, d⟩ := s
  obtain ⟨e, f, g, k⟩ := t
  simp only [Prod.mk.injEq] at h ⊢
  omega
theorem L4_inj {s t : T4} (h : mul4 L4 s = mul4 L4 t) : s = t := by
  rw [mul_L, mul_L] at h
  obtain ⟨a, b, c, d⟩ := s
  obtain ⟨e, f, g, k⟩ := t
  simp only [Prod.mk.injEq] at h ⊢
  omega
theorem Tk.tail {t u : T4} {c : Nat} {w : List Nat} (h : Tk t (c :: w) u) : ∃ t1, Tk t1 w u ∧ Nn t1 ∧ det4 t1 = det4 t ∧ t = mul4 (turnT c) t1 := by
  have e := h.eq
  rw [wL_cons, mul_assoc4] at e
  have hn : Nn (mul4 (wL w) u) := (nn_wL w).mul h.nn
  exact ⟨_, ⟨fun d hd => h.lr d (List.mem_cons_of_mem _ hd), rfl, h.nn, h.bal⟩, hn, by rw [← e, det_mul (turnT c), det_turn, Int.one_mul], e.symm⟩
theorem Tk.first {t u : T4} {c : Nat} {w : List Nat} (hd : 0 < det4 t) (h : Tk t (c :: w) u) : (c = 82 ∧ bR t = true ∧ bL t = false) ∨ (c = 76 ∧ bL t = true ∧ bR t = false) := by
  obtain ⟨t1, h1, hn, e1, e2⟩ := h.tail
  rw [← e1] at hd
  rcases h.lr c List.mem_cons_self with rfl | rfl
  · rw [turn_L] at e2
    obtain ⟨z1, z2⟩ := beg_L hn hd
    rw [e2]
    exact .inr ⟨rfl, z1, z2⟩
  · rw [turn_R] at e2
    obtain ⟨z1, z2⟩ := beg_R hn hd
    rw [e2]
    exact .inl ⟨rfl, z1, z2⟩
theorem Tk.uniq : ∀ {w w' : List Nat} {t u u' : T4}, 0 < det4 t → Tk t w u → Tk t w' u' → w = w' ∧ u = u'
  | [], [], t, u, u', hd, h, h' => by
    have e := h.eq
    have e' := h'.eq
    rw [wL_nil, one_mul4] at e e'
    exact ⟨rfl, e.trans e'.symm⟩
  | [], c :: w', t, u, u', hd, h, h' => by
    exfalso
    have e := h.eq
    rw [wL_nil, one_mul4] at e
    rcases h'.first hd with ⟨_, z, _⟩ | ⟨_, z, _⟩
    · rw [← e, h.bal.r] at z; cases z
    · rw [← e, h.bal.l] at z; cases z
  | c :: w, [], t, u, u', hd, h, h' => by
    exfalso
    have e := h'.eq
    rw [wL_nil, one_mul4] at e
    rcases h.first hd with ⟨_, z, _⟩ | ⟨_, z, _⟩
    · rw [← e, h'.bal.r] at z; cases z
    · rw [← e, h'.bal.l] at z; cases z
  | c :: w, c' :: w', t, u, u', hd, h, h' => by
    have hc : c = c' := by
      rcases h.first hd with ⟨rfl, z, y⟩ | ⟨rfl, z, y⟩ <;> rcases h'.first hd with ⟨rfl, z', y'⟩ | ⟨rfl, z', y'⟩ <;> first | rfl | (rw [z] at y'; cases y') | (rw [z'] at y; cases y)
    subst hc
    obtain ⟨t1, h1, hn, e1, e2⟩ := h.tail
    obtain ⟨t2, h2, hn2, e3, e4⟩ := h'.tail
    have et : t1 = t2 := by
      rcases h.lr c List.mem_cons_self with rfl | rfl
      · rw [turn_L] at e2 e4; exact L4_inj (e2.symm.trans e4)
      · rw [turn_R] at e2 e4; exact R4_inj (e2.symm.trans e4)
    subst et
    obtain ⟨r1, r2⟩ := h1.uniq (by rw [e1]; exact hd) h2
    exact ⟨by rw [r1], r2⟩
end Z
namespace Z
section
open PySem PySem.SeqAt GQ
open AutoSeq1 (wpAny_loadPart')
open MeetsSeq MeetsSeq2 MeetsSeq3 SeqRoads2
variable {prog : Program} {w : World} {A : Around} {R : Result → Shared → Prop}
end
section
open PySem PySem.SeqAt GQ
variable {prog : Program} {w : World} {A : Around} {E : Value → Shared → Prop} {s : Shared}
end
open PySem PySem.Spec PyProof.Rows L2
section
variable {X : Cx} {j : Nat} {own : D → D → Sto → Prop}
end
section
variable {X : Cx} {B : Bs} {k j : Nat} {c : Ct} {pos : Pos} {a b : Expr} {fa fb : DTE} {C : Addr} {bs : List (Nat × List Str × (List D → List D → List D))}
end
end Z
namespace Z
open PySem PySem.Spec PyProof.Rows L2
theorem getS_z {d : D} {r : En} {k : D → Prop} : getS (some d :: r) 0 k = k d := rfl
theorem getS_s {o : Option D} {r : En} {i : Nat} {k : D → Prop} : getS (o :: r) (i + 1) k = getS r i k := rfl
theorem cmp_i {p : Int → Int → Bool} {M : Sto} {i j : Int} {φ : D → Prop} : cmpD p M (.int i) (.int j) φ = φ (.bl (p i j)) := rfl
theorem add_i {M : Sto} {i j : Int} {φ : D → Prop} : addD M (.int i) (.int j) φ = φ (.int (i + j)) := rfl
theorem min2_i {M : Sto} {i j : Int} {φ : PD} : min2D M [.int i, .int j] φ = φ (.int (if j < i then j else i)) M := rfl
theorem max2_i {M : Sto} {i j : Int} {φ : PD} : max2D M [.int i, .int j] φ = φ (.int (if j > i then j else i)) M := rfl
theorem sub_i {M : Sto} {i j : Int} {φ : D → Prop} : subD M (.int i) (.int j) φ = φ (.int (i - j)) := rfl
theorem bl_v {φ : Bool → Prop} {p : Bool} (h : φ p) : blD φ (.bl p) := bl_c (fun e => by rw [e] at h; exact h) fun e => by rw [e] at h; exact h
theorem append_of {M : Sto} {p : Addr} {l : List D} {d : D} {φ : PD} (e : M p = some (.lst l)) (hl : l.length < sizeLine) (h : φ .non (updM M p (.lst (l ++ [d])))) : appendD M (.ref p) [d] φ := by
  unfold appendD
  exact lstAt_of e ⟨hl, h⟩
end Z
namespace Z
open PySem PySem.Spec PyProof.Rows L2
section
variable {X : Cx} {B : Bs} {pos : Pos} {a b c : Expr} {es : List Expr} {fa fb : DTE} {ta tb : DTT}
end
end Z
namespace Z
open PySem PySem.Spec PyProof.Rows L2
theorem log_sm {i : Int} {n : Nat} (h : i.natAbs < 2 ^ n) (hn : n ≤ 1900) : i.natAbs.log2 < 1920 := by
  by_cases e : i.natAbs = 0
  · rw [e]; decide
  · have := (Nat.log2_lt e).mpr h
    omega
theorem sz_le {x : Str} {n : Nat} (h : x.length ≤ n) (hn : n ≤ 1000000) : x.length ≤ sizeLine := Nat.le_trans h (Nat.le_trans hn big_ok)
theorem sz_int {i : Int} {n : Nat} (h : i.natAbs < 2 ^ n) (hn : n ≤ 1900) : (Str.ofString (toString i)).length ≤ 1921 := PyProof.Rows.int_text_len_1921 (log_sm h hn)
theorem ix_t {M : Sto} {l : List D} {i : Int} {d : D} {φ : D → Prop} (e : L2.atI l i = some d) (h : φ d) : ixD M (.tup l) (.int i) φ := optK_of e h
theorem ix_l {M : Sto} {l : List D} {i : Int} {d : D} {φ : D → Prop} (e : L2.atI l i = some d) (h : φ d) : ixD M (.lst l) (.int i) φ := optK_of e h
theorem nn_sc' {m : Int} {t : T4} (hm : 0 ≤ m) (h : Nn t) : Nn (sc m t) := ⟨Int.mul_nonneg hm h.1, Int.mul_nonneg hm h.2.1, Int.mul_nonneg hm h.2.2.1, Int.mul_nonneg hm h.2.2.2⟩
theorem mul_sc4 (m : Int) (s t : T4) : mul4 s (sc m t) = sc m (mul4 s t) := by
  unfold mul4 sc
  simp only [Prod.mk.injEq]
  refine ⟨?_, ?_, ?_, ?_⟩ <;> grind
theorem Tk.app {t u : T4} {v w : List Nat} (hv : LR v) (h : Tk t w u) : Tk (mul4 (wL v) t) (v ++ w) u :=
  ⟨fun c hc => (List.mem_append.mp hc).elim (hv c) (h.lr c), by rw [wL_app, mul_assoc4, h.eq], h.nn, h.bal⟩
end Z
namespace Z
open PySem PySem.Spec PyProof.Rows L2
def Ib (n : Nat) (i : Int) : Prop := i.natAbs < 2 ^ n
theorem Ib.mono {n m : Nat} {i : Int} (h : Ib n i) (hm : n ≤ m) : Ib m i := Nat.lt_of_lt_of_le h (Nat.pow_le_pow_right (by decide) hm)
theorem Ib.mul {n m : Nat} {i j : Int} (h : Ib n i) (k : Ib m j) : Ib (n + m) (i * j) := by
  unfold Ib at *
  rw [Int.natAbs_mul, Nat.pow_add]
  exact Nat.mul_lt_mul'' h k
theorem Ib.add {n : Nat} {i j : Int} (h : Ib n i) (k : Ib n j) : Ib (n + 1) (i + j) := by
  unfold Ib at *
  rw [Nat.pow_succ]
  generalize 2 ^ n = z at *
  omega
theorem Ib.sub {n : Nat} {i j : Int} (h : Ib n i) (k : Ib n j) : Ib (n + 1) (i - j) := by
  unfold Ib at *
  rw [Nat.pow_succ]
  generalize 2 ^ n = z at *
  omega
theorem Ib.neg {n : Nat} {i : Int} (h : Ib n i) : Ib n (-i) := by unfold Ib at *; rw [Int.natAbs_neg]; exact h
theorem Ib.le {n : Nat} {i j : Int} (h : Ib n i) (k : j.natAbs ≤ i.natAbs) : Ib n j := Nat.lt_of_le_of_lt k h
theorem Ib.str {n : Nat} {i : Int} (h : Ib n i) (hn : n ≤ 1900) : (Str.ofString (toString i)).length ≤ 1921 := sz_int h hn
def rtN : Nat → Nat
  | 0 => 0
  | n + 1 => if (rtN n + 1) * (rtN n + 1) ≤ n + 1 then rtN n + 1 else rtN n
theorem sq_succ (r : Nat) : (r + 1) * (r + 1) = r * r + 2 * r + 1 := by grind
theorem rtN_spec : ∀ n : Nat, rtN n * rtN n ≤ n ∧ n < (rtN n + 1) * (rtN n + 1)
  | 0 => by decide
  | n + 1 => by
    obtain ⟨h1, h2⟩ := rtN_spec n
    unfold rtN
    split
    · rename_i h
      refine ⟨h, ?_⟩
      rw [sq_succ]
      omega
    · exact ⟨by omega, by omega⟩
def rtI (u : Int) : Int := rtN u.toNat
def Sq (u : Int) : Prop := rtI u * rtI u = u
instance (u : Int) : Decidable (Sq u) := inferInstanceAs (Decidable (rtI u * rtI u = u))
abbrev T3 := Int × Int × Int
def sgI (b : Int) : Int := if 0 < b then 1 else -1
def gF2 (t b u : Int) : Int := (gN [t + rtI u, b] : Int) * sgI b
def gI3 (t b u : Int) : Int := (gN [b * b, 2 * t * b, t * t - u] : Int) * sgI b
def nf (t b u : Int) : T3 :=
  if Sq u then ((t + rtI u).fdiv (gF2 t b u), b.fdiv (gF2 t b u), 0)
  else (-((-2 * t * b).fdiv (gI3 t b u)), 2 * (b * b).fdiv (gI3 t b u), (-2 * t * b).fdiv (gI3 t b u) * (-2 * t * b).fdiv (gI3 t b u) - 4 * (b * b).fdiv (gI3 t b u) * (t * t - u).fdiv (gI3 t b u))
theorem Ib.rt {n : Nat} {u : Int} (h : Ib n u) (h0 : 0 ≤ u) : Ib n (rtI u) := by
  refine h.le ?_
  obtain ⟨v, rfl⟩ := Int.eq_ofNat_of_zero_le h0
  unfold rtI
  rw [Int.toNat_natCast]
  have := (rtN_spec v).1
  have := Nat.le_mul_self (rtN v)
  omega
theorem Ib.c {i : Int} (n : Nat) (h : i.natAbs < 2 ^ n := by decide) : Ib n i := h
theorem sz2 {x y : Str} {n m : Nat} (h : x.length ≤ n) (h' : y.length ≤ m) (hn : n + m ≤ 1000000) : x.length + y.length ≤ sizeLine := Nat.le_trans (Nat.add_le_add h h') (Nat.le_trans hn big_ok)
end Z
namespace Z
open PySem PySem.Spec PyProof.Rows L2
def s3 (x : Int) : Int := if 0 < x then 1 else if x < 0 then -1 else 0
def Gp (a p : Int) : Prop := 0 < a ∨ a * a < p
def Gm (a p : Int) : Prop := 0 < a ∧ p < a * a
def Gt (a b u : Int) : Prop := (0 ≤ b ∧ Gp a (b * b * u)) ∨ (b < 0 ∧ Gm a (b * b * u))
def Lt (a b u : Int) : Prop := Gt (-a) (-b) u
end Z
namespace Z
open PySem PySem.Spec PyProof.Rows L2
end Z
namespace Z
open PySem PySem.Spec PyProof.Rows L2
end Z
namespace Z
open PySem PySem.Spec PyProof.Rows L2
end Z
namespace Z
open PySem PySem.Spec PyProof.Rows L2
theorem Ib.up {n : Nat} {x : Int} (h : Ib n x) : x < 2 ^ n ∧ -(2 ^ n) < x := by
  unfold Ib at h
  have : ((2 ^ n : Nat) : Int) = 2 ^ n := by simp
  rw [← this]
  generalize 2 ^ n = z at *
  omega
theorem big {S b f Q v x : Int} (hS : 2 ^ 199 ≤ S) (iS : Ib 200 S) (hb : 1 ≤ b) (hf : 0 ≤ f * Q) (if_ : Ib 70 (f * Q)) (hv : S * b - f * Q ≤ v) (ix : Ib 380 x) : (2 : Int) ^ 160 * 2 ^ 223 ≤ S * v + x := by
  obtain ⟨u1, _⟩ := if_.up
  obtain ⟨_, u2⟩ := ix.up
  have h1 := Int.mul_le_mul_of_nonneg_left hb (show 0 ≤ S by omega)
  have h2 : 2 ^ 198 ≤ v := by omega
  have h3 := Int.mul_le_mul hS h2 (by decide) (by omega)
  have h4 : (2 : Int) ^ 160 * 2 ^ 223 + 2 ^ 380 ≤ 2 ^ 199 * 2 ^ 198 := by decide
  omega
end Z
namespace Z
open PySem PySem.Spec PyProof.Rows L2

def Ends.gone (D : Ends) (i : Nat) : Ends := { nx := fun σ H => D.nx (σ.set i none) H, rt := D.rt, bk := fun σ H => D.bk (σ.set i none) H, ct := fun σ H => D.ct (σ.set i none) H }
section
variable {X : Cx} {Wout : WX} {D : Ends} {pins : List (Addr × Obj)} {σ : L2.St} {H : Hp} {sI : Shared} {a : Addr} {cls : Value} {d : Option Addr} {B : Heap}
end
end Z
namespace Z
open PySem PySem.Spec PyProof.Rows L2

section
variable {X : Cx} {B : Bs} {pos : Pos} {a b e : Expr} {fa fb : DTE}
end

section
variable {X : Cx} {B : Bs} {pos : Pos} {e : Expr} {fa : DTE} {a : Addr} {oe : Obj} {x : XD} {cls : Value} {d : Option Addr} {n : Str}
end
section
variable {P : Program} {w : World} {K : PySem.W.Frag} {mg : Str → Option Value} {base : Heap} {k : Nat} {f : Addr} {fd : FuncData} {N ps : List Str} {x qual : Str} {st : Stmt} {dvs : List V} {kws : List (Str × V)}
end
section
variable {X : Cx} {B : Bs} {pos p : Pos} {e : Expr} {ga : DTA} {a : Addr} {oe : Obj} {y : XD} {cls : Value} {d : Option Addr} {x : Str} {c : Addr → XD → Ct} {pn : List (Addr × Obj)}
end
end Z
namespace Z
open PySem PySem.Spec PyProof.Rows L2

def Bs.at (H G : Hp) (M : Sto) : Bs := ⟨H, G, M⟩
theorem Rel.here {K : PySem.W.Frag} {B : Bs} {r : En} {M : Sto} {σ : L2.St} {H G : Hp} (R : Rel K B r M σ H G) : Rel K (Bs.at H G M) r M σ H G := ⟨R.wd, R.len, R.slots, Since.refl⟩
theorem Rel.back {K : PySem.W.Frag} {B : Bs} {r r' : En} {M M' : Sto} {σ σ' : L2.St} {H G H' G' : Hp} (R : Rel K B r M σ H G) (R' : Rel K (Bs.at H G M) r' M' σ' H' G') : Rel K B r' M' σ' H' G' := ⟨R'.wd, R'.len, R'.slots, Since.trans R.wd R.sin R'.sin⟩
theorem EkOk.here {K : PySem.W.Frag} {B : Bs} {r : En} {M : Sto} {σ : L2.St} {H G : Hp} {E : Ek} {D : Ends} (k : EkOk K B G E D) (R : Rel K B r M σ H G) : EkOk K (Bs.at H G M) G E D :=
  ⟨fun r' M' σ' H' G' q R' s => k.nx _ _ _ _ _ q (R.back R') s, fun d r' M' v σ' H' G' q R' p => k.rt _ _ _ _ _ _ _ q (R.back R') p, fun r' M' σ' H' G' q R' s => k.bk _ _ _ _ _ q (R.back R') s, fun r' M' σ' H' G' q R' s => k.ct _ _ _ _ _ q (R.back R') s⟩
def Ek.gone (E : Ek) (i : Nat) : Ek := { nx := fun r M => E.nx (r.set i none) M, rt := E.rt, bk := fun r M => E.bk (r.set i none) M, ct := fun r M => E.ct (r.set i none) M }
theorem EkOk.gone {K : PySem.W.Frag} {B : Bs} {G : Hp} {E : Ek} {D : Ends} (k : EkOk K B G E D) (i : Nat) : EkOk K B G (E.gone i) (Ends.gone D i) :=
  ⟨fun _ _ _ _ _ q R s => k.nx _ _ _ _ _ q (R.unset i none) s, k.rt, fun _ _ _ _ _ q R s => k.bk _ _ _ _ _ q (R.unset i none) s, fun _ _ _ _ _ q R s => k.ct _ _ _ _ _ q (R.unset i none) s⟩
section
variable {X : Cx} {B : Bs} {Ξ : XD → En → Sto → Prop} {E : Ek} {D : Ends} {G0 : Hp} {r0 : En} {M0 : Sto} {σ0 : L2.St} {H0 : Hp}
end
structure Lam where
  q : Str
  params : Arguments
  body : Expr
  scope : Scope
  cl : List (Str × Addr)
section
variable {X : Cx} {pins : List (Addr × Obj)} {σ : L2.St} {H : Hp} {s : Shared}
end
section
variable {X : Cx} {B : Bs} {pos : Pos} {l : Lam} {P c : Addr}
end
end Z
namespace Z
open PySem PySem.Spec PyProof.Rows L2

section
variable {X : Cx} {B : Bs} {pos p1 : Pos} {l : Lam} {P c : Addr}
end
section
variable {X : Cx} {pins : List (Addr × Obj)} {σ : L2.St} {H HZ : Hp} {s s1 : Shared} {l : Lam} {ps : List Str}
end
section
variable {X : Cx} {pins : List (Addr × Obj)} {σ : L2.St} {H G : Hp} {s : Shared} {l : Lam} {ps : List Str} {ns : List Int} {B : Bs} {r : En} {M : Sto} {k : Nat} {t : (XD → En → Sto → Prop) → DTE} {Ng : List Str} {qg : Str} {sg : Scope} {g : Addr} {cdg : Value} {Eg : XK} {CXg : CXT}
end
end Z
namespace Z
open PySem PySem.Spec PyProof.Rows L2

section
variable {X : Cx} {B : Bs} {k j : Nat} {x : Str} {pos p : Pos} {e : Expr} {ga : DTA}
end
end Z
namespace Z
open PySem PySem.Spec PyProof.Rows L2

end Z
namespace Z
open PySem PySem.Spec PyProof.Rows L2

section
variable {K : PySem.W.Frag} {C : Str} {n t : Str} {fs : List (Str × D)} {φ : Str → D → Prop} {v : D}
end
end Z
namespace Z
open PySem PySem.Spec PyProof.Rows L2

end Z
namespace Z
open PySem PySem.Spec PyProof.Rows L2
def oc (c : Nat) : Nat := if c = 76 then 82 else 76
end Z
namespace Z
open PySem PySem.Spec PyProof.Rows L2

section
variable {X : Cx} {σ : L2.St} {H HZ : Hp} {s s1 : Shared} {l : Lam} {ps : List Str} {St : List Env}
end
section
variable {X : Cx} {σ : L2.St} {H G : Hp} {s : Shared} {l : Lam} {ps : List Str} {ns : List Int} {B : Bs} {r : En} {M : Sto} {k : Nat} {t : (XD → En → Sto → Prop) → DTE} {Ng : List Str} {qg : Str} {sg : Scope} {g : Addr} {cdg : Value} {Eg : XK} {CXg : CXT} {St : List Env}
end
end Z
namespace Z
open PySem PySem.Spec PyProof.Rows L2

section
variable {X : Cx} {B : Bs} {j k : Nat} {x : Str} {e : Expr} {ga : DTA} {p cpos pos : Pos}
end
end Z
namespace Z
open PySem PySem.Spec PyProof.Rows L2

inductive Two {α β : Type} (R : α → β → Prop) : List α → List β → Prop
  | nil : Two R [] []
  | cons {x : α} {y : β} {xs : List α} {ys : List β} (h : R x y) (r : Two R xs ys) : Two R (x :: xs) (y :: ys)
theorem Two.len {α β : Type} {R : α → β → Prop} : ∀ {xs : List α} {ys : List β}, Two R xs ys → xs.length = ys.length
  | _, _, .nil => rfl
  | _, _, .cons _ r => congrArg (· + 1) r.len
theorem Two.at {α β : Type} {R : α → β → Prop} : ∀ {xs : List α} {ys : List β}, Two R xs ys → ∀ (i : Nat) (d : α), xs[i]? = some d → ∃ y, ys[i]? = some y ∧ R d y
  | _, _, .cons h r, 0, d, e => by
    simp only [List.getElem?_cons_zero, Option.some.injEq] at e
    subst e
    exact ⟨_, rfl, h⟩
  | _, _, .cons h r, i + 1, d, e => by
    simp only [List.getElem?_cons_succ] at e ⊢
    exact r.at i d e
section
variable {vs : List Nat} {wi : DTI} {as : D → En → (En → Prop) → Prop} {fe : DTE} {r : En} {M : Sto} {Φ : List D → Sto → Prop}
theorem compD_two {xs ys : List D} {S : Sto → Prop} (hw : ∀ K : List D → (Sto → Prop) → Sto → Prop, K xs S M → wi r M K) (hS : S M) (hl : xs.length ≤ sizeLine) (h : Two (fun d y => ∀ Q : D → Sto → Prop, Q y M → as d (wipeD r vs) fun r2 => fe r2 M Q) xs ys) (fin : Φ ys M) :
    compD vs wi as (fun _ M Ψ => Ψ true M) fe r M Φ := by
  unfold compD
  refine hw _ ⟨fun i acc M' => M' = M ∧ acc = ys.take i, ⟨rfl, rfl⟩, fun i acc M' h => by rw [h.1]; exact hS, fun i d acc M' hd ⟨e1, e2⟩ => ?_, fun acc M' ⟨e1, e2⟩ => ?_⟩
  · subst e1 e2
    obtain ⟨y, hy, q⟩ := h.at i d hd
    obtain ⟨hi, ei⟩ := List.getElem?_eq_some_iff.mp hy
    obtain ⟨hx, _⟩ := List.getElem?_eq_some_iff.mp hd
    have hlt : (ys.take i).length < sizeLine := Nat.lt_of_le_of_lt (List.length_take_le _ _) (Nat.lt_of_lt_of_le hx hl)
    refine q _ ?_
    refine ⟨hlt, rfl, ?_⟩
    rw [List.take_add_one, hy]
    rfl
  · subst e1 e2
    rw [h.len, List.take_length]
    exact fin
end
end Z
namespace Z
open PySem PySem.Spec PyProof.Rows L2

section
variable {X : Cx} {B : Bs} {o e a b c : Expr} {es : List Expr} {fo : DTE} {ga : DTA} {apos pos p : Pos}
theorem de_smN {id : String} {name : Str} {r : V → List V → Hp → VK → Prop} {g : Sto → D → List D → PD → Prop} (slot : Slot "str" name id) (ty : typeOf (.builtin id) = pure (.type "method_descriptor")) (rule : MtR X id r) (ok : OkM X.K r g) (ho : DE X B o fo) (ha : DA X B (e :: es) ga)
    (hbase : attributeBase o name X.env (eval o X.env) = eval o X.env := by rfl)
    (hfew : ((backTo pos (starEach (e :: es) X.env)).all (fun x => !x.1) && (backToKw pos (keywordEach [] X.env)).all (fun x => x.1.isSome)
      && decide ((e :: es).length + ([] : List Keyword).length + (if ([] : List Keyword).isEmpty then 0 else 1) < 30)) = true := by rfl)
    (hline : (apos.endLine == pos.line) = true := by rfl) (hs : starEach (e :: es) X.env = (false, eval e X.env) :: starEach es X.env := by rfl) (hplain : (backTo pos (starEach es X.env)).any (·.1) = false := by rfl) :
    DE X B (.Call (.Attribute o name apos) (e :: es) [] pos) (fun r M Ψ => fo r M fun x M1 => isS x ∧ ga r M1 fun ds M2 => g M2 x ds Ψ) :=
  PE_imp (pe_bm PySem.F.plainAttrs_str slot ty rule ho ha hbase hfew hline hs hplain) fun σ H Q ⟨r, M, G, Ψ, R, h, k⟩ => by
    refine ⟨r, M, G, _, R, h, fun x M1 v H1 G1 ⟨q1, q⟩ R1 s1 p1 => ⟨?_, r, M1, G1, _, R1, q, fun ds M2 us H2 G2 q2 R2 s2 p2 => ?_⟩⟩
    · cases p1 <;> first | exact rfl | exact q1.elim
    · exact ok M2 H2 G2 _ _ _ _ _ _ R2.wd (p1.mono s2) p2 q2 fun d M' w H' G' f w' s' p => k _ _ _ _ _ f (R2.go w' s') ((s1.tr s2).tr s'.gsub) p
end
end Z
namespace Z
open PySem PySem.Spec PyProof.Rows L2

def cyc (l : List Nat) (i : Nat) : Nat := l.getD (i % l.length) 0
def PerF (f : Nat → Nat) (k : Nat) : Prop := ∀ i, f (i + k) = f i
theorem PerF.mul {f : Nat → Nat} {k : Nat} (h : PerF f k) (q i : Nat) : f (i + k * q) = f i := by
  induction q with
  | zero => rfl
  | succ q ih => rw [Nat.mul_succ, ← Nat.add_assoc, h, ih]
theorem PerF.sub {f : Nat → Nat} {a b : Nat} (ha : PerF f a) (hb : PerF f b) : PerF f (b % a) := fun i => by
  have := ha.mul (b / a) (i + b % a)
  rw [Nat.add_assoc, Nat.mod_add_div, hb] at this
  exact this.symm
theorem PerF.gcd {f : Nat → Nat} (a b : Nat) : PerF f a → PerF f b → PerF f (Nat.gcd a b) := by
  induction a, b using Nat.gcd.induction with
  | H0 n => intro _ hb; rw [Nat.gcd_zero_left]; exact hb
  | H1 m n hm ih =>
    intro ha hb
    rw [Nat.gcd_rec]
    exact ih (ha.sub hb) ha
def sq (a r : List Nat) (i : Nat) : Nat := if i < a.length then a.getD i 0 else cyc r (i - a.length)
end Z
namespace Z
open PySem PySem.Spec PyProof.Rows L2

theorem wlen {w : List Nat} : (⟨w.toArray⟩ : Str).length = w.length := List.size_toArray
theorem wapp {a b : List Nat} : (⟨a.toArray⟩ : Str) ++ ⟨b.toArray⟩ = ⟨(a ++ b).toArray⟩ := by
  show (⟨_ ++ _⟩ : Str) = _
  simp
theorem cut_take {w : List Nat} {k : Nat} : cutS ⟨w.toArray⟩ none (some (k : Int)) = ⟨(w.take k).toArray⟩ := by
  unfold cutS
  rw [HT.sIx_nat, HT.sIx_none, wlen]
  simp only [List.drop_zero, Nat.sub_zero, List.take_eq_take_iff.mpr]
  congr 2
  rcases Nat.le_total k w.length with h | h
  · rw [Nat.min_eq_left h]
  · rw [Nat.min_eq_right h, List.take_of_length_le (Nat.le_refl _), List.take_of_length_le h]
theorem cut_drop {w : List Nat} {k : Nat} : cutS ⟨w.toArray⟩ (some (k : Int)) none = ⟨(w.drop k).toArray⟩ := by
  unfold cutS
  rw [HT.sIx_nat, HT.sIx_none, wlen]
  congr 2
  rcases Nat.le_total k w.length with h | h
  · rw [Nat.min_eq_left h]
    exact List.take_of_length_le (by simp)
  · rw [Nat.min_eq_right h, List.drop_of_length_le (Nat.le_refl _), List.drop_of_length_le h, List.take_nil]
end Z
namespace Z
open PySem PySem.Spec PyProof.Rows L2

end Z
namespace Z
open PySem PySem.Spec PyProof.Rows L2

section
variable {M : Sto} {w u : List Nat} {φ : D → Prop} {Φ : PD}
theorem w_sz (h : w.length ≤ 400000) : (⟨w.toArray⟩ : Str).length ≤ sizeLine := sz_le (n := 400000) (by rw [wlen]; exact h) (by decide)
theorem len_w (h : w.length ≤ 400000) (q : Φ (.int w.length) M) : lenD M [.str ⟨w.toArray⟩] Φ := by
  refine ⟨w_sz h, ?_⟩
  rw [wlen]
  exact q
theorem sl_take {k : Nat} (h : w.length ≤ 400000) (q : φ (.str ⟨(w.take k).toArray⟩)) : slD M (.str ⟨w.toArray⟩) none (some (k : Int)) φ := by
  refine ⟨w_sz h, ?_⟩
  rw [cut_take]
  exact q
theorem sl_drop {k : Nat} (h : w.length ≤ 400000) (q : φ (.str ⟨(w.drop k).toArray⟩)) : slD M (.str ⟨w.toArray⟩) (some (k : Int)) none φ := by
  refine ⟨w_sz h, ?_⟩
  rw [cut_drop]
  exact q
theorem add_w (h : w.length ≤ 400000) (h' : u.length ≤ 400000) (q : φ (.str ⟨(w ++ u).toArray⟩)) : addD M (.str ⟨w.toArray⟩) (.str ⟨u.toArray⟩) φ := by
  refine ⟨sz2 (n := 400000) (m := 400000) (by rw [wlen]; exact h) (by rw [wlen]; exact h') (by decide), ?_⟩
  rw [wapp]
  exact q
theorem one_w {c : Nat} : (⟨#[c]⟩ : Str) = ⟨[c].toArray⟩ := rfl
theorem inKI {i : Int} {ψ : Int → Prop} (q : ψ i) : inK (.int i) ψ := q
end
theorem PerF.least {f : Nat → Nat} {m k : Nat} (m0 : 0 < m) (pm : PerF f m) (hm : ∀ j, j < m → ¬ (0 < j ∧ PerF f j)) (p : PerF f k) : m ∣ k := by
  have g := PerF.gcd m k pm p
  have h1 : 0 < Nat.gcd m k := Nat.gcd_pos_of_pos_left _ m0
  have h2 : Nat.gcd m k = m := by
    have := Nat.le_of_dvd m0 (Nat.gcd_dvd_left m k)
    rcases Nat.lt_or_ge (Nat.gcd m k) m with z | z
    · exact absurd ⟨h1, g⟩ (hm _ z)
    · omega
  rw [← h2]
  exact Nat.gcd_dvd_right _ _
theorem LR.take {w : List Nat} (h : LR w) (k : Nat) : LR (w.take k) := fun c hc => h c (List.mem_of_mem_take hc)
theorem LR.drop {w : List Nat} (h : LR w) (k : Nat) : LR (w.drop k) := fun c hc => h c (List.mem_of_mem_drop hc)
theorem LR.app {w u : List Nat} (h : LR w) (h' : LR u) : LR (w ++ u) := fun c hc => (List.mem_append.mp hc).elim (h c) (h' c)
def beg (x y : List Nat) (n : Nat) : List Nat := (List.range n).map (sq x y)
end Z
namespace Z
open PySem PySem.Spec PyProof.Rows L2

end Z
namespace Z
open PySem PySem.Spec PyProof.Rows L2

section
variable {X : Cx} {B : Bs} {a b : Expr} {fa fb : DTE} {pos : Pos}
end
theorem PerF.mod {f : Nat → Nat} {k : Nat} (h : PerF f k) (i : Nat) : f (i % k) = f i := by
  have := h.mul (i / k) (i % k)
  rw [Nat.mod_add_div] at this
  exact this.symm
theorem alike {f g : Nat → Nat} {p q : Nat} (hp : PerF f p) (hq : PerF g q) (p0 : 0 < p) (q0 : 0 < q) (h : ∀ i, i < p + q → f i = g i) (i : Nat) : f i = g i := by
  have fq : PerF f q := fun i => by
    have hm := Nat.mod_lt i p0
    have e1 : f (i + q) = f (i % p + q) := by
      have := hp.mul (i / p) (i % p + q)
      rw [← this]
      congr 1
      have := Nat.mod_add_div i p
      omega
    rw [e1, h _ (by omega), hq, ← h _ (by omega), hp.mod]
  have hm := Nat.mod_lt i q0
  rw [← fq.mod i, h _ (by omega), hq.mod]
theorem LR.oc {w : List Nat} (h : LR w) : LR (w.map Z.oc) := fun c hc => by
  obtain ⟨d, hd, rfl⟩ := List.mem_map.mp hc
  rcases h d hd with rfl | rfl
  · exact .inr rfl
  · exact .inl rfl
end Z
noncomputable section
namespace Z
open PySem PySem.W PySem.Calls PyProof.Rows HandSHeadRun

section
variable (st : SharedT → Thread → Option (SharedT × Thread)) (n0 : Nat) (ann : Option Value)
def segF (b : Nat) : Nat → SharedT → Thread → Option (Flow × SharedT × Code × Pos)
  | 0, _, _ => none
  | m + 1, s, t => match endAt b t with
    | some f => some (f, s, t.code, t.pos)
    | none => match stepOk n0 ann t with
      | false => none
      | true => match st s t with
        | some (s', t') => frS s' fun s' => segF b m s' t'
        | none => none
def preF : Nat → SharedT → Thread → Option (SharedT × Thread)
  | 0, s, t => some (s, t)
  | m + 1, s, t => match through t with
    | true => none
    | false => match stepOk n0 ann t with
      | false => none
      | true => match st s t with
        | some (s', t') => frS s' fun s' => preF m s' t'
        | none => none
end
theorem segF_eq {st : SharedT → Thread → Option (SharedT × Thread)} {n0 : Nat} {ann : Option Value} {b m : Nat} {s : SharedT} {t : Thread} : segF st n0 ann b (m + 1) s t = (match endAt b t with
    | some f => some (f, s, t.code, t.pos)
    | none => match stepOk n0 ann t with
      | false => none
      | true => match st s t with
        | some (s', t') => frS s' fun s' => segF st n0 ann b m s' t'
        | none => none) := rfl
theorem preF_eq {st : SharedT → Thread → Option (SharedT × Thread)} {n0 : Nat} {ann : Option Value} {m : Nat} {s : SharedT} {t : Thread} : preF st n0 ann (m + 1) s t = (match through t with
    | true => none
    | false => match stepOk n0 ann t with
      | false => none
      | true => match st s t with
        | some (s', t') => frS s' fun s' => preF st n0 ann m s' t'
        | none => none) := rfl
section
variable {tb : String → Option Builtin} {p : Program} {w : World} {n0 : Nat} {ann : Option Value}
theorem segF_ok {b : Nat} : ∀ {m : Nat} {s s' : SharedT} {t : Thread} {f : Flow} {c : Code} {q : Pos}, segF (stepT (denote tb) p w) n0 ann b m s t = some (f, s', c, q) → segRun tb p w n0 ann b m s.abs t = some (f, s'.abs, c, q)
  | 0, _, _, _, _, _, _, h => by cases h
  | m + 1, s, s', t, f, c, q, h => by
    rw [segF_eq] at h
    unfold segRun
    cases he : endAt b t with
    | some x =>
      rw [he] at h
      cases h
      rfl
    | none =>
      rw [he] at h
      cases hk : stepOk n0 ann t with
      | false =>
        rw [hk] at h
        cases h
      | true =>
        rw [hk] at h
        cases hs : stepT (denote tb) p w s t with
        | none =>
          rw [hs] at h
          cases h
        | some r =>
          obtain ⟨s2, t2⟩ := r
          rw [hs] at h
          have h3 : (frS s2 fun s' => segF (stepT (denote tb) p w) n0 ann b m s' t2) = some (f, s', c, q) := h
          rw [frS_eq] at h3
          have z := segF_ok h3
          show (match step (denote tb) p w s.abs t with
            | .go s' t' => segRun tb p w n0 ann b m s' t'
            | .halt _ _ => none) = _
          rw [stepT_spec hs]
          exact z
theorem preF_ok : ∀ {m : Nat} {s s' : SharedT} {t t' : Thread}, preF (stepT (denote tb) p w) n0 ann m s t = some (s', t') → topGo tb p w n0 ann m s.abs t = some (s'.abs, t')
  | 0, _, _, _, _, h => by cases h; rfl
  | m + 1, s, s', t, t', h => by
    rw [preF_eq] at h
    unfold topGo
    cases he : through t with
    | true =>
      rw [he] at h
      cases h
    | false =>
      rw [he] at h
      cases hk : stepOk n0 ann t with
      | false =>
        rw [hk] at h
        cases h
      | true =>
        rw [hk] at h
        cases hs : stepT (denote tb) p w s t with
        | none =>
          rw [hs] at h
          cases h
        | some r =>
          obtain ⟨s2, t2⟩ := r
          rw [hs] at h
          have h3 : (frS s2 fun s' => preF (stepT (denote tb) p w) n0 ann m s' t2) = some (s', t') := h
          rw [frS_eq] at h3
          have z := preF_ok h3
          show (match step (denote tb) p w s.abs t with
            | .go s' t' => topGo tb p w n0 ann m s' t'
            | .halt _ _ => none) = _
          rw [stepT_spec hs]
          exact z
end
def envT (p : Program) (cv : Value) (fr : Addr) : Env := { scope := p.main.scope, locals := mainNs, globals := mainNs, cells := [], code := cv, frame := some fr }
def codT (p : Program) (cv : Value) (fr : Addr) : Code := .body (behindTheImports p) (envT p cv fr)
def firstF (st : SharedT → Thread → Option (SharedT × Thread)) (p : Program) (w : World) (cv : Value) (fr : Addr) (q : Pos) (m0 mB m : Nat) (l : List Stmt) (os : OsState) : Option (Nat × Thread × Flow × Code × Flow × SharedT × Code × Pos) :=
  match putAll (boot_heap w.params).objs.toList .nil 0 with
  | some (t, n) => frNat n fun n0 => match preF st n0 (bootAnn w) m0 (bootT w os (t, n0)) (topStub p) with
    | some (sa, ta) => (match segF st n0 (bootAnn w) 1 mB sa (blockOf (behindTheImports p) (envT p cv fr) ta.code ta.pos [topFrame q]) with
      | some (f1, sb, c1, p1) => (match segF st n0 (bootAnn w) 1 m sb (piecesOf l (envT p cv fr) c1 p1 [topFrame q]) with
        | some (f2, s1, c2, p2) => some (n0, ta, f1, c1, f2, s1, c2, p2)
        | none => none)
      | none => none)
    | none => none
  | none => none
def lastF (st : SharedT → Thread → Option (SharedT × Thread)) (p : Program) (w : World) (cv : Value) (fr : Addr) (q : Pos) (n0 m mf : Nat) (l : List Stmt) (s : SharedT) (pos : Pos) : Option (Flow × Code × SharedT) :=
  match segF st n0 (bootAnn w) 1 m s (piecesOf l (envT p cv fr) (codT p cv fr) pos [topFrame q]) with
  | some (f, s1, c1, p1) => (match goF st n0 (bootAnn w) mf s1 ⟨doneF .next, c1, p1, [topFrame q]⟩ with
    | some sf => some (f, c1, sf)
    | none => none)
  | none => none
def RestOk (p q : Program) (loose : List PySem.Str) (Xt : Shared → Bool) {α : Type} (ob : SharedT → α) (val : World → α) (cv : Value) (fr : Addr) (qp : Pos) (n0 : Nat) (M : Nat) (S : World → OsState → SharedT) (l : List Stmt) (pos : Pos) : Prop :=
  ∀ (w : World) (os : OsState), ∃ sf : SharedT, topRun treeTable p w n0 (bootAnn w) M (S w os).abs (restOf l (envT p cv fr) (codT p cv fr) pos [topFrame qp]) = some sf.abs ∧
    (looksF p (boot_heap w.params) sf.abs, openSeen q loose (importedModules p.main.body) Xt true sf.abs, ob sf) = (true, openGood q loose, val w)
section
variable {p q : Program} {loose : List PySem.Str} {Xt : Shared → Bool} {α : Type} {ob : SharedT → α} {val : World → α} {cv : Value} {fr : Addr} {qp : Pos} {n0 M m mf : Nat} {S S' : World → OsState → SharedT} {l l' : List Stmt} {pos pos' : Pos}
abbrev stQ (p : Program) (w : World) : SharedT → Thread → Option (SharedT × Thread) := stepQ (denQ tabQ) p w
theorem stQ_eq {p : Program} {w : World} : stQ p w = stepT (denote treeTable) p w := by
  unfold stQ
  rw [← stepQ_eq, ← denQ_eq, ← tabQ_eq]
theorem rest_seg (h : ∀ (w : World) (os : OsState), segF (stQ p w) n0 (bootAnn w) 1 m (S w os) (piecesOf l (envT p cv fr) (codT p cv fr) pos [topFrame qp]) = some (.next, S' w os, codT p cv fr, pos'))
    (k : RestOk p q loose Xt ob val cv fr qp n0 M S' l' pos') : RestOk p q loose Xt ob val cv fr qp n0 (m + M) S (l ++ l') pos := fun w os => by
  obtain ⟨sf, h1, h2⟩ := k w os
  have z := h w os
  rw [stQ_eq] at z
  exact ⟨sf, piece_app (segF_ok z) h1, h2⟩
theorem rest_last (h : ∀ (w : World) (os : OsState), (lastF (stQ p w) p w cv fr qp n0 m mf l (S w os) pos).map (fun x => (x.1, x.2.1, looksF p (boot_heap w.params) x.2.2.abs, seenQ q loose (importedModules p.main.body) Xt x.2.2.abs, ob x.2.2)) = some (.next, codT p cv fr, true, openGood q loose, val w)) :
    RestOk p q loose Xt ob val cv fr qp n0 (m + mf) S l pos := fun w os => by
  obtain ⟨⟨f, c, sf⟩, e1, e2⟩ := Option.map_eq_some_iff.mp (h w os)
  have e2' : (f, c, looksF p (boot_heap w.params) sf.abs, seenQ q loose (importedModules p.main.body) Xt sf.abs, ob sf) = (.next, codT p cv fr, true, openGood q loose, val w) := e2
  simp only [Prod.mk.injEq] at e2'
  obtain ⟨rfl, rfl, a1, a2, a3⟩ := e2'
  rw [stQ_eq] at e1
  unfold lastF at e1
  cases z : segF (stepT (denote treeTable) p w) n0 (bootAnn w) 1 m (S w os) (piecesOf l (envT p cv fr) (codT p cv fr) pos [topFrame qp]) with
  | none => rw [z] at e1; cases e1
  | some r =>
    obtain ⟨f1, s1, c1, p1⟩ := r
    rw [z] at e1
    dsimp only at e1
    cases y : goF (stepT (denote treeTable) p w) n0 (bootAnn w) mf s1 ⟨doneF .next, c1, p1, [topFrame qp]⟩ with
    | none => rw [y] at e1; cases e1
    | some sf' =>
      rw [y] at e1
      cases e1
      refine ⟨sf, ?_, ?_⟩
      · have := piece_app (rest := []) (q := qp) (segF_ok z) (piece_nil (goF_ok y))
        rw [List.append_nil] at this
        exact this
      · rw [← seenQ_eq] at a2
        rw [a1, a2, a3]
theorem rest_last3 (h1 : ∀ (w : World) (os : OsState), (lastF (stQ p w) p w cv fr qp n0 m mf l (S w os) pos).map (fun x => (x.1, x.2.1, looksF p (boot_heap w.params) x.2.2.abs)) = some (.next, codT p cv fr, true))
    (h2 : ∀ (w : World) (os : OsState), (lastF (stQ p w) p w cv fr qp n0 m mf l (S w os) pos).map (fun x => seenQ q loose (importedModules p.main.body) Xt x.2.2.abs) = some (openGood q loose))
    (h3 : ∀ (w : World) (os : OsState), (lastF (stQ p w) p w cv fr qp n0 m mf l (S w os) pos).map (fun x => ob x.2.2) = some (val w)) :
    RestOk p q loose Xt ob val cv fr qp n0 (m + mf) S l pos := rest_last fun w os => by
  obtain ⟨⟨f, c, sf⟩, e1, e2⟩ := Option.map_eq_some_iff.mp (h1 w os)
  have a2 := h2 w os
  have a3 := h3 w os
  rw [e1] at a2 a3 ⊢
  have a2' : seenQ q loose (importedModules p.main.body) Xt sf.abs = openGood q loose := Option.some.inj a2
  have a3' : ob sf = val w := Option.some.inj a3
  have e2' : (f, c, looksF p (boot_heap w.params) sf.abs) = (.next, codT p cv fr, true) := e2
  simp only [Prod.mk.injEq] at e2'
  obtain ⟨z1, z2, z3⟩ := e2'
  show some (f, c, looksF p (boot_heap w.params) sf.abs, seenQ q loose (importedModules p.main.body) Xt sf.abs, ob sf) = _
  rw [z1, z2, z3, a2', a3']
theorem left_cut {N : Nat} {m0 mB : Nat} {pos0 : Pos} (e : opening p = plainProg p.main.scope.names) (hN : Nat.ble 600 N = true) (f : ∀ s, fenceModules? p s = some s) (hb : behindTheImports p = l ++ l')
    (first : ∀ (w : World) (os : OsState), firstF (stQ p w) p w cv fr qp m0 mB m l os = some (n0, ⟨denQ tabQ (codT p cv fr), codT p cv fr, pos0, [topFrame qp]⟩, .next, codT p cv fr, .next, S w os, codT p cv fr, pos))
    (k : RestOk p q loose Xt ob val cv fr qp n0 M S l' pos) (le : Nat.ble (m0 + (mB + (m + M))) N = true) {obs : Shared → α} (ho : ∀ s : SharedT, ob s = obs s.abs) :
    LeftO p q loose Xt obs val N true := fun w => by
  obtain ⟨⟨h, gs, d, kk, os⟩, a, a'⟩ := Option.map_eq_some_iff.mp (boot_open e hN f w)
  obtain ⟨rfl, rfl, rfl, rfl⟩ : h = boot_heap w.params ∧ gs = Array.mk [] ∧ d = boot_drawn ∧ kk = boot_toks := by simpa using a'
  obtain ⟨sf, hr, hv⟩ := k w os
  have hv' : (looksF p (boot_heap w.params) sf.abs, openSeen q loose (importedModules p.main.body) Xt true sf.abs, ob sf) = (true, openGood q loose, val w) := hv
  simp only [Prod.mk.injEq] at hv'
  obtain ⟨l1, l2, l3⟩ := hv'
  have F := first w os
  rw [stQ_eq, show denQ tabQ = denote treeTable by rw [denQ_eq, tabQ_eq]] at F
  unfold firstF at F
  cases e0 : putAll (boot_heap w.params).objs.toList .nil 0 with
  | none => rw [e0] at F; cases F
  | some r0 =>
    obtain ⟨t, n⟩ := r0
    rw [e0] at F
    dsimp only at F
    rw [frNat_eq] at F
    have eh := putAll_heap e0
    have en : (boot_heap w.params).objs.size = n := by
      rw [← eh]
      exact absHeap_size t n _
    have eb : (bootT w os (t, n)).abs = ⟨boot_heap w.params, #[], boot_drawn, boot_toks, os⟩ := by
      show (⟨absHeap t n (boot_heap w.params).life, #[], boot_drawn, boot_toks, os⟩ : Shared) = _
      rw [eh]
    cases e1 : preF (stepT (denote treeTable) p w) n (bootAnn w) m0 (bootT w os (t, n)) (topStub p) with
    | none => rw [e1] at F; cases F
    | some r1 =>
      obtain ⟨sa, ta⟩ := r1
      rw [e1] at F
      dsimp only at F
      cases e2 : segF (stepT (denote treeTable) p w) n (bootAnn w) 1 mB sa (blockOf (behindTheImports p) (envT p cv fr) ta.code ta.pos [topFrame qp]) with
      | none => rw [e2] at F; cases F
      | some r2 =>
        obtain ⟨f1, sb, c1, p1⟩ := r2
        rw [e2] at F
        dsimp only at F
        cases e3 : segF (stepT (denote treeTable) p w) n (bootAnn w) 1 m sb (piecesOf l (envT p cv fr) c1 p1 [topFrame qp]) with
        | none => rw [e3] at F; cases F
        | some r3 =>
          obtain ⟨f2, s1, c2, p2⟩ := r3
          rw [e3] at F
          dsimp only at F
          have F2 := Option.some.inj F
          simp only [Prod.mk.injEq] at F2
          obtain ⟨rfl, rfl, rfl, rfl, rfl, rfl, rfl, rfl⟩ := F2
          have r2 := piece_app (segF_ok e3) hr
          rw [← hb] at r2
          have r1 := piece_block (segF_ok e2) r2
          have r0 := go_top (preF_ok e1) r1
          rw [eb] at r0
          have r := topRun_mono (N - (m0 + (mB + (m + M)))) _ _ _ _ r0
          rw [show m0 + (mB + (m + M)) + (N - (m0 + (mB + (m + M)))) = N by have := Nat.le_of_ble_eq_true le; omega] at r
          have l1' : (staticsOk (importedModules p.main.body) (boot_heap w.params) sf.abs.heap && namesBound p sf.abs.heap && gensDone sf.abs && laidKept (boot_heap w.params) sf.abs.heap) = true := l1
          have tt : topFrom treeTable p w N ⟨boot_heap w.params, Array.mk [], boot_drawn, boot_toks, os⟩ = some sf.abs := by
            unfold topFrom
            dsimp only
            rw [boot_ns]
            show (topRun treeTable p w (boot_heap w.params).objs.size (bootAnn w) N ⟨boot_heap w.params, #[], boot_drawn, boot_toks, os⟩ (topStub p)).bind _ = _
            rw [en, r]
            show (match staticsOk (importedModules p.main.body) (boot_heap w.params) sf.abs.heap && namesBound p sf.abs.heap && gensDone sf.abs && laidKept (boot_heap w.params) sf.abs.heap with | true => some sf.abs | false => none) = _
            rw [l1']
          unfold openEnds
          rw [a]
          show (topFrom treeTable p w N _).map _ = _
          rw [tt, ← l3, ho sf]
          exact congrArg some (Prod.ext l2 rfl)
end
theorem head_cut {r : OpenRow} {q : Program} {H : Hook} {ob : SharedT → H.α} {loose : List PySem.Str} {d : DefRec} {kwd : List (PySem.Str × PySem.Expr)} {cv : Value} {fr : Addr} {qp : Pos} {n0 M m m0 mB : Nat} {S : World → OsState → SharedT} {l l' : List Stmt} {pos pos0 : Pos}
    (ho : ∀ s : SharedT, ob s = H.obs s.abs) (e : opening r.prog = plainProg r.prog.main.scope.names) (f : ∀ s, fenceModules? r.prog s = some s) (hbd : behindTheImports r.prog = l ++ l')
    (first : ∀ (w : World) (os : OsState), firstF (stQ r.prog w) r.prog w cv fr qp m0 mB m l os = some (n0, ⟨denQ tabQ (codT r.prog cv fr), codT r.prog cv fr, pos0, [topFrame qp]⟩, .next, codT r.prog cv fr, .next, S w os, codT r.prog cv fr, pos))
    (k : RestOk r.prog q loose (fun s => xlAt q [] s && recOk r.toRowW.records s) ob H.val cv fr qp n0 M S l' pos)
    (hdef : defOf q r.name = some (d, kwd)) (hp : r.prog.theDef r.name = some (d.params, d.body, d.scope)) (hk : kwWritten? d.params.kwonlyargs d.params.kw_defaults = some kwd)
    (hwr : (!r.writes || r.records.isEmpty) = true) (k1 : r.wellSaid = true) (ok : (chainsOk q && opensWell r.prog && (frees r.toRowW && r.within.isEmpty)) = true) (hb : r.prog.bare) (hw : r.toRowW.promised)
    (call : WalkO q loose (XL q []) H.says r.toRowW d kwd fun f vs => PySem.call f vs) : r.Holds :=
  holds_open (r := r) (q := q) (loose := loose) (XP := XL q []) (YP := H.says) (d := d) (kwd := kwd) (left_cut (N := m0 + (mB + (m + M)) + 600) e (Nat.ble_eq_true_of_le (by omega)) f hbd first k (Nat.ble_eq_true_of_le (by omega)) ho) H.of H.keeps (fun s z => xl_of s (Bool.and_eq_true_iff.mp z).1) XL.keeps hdef hp hk (fun s z => recFacts_of (Bool.and_eq_true_iff.mp z).2) hwr k1 ok hb hw call
end Z
namespace Z
open PySem PySem.Spec PyProof.Rows L2

mutual
inductive Pl : Nat → D → Prop
  | non {n : Nat} : Pl n .non
  | int {n : Nat} (i : Int) : Pl n (.int i)
  | str {n : Nat} {x : Str} (h : PyData.strOk x = true) : Pl n (.str x)
  | tup {n : Nat} {l : List D} (h : PlL n l) : Pl (n + 1) (.tup l)
  | lst {n : Nat} {l : List D} (h : PlL n l) : Pl (n + 1) (.lst l)
inductive PlL : Nat → List D → Prop
  | nil {n : Nat} : PlL n []
  | cons {n : Nat} {d : D} {l : List D} (h : Pl n d) (r : PlL n l) : PlL n (d :: l)
end
theorem PlL.of {n : Nat} : ∀ {l : List D}, (∀ d ∈ l, Pl n d) → PlL n l
  | [], _ => .nil
  | d :: l, h => .cons (h d List.mem_cons_self) (PlL.of fun e he => h e (List.mem_cons_of_mem _ he))
mutual
theorem Pl.data : ∀ {n : Nat} {d : D}, Pl n d → ∃ p, pd d = some p ∧ PyData.canLay0 p = true ∧ PyData.depth p ≤ n ∧ ∀ (e : D) (m : Nat) (q : PyData), Pl m e → pd e = some q → (PyData.eqv p q = true ↔ d = e)
  | _, _, .non => ⟨.none, rfl, rfl, Nat.zero_le _, fun e m q h eq => by
      cases h with
      | non => cases eq; exact ⟨fun _ => rfl, fun _ => rfl⟩
      | int => cases eq; exact ⟨(fun h => by cases h), (fun h => by cases h)⟩
      | str => cases eq; exact ⟨(fun h => by cases h), (fun h => by cases h)⟩
      | tup => obtain ⟨_, _, rfl⟩ := Option.map_eq_some_iff.mp (show (pdL _).map PyData.tuple = some _ from eq); exact ⟨(fun h => by cases h), (fun h => by cases h)⟩
      | lst => obtain ⟨_, _, rfl⟩ := Option.map_eq_some_iff.mp (show (pdL _).map PyData.list = some _ from eq); exact ⟨(fun h => by cases h), (fun h => by cases h)⟩⟩
  | _, _, .int i => ⟨.int i, rfl, rfl, Nat.zero_le _, fun e m q h eq => by
      cases h with
      | non => cases eq; exact ⟨(fun h => by cases h), (fun h => by cases h)⟩
      | int => cases eq; exact ⟨fun h => by rw [show i = _ from by simpa [PyData.eqv] using h], fun h => by cases h; simp [PyData.eqv]⟩
      | str => cases eq; exact ⟨(fun h => by cases h), (fun h => by cases h)⟩
      | tup => obtain ⟨_, _, rfl⟩ := Option.map_eq_some_iff.mp (show (pdL _).map PyData.tuple = some _ from eq); exact ⟨(fun h => by cases h), (fun h => by cases h)⟩
      | lst => obtain ⟨_, _, rfl⟩ := Option.map_eq_some_iff.mp (show (pdL _).map PyData.list = some _ from eq); exact ⟨(fun h => by cases h), (fun h => by cases h)⟩⟩
  | _, _, .str (x := x) hx => ⟨.str x, rfl, hx, Nat.zero_le _, fun e m q h eq => by
      cases h with
      | non => cases eq; exact ⟨(fun h => by cases h), (fun h => by cases h)⟩
      | int => cases eq; exact ⟨(fun h => by cases h), (fun h => by cases h)⟩
      | str => cases eq; exact ⟨fun h => by rw [show x = _ from by simpa [PyData.eqv] using h], fun h => by cases h; simp [PyData.eqv]⟩
      | tup => obtain ⟨_, _, rfl⟩ := Option.map_eq_some_iff.mp (show (pdL _).map PyData.tuple = some _ from eq); exact ⟨(fun h => by cases h), (fun h => by cases h)⟩
      | lst => obtain ⟨_, _, rfl⟩ := Option.map_eq_some_iff.mp (show (pdL _).map PyData.list = some _ from eq); exact ⟨(fun h => by cases h), (fun h => by cases h)⟩⟩
  | _, _, .tup (l := l) hl => by
    obtain ⟨ps, e1, c1, d1, k⟩ := hl.pds
    refine ⟨.tuple ps, by show (pdL l).map PyData.tuple = _; rw [e1]; rfl, c1, Nat.succ_le_succ d1, fun e m q h eq => ?_⟩
    cases h with
    | non => cases eq; exact ⟨(fun h => by cases h), (fun h => by cases h)⟩
    | int => cases eq; exact ⟨(fun h => by cases h), (fun h => by cases h)⟩
    | str => cases eq; exact ⟨(fun h => by cases h), (fun h => by cases h)⟩
    | tup h' =>
      obtain ⟨qs, e2, rfl⟩ := Option.map_eq_some_iff.mp (show (pdL _).map PyData.tuple = some _ from eq)
      exact (k _ _ _ h' e2).trans ⟨fun h => by rw [h], fun h => by injection h⟩
    | lst => obtain ⟨_, _, rfl⟩ := Option.map_eq_some_iff.mp (show (pdL _).map PyData.list = some _ from eq); exact ⟨(fun h => by cases h), (fun h => by cases h)⟩
  | _, _, .lst (l := l) hl => by
    obtain ⟨ps, e1, c1, d1, k⟩ := hl.pds
    refine ⟨.list ps, by show (pdL l).map PyData.list = _; rw [e1]; rfl, c1, Nat.succ_le_succ d1, fun e m q h eq => ?_⟩
    cases h with
    | non => cases eq; exact ⟨(fun h => by cases h), (fun h => by cases h)⟩
    | int => cases eq; exact ⟨(fun h => by cases h), (fun h => by cases h)⟩
    | str => cases eq; exact ⟨(fun h => by cases h), (fun h => by cases h)⟩
    | tup => obtain ⟨_, _, rfl⟩ := Option.map_eq_some_iff.mp (show (pdL _).map PyData.tuple = some _ from eq); exact ⟨(fun h => by cases h), (fun h => by cases h)⟩
    | lst h' =>
      obtain ⟨qs, e2, rfl⟩ := Option.map_eq_some_iff.mp (show (pdL _).map PyData.list = some _ from eq)
      exact (k _ _ _ h' e2).trans ⟨fun h => by rw [h], fun h => by injection h⟩
theorem PlL.pds : ∀ {n : Nat} {l : List D}, PlL n l → ∃ ps, pdL l = some ps ∧ PyData.canLayAll0 ps = true ∧ PyData.depthAll ps ≤ n ∧ ∀ (l' : List D) (m : Nat) (qs : List PyData), PlL m l' → pdL l' = some qs → (PyData.eqvAll ps qs = true ↔ l = l')
  | _, _, .nil => ⟨[], rfl, rfl, Nat.zero_le _, fun l' m qs h eq => by
      cases h with
      | nil => cases eq; exact ⟨fun _ => rfl, fun _ => rfl⟩
      | cons h r =>
        unfold pdL at eq
        split at eq
        · cases eq
          exact ⟨(fun h => by cases h), (fun h => by cases h)⟩
        · cases eq⟩
  | _, _, .cons h r => by
    obtain ⟨p, e1, c1, d1, k1⟩ := h.data
    obtain ⟨ps, e2, c2, d2, k2⟩ := r.pds
    refine ⟨p :: ps, by unfold pdL; rw [e1, e2], by show (_ && _) = true; rw [c1, c2]; rfl, Nat.max_le.mpr ⟨d1, d2⟩, fun l' m qs h' eq => ?_⟩
    cases h' with
    | nil => cases eq; exact ⟨(fun h => by cases h), (fun h => by cases h)⟩
    | cons h' r' =>
      unfold pdL at eq
      split at eq
      case h_2 => cases eq
      rename_i p' ps' e1' e2'
      cases eq
      show (PyData.eqv p p' && PyData.eqvAll ps ps') = true ↔ _
      rw [Bool.and_eq_true, k1 _ _ _ h' e1', k2 _ _ _ r' e2', List.cons.injEq]
end
theorem Pl.shaped {n : Nat} {d : D} {p : PyData} (h : Pl n d) (e : pd d = some p) (hn : n ≤ 64) : SeqAt.shaped p = true := by
  obtain ⟨q, e1, c1, d1, _⟩ := h.data
  rw [e] at e1
  cases e1
  unfold SeqAt.shaped
  rw [c1, decide_eq_true (Nat.le_trans d1 hn)]
  rfl
theorem eqv_pl {M : Sto} {n m : Nat} {x y dx dy : D} {φ : Bool → Prop} (hx : Pl n dx) (hy : Pl m dy) (hn : n ≤ 64) (hm : m ≤ 64) (ex : toPd M x = pd dx) (ey : toPd M y = pd dy) (nt : ∀ i j, x = .int i → y = .int j → dx = x ∧ dy = y) (ns : ∀ i j, x = .str i → y = .str j → dx = x ∧ dy = y) (nb : ∀ i, x ≠ .bl i)
    (q : ∀ b : Bool, (b = true ↔ dx = dy) → φ b) : eqvD M x y φ := by
  have gen : ∃ p q, toPd M x = some p ∧ toPd M y = some q ∧ SeqAt.shaped p = true ∧ SeqAt.shaped q = true ∧ φ (PyData.eqv p q) := by
    obtain ⟨p, e1, _, _, k⟩ := hx.data
    obtain ⟨p', e2, _⟩ := hy.data
    exact ⟨p, p', ex.trans e1, ey.trans e2, hx.shaped e1 hn, hy.shaped e2 hm, q _ (k _ _ _ hy e2)⟩
  unfold eqvD
  split
  · obtain ⟨rfl, rfl⟩ := nt _ _ rfl rfl
    refine q _ ⟨fun h => by rw [of_decide_eq_true h], fun h => by cases h; exact decide_eq_true rfl⟩
  · obtain ⟨rfl, rfl⟩ := ns _ _ rfl rfl
    refine q _ ⟨fun h => by rw [of_decide_eq_true h], fun h => by cases h; exact decide_eq_true rfl⟩
  · exact absurd rfl (nb _)
  · exact gen
theorem toPd_pl {M : Sto} {n : Nat} {d : D} (h : Pl n d) : toPd M d = pd d := by
  unfold toPd
  cases h with
  | lst h => rfl
  | _ => rfl
theorem toPd_ref {M : Sto} {d : D} {l : List D} (h : lstOf M d = some l) : toPd M d = pd (.lst l) := by
  unfold toPd
  rw [h]
  rfl
theorem lstOf_no {M : Sto} {d : D} {l : List D} (h : lstOf M d = some l) : (∀ i, d ≠ .int i) ∧ (∀ i, d ≠ .str i) ∧ ∀ i, d ≠ .bl i := by
  cases d <;> first | cases h | skip
  all_goals exact ⟨fun _ => nofun, fun _ => nofun, fun _ => nofun⟩
theorem eqPl {M : Sto} {n m : Nat} {x y : D} {φ : D → Prop} (hx : Pl n x) (hy : Pl m y) (q : ∀ b : Bool, (b = true ↔ x = y) → φ (.bl b)) (hn : n ≤ 64 := by decide) (hm : m ≤ 64 := by decide) : eqD M x y φ := by
  unfold eqD
  exact eqv_pl (φ := fun b => φ (.bl b)) hx hy hn hm (toPd_pl hx) (toPd_pl hy) (fun _ _ _ _ => ⟨rfl, rfl⟩) (fun _ _ _ _ => ⟨rfl, rfl⟩) (fun i e => by subst e; cases hx) q
theorem eqPlL {M : Sto} {n m : Nat} {x y : D} {l l' : List D} {φ : D → Prop} (ex : lstOf M x = some l) (ey : lstOf M y = some l') (hx : PlL n l) (hy : PlL m l') (q : ∀ b : Bool, (b = true ↔ l = l') → φ (.bl b)) (hn : n ≤ 63 := by decide) (hm : m ≤ 63 := by decide) : eqD M x y φ := by
  unfold eqD
  have n1 := lstOf_no ex
  exact eqv_pl (φ := fun b => φ (.bl b)) (.lst hx) (.lst hy) (Nat.succ_le_succ hn) (Nat.succ_le_succ hm) (toPd_ref ex) (toPd_ref ey) (fun _ _ e _ => absurd e (n1.1 _)) (fun _ _ e _ => absurd e (n1.2.1 _)) (fun i e => n1.2.2 _ e) fun b h => q b (h.trans ⟨fun e => by injection e, fun e => by rw [e]⟩)
theorem nePlL {M : Sto} {n m : Nat} {x y : D} {l l' : List D} {φ : D → Prop} (ex : lstOf M x = some l) (ey : lstOf M y = some l') (hx : PlL n l) (hy : PlL m l') (q : ∀ b : Bool, (b = true ↔ l = l') → φ (.bl (!b))) (hn : n ≤ 63 := by decide) (hm : m ≤ 63 := by decide) : neD M x y φ := by
  unfold neD
  have n1 := lstOf_no ex
  exact eqv_pl (φ := fun b => φ (.bl (!b))) (.lst hx) (.lst hy) (Nat.succ_le_succ hn) (Nat.succ_le_succ hm) (toPd_ref ex) (toPd_ref ey) (fun _ _ e _ => absurd e (n1.1 _)) (fun _ _ e _ => absurd e (n1.2.1 _)) (fun i e => n1.2.2 _ e) fun b h => q b (h.trans ⟨fun e => by injection e, fun e => by rw [e]⟩)

section
variable {X : Cx} {B : Bs} {o e : Expr} {es : List Expr} {fo : DTE} {ga : DTA} {apos pos : Pos}
theorem rep_strs {K : PySem.W.Frag} {G : Hp} : ∀ l : List Str, RepL K G (l.map .str) (l.map V.str)
  | [] => .nil
  | _ :: l => .cons .str (rep_strs l)
end
end Z
namespace Z
open PySem PySem.Spec PyProof.Rows L2

def RunAt (f : Nat → Nat) (i n : Nat) : Prop := 0 < n ∧ (∀ j, j < n → f (i + j) = f i) ∧ f (i + n) ≠ f i
theorem RunAt.uniq {f : Nat → Nat} {i n m : Nat} (h : RunAt f i n) (h' : RunAt f i m) : n = m := by
  rcases Nat.lt_trichotomy n m with z | z | z
  · exact absurd (h'.2.1 n z) h.2.2
  · exact z
  · exact absurd (h.2.1 m z) h'.2.2
open Classical in
noncomputable def nxt (f : Nat → Nat) (i : Nat) : Option Nat := if h : ∃ n, RunAt f i n then some (Classical.choose h) else none
section
variable {M : Sto} {p : Addr} {l : List D}
theorem lstOf_at (h : M p = some (.lst l)) : lstOf M (.ref p) = some l := by
  show (match M p with | some (.lst l) => some l | _ => none) = _
  rw [h]
theorem len_at (h : M p = some (.lst l)) {φ : PD} (q : φ (.int l.length) M) : lenD M [.ref p] φ := ⟨l, lstOf_at h, q⟩
theorem one_le_size {n : Nat} (h : n ≤ 1000000) : n ≤ sizeLine := Nat.le_trans h big_ok
end
end Z
namespace Z
open PySem PySem.Spec PyProof.Rows L2

section
variable {M : Sto} {φ : Bool → Prop}
end
section
variable {X : Cx} {B : Bs} {pos : Pos} {a b : Expr} {es : List Expr} {fa fb : DTE}
end
theorem Same.L {M : Sto} {n : Nat} {a b : D} {xs ys : List D} (ea : lstOf M a = some xs) (eb : lstOf M b = some ys) (h : SameL M n xs ys) (hl : xs.length ≤ 1000000) : Same M (n + 1) a b :=
  .inr (.inr (.inr (.inr ⟨xs, ys, .inl ⟨ea, eb⟩, h.len, hl, h.get⟩)))
theorem HandAt.upd {M : Sto} {p u : Addr} {c : Cell} (h : HandAt M p) (hu : M u = none) : HandAt (updM M u c) p := by
  obtain ⟨k, e, a, b⟩ := h
  exact ⟨k, by rw [updM_ne fun z => by rw [z, hu] at e; cases e]; exact e, a, b⟩
theorem HandAt.put {M : Sto} {p u : Addr} {c : Cell} {l : List D} (h : HandAt M p) (hu : p ≠ u) : HandAt (updM M u c) p := by
  obtain ⟨k, e, a, b⟩ := h
  exact ⟨k, by rw [updM_ne hu]; exact e, a, b⟩
theorem HandAt.ne {M : Sto} {p u : Addr} (h : HandAt M p) (hu : M u = none) : p ≠ u := fun z => by
  obtain ⟨k, e, _⟩ := h
  rw [z, hu] at e
  cases e
end Z
namespace Z
open PySem PySem.Spec PyProof.Rows L2

section
variable {X : Cx} {B : Bs} {Ξ : XD → En → Sto → Prop} {k j n : Nat} {c : Ct} {pos apos p : Pos} {e : Expr} {es : List Expr} {kws : List Keyword} {ga gk : DTA} {C : Addr} {m x : Str} {ks : List Str} {g : List D → List D → List D} {bs : List (Nat × List Str × (List D → List D → List D))}
end
end Z
namespace Z
open PySem PySem.Spec PyProof.Rows L2

section
variable {X : Cx} {B : Bs} {pos : Pos} {es : List Expr}
end
section
variable {ts : List DTE} {a w : List Nat} {r : En} {M : Sto} {φ : Str → Sto → Prop}
end
end Z
namespace Z
open PySem PySem.Spec PyProof.Rows L2

open Classical in
noncomputable def dlook (l : List (D × D)) (c : D) : Option D := (l.find? fun kv => decide (kv.1 = c)).map (·.2)
open Classical in
noncomputable def dput (l : List (D × D)) (c d : D) : List (D × D) := if (dlook l c).isSome = true then l.map (fun kv => if kv.1 = c then (kv.1, d) else kv) else l ++ [(c, d)]
def ckey : D → D
  | .tpl l => .tup l
  | d => d
theorem keyD_inj : ∀ {c c' : D} {k : Key}, keyD c = some k → keyD c' = some k → c = c'
  | .int _, .int _, _, h, h' => by cases h; cases h'; rfl
  | .str _, .str _, _, h, h' => by cases h; cases h'; rfl
  | .int _, .str _, _, h, h' => by cases h; cases h'
  | .str _, .int _, _, h, h' => by cases h; cases h'
theorem keysD_inj : ∀ {l l' : List D} {ks : List Key}, keysD l = some ks → keysD l' = some ks → l = l'
  | [], [], _, _, _ => rfl
  | [], d :: l', ks, h, h' => by
    cases h
    unfold keysD at h'
    split at h' <;> cases h'
  | d :: l, [], ks, h, h' => by
    cases h'
    unfold keysD at h
    split at h <;> cases h
  | d :: l, d' :: l', ks, h, h' => by
    unfold keysD at h h'
    split at h
    · rename_i k1 ks1 e1 e2
      split at h'
      · rename_i k2 ks2 e3 e4
        cases h
        injection h' with h'
        injection h' with a b
        subst a b
        rw [keyD_inj e1 e3, keysD_inj e2 e4]
      · cases h'
    · cases h
theorem keyT_inj {c c' : D} {ks : List Key} (h : keyT c = some ks) (h' : keyT c' = some ks) : c = c' := by
  cases c <;> first | cases h | skip
  cases c' <;> first | cases h' | skip
  exact congrArg D.tup (keysD_inj h h')
section
variable {K : PySem.W.Frag} {G : Hp} {c d : D} {l : List (D × D)}
theorem dlook_nil : dlook [] c = none := rfl
theorem dlook_pos {q : D × D} (e : q.1 = c) : dlook (q :: l) c = some q.2 := by simp [dlook, List.find?_cons, e]
theorem dlook_neg {q : D × D} (e : ¬ q.1 = c) : dlook (q :: l) c = dlook l c := by simp [dlook, List.find?_cons, e]
theorem repD_look {k : Key} (hk : keyD c = some k) : ∀ {l : List (D × D)} {kvs : List (Key × V)}, RepD K G l kvs → (dlook l c = none ∧ valV kvs k = none) ∨ ∃ d v, dlook l c = some d ∧ valV kvs k = some v ∧ Rep K G d v
  | _, _, .nil => .inl ⟨rfl, rfl⟩
  | _, _, .cons (c := c0) (k := k0) e p r => by
    by_cases h : c0 = c
    · have hk0 : k0 = k := by rw [h, hk] at e; exact (Option.some.inj e).symm
      exact .inr ⟨_, _, dlook_pos h, valV_pos hk0, p⟩
    · have hk0 : ¬ k0 = k := fun z => h (keyD_inj e (by rw [z]; exact hk))
      rw [dlook_neg h, valV_neg hk0]
      exact repD_look hk r
theorem repT_look {k : List Key} (hk : keyT c = some k) : ∀ {l : List (D × D)} {kvs : List (List Key × V)}, RepT K G l kvs → (dlook l c = none ∧ valV kvs k = none) ∨ ∃ d v, dlook l c = some d ∧ valV kvs k = some v ∧ Rep K G d v
  | _, _, .nil => .inl ⟨rfl, rfl⟩
  | _, _, .cons (c := c0) (k := k0) e p r => by
    by_cases h : c0 = c
    · have hk0 : k0 = k := by rw [h, hk] at e; exact (Option.some.inj e).symm
      exact .inr ⟨_, _, dlook_pos h, valV_pos hk0, p⟩
    · have hk0 : ¬ k0 = k := fun z => h (keyT_inj e (by rw [z]; exact hk))
      rw [dlook_neg h, valV_neg hk0]
      exact repT_look hk r
theorem repD_app {k : Key} {v : V} (hk : keyD c = some k) (p : Rep K G d v) : ∀ {l : List (D × D)} {kvs : List (Key × V)}, RepD K G l kvs → RepD K G (l ++ [(c, d)]) (kvs ++ [(k, v)])
  | _, _, .nil => .cons hk p .nil
  | _, _, .cons e q r => .cons e q (repD_app hk p r)
theorem repT_app {k : List Key} {v : V} (hk : keyT c = some k) (p : Rep K G d v) : ∀ {l : List (D × D)} {kvs : List (List Key × V)}, RepT K G l kvs → RepT K G (l ++ [(c, d)]) (kvs ++ [(k, v)])
  | _, _, .nil => .cons hk p .nil
  | _, _, .cons e q r => .cons e q (repT_app hk p r)
open Classical in
theorem repD_map {k : Key} {v : V} (hk : keyD c = some k) (p : Rep K G d v) : ∀ {l : List (D × D)} {kvs : List (Key × V)}, RepD K G l kvs → RepD K G (l.map fun kv => if kv.1 = c then (kv.1, d) else kv) (kvs.map fun kv => if kv.1 = k then (kv.1, v) else kv)
  | _, _, .nil => .nil
  | _, _, .cons (c := c0) (k := k0) (d := d0) (v := v0) e q r => by
    rw [List.map_cons, List.map_cons]
    by_cases h : c0 = c
    · have hk0 : k0 = k := by rw [h, hk] at e; exact (Option.some.inj e).symm
      rw [if_pos (show (c0, d0).1 = c from h), if_pos (show (k0, v0).1 = k from hk0)]
      exact .cons e p (repD_map hk p r)
    · have hk0 : ¬ k0 = k := fun z => h (keyD_inj e (by rw [z]; exact hk))
      rw [if_neg (show ¬ (c0, d0).1 = c from h), if_neg (show ¬ (k0, v0).1 = k from hk0)]
      exact .cons e q (repD_map hk p r)
open Classical in
theorem repT_map {k : List Key} {v : V} (hk : keyT c = some k) (p : Rep K G d v) : ∀ {l : List (D × D)} {kvs : List (List Key × V)}, RepT K G l kvs → RepT K G (l.map fun kv => if kv.1 = c then (kv.1, d) else kv) (kvs.map fun kv => if kv.1 = k then (kv.1, v) else kv)
  | _, _, .nil => .nil
  | _, _, .cons (c := c0) (k := k0) (d := d0) (v := v0) e q r => by
    rw [List.map_cons, List.map_cons]
    by_cases h : c0 = c
    · have hk0 : k0 = k := by rw [h, hk] at e; exact (Option.some.inj e).symm
      rw [if_pos (show (c0, d0).1 = c from h), if_pos (show (k0, v0).1 = k from hk0)]
      exact .cons e p (repT_map hk p r)
    · have hk0 : ¬ k0 = k := fun z => h (keyT_inj e (by rw [z]; exact hk))
      rw [if_neg (show ¬ (c0, d0).1 = c from h), if_neg (show ¬ (k0, v0).1 = k from hk0)]
      exact .cons e q (repT_map hk p r)
theorem repD_put {k : Key} {v : V} {kvs : List (Key × V)} (hk : keyD c = some k) (p : Rep K G d v) (r : RepD K G l kvs) : RepD K G (dput l c d) (putK kvs k v) := by
  unfold dput putK
  rw [valV_any]
  rcases repD_look hk r with ⟨h1, h2⟩ | ⟨_, _, h1, h2, _⟩
  · rw [h1, h2, if_neg (by simp), if_neg (by simp)]
    exact repD_app hk p r
  · rw [h1, h2]
    exact repD_map hk p r
theorem repT_put {k : List Key} {v : V} {kvs : List (List Key × V)} (hk : keyT c = some k) (p : Rep K G d v) (r : RepT K G l kvs) : RepT K G (dput l c d) (putK kvs k v) := by
  unfold dput putK
  rw [valV_any]
  rcases repT_look hk r with ⟨h1, h2⟩ | ⟨_, _, h1, h2, _⟩
  · rw [h1, h2, if_neg (by simp), if_neg (by simp)]
    exact repT_app hk p r
  · rw [h1, h2]
    exact repT_map hk p r
theorem key_v {k : Key} {v : V} (r : Rep K G c v) (hk : keyD c = some k) : v = kV k := by
  cases r <;> cases hk <;> rfl
theorem keys_v : ∀ {l : List D} {vs : List V} {ks : List Key}, RepL K G l vs → keysD l = some ks → vs = ks.map kV
  | _, _, _, .nil, e => by cases e; rfl
  | _, _, _, .cons r rs, e => by
    unfold keysD at e
    split at e
    · rename_i k ks e1 e2
      cases e
      rw [key_v r e1, keys_v rs e2]
      rfl
    · cases e
end
def dgetQ (M : Sto) (x y : D) (φ : D → Prop) : Prop := ∃ l d, dicOf M x = some l ∧ dlook l (ckey y) = some d ∧ ((∃ k, keyD y = some k) ∨ ∃ l' ks, y = .tpl l' ∧ keysD l' = some ks) ∧ φ d
def dinQ (M : Sto) (x y : D) (φ : Bool → Prop) : Prop := ∃ p l, x = .ref p ∧ ((M p = some (.dic l) ∧ ∃ k, keyD y = some k) ∨ (M p = some (.dit l) ∧ ∃ l' ks, y = .tpl l' ∧ keysD l' = some ks)) ∧ φ (dlook l (ckey y)).isSome
def dputQ (M : Sto) (x y v : D) (φ : Sto → Prop) : Prop := ∃ p l, x = .ref p ∧ l.length < sizeLine ∧ ((M p = some (.dic l) ∧ (∃ k, keyD y = some k) ∧ φ (updM M p (.dic (dput l y v)))) ∨ (M p = some (.dit l) ∧ (∃ l' ks, y = .tpl l' ∧ keysD l' = some ks) ∧ φ (updM M p (.dit (dput l (ckey y) v)))))
section
variable {K : PySem.W.Frag} {M : Sto} {H G : Hp} {x y d : D} {v u t : V}
theorem dget_x {φ : D → Prop} (w : Wd K M H G) (rx : Rep K G x v) (ry : Rep K G y u) (h : dgetQ M x y φ) : ∃ a z d, v = .ref a ∧ DGet H a u (some z) ∧ Rep K G d z ∧ φ d := by
  obtain ⟨l, d, e, el, hk, h⟩ := h
  obtain ⟨a, rfl, hh⟩ := dic_rep w rx e
  rcases hk with ⟨k, hk⟩ | ⟨l', ks, rfl, hk⟩
  · have ec : ckey y = y := by cases y <;> first | rfl | cases hk
    rw [ec] at el
    rcases hh with ⟨kvs, hh, r⟩ | ⟨kvs, hh, r⟩
    · rcases repD_look hk r with ⟨z, _⟩ | ⟨d', v', z, e2, p⟩
      · rw [z] at el; cases el
      · rw [z] at el
        cases el
        rw [key_v ry hk]
        exact ⟨a, v', _, rfl, .inl ⟨kvs, k, hh, rfl, e2.symm⟩, p, h⟩
    · exfalso
      have : ∀ {l : List (D × D)} {kvs : List (List Key × V)}, RepT K G l kvs → dlook l y = none := fun {l kvs} r => by
        induction l generalizing kvs with
        | nil => rfl
        | cons q l ih =>
          cases r with
          | @cons c0 _ _ _ _ _ e0 p r =>
            rw [dlook_neg (fun z : c0 = y => by rw [z] at e0; cases y <;> first | cases e0 | cases hk)]
            exact ih r
      rw [this r] at el
      cases el
  · cases ry with
    | tpl hb rl =>
      have ev := keys_v rl hk
      subst ev
      rcases hh with ⟨kvs, hh, r⟩ | ⟨kvs, hh, r⟩
      · exfalso
        have : ∀ {l : List (D × D)} {kvs : List (Key × V)}, RepD K G l kvs → dlook l (.tup l') = none := fun {l kvs} r => by
          induction l generalizing kvs with
          | nil => rfl
          | cons q l ih =>
            cases r with
            | @cons c0 _ _ _ _ _ e0 p r =>
              rw [dlook_neg (fun z : c0 = .tup l' => by rw [z] at e0; cases e0)]
              exact ih r
        rw [show ckey (.tpl l') = .tup l' from rfl, this r] at el
        cases el
      · rcases repT_look (c := .tup l') hk r with ⟨z, _⟩ | ⟨d', v', z, e2, p⟩
        · rw [show ckey (.tpl l') = .tup l' from rfl, z] at el; cases el
        · rw [show ckey (.tpl l') = .tup l' from rfl, z] at el
          cases el
          exact ⟨a, v', _, rfl, by rw [← e2]; exact DGet.t hh (w.sub _ _ hb), p, h⟩
theorem din_x {φ : Bool → Prop} (w : Wd K M H G) (rx : Rep K G x v) (ry : Rep K G y u) (h : dinQ M x y φ) : ∃ a o, v = .ref a ∧ DGet H a u o ∧ φ o.isSome := by
  obtain ⟨p, l, rfl, hk, h⟩ := h
  cases rx
  rcases hk with ⟨hp, k, hk⟩ | ⟨hp, l', ks, rfl, hk⟩
  · obtain ⟨kvs, hh, r⟩ := (w.cells _ _ hp).2
    have ec : ckey y = y := by cases y <;> first | rfl | cases hk
    rw [ec] at h
    rw [key_v ry hk]
    refine ⟨p, _, rfl, DGet.k (k := k) hh, ?_⟩
    rcases repD_look hk r with ⟨z1, z2⟩ | ⟨_, _, z1, z2, _⟩ <;> (rw [z1] at h; rw [z2]; exact h)
  · obtain ⟨kvs, hh, r⟩ := (w.cells _ _ hp).2
    cases ry with
    | tpl hb rl =>
      have ev := keys_v rl hk
      subst ev
      refine ⟨p, _, rfl, DGet.t (k := ks) hh (w.sub _ _ hb), ?_⟩
      rcases repT_look (c := .tup l') hk r with ⟨z1, z2⟩ | ⟨_, _, z1, z2, _⟩ <;> (rw [show ckey (.tpl l') = .tup l' from rfl, z1] at h; rw [z2]; exact h)
theorem dput_x {φ : Sto → Prop} (w : Wd K M H G) (rx : Rep K G x v) (ry : Rep K G y u) (rd : Rep K G d t) (h : dputQ M x y d φ) : ∃ a H' M', v = .ref a ∧ DPut H a u t H' ∧ φ M' ∧ Wd K M' H' G ∧ Since H G M M' H' G := by
  obtain ⟨p, l, rfl, hl, hk⟩ := h
  cases rx
  rcases hk with ⟨hp, ⟨k, hk⟩, h⟩ | ⟨hp, ⟨l', ks, rfl, hk⟩, h⟩
  · obtain ⟨kvs, hh, r⟩ := (w.cells _ _ hp).2
    rw [key_v ry hk]
    obtain ⟨w1, s1⟩ := cell_put (c := .dic (dput l y d)) (o := .dK (putK kvs k t)) w hp ⟨_, upd_same, repD_put hk rd r⟩
    exact ⟨p, _, _, rfl, DPut.k hh (by rw [← r.length]; exact hl), h, w1, s1⟩
  · obtain ⟨kvs, hh, r⟩ := (w.cells _ _ hp).2
    cases ry with
    | tpl hb rl =>
      have ev := keys_v rl hk
      subst ev
      obtain ⟨w1, s1⟩ := cell_put (c := .dit (dput l (.tup l') d)) (o := .dT (putK kvs ks t)) w hp ⟨_, upd_same, repT_put (c := .tup l') hk rd r⟩
      exact ⟨p, _, _, rfl, DPut.t hh (w.sub _ _ hb) (by rw [← r.length]; exact hl), h, w1, s1⟩
end
theorem units1 {k : Nat} {A : Around} (r : Room k A) : A.units + 1 < cLine := by have := room65 r; omega
section
variable {X : Cx} {B : Bs} {pos p3 : Pos} {a b : Expr} {es : List Expr} {fa fb fc : DTE} {ga : DTA} {k : Nat}
theorem de_dget (hr : Room k X.A) (ha : DE X B a fa) (hb : DE X B b fb) (hs : NoSl b := by exact fun _ _ => rfl) : DE X B (.Subscript a b pos) (fun r M Ψ => fa r M fun x M1 => fb r M1 fun y M2 => dgetQ M2 x y fun d => Ψ d M2) :=
  PE_imp (pe_dget (units1 hr) ha hb hs) fun σ H Q ⟨r, M, G, Ψ, R, h, k⟩ => by
    refine ⟨r, M, G, _, R, h, fun x M1 v H1 G1 q1 R1 s1 p1 => ⟨r, M1, G1, _, R1, q1, fun y M2 u H2 G2 q2 R2 s2 p2 => ?_⟩⟩
    obtain ⟨c, z, d, e, g, p, q⟩ := dget_x R2.wd (p1.mono s2) p2 q2
    exact ⟨c, z, e, g, k _ _ _ _ _ q R2 (s1.tr s2) p⟩
theorem ds_dput {value : Expr} (hr : Room k X.A) (hv : DE X B value fc) (ha : DE X B a fa) (hb : DE X B b fb) (hs : swapsWith value (some (.Subscript a b p3)) pos.line X.env = pure false := by rfl) :
    DS X B (.Assign [.Subscript a b p3] value pos) (fun E r M => fc r M fun d M1 => fa r M1 fun x M2 => fb r M2 fun y M3 => dputQ M3 x y d fun M4 => E.nx r M4) :=
  PS_imp (ps_dput (units1 hr) ha hb hv hs) fun D' σ H h => by
    obtain ⟨r, M, G, E, R, q, k⟩ := EkOk.of h
    refine ⟨r, M, G, _, R, q, fun d M1 v H1 G1 q1 R1 s1 p1 => ?_⟩
    refine ⟨r, M1, G1, _, R1, q1, fun x M2 u H2 G2 q2 R2 s2 p2 => ?_⟩
    refine ⟨r, M2, G2, _, R2, q2, fun y M3 t H3 G3 q3 R3 s3 p3 => ?_⟩
    obtain ⟨c, H', M', e, g, q, w, s⟩ := dput_x R3.wd (p2.mono s3) p3 ((p1.mono s2).mono s3) q3
    exact ⟨c, H', e, g, k.nx _ _ _ _ _ q (R3.go w s) ((s1.tr s2).tr s3)⟩
theorem de_tpl {x1} (h : DA X B es ga) : DE X B (.Tuple es x1 pos) (fun r M Ψ => ga r M fun ds M1 => ds.length ≤ sizeLine ∧ Ψ (.tpl ds) M1) := by
  refine PE_imp (pe_tup h) fun σ H Q ⟨r, M, G, Ψ, R, h, k⟩ => ?_
  refine ⟨r, M, G, _, R, h, fun ds M1 vs H1 G1 ⟨z, q⟩ R1 s1 p1 => ⟨by rw [← p1.length]; exact z, fun p hp => ?_⟩⟩
  have g : Grow H1 G1 (upd H1 p (.tup vs)) (upd G1 p (.tup vs)) := grow_upd R1.wd.sub hp
  exact k _ _ _ _ _ q (R1.grow g) (s1.tr g.gsub) (.tpl upd_same (p1.mono g.gsub))
end
end Z
namespace L2
open PySem PySem.Spec PyProof.Rows
end L2
namespace Z
open PySem PySem.Spec PyProof.Rows L2
section
variable {X : Cx} {B : Bs} {pos : Pos} {a b : Expr} {fk fv : DTE} {k : Nat}
theorem dt_dnin {fb fa : DTE} (hr : Room k X.A) (hb : DE X B b fb) (ha : DE X B a fa) (h1 : behindInMarks .NotIn a = false := by rfl) : DT X B (.Compare b [.NotIn] [a] pos) (fun r M Ψ => fb r M fun y M1 => fa r M1 fun x M2 => dinQ M2 x y fun c => Ψ (!c) M2) :=
  PT_imp (pt_cmp (pc_dnotin (units1 hr) hb ha) h1) fun σ H Q ⟨r, M, G, Ψ, R, h, k⟩ => by
    refine ⟨r, M, G, _, R, h, fun y M1 v H1 G1 q1 R1 s1 p1 => ⟨r, M1, G1, _, R1, q1, fun x M2 u H2 G2 q2 R2 s2 p2 => ?_⟩⟩
    obtain ⟨c, o, e, g, q⟩ := din_x R2.wd p2 (p1.mono s2) q2
    exact ⟨c, o, e, g, _, rfl, k _ _ _ _ q R2 (s1.tr s2)⟩
end
end Z
namespace Z
open PySem PySem.Spec PyProof.Rows L2

noncomputable def wd (t : T4) : List Nat := Classical.epsilon fun w => ∃ u, Tk t w u
noncomputable def lf (t : T4) : T4 := Classical.epsilon fun u => ∃ w, Tk t w u
def tother (c : Nat) : Nat := if c = 76 then 82 else 76
def trn (tu : Bool) (c : Nat) : Nat := if tu = true then tother c else c
noncomputable def gol (tu : Bool) (u : T4) (c : Nat) : T4 := lf (mul4 u (turnT (trn tu c)))
noncomputable def tld (tu : Bool) (u : T4) (c : Nat) : List Nat := wd (mul4 u (turnT (trn tu c)))
open Classical in
noncomputable def insR (l : List T4) (g : T4) : List T4 := if g ∈ l then l else l ++ [g]
noncomputable def stD (tu : Bool) (u : T4) (l : List T4) (c : Nat) : D := .tup [.str ⟨(tld tu u c).toArray⟩, .int (l.idxOf (gol tu u c) : Nat)]
def pr4 (t : T4) : T4 := (t.1.fdiv (gN (iL t)), t.2.1.fdiv (gN (iL t)), t.2.2.1.fdiv (gN (iL t)), t.2.2.2.fdiv (gN (iL t)))
end Z
namespace Z
open PySem PySem.Spec PyProof.Rows L2

variable {M0 M : Sto} {tu : Bool} {p1 p2 p3 p4 : Addr} {l : List T4} {ps : List Addr} {u g : T4}
def cI (i : Nat) : Nat := if i = 0 then 76 else 82
noncomputable def lI (tu : Bool) (l : List T4) (v : T4) : Nat → List T4
  | 0 => l
  | i + 1 => insR (lI tu l v i) (gol tu v (cI i))
noncomputable def rI (tu : Bool) (l : List T4) (v : T4) : Nat → List (D × D)
  | 0 => []
  | i + 1 => dput (rI tu l v i) (.str ⟨#[cI i]⟩) (stD tu v (lI tu l v (i + 1)) (cI i))
end Z
namespace Z
open PySem PySem.Spec PyProof.Rows L2

theorem Tk.sc {t u : T4} {w : List Nat} {m : Int} (hm : 0 < m) (h : Tk t w u) : Tk (Z.sc m t) w (Z.sc m u) := by
  refine ⟨h.lr, by rw [mul_sc4, h.eq], nn_sc' (by omega) h.nn, ?_⟩
  obtain ⟨a, b, c, d⟩ := u
  have e : ∀ x y : Int, (decide (m * x ≤ m * y)) = decide (x ≤ y) := fun x y => by
    by_cases z : x ≤ y
    · rw [decide_eq_true z, decide_eq_true (Int.mul_le_mul_of_nonneg_left z (by omega))]
    · rw [decide_eq_false z, decide_eq_false fun q => z (Int.le_of_mul_le_mul_left q hm)]
  obtain ⟨r, l⟩ := h.bal
  refine ⟨?_, ?_⟩
  · unfold bR Z.sc at *
    dsimp only at *
    rw [e, e]; exact r
  · unfold bL Z.sc at *
    dsimp only at *
    rw [e, e]; exact l
end Z
namespace Z
open PySem PySem.Spec PyProof.Rows L2

end Z
namespace Z
open PySem PySem.Spec PyProof.Rows L2

mutual
def nb : D → D
  | .bl b => .int (if b = true then 1 else 0)
  | .tup l => .tup (nbL l)
  | .tpl l => .tup (nbL l)
  | .lst l => .lst (nbL l)
  | d => d
def nbL : List D → List D
  | [] => []
  | d :: r => nb d :: nbL r
end
mutual
inductive Pb : Nat → D → Prop
  | non {n : Nat} : Pb n .non
  | bl {n : Nat} (b : Bool) : Pb n (.bl b)
  | int {n : Nat} (i : Int) : Pb n (.int i)
  | str {n : Nat} {x : Str} (h : PyData.strOk x = true) : Pb n (.str x)
  | tup {n : Nat} {l : List D} (h : PbL n l) : Pb (n + 1) (.tup l)
  | tpl {n : Nat} {l : List D} (h : PbL n l) : Pb (n + 1) (.tpl l)
  | lst {n : Nat} {l : List D} (h : PbL n l) : Pb (n + 1) (.lst l)
inductive PbL : Nat → List D → Prop
  | nil {n : Nat} : PbL n []
  | cons {n : Nat} {d : D} {l : List D} (h : Pb n d) (r : PbL n l) : PbL n (d :: l)
end
theorem PbL.of {n : Nat} : ∀ {l : List D}, (∀ d ∈ l, Pb n d) → PbL n l
  | [], _ => .nil
  | d :: l, h => .cons (h d List.mem_cons_self) (PbL.of fun e he => h e (List.mem_cons_of_mem _ he))
mutual
theorem Pb.data : ∀ {n : Nat} {d : D}, Pb n d → ∃ p, pd d = some p ∧ PyData.canLay0 p = true ∧ PyData.depth p ≤ n ∧ ∀ (e : D) (m : Nat) (q : PyData), Pb m e → pd e = some q → (PyData.eqv p q = true ↔ nb d = nb e)
  | _, _, .non => ⟨.none, rfl, rfl, Nat.zero_le _, fun e m q h eq => by
      cases h with
      | non => cases eq; exact ⟨fun _ => rfl, fun _ => rfl⟩
      | bl => cases eq; exact ⟨(fun h => by cases h), (fun h => by cases h)⟩
      | int => cases eq; exact ⟨(fun h => by cases h), (fun h => by cases h)⟩
      | str => cases eq; exact ⟨(fun h => by cases h), (fun h => by cases h)⟩
      | tup => obtain ⟨_, _, rfl⟩ := Option.map_eq_some_iff.mp (show (pdL _).map PyData.tuple = some _ from eq); exact ⟨(fun h => by cases h), (fun h => by cases h)⟩
      | tpl => obtain ⟨_, _, rfl⟩ := Option.map_eq_some_iff.mp (show (pdL _).map PyData.tuple = some _ from eq); exact ⟨(fun h => by cases h), (fun h => by cases h)⟩
      | lst => obtain ⟨_, _, rfl⟩ := Option.map_eq_some_iff.mp (show (pdL _).map PyData.list = some _ from eq); exact ⟨(fun h => by cases h), (fun h => by cases h)⟩⟩
  | _, _, .bl b => ⟨.bool b, rfl, rfl, Nat.zero_le _, fun e m q h eq => by
      cases h with
      | non => cases eq; exact ⟨(fun h => by cases h), (fun h => by cases h)⟩
      | bl b' => cases eq; cases b <;> cases b' <;> simp [PyData.eqv, nb]
      | int i => cases eq; cases b <;> simp [PyData.eqv, nb]
      | str => cases eq; exact ⟨(fun h => by cases h), (fun h => by cases h)⟩
      | tup => obtain ⟨_, _, rfl⟩ := Option.map_eq_some_iff.mp (show (pdL _).map PyData.tuple = some _ from eq); exact ⟨(fun h => by cases h), (fun h => by cases h)⟩
      | tpl => obtain ⟨_, _, rfl⟩ := Option.map_eq_some_iff.mp (show (pdL _).map PyData.tuple = some _ from eq); exact ⟨(fun h => by cases h), (fun h => by cases h)⟩
      | lst => obtain ⟨_, _, rfl⟩ := Option.map_eq_some_iff.mp (show (pdL _).map PyData.list = some _ from eq); exact ⟨(fun h => by cases h), (fun h => by cases h)⟩⟩
  | _, _, .int i => ⟨.int i, rfl, rfl, Nat.zero_le _, fun e m q h eq => by
      cases h with
      | non => cases eq; exact ⟨(fun h => by cases h), (fun h => by cases h)⟩
      | bl b' => cases eq; cases b' <;> simp [PyData.eqv, nb]
      | int j => cases eq; simp [PyData.eqv, nb]
      | str => cases eq; exact ⟨(fun h => by cases h), (fun h => by cases h)⟩
      | tup => obtain ⟨_, _, rfl⟩ := Option.map_eq_some_iff.mp (show (pdL _).map PyData.tuple = some _ from eq); exact ⟨(fun h => by cases h), (fun h => by cases h)⟩
      | tpl => obtain ⟨_, _, rfl⟩ := Option.map_eq_some_iff.mp (show (pdL _).map PyData.tuple = some _ from eq); exact ⟨(fun h => by cases h), (fun h => by cases h)⟩
      | lst => obtain ⟨_, _, rfl⟩ := Option.map_eq_some_iff.mp (show (pdL _).map PyData.list = some _ from eq); exact ⟨(fun h => by cases h), (fun h => by cases h)⟩⟩
  | _, _, .str (x := x) hx => ⟨.str x, rfl, hx, Nat.zero_le _, fun e m q h eq => by
      cases h with
      | non => cases eq; exact ⟨(fun h => by cases h), (fun h => by cases h)⟩
      | bl => cases eq; exact ⟨(fun h => by cases h), (fun h => by cases h)⟩
      | int => cases eq; exact ⟨(fun h => by cases h), (fun h => by cases h)⟩
      | str => cases eq; simp [PyData.eqv, nb]
      | tup => obtain ⟨_, _, rfl⟩ := Option.map_eq_some_iff.mp (show (pdL _).map PyData.tuple = some _ from eq); exact ⟨(fun h => by cases h), (fun h => by cases h)⟩
      | tpl => obtain ⟨_, _, rfl⟩ := Option.map_eq_some_iff.mp (show (pdL _).map PyData.tuple = some _ from eq); exact ⟨(fun h => by cases h), (fun h => by cases h)⟩
      | lst => obtain ⟨_, _, rfl⟩ := Option.map_eq_some_iff.mp (show (pdL _).map PyData.list = some _ from eq); exact ⟨(fun h => by cases h), (fun h => by cases h)⟩⟩
  | _, _, .tup (l := l) hl => by
    obtain ⟨ps, e1, c1, d1, k⟩ := hl.pds
    refine ⟨.tuple ps, by show (pdL l).map PyData.tuple = _; rw [e1]; rfl, c1, Nat.succ_le_succ d1, fun e m q h eq => ?_⟩
    cases h with
    | non => cases eq; exact ⟨(fun h => by cases h), (fun h => by cases h)⟩
    | bl => cases eq; exact ⟨(fun h => by cases h), (fun h => by cases h)⟩
    | int => cases eq; exact ⟨(fun h => by cases h), (fun h => by cases h)⟩
    | str => cases eq; exact ⟨(fun h => by cases h), (fun h => by cases h)⟩
    | tup h' =>
      obtain ⟨qs, e2, rfl⟩ := Option.map_eq_some_iff.mp (show (pdL _).map PyData.tuple = some _ from eq)
      exact (k _ _ _ h' e2).trans ⟨fun h => congrArg D.tup h, fun h => by injection h⟩
    | tpl h' =>
      obtain ⟨qs, e2, rfl⟩ := Option.map_eq_some_iff.mp (show (pdL _).map PyData.tuple = some _ from eq)
      exact (k _ _ _ h' e2).trans ⟨fun h => congrArg D.tup h, fun h => by injection h⟩
    | lst => obtain ⟨_, _, rfl⟩ := Option.map_eq_some_iff.mp (show (pdL _).map PyData.list = some _ from eq); exact ⟨(fun h => by cases h), (fun h => by cases h)⟩
  | _, _, .tpl (l := l) hl => by
    obtain ⟨ps, e1, c1, d1, k⟩ := hl.pds
    refine ⟨.tuple ps, by show (pdL l).map PyData.tuple = _; rw [e1]; rfl, c1, Nat.succ_le_succ d1, fun e m q h eq => ?_⟩
    cases h with
    | non => cases eq; exact ⟨(fun h => by cases h), (fun h => by cases h)⟩
    | bl => cases eq; exact ⟨(fun h => by cases h), (fun h => by cases h)⟩
    | int => cases eq; exact ⟨(fun h => by cases h), (fun h => by cases h)⟩
    | str => cases eq; exact ⟨(fun h => by cases h), (fun h => by cases h)⟩
    | tup h' =>
      obtain ⟨qs, e2, rfl⟩ := Option.map_eq_some_iff.mp (show (pdL _).map PyData.tuple = some _ from eq)
      exact (k _ _ _ h' e2).trans ⟨fun h => congrArg D.tup h, fun h => by injection h⟩
    | tpl h' =>
      obtain ⟨qs, e2, rfl⟩ := Option.map_eq_some_iff.mp (show (pdL _).map PyData.tuple = some _ from eq)
      exact (k _ _ _ h' e2).trans ⟨fun h => congrArg D.tup h, fun h => by injection h⟩
    | lst => obtain ⟨_, _, rfl⟩ := Option.map_eq_some_iff.mp (show (pdL _).map PyData.list = some _ from eq); exact ⟨(fun h => by cases h), (fun h => by cases h)⟩
  | _, _, .lst (l := l) hl => by
    obtain ⟨ps, e1, c1, d1, k⟩ := hl.pds
    refine ⟨.list ps, by show (pdL l).map PyData.list = _; rw [e1]; rfl, c1, Nat.succ_le_succ d1, fun e m q h eq => ?_⟩
    cases h with
    | non => cases eq; exact ⟨(fun h => by cases h), (fun h => by cases h)⟩
    | bl => cases eq; exact ⟨(fun h => by cases h), (fun h => by cases h)⟩
    | int => cases eq; exact ⟨(fun h => by cases h), (fun h => by cases h)⟩
    | str => cases eq; exact ⟨(fun h => by cases h), (fun h => by cases h)⟩
    | tup => obtain ⟨_, _, rfl⟩ := Option.map_eq_some_iff.mp (show (pdL _).map PyData.tuple = some _ from eq); exact ⟨(fun h => by cases h), (fun h => by cases h)⟩
    | tpl => obtain ⟨_, _, rfl⟩ := Option.map_eq_some_iff.mp (show (pdL _).map PyData.tuple = some _ from eq); exact ⟨(fun h => by cases h), (fun h => by cases h)⟩
    | lst h' =>
      obtain ⟨qs, e2, rfl⟩ := Option.map_eq_some_iff.mp (show (pdL _).map PyData.list = some _ from eq)
      exact (k _ _ _ h' e2).trans ⟨fun h => congrArg D.lst h, fun h => by injection h⟩
theorem PbL.pds : ∀ {n : Nat} {l : List D}, PbL n l → ∃ ps, pdL l = some ps ∧ PyData.canLayAll0 ps = true ∧ PyData.depthAll ps ≤ n ∧ ∀ (l' : List D) (m : Nat) (qs : List PyData), PbL m l' → pdL l' = some qs → (PyData.eqvAll ps qs = true ↔ nbL l = nbL l')
  | _, _, .nil => ⟨[], rfl, rfl, Nat.zero_le _, fun l' m qs h eq => by
      cases h with
      | nil => cases eq; exact ⟨fun _ => rfl, fun _ => rfl⟩
      | cons h r =>
        unfold pdL at eq
        split at eq
        · cases eq
          exact ⟨(fun h => by cases h), (fun h => by cases h)⟩
        · cases eq⟩
  | _, _, .cons h r => by
    obtain ⟨p, e1, c1, d1, k1⟩ := h.data
    obtain ⟨ps, e2, c2, d2, k2⟩ := r.pds
    refine ⟨p :: ps, by unfold pdL; rw [e1, e2], by show (_ && _) = true; rw [c1, c2]; rfl, Nat.max_le.mpr ⟨d1, d2⟩, fun l' m qs h' eq => ?_⟩
    cases h' with
    | nil => cases eq; exact ⟨(fun h => by cases h), (fun h => by cases h)⟩
    | cons h' r' =>
      unfold pdL at eq
      split at eq
      case h_2 => cases eq
      rename_i p' ps' e1' e2'
      cases eq
      show (PyData.eqv p p' && PyData.eqvAll ps ps') = true ↔ nb _ :: nbL _ = nb _ :: nbL _
      rw [Bool.and_eq_true, k1 _ _ _ h' e1', k2 _ _ _ r' e2', List.cons.injEq]
end
theorem Pb.shaped {n : Nat} {d : D} {p : PyData} (h : Pb n d) (e : pd d = some p) (hn : n ≤ 64) : SeqAt.shaped p = true := by
  obtain ⟨q, e1, c1, d1, _⟩ := h.data
  rw [e] at e1
  cases e1
  unfold SeqAt.shaped
  rw [c1, decide_eq_true (Nat.le_trans d1 hn)]
  rfl
def Big (M : Sto) (x : D) : Prop := (∀ i, x ≠ .int i) ∧ (∀ i, x ≠ .str i) ∧ ∀ i, x ≠ .bl i
theorem eqv_pb {M : Sto} {n m : Nat} {x y dx dy : D} {φ : Bool → Prop} (hx : Pb n dx) (hy : Pb m dy) (hn : n ≤ 64) (hm : m ≤ 64) (ex : toPd M x = pd dx) (ey : toPd M y = pd dy) (nx : Big M x)
    (q : ∀ b : Bool, (b = true ↔ nb dx = nb dy) → φ b) : eqvD M x y φ := by
  have gen : ∃ p q, toPd M x = some p ∧ toPd M y = some q ∧ SeqAt.shaped p = true ∧ SeqAt.shaped q = true ∧ φ (PyData.eqv p q) := by
    obtain ⟨p, e1, _, _, k⟩ := hx.data
    obtain ⟨p', e2, _⟩ := hy.data
    exact ⟨p, p', ex.trans e1, ey.trans e2, hx.shaped e1 hn, hy.shaped e2 hm, q _ (k _ _ _ hy e2)⟩
  unfold eqvD
  split
  · exact absurd rfl (nx.1 _)
  · exact absurd rfl (nx.2.1 _)
  · exact absurd rfl (nx.2.2 _)
  · exact gen
theorem toPd_pb {M : Sto} {n : Nat} {d : D} (h : Pb n d) : toPd M d = pd d := by
  unfold toPd
  cases h with
  | lst h => rfl
  | _ => rfl
theorem nePb {M : Sto} {n m : Nat} {x y : D} {φ : D → Prop} (hx : Pb n x) (hy : Pb m y) (nx : Big M x) (q : ∀ b : Bool, (b = true ↔ nb x = nb y) → φ (.bl (!b))) (hn : n ≤ 64 := by decide) (hm : m ≤ 64 := by decide) : neD M x y φ := by
  unfold neD
  exact eqv_pb (φ := fun b => φ (.bl (!b))) hx hy hn hm (toPd_pb hx) (toPd_pb hy) nx q
theorem map_inj {α β : Type} {f : α → β} (h : ∀ x y, f x = f y → x = y) : ∀ {l m : List α}, l.map f = m.map f → l = m
  | [], [], _ => rfl
  | [], _ :: _, e => by cases e
  | _ :: _, [], e => by cases e
  | x :: l, y :: m, e => by
    rw [List.map_cons, List.map_cons] at e
    injection e with e1 e2
    rw [h _ _ e1, map_inj h e2]
section
variable {X : Cx} {B : Bs} {pos p : Pos} {a b : Expr} {ga : DTA} {C C2 : Addr}
end

section
variable {X : Cx} {B : Bs} {k j n : Nat} {c : Ct} {pos : Pos} {a b : Expr} {fa fb : DTE} {C C2 : Addr} {bs : List (Nat × List Str × (List D → List D → List D))}
end
end Z
namespace Z
open PySem PySem.Spec PyProof.Rows L2

theorem PbL.anys : ∀ {n : Nat} {l : List D}, PbL n l → ∃ ps, pdL l = some ps ∧ PyData.canLayAll0 ps = true ∧ PyData.depthAll ps ≤ n ∧ ps.length = l.length ∧ ∀ (e : D) (m : Nat) (q : PyData), Pb m e → pd e = some q → (∀ (i : Nat) (z : PyData), ps[i]? = some z → ∃ d, l[i]? = some d ∧ (PyData.eqv z q = true ↔ nb d = nb e))
  | _, _, .nil => ⟨[], rfl, rfl, Nat.zero_le _, rfl, fun _ _ _ _ _ i z h => by simp at h⟩
  | _, _, .cons h r => by
    obtain ⟨p, e1, c1, d1, k1⟩ := h.data
    obtain ⟨ps, e2, c2, d2, l2, k2⟩ := r.anys
    refine ⟨p :: ps, by unfold pdL; rw [e1, e2], by show (_ && _) = true; rw [c1, c2]; rfl, Nat.max_le.mpr ⟨d1, d2⟩, by rw [List.length_cons, List.length_cons, l2], fun e m q he eq i z hz => ?_⟩
    match i, hz with
    | 0, hz =>
      cases Option.some.inj hz
      exact ⟨_, rfl, k1 _ _ _ he eq⟩
    | i + 1, hz => exact k2 _ _ _ he eq i z hz
theorem shaped_l {n : Nat} {ps : List PyData} (c : PyData.canLayAll0 ps = true) (d : PyData.depthAll ps ≤ n) (hn : n ≤ 63) : SeqAt.shaped (.list ps) = true := by
  unfold SeqAt.shaped
  show (PyData.canLayAll0 ps && decide (_ ≤ 64)) = true
  rw [c, decide_eq_true (show PyData.depth (.list ps) ≤ 64 from Nat.le_trans (Nat.succ_le_succ d) (Nat.succ_le_succ hn))]
  rfl
theorem inPb {M : Sto} {n m : Nat} {x y : D} {l : List D} {φ : Bool → Prop} (hl : lstOf M y = some l) (hx : Pb m x) (h : PbL n l) (q : ∀ b : Bool, (b = true ↔ nb x ∈ l.map nb) → φ b) (hn : n ≤ 63 := by decide) (hm : m ≤ 64 := by decide) : inQ M x y φ := by
  obtain ⟨ps, e1, c1, d1, len, k⟩ := h.anys
  obtain ⟨p, e2, _⟩ := hx.data
  have gen : ∃ l p ps, lstOf M y = some l ∧ toPd M x = some p ∧ pdL l = some ps ∧ SeqAt.shaped p = true ∧ SeqAt.shaped (.list ps) = true ∧ φ (ps.any fun z => PyData.eqv z p) := by
    refine ⟨l, p, ps, hl, (toPd_pb hx).trans e2, e1, hx.shaped e2 hm, shaped_l c1 d1 hn, q _ ?_⟩
    have k := k x m p hx e2
    rw [List.any_eq_true]
    refine ⟨fun ⟨z, hz, ez⟩ => ?_, fun hmem => ?_⟩
    · obtain ⟨i, hi⟩ := List.getElem?_of_mem hz
      obtain ⟨d, hd, e⟩ := k i z hi
      exact List.mem_map.mpr ⟨d, List.mem_of_getElem? hd, e.mp ez⟩
    · obtain ⟨d, hd, e⟩ := List.mem_map.mp hmem
      obtain ⟨i, hi⟩ := List.getElem?_of_mem hd
      obtain ⟨hi2, _⟩ := List.getElem?_eq_some_iff.mp hi
      have hz : ps[i]? = some (ps[i]'(by omega)) := List.getElem?_eq_getElem (by omega)
      obtain ⟨d', hd', e'⟩ := k i _ hz
      rw [hi] at hd'
      cases hd'
      exact ⟨_, List.mem_of_getElem? hz, e'.mpr e⟩
  unfold inQ
  split
  · cases hl
  · cases hl
  · exact gen
section
variable {X : Cx} {B : Bs} {k : Nat} {o e : Expr} {es : List Expr} {fo : DTE} {ga : DTA} {apos pos p : Pos}
def lidxD (M : Sto) (x : D) (ds : List D) (φ : PD) : Prop := match ds with
  | [y] => ∃ l q ps j z, lstOf M x = some l ∧ toPd M y = some q ∧ pdL l = some ps ∧ SeqAt.shaped q = true ∧ SeqAt.shaped (.list ps) = true ∧ ps[j]? = some z ∧ PyData.eqv z q = true ∧ (∀ (m : Nat) (z' : PyData), m < j → ps[m]? = some z' → PyData.eqv z' q = false) ∧ φ (.int (j : Nat)) M
  | _ => False
theorem ok_lidx {K : PySem.W.Frag} : OkM K (rIndexD K) lidxD := fun M H G x v ds vs φ Q w r rs h k => by
  unfold lidxD at h
  split at h
  · obtain ⟨l, q, ps, j, z, e1, e2, e3, s1, s2, hz, h1, h2, h⟩ := h
    cases rs with
    | cons r1 rs =>
      cases rs
      obtain ⟨a, us, rfl, hr, r2⟩ := lst_rep' w r e1
      exact ⟨_, _, q, ps, j, z, rfl, rfl, .lst hr (dp_all w.sub l _ _ r2 e3), toPd_dp w r1 e2, s2, s1, hz, h1, h2, Post.id k w h .int⟩
  · exact h.elim
theorem de_lidx (hr : Room k X.A) (ho : DE X B o fo) (ha : DA X B [e] ga) (hbase : attributeBase o "index" X.env (eval o X.env) = eval o X.env := by rfl) (hline : (apos.endLine == pos.line) = true := by rfl) (hs : starEach [e] X.env = (false, eval e X.env) :: starEach [] X.env := by rfl)
    (hfew : ((backTo pos (starEach [e] X.env)).all (fun x => !x.1) && (backToKw pos (keywordEach [] X.env)).all (fun x => x.1.isSome)
      && decide ([e].length + ([] : List Keyword).length + (if ([] : List Keyword).isEmpty then 0 else 1) < 30)) = true := by rfl) :
    DE X B (.Call (.Attribute o "index" apos) [e] [] pos) (fun r M Ψ => fo r M fun x M1 => (∃ l, lstOf M1 x = some l) ∧ ga r M1 fun ds M2 => lidxD M2 x ds Ψ) := de_lm1 PySem.F.slot_list_index PySem.F.type_list_index (mt_indexD (room65 hr)) ok_lidx ho ha hbase hfew hline hs rfl
def sidxD (M : Sto) (x : D) (ds : List D) (φ : PD) : Prop := match x, ds with
  | .str a, [.str b] => ∃ (i : Nat) (rest : List Nat), Builtin.Str.occurrences a b 0 a.length 1 = i :: rest ∧ φ (.int (i : Nat)) M
  | _, _ => False
theorem ok_sidx {K : PySem.W.Frag} : OkM K (fun x xs H Q => ∃ a b i rest, x = .str a ∧ xs = [.str b] ∧ Builtin.Str.occurrences a b 0 a.length 1 = i :: rest ∧ Q (.int (i : Nat)) H) sidxD := fun M H G x v ds vs φ Q w r rs h k => by
  unfold sidxD at h
  split at h
  · obtain ⟨i, rest, e, h⟩ := h
    cases r
    cases rs with
    | cons r1 rs =>
      cases rs
      cases r1
      exact ⟨_, _, i, rest, rfl, rfl, e, Post.id k w h .int⟩
  · exact h.elim
theorem de_sidx (ho : DE X B o fo) (ha : DA X B (e :: es) ga) (hbase : attributeBase o "index" X.env (eval o X.env) = eval o X.env := by rfl)
    (hfew : ((backTo pos (starEach (e :: es) X.env)).all (fun x => !x.1) && (backToKw pos (keywordEach [] X.env)).all (fun x => x.1.isSome)
      && decide ((e :: es).length + ([] : List Keyword).length + (if ([] : List Keyword).isEmpty then 0 else 1) < 30)) = true := by rfl)
    (hline : (apos.endLine == pos.line) = true := by rfl) (hs : starEach (e :: es) X.env = (false, eval e X.env) :: starEach es X.env := by rfl) (hplain : (backTo pos (starEach es X.env)).any (·.1) = false := by rfl) :
    DE X B (.Call (.Attribute o "index" apos) (e :: es) [] pos) (fun r M Ψ => fo r M fun x M1 => isS x ∧ ga r M1 fun ds M2 => sidxD M2 x ds Ψ) := de_smN PySem.F.slot_str_index PySem.F.type_str_index mt_sindex ok_sidx ho ha hbase hfew hline hs hplain
end
theorem lidxPb {M : Sto} {n m : Nat} {x y : D} {l : List D} {j : Nat} {φ : PD} (hl : lstOf M x = some l) (hy : Pb m y) (h : PbL n l) (hj : (l.map nb)[j]? = some (nb y)) (hno : ∀ i, i < j → (l.map nb)[i]? ≠ some (nb y)) (q : φ (.int (j : Nat)) M) (hn : n ≤ 63 := by decide) (hm : m ≤ 64 := by decide) : lidxD M x [y] φ := by
  obtain ⟨ps, e1, c1, d1, len, k⟩ := h.anys
  obtain ⟨p, e2, _⟩ := hy.data
  have k := k y m p hy e2
  have hjl : j < l.length := by
    obtain ⟨z, _⟩ := List.getElem?_eq_some_iff.mp hj
    rwa [List.length_map] at z
  have hz : ps[j]? = some (ps[j]'(by omega)) := List.getElem?_eq_getElem (by omega)
  refine ⟨l, p, ps, j, _, hl, (toPd_pb hy).trans e2, e1, hy.shaped e2 hm, shaped_l c1 d1 hn, hz, ?_, fun i z' hi hz' => ?_, q⟩
  · obtain ⟨d, hd, e⟩ := k j _ hz
    rw [List.getElem?_map, hd] at hj
    exact e.mpr (Option.some.inj hj)
  · obtain ⟨d, hd, e⟩ := k i _ hz'
    have := hno i hi
    rw [List.getElem?_map, hd] at this
    cases q : PyData.eqv z' p with
    | false => rfl
    | true => exact absurd (congrArg some (e.mp q)) this
theorem sidx_LR {M : Sto} {c : Nat} {φ : PD} (hc : c = 76 ∨ c = 82) (q : φ (.int ((if c = 76 then 0 else 1 : Nat) : Nat)) M) : sidxD M (.str "LR") [.str ⟨#[c]⟩] φ := by
  rcases hc with rfl | rfl
  · exact ⟨0, [], by decide +kernel, q⟩
  · exact ⟨1, [], by decide +kernel, q⟩
end Z
namespace Z
open PySem PySem.Spec PyProof.Rows L2

variable {M0 M : Sto} {tu : Bool} {p1 p3 p4 : Addr} {l : List T4} {ps : List Addr} {u g : T4}
end Z
namespace Z
open PySem PySem.Spec PyProof.Rows L2

def tab (C : Addr) (t : T4) : D := .obj C [("whole", tD t)]
theorem ix_at {M : Sto} {p : Addr} {l : List D} {k : Nat} {x : D} {φ : D → Prop} (h : M p = some (.lst l)) (e : l[k]? = some x) (q : φ x) : ixD M (.ref p) (.int (k : Int)) φ := by
  show optK (lstOf M (.ref p)) fun l => optK (L2.atI l (k : Int)) φ
  refine optK_of (lstOf_at h) (optK_of ?_ q)
  have hk : k < l.length := by
    obtain ⟨z, _⟩ := List.getElem?_eq_some_iff.mp e
    exact z
  unfold L2.atI L2.ixN
  rw [if_pos (by omega), if_pos (by omega)]
  exact e
theorem ix_ln {M : Sto} {l : List D} {k : Nat} {x : D} {φ : D → Prop} (e : l[k]? = some x) (q : φ x) : ixD M (.lst l) (.int (k : Int)) φ := by
  show optK (lstOf M (.lst l)) fun l => optK (L2.atI l (k : Int)) φ
  refine optK_of (d := l) (by rfl) (optK_of ?_ q)
  have hk : k < l.length := by
    obtain ⟨z, _⟩ := List.getElem?_eq_some_iff.mp e
    exact z
  unfold L2.atI L2.ixN
  rw [if_pos (by omega), if_pos (by omega)]
  exact e
end Z
namespace Z
open PySem PySem.Spec PyProof.Rows L2

noncomputable def goS (tu : Bool) (u : T4) (w : List Nat) : T4 := w.foldl (gol tu) u
noncomputable def pwS (tu : Bool) : T4 → List Nat → List (List Nat)
  | _, [] => []
  | u, c :: w => tld tu u c :: pwS tu (gol tu u c) w
noncomputable def tlS (tu : Bool) (u : T4) (w : List Nat) : List Nat := (pwS tu u w).flatten
section
variable {n : Int} {tu : Bool}
end
noncomputable def vr (tu : Bool) (u : T4) (a r : List Nat) : Nat → T4
  | 0 => goS tu u a
  | i + 1 => goS tu (vr tu u a r i) r
noncomputable def trS (tu : Bool) (u : T4) (a r : List Nat) (i : Nat) : List Nat := tlS tu (vr tu u a r i) r
structure Pcy (tu : Bool) (u : T4) (a r : List Nat) (k p : Nat) : Prop where
  lt : k < p
  eq : vr tu u a r k = vr tu u a r p
  ne : ∀ i j, i < j → j < p → vr tu u a r i ≠ vr tu u a r j
theorem Pcy.uniq {tu : Bool} {u : T4} {a r : List Nat} {k p k' p' : Nat} (h : Pcy tu u a r k p) (h' : Pcy tu u a r k' p') : k = k' ∧ p = p' := by
  have ep : p = p' := by
    rcases Nat.lt_trichotomy p p' with z | z | z
    · exact absurd h.eq (h'.ne _ _ h.lt z)
    · exact z
    · exact absurd h'.eq (h.ne _ _ h'.lt z)
  subst ep
  refine ⟨?_, rfl⟩
  have e := h.eq.trans h'.eq.symm
  rcases Nat.lt_trichotomy k k' with z | z | z
  · exact absurd e (h.ne _ _ z h'.lt)
  · exact z
  · exact absurd e.symm (h.ne _ _ z h.lt)
end Z
namespace Z
open PySem PySem.Spec PyProof.Rows L2

end Z
namespace Z
open PySem PySem.Spec PyProof.Rows L2

def row (C : Addr) (x y : List Nat) : D := .obj C [("whole", .tup [.str ⟨x.toArray⟩, .str ⟨y.toArray⟩])]
end Z
namespace Z
open PySem PySem.Spec PyProof.Rows L2

end Z
namespace Z
open PySem PySem.Spec PyProof.Rows L2

end Z
namespace Z
open PySem PySem.Spec PyProof.Rows L2

end Z
namespace Z
open PySem PySem.Spec PyProof.Rows L2
def obsE (as : List Addr) (fa : List FF) (fn : List DefZ) (g : Addr → Option Obj) : He.AlD := obsZ fa fn (He.frG g as)
def hookE (as : List Addr) (fa : List FF) (fn : List DefZ) : PySem.W.Hook where
  α := He.AlD
  obs := fun s => obsE as fa fn s.heap.get?
  val := fun _ => valZ fn
  says := fun _ h => ∃ K : PySem.W.Frag, K.In h ∧ SaysZ fa fn K
  of := fun _ _ e => ⟨_, He.frG_in, e⟩
  keeps := fun _ _ _ ⟨K, hK, c⟩ k => ⟨K, PySem.W.Frag.In.keeps hK k, c⟩
theorem obsE_eq {as : List Addr} {fa : List FF} {fn : List DefZ} {g : Addr → Option Obj} {s : Shared} (h : ∀ a, g a = s.heap.get? a) : obsE as fa fn g = (hookE as fa fn).obs s := by
  have e : g = s.heap.get? := funext h
  rw [e] <;> rfl
end Z
namespace Z
open PySem PySem.Spec PyProof.Rows L2

section
variable {X : Cx} {B : Bs} {Ξ : XD → En → Sto → Prop}
end

section
variable {X : Cx} {B : Bs} {o : Expr} {fn : Str} {pos : Pos} {C : Addr} {fo : DTE} {to : TE}
end

section
variable {X : Cx} {B : Bs} {Ξ : XD → En → Sto → Prop} {k j : Nat} {c : Ct} {pos apos : Pos} {e o : Expr} {es : List Expr} {ga : DTA} {fo : DTE} {C : Addr} {m : Str}
end

def iSeq (K : PySem.W.Frag) (tl : TE) : TI := fun σ H R => tl σ H fun x H1 => ∃ a, x = .ref a ∧ (((∃ xs, SqL K H1 a xs) ∧ R (Itl K a) H1) ∨ ((∃ xs, SqT K H1 a xs) ∧ R (Itt K a) H1))
theorem pi_seq {X : Cx} {tg l : Expr} {tl : TE} (hl : PE X l tl) : PI X tg l (iSeq X.K tl) := by
  refine ⟨fun pins s σ H R I h => ?_⟩
  refine thn (hl.run pins s σ H _ I h) fun v s1 ⟨x, H1, I1, r1, q1⟩ => ?_
  obtain ⟨a, e, q1⟩ := q1
  subst e
  cases r1
  rcases q1 with ⟨⟨xs, hq⟩, q⟩ | ⟨⟨xs, hq⟩, q⟩
  · obtain ⟨its, rv, p, hz⟩ := I1.list hq
    refine wpAny_pyIter_list p.isList ?_
    refine ⟨s1.heap.objs.size, [s1.heap.objs.size], _, _, H1, rfl, I1.kept (t' := s1.toks) fun b o e => Heap.get?_push_of_some _ e, turn_list a _, ⟨_, Heap.get?_push_size _ rfl, rfl, rfl⟩, fun b hb => ?_, q⟩
    have e : b = s1.heap.objs.size := by simpa using hb
    subst e
    exact I1.fpOk (Nat.le_refl _) (I1.hok.fresh (Nat.le_refl _))
  · obtain ⟨its, rv, p, hz⟩ := I1.tuple hq
    refine wpAny_pyIter_tuple (show s1.heap.IsTuple a its.toArray from p) ?_
    refine ⟨s1.heap.objs.size, [s1.heap.objs.size], _, _, H1, rfl, I1.kept (t' := s1.toks) fun b o e => Heap.get?_push_of_some _ e, turn_tuple a _, ⟨_, Heap.get?_push_size _ rfl, rfl, rfl⟩, fun b hb => ?_, q⟩
    have e : b = s1.heap.objs.size := by simpa using hb
    subst e
    exact I1.fpOk (Nat.le_refl _) (I1.hok.fresh (Nat.le_refl _))
theorem di_seq {X : Cx} {B : Bs} {fa : DTE} {l : Expr} {tg : Expr} (hl : DE X B l fa) : DI X B tg l (fun r M Ψ => fa r M fun d M1 => (∃ xs, lstOf M1 d = some xs ∧ Ψ xs (fun M => lstOf M d = some xs) M1) ∨ ∃ xs, tupOf d = some xs ∧ Ψ xs (fun _ => True) M1) := PI_imp (pi_seq hl) fun σ H Q ⟨r, M, G, Ψ, R, h, k⟩ => by
  refine ⟨r, M, G, _, R, h, fun d M1 v H1 G1 q0 R1 s1 p => ?_⟩
  rcases q0 with ⟨xs, e, q⟩ | ⟨xs, e, q⟩
  · obtain ⟨a, vs, rfl, h1, r1⟩ := lst_rep' R1.wd p e
    refine ⟨a, rfl, .inl ⟨⟨vs, h1⟩, k xs _ M1 _ H1 G1 q R1 s1 fun i r2 M2 σ2 H2 G2 R2 t2 e2 => ?_⟩⟩
    obtain ⟨a', vs', ea, h2, r2⟩ := lst_rep' R2.wd (p.mono t2) e2
    cases ea
    have hl := r2.length
    refine ⟨fun hi => ?_, fun hi => ⟨vs', h2, by omega⟩⟩
    obtain ⟨d', hd⟩ : ∃ d', xs[i]? = some d' := ⟨xs[i], by simp [hi]⟩
    obtain ⟨x, hx, px⟩ := r2.get hd
    refine ⟨⟨vs', x, h2, hx⟩, fun y H' hy => ?_⟩
    obtain ⟨e3, hy⟩ := hy
    subst e3
    have q3 := hy vs' h2
    rw [hx] at q3
    cases q3
    exact ⟨G2, d', Grow.refl R2.wd.sub, hd, px⟩
  · obtain ⟨a, vs, rfl, h1, r1⟩ := tup_rep R1.wd p e
    refine ⟨a, rfl, .inr ⟨⟨vs, h1⟩, k xs _ M1 _ H1 G1 q R1 s1 fun i r2 M2 σ2 H2 G2 R2 t2 _ => ?_⟩⟩
    obtain ⟨a', vs', ea, h2, r2⟩ := tup_rep R2.wd (p.mono t2) e
    cases ea
    have hl := r2.length
    refine ⟨fun hi => ?_, fun hi => ⟨vs', h2, by omega⟩⟩
    obtain ⟨d', hd⟩ : ∃ d', xs[i]? = some d' := ⟨xs[i], by simp [hi]⟩
    obtain ⟨x, hx, px⟩ := r2.get hd
    refine ⟨⟨vs', x, h2, hx⟩, fun y H' hy => ?_⟩
    obtain ⟨e3, hy⟩ := hy
    subst e3
    have q3 := hy vs' h2
    rw [hx] at q3
    cases q3
    exact ⟨G2, d', Grow.refl R2.wd.sub, hd, px⟩

section
variable {X : Cx} {tg : Expr}
end
end Z
namespace Z
open PySem PySem.Spec PyProof.Rows L2

abbrev Pc := List Nat × Nat
def fltP (L : List Pc) : List Pc := L.filter fun q => decide (q.1 ≠ []) && decide (0 < q.2)
noncomputable def cyc2 (tu : Bool) (v : T4) (x : List Nat) : Nat × Nat := by
  classical
  exact if h : ∃ q : Nat × Nat, Pcy tu v [] x q.1 q.2 then h.choose else (0, 1)
def lnP (T : Nat → List Nat) (i : Nat) : List Pc := (List.range i).map fun j => (T j, 1)
def oftP (T : Nat → List Nat) (N k p : Nat) : List Pc :=
  if N ≤ p then lnP T N else lnP T p ++ [(((List.range (p - k)).map fun i => T (k + i)).flatten, (N - p) / (p - k))] ++ lnP (fun i => T (k + i)) ((N - p) % (p - k))
noncomputable def fdP (tu : Bool) (v : T4) (x : List Nat) (N : Nat) : List Pc := fltP (oftP (trS tu v [] x) N (cyc2 tu v x).1 (cyc2 tu v x).2)
noncomputable def fdR (tu : Bool) (v : T4) (x : List Nat) (N : Nat) : T4 := if N ≤ (cyc2 tu v x).2 then vr tu v [] x N else vr tu v [] x ((cyc2 tu v x).1 + (N - (cyc2 tu v x).2) % ((cyc2 tu v x).2 - (cyc2 tu v x).1))
structure Fst where
  v : T4
  came : Nat
  L : List Pc
noncomputable def Fst.item (tu : Bool) (s : Fst) (x : List Nat) (N : Nat) : Fst := ⟨fdR tu s.v x N, s.came + x.length * N, s.L ++ fdP tu s.v x N⟩
noncomputable def Fst.items (tu : Bool) (s : Fst) (l : List Pc) : Fst := l.foldl (fun s q => s.item tu q.1 q.2) s
end Z
namespace Z
open PySem PySem.Spec PyProof.Rows L2

end Z
namespace Z
open PySem PySem.Spec PyProof.Rows L2

end Z
namespace Z
open PySem PySem.Spec PyProof.Rows L2

end Z
namespace Z
open PySem PySem.Spec PyProof.Rows L2

end Z
namespace Z
open PySem PySem.Spec PyProof.Rows L2

section
variable {prog : Program} {w : World} {A : Around} {E : Value → Shared → Prop} {s : Shared}
end
abbrev DPat := D → Sto → (Option (List D) → Prop) → Prop
abbrev DPats := List D → Sto → (Option (List D) → Prop) → Prop
section
variable {f : DPat} {g' : DPats} {is : List Nat} {g : DTS} {h : D → DTS} {E : Ek} {r : En} {M : Sto} {l : List D} {n k : Nat} {i j : Str}
end
section
variable {X : Cx} {B : Bs} {pos : Pos}
end
section
variable {prog : Program} {w : World} {A : Around} {E : Value → Shared → Prop} {s : Shared}
end
section
variable {X : Cx} {B : Bs} {pos : Pos}
end
end Z
namespace Z
open PySem PySem.Spec PyProof.Rows L2

section
variable {X : Cx} {B : Bs} {pos p p1 p2 p3 : Pos} {e o : Expr} {es : List Expr} {fa fo : DTE} {ga : DTA} {k : Nat}
def seqOf (M : Sto) (d : D) : Option (List D) := match tupOf d with
  | some l => some l
  | none => lstOf M d
theorem seq_rep {K : PySem.W.Frag} {M : Sto} {H G : Hp} {d : D} {v : V} {l : List D} (w : Wd K M H G) (r : Rep K G d v) (e : seqOf M d = some l) : ∃ a vs, v = .ref a ∧ (SqT K H a vs ∨ SqL K H a vs) ∧ RepL K G l vs := by
  unfold seqOf at e
  cases h : tupOf d with
  | some l' =>
    rw [h] at e
    cases e
    obtain ⟨a, vs, e1, h1, r1⟩ := tup_rep w r h
    exact ⟨a, vs, e1, .inl h1, r1⟩
  | none =>
    rw [h] at e
    obtain ⟨a, vs, e1, h1, r1⟩ := lst_rep' w r e
    exact ⟨a, vs, e1, .inr h1, r1⟩
theorem RepL.reverse {K : PySem.W.Frag} {G : Hp} : ∀ {ds : List D} {vs : List V}, RepL K G ds vs → RepL K G ds.reverse vs.reverse
  | _, _, .nil => .nil
  | d :: ds, v :: vs, .cons h r => by
    rw [List.reverse_cons, List.reverse_cons]
    exact r.reverse.app (.cons h .nil)
theorem da_star (he : DE X B e fa) (hr : DA X B es ga) (hs : starEach (.Starred e p :: es) X.env = (true, eval e X.env) :: starEach es X.env := by rfl) :
    DA X B (.Starred e p :: es) (fun r M Ψ => fa r M fun d M1 => ∃ l, seqOf M1 d = some l ∧ ga r M1 fun ds M2 => Ψ (l ++ ds) M2) :=
  PA_imp (StX.pa_star he hr hs) fun σ H Q ⟨r, M, G, Ψ, R, h, kk⟩ => by
    refine ⟨r, M, G, _, R, h, fun d M1 v H1 G1 ⟨l, hl, q⟩ R1 s1 p1 => ?_⟩
    obtain ⟨a, vs, e1, h1, r1⟩ := seq_rep R1.wd p1 hl
    exact ⟨a, vs, e1, h1, r, M1, G1, _, R1, q, fun ds M2 us H2 G2 q2 R2 s2 p2 => kk _ _ _ _ _ q2 R2 (s1.tr s2) ((r1.mono s2).app p2)⟩
theorem de_revL (he : DE X B e fa) : DE X B (.Subscript e (.Slice none none (some (.UnaryOp .USub (.Constant (.int 1) k p1) p2)) p3) pos) (fun r M Ψ => fa r M fun d M1 => ∃ l, lstOf M1 d = some l ∧ Ψ (.lst l.reverse) M1) :=
  PE_imp (pe_revL he) fun σ H Q ⟨r, M, G, Ψ, R, h, kk⟩ => by
    refine ⟨r, M, G, _, R, h, fun d M1 v H1 G1 ⟨l, hl, q⟩ R1 s1 p1 => ?_⟩
    obtain ⟨a, vs, e1, h1, r1⟩ := lst_rep' R1.wd p1 hl
    refine ⟨a, vs, e1, h1, fun c hc => ?_⟩
    have g : Grow H1 G1 (upd H1 c (.lst vs.reverse)) (upd G1 c (.lst vs.reverse)) := grow_upd R1.wd.sub hc
    exact kk _ _ _ _ _ q (R1.grow g) (s1.tr g.gsub) (.lst (.inl upd_same) (RepL.reverse (r1.mono g.gsub)))
end
end Z
namespace Z
open PySem PySem.Spec PyProof.Rows L2

theorem strs_of {K : PySem.W.Frag} {G : Hp} : ∀ {xs : List Str} {vs : List V}, RepL K G (xs.map .str) vs → vs = xs.map V.str
  | [], _, h => by cases h; rfl
  | x :: xs, _, h => by
    cases h with
    | cons h1 h2 =>
      cases h1
      rw [strs_of h2]
      rfl
section
variable {X : Cx} {B : Bs} {pos p : Pos} {e : Expr} {ga : DTA}
end
section
variable {X : Cx} {B : Bs} {pos : Pos} {a b : Expr} {fa fb : DTE}
end
section
variable {X : Cx} {B : Bs} {pos p : Pos} {e : Expr} {ga : DTA} {fa : DTE}
end
section
variable {vs : List Nat} {wi : DTI} {as : D → En → (En → Prop) → Prop} {fe : DTE} {r : En} {M : Sto} {Φ : List D → Sto → Prop}
end
end Z
namespace Z
open PySem PySem.Spec PyProof.Rows L2

inductive Pg where
  | tab (t : T4) | trn (w : Str) | swp | thn (l : List Pg) | tms (n : Int) (p : Pg) | use (x : Str)
mutual
/-- how deep it is nested -/
def pgK : Pg → Nat
  | .thn l => pgKs l + 1
  | .tms _ p => pgK p + 1
  | _ => 1
def pgKs : List Pg → Nat
  | [] => 0
  | p :: l => max (pgK p) (pgKs l)
end
mutual
/-- how many parts there are -/
def pgN : Pg → Nat
  | .thn l => pgNs l + 1
  | .tms _ p => pgN p + 1
  | _ => 1
def pgNs : List Pg → Nat
  | [] => 0
  | p :: l => pgN p + pgNs l
end
def PgS : Pg → Prop
  | .thn l => l.length + 1 ≤ 16384
  | _ => True
mutual
/-- the names in the order of writing -/
def pgU : Pg → List Str
  | .use x => [x]
  | .thn l => pgUs l
  | .tms _ p => pgU p
  | _ => []
def pgUs : List Pg → List Str
  | [] => []
  | p :: l => pgU p ++ pgUs l
end
def NameOk (x : Str) : Prop := 1 ≤ x.cps.size ∧ x.cps.size ≤ 8 ∧ x ≠ "swap" ∧ x ≠ "then" ∧ ∀ c ∈ x.cps.toList, 97 ≤ c ∧ c ≤ 122
def TabOk (t : T4) : Prop := Nn t ∧ t.1 ≤ 60 ∧ t.2.1 ≤ 60 ∧ t.2.2.1 ≤ 60 ∧ t.2.2.2 ≤ 60 ∧ det4 t ≠ 0
def PtOk : Pg → Prop
  | .tab t => TabOk t
  | .trn w => LR w.cps.toList ∧ 1 ≤ w.cps.size ∧ w.cps.size ≤ 60
  | .swp => True
  | .thn l => 2 ≤ l.length ∧ l.length ≤ 6
  | .tms n _ => 0 ≤ n ∧ n ≤ 12
  | .use x => NameOk x
mutual
def PgOk : Pg → Prop
  | .thn l => PtOk (.thn l) ∧ PgOks l
  | .tms n p => PtOk (.tms n p) ∧ PgOk p
  | p => PtOk p
def PgOks : List Pg → Prop
  | [] => True
  | p :: l => PgOk p ∧ PgOks l
end
theorem strOk_of {x : Str} (h : ∀ c ∈ x.cps.toList, c < 0x110000) : PyData.strOk x = true := by
  unfold PyData.strOk
  rw [Array.all_eq_true]
  intro i hi
  exact decide_eq_true (h _ (by rw [← Array.getElem_toList (h := hi)]; exact List.getElem_mem _))
theorem LR.lt {l : List Nat} (h : LR l) : ∀ c ∈ l, c < 0x110000 := fun c hc => by have := h c hc; omega
theorem PgOk.s {p : Pg} (h : PgOk p) : PgS p := by
  cases p with
  | thn l => have := h.1.2; show l.length + 1 ≤ 16384; omega
  | _ => trivial
theorem rs_same {M0 M : Sto} (h : ∀ a, M0 a ≠ none → M a = M0 a) : rs M0 M = M0 := by
  funext a
  unfold rs
  cases e : M0 a with
  | none => rfl
  | some c =>
    show M a = some c
    rw [h a (by rw [e]; simp), e]
theorem least {p : Nat → Prop} (h : ∃ n, p n) : ∃ n, p n ∧ ∀ m, p m → n ≤ m := by
  obtain ⟨n, hn⟩ := h
  induction n using Nat.strongRecOn with
  | ind n ih =>
    by_cases e : ∃ m, m < n ∧ p m
    · obtain ⟨m, hm, pm⟩ := e
      exact ih m hm pm
    · exact ⟨n, hn, fun m pm => Nat.le_of_not_lt fun hm => e ⟨m, hm, pm⟩⟩
open Classical in
noncomputable def muJ (J : Nat → En → Sto → Prop) (r : En) (M : Sto) : Nat := if h : ∃ n, J n r M then Classical.choose (least h) else 0
theorem muJ_at {J : Nat → En → Sto → Prop} {r : En} {M : Sto} (h : ∃ n, J n r M) : ∃ n, J n r M ∧ muJ J r M = n := by
  refine ⟨_, (Classical.choose_spec (least h)).1, ?_⟩
  unfold muJ
  rw [dif_pos h]
theorem muJ_le {J : Nat → En → Sto → Prop} {r : En} {M : Sto} {n : Nat} (h : J n r M) : muJ J r M ≤ n := by
  unfold muJ
  rw [dif_pos ⟨n, h⟩]
  exact (Classical.choose_spec (least ⟨n, h⟩)).2 n h
def capT (t : T4) : Option T4 := if (pr4 t).1 ≤ 1000000 ∧ (pr4 t).2.1 ≤ 1000000 ∧ (pr4 t).2.2.1 ≤ 1000000 ∧ (pr4 t).2.2.2 ≤ 1000000 then some (pr4 t) else none
def stepT (f : Option T4) (d : Option T4) : Option T4 := match d, f with
  | some d, some f => capT (mul4 d f)
  | _, _ => none
def powT (d : Option T4) (n : Nat) : Option T4 := (List.range n).foldl (fun f _ => stepT f d) (some O4)
mutual
def tbl (g : Str → Option T4) : Pg → Option T4
  | .tab t => capT t
  | .trn w => capT (wL w.cps.toList)
  | .swp => some (0, 1, 1, 0)
  | .thn l => match tbls g l with
    | [] => none
    | d :: r => r.foldl stepT d
  | .tms n p => match tbl g p with
    | none => none
    | some t => powT (some t) n.toNat
  | .use x => g x
def tbls (g : Str → Option T4) : List Pg → List (Option T4)
  | [] => []
  | p :: l => tbl g p :: tbls g l
end
theorem Dr.rs {p : Addr} {M M' M8 : Sto} (d : Dr p M M') (h0 : HandAt M p) (h : ∀ a, M' a ≠ none → M8 a = M' a) : Dr p M (rs M M8) := by
  obtain ⟨hh, e0, _⟩ := h0
  obtain ⟨h1, e1, h2⟩ := d.1
  have e8 : Z.rs M M8 p = some (hd h1) := by
    unfold Z.rs
    rw [e0]
    show M8 p = _
    rw [h p (by rw [e1]; simp), e1]
  refine ⟨⟨h1, e8, h2⟩, fun q hq => ?_⟩
  unfold Z.rs
  cases e : M q with
  | none => rfl
  | some c =>
    show M8 q = some c
    have := d.2 q hq
    rw [h q (by rw [this, e]; simp), this, e]
def rl5 : Str := Txt.mul "RL" 5
def addS (acc : List Str) (x : Str) : List Str := if x ∈ acc then acc else acc ++ [x]
def dd (xs : List Str) : List Str := xs.foldl addS []
end Z
namespace Z
open PySem PySem.Spec PyProof.Rows L2 PySem.NumText

def strC (x : Str) : List Nat := x.cps.toList
def decC (i : Int) : List Nat := strC (Str.ofString (toString i))
end Z
namespace Z
open PySem PySem.Spec PyProof.Rows L2

section
variable {P : Program} {w : World} {K : PySem.W.Frag} {mg : Str → Option Value} {base : Heap}
end
section
variable {X : Cx} {B : Bs} {Ξ : XD → En → Sto → Prop} {pos p : Pos} {e : Expr} {es : List Expr} {ga : DTA} {k n : Nat} {x : Str} {C : Addr} {g : List V → List (Str × V)}
end
section
variable {X : Cx} {B : Bs} {Ξ : XD → En → Sto → Prop} {pos p cpos : Pos} {e : Expr} {es : List Expr} {ga : DTA} {k : Nat} {x : Str} {C : Addr}
end
section
variable {P : Program} {w : World} {K : PySem.W.Frag} {mg : Str → Option Value} {base : Heap} {x qual : Str} {st : Stmt} {f : Addr} {fd : FuncData} {N ps : List Str} {k : Nat} {dvs : List V} {kws : List (Str × V)}
end
section
variable {X : Cx} {B : Bs} {Ξ : XD → En → Sto → Prop} {pos p np pos' : Pos} {e : Expr} {es : List Expr} {ga : DTA} {j k n : Nat} {x : Str} {c : Ct} {bs : List (Nat × List Str × (List D → List D → List D))} {g : List D → List D → List D}
end
end Z
namespace Z
open PySem PySem.Spec PyProof.Rows L2

section
variable {ts : List DTE} {t : DTE} {a w : List Nat} {r : En} {M : Sto} {φ : Str → Sto → Prop}
end
theorem addW {M : Sto} {x y : List Nat} {a b : Str} {φ : D → Prop} (ea : a = ⟨x.toArray⟩) (eb : b = ⟨y.toArray⟩) (hl : x.length + y.length ≤ 400000) (q : φ (.str ⟨(x ++ y).toArray⟩)) : addD M (.str a) (.str b) φ := by
  subst ea eb
  refine ⟨?_, ?_⟩
  · show x.toArray.size + y.toArray.size ≤ sizeLine
    rw [List.size_toArray, List.size_toArray]
    exact Nat.le_trans (show _ ≤ 1000000 by omega) big_ok
  · rw [wapp]
    exact q
def wB (d : D) : Bool := match d with
  | .str x => x.cps.toList.all fun c => decide (c ∈ ("LR" : Str).cps.toList)
  | _ => false
def inB (d : D) (a b : Int) : Bool := match d with
  | .int i => decide (a ≤ i) && decide (i ≤ b)
  | _ => false
def newW (pth : List Nat) (l : List Pg) : List (Pg × List Nat) := (List.zip (List.range l.length) l).map fun x => (x.2, pth ++ [x.1])
end Z
namespace Z
open PySem PySem.Calls PySem.Spec PyProof.Rows PySem.Builtin PySem.Builtin.ObjectAttr PySem.Builtin.Getset_descriptor

section
variable {prog : Program} {w : World} {A : Around} {s : Shared} {K : PySem.W.Frag} {p x C fs : Addr} {R : Result → Shared → Prop} {v : Value}
end
section
open L2
variable {X : Cx} {B : Bs} {Ξ : XD → En → Sto → Prop} {k j n : Nat} {c : Ct} {pos p' : Pos} {o value : Expr} {fa fo : DTE} {C : Addr} {fn : Str}
end
section
open L2
variable {P : Program} {w : World} {K : PySem.W.Frag} {mg : Str → Option Value} {base : Heap} {x m : Str} {fd : FuncData} {ps : List Str} {k : Nat} {c : Ct}
end
end Z
namespace Z
open PySem PySem.Spec PyProof.Rows

section
variable {prog : Program} {w : World} {K : Type} [DecidableEq K] {knd : KeyKind prog w K} {A : Around} {E : Value → Shared → Prop} {s : Shared}
end
section
open L2
end
end Z
namespace Z
open PySem PySem.Spec PyProof.Rows L2

section
variable {K : PySem.W.Frag} {B : Bs} {r : En} {M : Sto} {σ : L2.St} {H G : Hp} {p : Addr} {l : List (D × D)} {kvs : List (Key × V)} {o : Obj}
end
section
variable {X : Cx} {B : Bs} {pos : Pos} {e de ke ve : Expr} {fa fd fk fv : DTE} {k : Nat}
end
section
variable {X : Cx} {B : Bs} {pos : Pos} {fk fe : DTE} {tt : DTT} {k : Nat}
end
end Z
namespace Z
open PySem PySem.Spec PyProof.Rows L2

section
variable {X : Cx} {B : Bs} {apos cpos p1 : Pos} {e f : Expr} {fe ff : DTE} {x : Str} {kvs : List (Str × Int)} {ty tx : TE}
end
section
variable {X : Cx} {B : Bs} {apos cpos p1 : Pos} {e f : Expr} {fe ff : DTE} {x : Str} {kvs : List (Str × Int)}
end
end Z
namespace Z
open PySem PySem.Spec PyProof.Rows L2

section
variable {X : Cx} {e : Expr} {te : TE} {p apos cpos pos : Pos}
end
section
variable {X : Cx} {B : Bs} {p apos cpos pos : Pos} {e : Expr} {fa : DTE}
end
section
variable {X : Cx} {B : Bs} {pos p : Pos} {e : Expr} {ga : DTA}
end
end Z
namespace Z
open PySem PySem.Spec PyProof.Rows L2

abbrev Ps := List (Str × Pg)
abbrev Ts := List (Str × T4)
def nms {α : Type} (ps : List (Str × α)) : List Str := ps.map (·.1)
def tbsA : Ts → Ps → Option Ts
  | acc, [] => some acc
  | acc, q :: r => match tbl (fun y => acc.lookup y) q.2 with
    | some t => tbsA (acc ++ [(q.1, t)]) r
    | none => none
def tbs (ps : Ps) : Option Ts := tbsA [] ps
structure PsOk (ps : Ps) : Prop where
  few : ps.length ≤ 30
  nd : (nms ps).Nodup
  ok : ∀ q ∈ ps, NameOk q.1 ∧ PgOk q.2 ∧ pgK q.2 ≤ 8 ∧ pgN q.2 ≤ 5000
  use : ∀ i q, ps[i]? = some q → ∀ x ∈ pgU q.2, x ∈ nms (ps.take i)
def put {α : Type} : List (Str × α) → Str → α → List (Str × α)
  | [], x, a => [(x, a)]
  | q :: r, x, a => if q.1 = x then (x, a) :: r else q :: put r x a
def ahead (ps : Ps) (x : Str) : List Str := (nms ps).take ((nms ps).idxOf x)
section
variable {X : Cx} {B : Bs} {pos p : Pos} {e : Expr} {ga : DTA}
end
end Z
namespace Z
open PySem PySem.Spec PyProof.Rows L2

section
variable {X : Cx} {B : Bs} {a b : Expr} {fa fb : DTE} {k : Nat} {pos : Pos}
end
section
variable {X : Cx} {B : Bs} {a b : Expr} {fa fb : DTE} {k : Nat} {pos : Pos}
end
section
variable {X : Cx} {B : Bs} {e l tg : Expr} {fa : DTE}
end
end Z
namespace Z
open PySem PySem.Spec PyProof.Rows L2

section
variable {α β : Type}
theorem mem_nms {ps : List (Str × α)} {q : Str × α} (h : q ∈ ps) : q.1 ∈ nms ps := List.mem_map.mpr ⟨q, h, rfl⟩
theorem nms_app (a b : List (Str × α)) : nms (a ++ b) = nms a ++ nms b := List.map_append
theorem put_not {ps : List (Str × α)} {x : Str} {a : α} (hx : x ∉ nms ps) : put ps x a = ps ++ [(x, a)] := by
  induction ps with
  | nil => rfl
  | cons q r ih =>
    have e : q.1 ≠ x := fun z => hx (by rw [← z]; exact List.mem_cons_self)
    rw [put, if_neg e, ih fun z => hx (List.mem_cons_of_mem _ z)]
    rfl
theorem put_nms {ps : List (Str × α)} {x : Str} {a : α} (hx : x ∈ nms ps) : nms (put ps x a) = nms ps := by
  induction ps with
  | nil => cases hx
  | cons q r ih =>
    by_cases e : q.1 = x
    · rw [put, if_pos e]
      show x :: nms r = q.1 :: nms r
      rw [e]
    · rw [put, if_neg e]
      show q.1 :: nms (put r x a) = q.1 :: nms r
      rw [ih ((List.mem_cons.mp hx).resolve_left fun z => e z.symm)]
theorem put_get {ps : List (Str × α)} {x : Str} {a : α} {i : Nat} {q : Str × α} (h : (put ps x a)[i]? = some q) : q = (x, a) ∧ (i = (nms ps).idxOf x) ∨ ps[i]? = some q := by
  induction ps generalizing i with
  | nil =>
    cases i with
    | zero => cases h; exact .inl ⟨rfl, rfl⟩
    | succ i => simp [put] at h
  | cons p r ih =>
    by_cases e : p.1 = x
    · rw [put, if_pos e] at h
      cases i with
      | zero => cases h; exact .inl ⟨rfl, by show 0 = List.idxOf x (p.1 :: nms r); rw [e, List.idxOf_cons_self]⟩
      | succ i => exact .inr h
    · rw [put, if_neg e] at h
      cases i with
      | zero => exact .inr h
      | succ i =>
        rcases ih (i := i) h with ⟨h1, h2⟩ | h1
        · refine .inl ⟨h1, ?_⟩
          show i + 1 = List.idxOf x (p.1 :: nms r)
          rw [List.idxOf_cons, show (p.1 == x) = false from by simpa using e, h2]; rfl
        · exact .inr h1
end
def dl {α : Type} (x : Str) (a : List (Str × α)) : List (Str × α) := a.filter fun q => decide (q.1 ≠ x)
theorem nms_take {α : Type} (ps : List (Str × α)) (i : Nat) : nms (ps.take i) = (nms ps).take i := List.map_take
theorem PsOk.nil : PsOk [] := ⟨by simp, List.nodup_nil, (fun q h => nomatch h), (fun i q h => by simp at h)⟩
theorem PsOk.put {ps : Ps} (h : PsOk ps) {x : Str} {p : Pg} (hx : NameOk x) (hp : PgOk p ∧ pgK p ≤ 8 ∧ pgN p ≤ 5000) (hu : ∀ y ∈ pgU p, y ∈ ahead ps x) (hl : x ∉ nms ps → ps.length < 30) : PsOk (put ps x p) := by
  by_cases e : x ∈ nms ps
  · have en := put_nms (a := p) e
    refine ⟨?_, by rw [en]; exact h.nd, fun q hq => ?_, fun i q hq y hy => ?_⟩
    · have := congrArg List.length en
      rw [show (nms (Z.put ps x p)).length = (Z.put ps x p).length from List.length_map .., show (nms ps).length = ps.length from List.length_map ..] at this
      rw [this]; exact h.few
    · obtain ⟨i, hi⟩ := List.mem_iff_getElem?.mp hq
      rcases put_get hi with ⟨rfl, _⟩ | hi
      · exact ⟨hx, hp⟩
      · exact h.ok q (List.mem_of_getElem? hi)
    · rw [nms_take, en]
      rcases put_get hq with ⟨rfl, rfl⟩ | hi
      · exact hu y hy
      · rw [← nms_take]; exact h.use i q hi y hy
  · rw [put_not e]
    refine ⟨by rw [List.length_append]; have := hl e; simp; omega, by
      rw [nms_app]
      exact List.nodup_append.mpr ⟨h.nd, by simp [nms], fun a ha b hb => by
        obtain rfl := List.mem_singleton.mp hb
        exact fun z => e (by rw [← z]; exact ha)⟩, fun q hq => ?_, fun i q hq y hy => ?_⟩
    · rcases List.mem_append.mp hq with hq | hq
      · exact h.ok q hq
      · obtain rfl := List.mem_singleton.mp hq; exact ⟨hx, hp⟩
    · rw [List.getElem?_append] at hq
      split at hq
      · rename_i hi
        rw [List.take_append_of_le_length (Nat.le_of_lt hi)]
        exact h.use i q hq y hy
      · rename_i hi
        have hi2 : i = ps.length := by
          have := List.getElem?_eq_some_iff.mp hq
          obtain ⟨h1, _⟩ := this
          simp at h1
          omega
        subst hi2
        simp at hq
        subst hq
        rw [List.take_left]
        have := hu y hy
        unfold ahead at this
        exact List.mem_of_mem_take this
theorem PsOk.drop {ps : Ps} (h : PsOk ps) {x : Str} (hu : ∀ q ∈ ps, x ∉ pgU q.2) : PsOk (dl x ps) := by
  have key : ∀ (ps : Ps) (pre : List Str), (∀ q ∈ ps, x ∉ pgU q.2) → (∀ i q, ps[i]? = some q → ∀ y ∈ pgU q.2, y ∈ pre ++ nms (ps.take i)) → ∀ i q, (dl x ps)[i]? = some q → ∀ y ∈ pgU q.2, y ∈ pre ∨ y ∈ nms ((dl x ps).take i) := by
    intro ps
    induction ps with
    | nil => intro pre _ _ i q hq; simp [dl] at hq
    | cons p r ih =>
      intro pre hu hh i q hq y hy
      have r1 := fun q hq => hu q (List.mem_cons_of_mem _ hq)
      have r2 : ∀ i q, r[i]? = some q → ∀ y ∈ pgU q.2, y ∈ (pre ++ [p.1]) ++ nms (r.take i) := fun i q hi y hy => by
        have := hh (i + 1) q hi y hy
        rw [List.take_succ_cons] at this
        rw [List.append_assoc]
        exact this
      by_cases e : p.1 = x
      · have e1 : dl x (p :: r) = dl x r := List.filter_cons_of_neg (by simp [e])
        rw [e1] at hq ⊢
        rcases ih (pre ++ [p.1]) r1 r2 i q hq y hy with h | h
        · rcases List.mem_append.mp h with h | h
          · exact .inl h
          · obtain rfl := List.mem_singleton.mp h
            exfalso
            have hm : q ∈ dl x r := List.mem_of_getElem? hq
            exact r1 q (List.mem_filter.mp hm).1 (by rw [← e]; exact hy)
        · exact .inr h
      · have e1 : dl x (p :: r) = p :: dl x r := List.filter_cons_of_pos (by simp [e])
        rw [e1] at hq ⊢
        cases i with
        | zero =>
          cases hq
          have := hh 0 p rfl y hy
          simp [nms] at this
          exact .inl this
        | succ i =>
          rcases ih (pre ++ [p.1]) r1 r2 i q hq y hy with h | h
          · rcases List.mem_append.mp h with h | h
            · exact .inl h
            · obtain rfl := List.mem_singleton.mp h
              exact .inr (by rw [List.take_succ_cons]; exact List.mem_cons_self)
          · exact .inr (by rw [List.take_succ_cons]; exact List.mem_cons_of_mem _ h)
  refine ⟨Nat.le_trans (List.length_filter_le ..) h.few, ?_, fun q hq => h.ok q (List.mem_filter.mp hq).1, fun i q hq y hy => ?_⟩
  · exact List.Nodup.sublist (List.Sublist.map _ (List.filter_sublist)) h.nd
  · rcases key ps [] hu (fun i q hi y hy => by rw [List.nil_append]; exact h.use i q hi y hy) i q hq y hy with h | h
    · cases h
    · exact h
end Z
namespace Z
open PySem PySem.Spec PyProof.Rows L2

theorem two_map {α β γ : Type} {R : β → γ → Prop} {f : α → β} {g : α → γ} : ∀ {l : List α}, (∀ p ∈ l, R (f p) (g p)) → Two R (l.map f) (l.map g)
  | [], _ => .nil
  | a :: l, h => .cons (h a List.mem_cons_self) (two_map fun p hp => h p (List.mem_cons_of_mem _ hp))
theorem NameOk.st {x : Str} (h : NameOk x) : PyData.strOk x = true := strOk_of fun c hc => by have := h.2.2.2.2 c hc; omega
structure Bk where
  ps : Ps
  ts : Ts
  er : List Ps
  la : List Ps
  ml : List (Str × D)
  many : Nat
  gr : Int
structure Bd where
  b : Addr
  e : Addr
  l : Addr
  m : Addr
def Bd.has (A : Bd) (a : Addr) : Prop := a = A.b ∨ a = A.e ∨ a = A.l ∨ a = A.m
def keepM (ts' ts : Ts) (ml : List (Str × D)) : List (Str × D) := ml.filter fun q => (ts'.lookup q.1).isSome && decide (ts'.lookup q.1 = ts.lookup q.1)
def Bk.turn (S : Bk) (qs : Ps) (ts : Ts) : Bk := { S with ps := qs, ts := ts, ml := keepM ts S.ts S.ml }
end Z
namespace Z
open PySem PySem.Spec PyProof.Rows L2

def Bk.step (S : Bk) (qs : Ps) (ts : Ts) : Bk := { S.turn qs ts with er := S.er ++ [S.ps], la := [] }
end Z
namespace PySem.SeqAt
open AutoSeq1 (wpAny_loadPart')
open MeetsSeq MeetsSeq2 MeetsSeq3 SeqRoads2
variable {prog : Program} {w : World}
theorem eq_sizes (l b : Addr) (items items2 : Array Value) (n n2 : Nat) (dd dd2 : Option Addr) (sl sl2 : Array (Option Value)) (hc0 : (items.size != items2.size) = true) :
    MeetsIn prog w (Builtin.«list.__eq__» ⟨[.ref l, .ref b], []⟩)
      (fun A R s => s.heap.get? l = some { cls := .type "list", dict := dd, data := .seq items n, slots := sl } ∧ s.heap.get? b = some { cls := .type "list", dict := dd2, data := .seq items2 n2, slots := sl2 } ∧ R (.ok (.ret (.bool false))) s) := by
  intro A R s h
  obtain ⟨hp, g, d, tk, os⟩ := s; obtain ⟨hl, hb, h⟩ := h
  have f3 := AutoSeq1.sub_list_list
  wp_walk using wpAny_loadPart' hl, wpAny_loadPart' hb
  exact h
theorem rcP_sizes {A : Around} {s : Shared} {l b : Addr} {items items2 : Array Value} (hl : s.heap.IsList l items) (hb : s.heap.IsList b items2) (hsz : (items.size != items2.size) = true) (hu : A.units < cLine)
    (E Q : Value → Shared → Prop) (h : Q (.bool false) s) : wpAny (model prog w) A (richCompare .Eq (.ref l) (.ref b)) Q E s := by
  obtain ⟨⟨cls, dd, data, sl⟩, ho, hc, n, hd⟩ := id hl
  obtain ⟨⟨cls2, dd2, data2, sl2⟩, ho2, hc2, n2, hd2⟩ := id hb
  simp only at hc hd hc2 hd2
  subst hc hd hc2 hd2
  have ta : s.TypeIs (.ref l) "list" := ⟨_, ho, rfl⟩
  have tb : s.TypeIs (.ref b) "list" := ⟨_, ho2, rfl⟩
  exact wpAny_richCompare_same_room (op := .Eq) ta tb F.slot_list_eq (call_meetsIn F.slot_list_eq ta F.entry_list_eq (F.args_list_eq_2 _ _) (eq_sizes l b items items2 n n2 dd dd2 sl sl2 hsz)
    ⟨ho, ho2, show Value.bool false ≠ Value.notImplemented ∧ Q (.bool false) s from ⟨(fun x => nomatch x), h⟩⟩) hu
end PySem.SeqAt
namespace Z
open PySem PySem.Spec PyProof.Rows L2
def rEqN (K : PySem.W.Frag) : R2 := fun x y H Q => ∃ a b vs ws, x = .ref a ∧ y = .ref b ∧ SqL K H a vs ∧ SqL K H b ws ∧ vs.length ≠ ws.length ∧ Q (.bl false) H
theorem op_eqN {X : Cx} (hu : X.A.units < cLine) : OpR X (compareOp .Eq) (rEqN X.K) := by
  intro pins s σ H x y v u Q I rx ry h
  obtain ⟨a, b, vs, ws, rfl, rfl, ha, hb, hne, q⟩ := h
  cases (show v = Value.ref a from rx)
  cases (show u = Value.ref b from ry)
  obtain ⟨us, r1, p1, _⟩ := I.list ha
  obtain ⟨xs, r2, p2, _⟩ := I.list hb
  refine SeqAt.rcP_sizes p1.isList p2.isList ?_ hu _ _ ⟨.bl false, H, I, rfl, q⟩
  rw [List.size_toArray, List.size_toArray, ← r1.length, ← r2.length]
  simpa using hne
def eqN (M : Sto) (x y : D) (φ : D → Prop) : Prop := (∃ l l', lstOf M x = some l ∧ lstOf M y = some l' ∧ l.length ≠ l'.length ∧ φ (.bl false)) ∨ eqD M x y φ
theorem ok_eqN {K : PySem.W.Frag} {r : R2} (h : Ok2 K r eqD) : Ok2 K (fun x y H Q => rEqN K x y H Q ∨ r x y H Q) eqN := fun M H G x y v u φ Q w rx ry q k => by
  rcases q with ⟨l, l', e1, e2, hne, q⟩ | q
  · obtain ⟨p, vs, rfl, h1, r1⟩ := lst_rep' w rx e1
    obtain ⟨p', ws, rfl, h2, r2⟩ := lst_rep' w ry e2
    exact .inl ⟨p, p', vs, ws, rfl, rfl, h1, h2, by rw [← r1.length, ← r2.length]; exact hne, k _ _ _ _ q (Grow.refl w.sub) .bl⟩
  · exact .inr (h M H G x y v u φ Q w rx ry q k)
section
variable {X : Cx} {B : Bs} {a b : Expr} {fa fb : DTE} {k : Nat} {pos : Pos}
theorem dt_eqN (hr : Room k X.A) (ha : DE X B a fa) (hb : DE X B b fb) : DT X B (.Compare a [.Eq] [b] pos) (bin2T eqN fa fb) := dt_cmp ((op_eqN (Nat.lt_of_succ_lt (units1 hr))).or (op_eq.or (op_eqD hr.units))) (ok_eqN ok_eq) (nomark _) ha hb
end
theorem eqN_nil {M : Sto} {x : D} {l : List D} {φ : D → Prop} (h : lstOf M x = some l) (q : φ (.bl (decide (l = [])))) : eqN M x (.lst []) φ := by
  by_cases e : l = []
  · subst e
    refine .inr (eqPlL h rfl (n := 0) (m := 0) .nil .nil fun b hb => ?_)
    rw [hb.mpr rfl]
    rw [decide_eq_true rfl] at q
    exact q
  · refine .inl ⟨l, [], h, rfl, fun z => e (List.eq_nil_of_length_eq_zero z), ?_⟩
    rw [decide_eq_false e] at q
    exact q
end Z
namespace Z
open PySem PySem.Spec PyProof.Rows L2
end Z
namespace Z
open PySem PySem.Spec PyProof.Rows L2

section
variable {X : Cx} {B : Bs} {k j : Nat} {c : Ct} {pos : Pos} {a b : Expr} {fa fb : DTE} {C : Addr} {bs : List (Nat × List Str × (List D → List D → List D))}
end
section
variable {X : Cx} {B : Bs} {fa : DTE} {apos cpos : Pos}
end
end Z
namespace Z
open PySem PySem.Spec PyProof.Rows L2

def oD : Option T4 → D
  | none => .non
  | some t => tD t
section
variable {X : Cx}
end
section
variable {X : Cx} {B : Bs} {pos p : Pos} {e : Expr} {ga : DTA}
end
end Z
namespace Z
open PySem PySem.Spec PyProof.Rows L2

end Z
namespace Z
open PySem PySem.Spec PyProof.Rows L2
def rNeN (K : PySem.W.Frag) : R2 := fun x y H Q => ∃ a b vs ws, x = .ref a ∧ y = .ref b ∧ SqL K H a vs ∧ SqL K H b ws ∧ vs.length ≠ ws.length ∧ Q (.bl true) H
theorem op_neN {X : Cx} (hu : X.A.units < cLine) : OpR X (compareOp .NotEq) (rNeN X.K) := by
  intro pins s σ H x y v u Q I rx ry h
  obtain ⟨a, b, vs, ws, rfl, rfl, ha, hb, hne, q⟩ := h
  cases (show v = Value.ref a from rx)
  cases (show u = Value.ref b from ry)
  obtain ⟨us, r1, p1, _⟩ := I.list ha
  obtain ⟨xs, r2, p2, _⟩ := I.list hb
  refine SeqAt.RcNeAt.lists_lengths p1.isList p2.isList ?_ hu _ _ _ _ ⟨.bl true, H, I, rfl, q⟩
  rw [List.size_toArray, List.size_toArray, ← r1.length, ← r2.length]
  simpa using hne
def neN (M : Sto) (x y : D) (φ : D → Prop) : Prop := (∃ l l', lstOf M x = some l ∧ lstOf M y = some l' ∧ l.length ≠ l'.length ∧ φ (.bl true)) ∨ neD M x y φ
theorem ok_neN {K : PySem.W.Frag} {r : R2} (h : Ok2 K r neD) : Ok2 K (fun x y H Q => rNeN K x y H Q ∨ r x y H Q) neN := fun M H G x y v u φ Q w rx ry q k => by
  rcases q with ⟨l, l', e1, e2, hne, q⟩ | q
  · obtain ⟨p, vs, rfl, h1, r1⟩ := lst_rep' w rx e1
    obtain ⟨p', ws, rfl, h2, r2⟩ := lst_rep' w ry e2
    exact .inl ⟨p, p', vs, ws, rfl, rfl, h1, h2, by rw [← r1.length, ← r2.length]; exact hne, k _ _ _ _ q (Grow.refl w.sub) .bl⟩
  · exact .inr (h M H G x y v u φ Q w rx ry q k)
section
variable {X : Cx} {B : Bs} {a b : Expr} {fa fb : DTE} {k : Nat} {pos : Pos}
theorem de_neN (hr : Room k X.A) (ha : DE X B a fa) (hb : DE X B b fb) : DE X B (.Compare a [.NotEq] [b] pos) (bin2 neN fa fb) := de_cmp ((op_neN (Nat.lt_of_succ_lt (units1 hr))).or (op_ne.or (op_neD hr.units))) (ok_neN ok_ne) (nomark _) ha hb
end
theorem neN_nil {M : Sto} {x : D} {l : List D} {φ : D → Prop} (h : lstOf M x = some l) (q : φ (.bl (decide (l ≠ [])))) : neN M x (.lst []) φ := by
  by_cases e : l = []
  · subst e
    refine .inr (nePlL h rfl (n := 0) (m := 0) .nil .nil fun b hb => ?_)
    rw [hb.mpr rfl]
    rw [decide_eq_false (by simp)] at q
    exact q
  · refine .inl ⟨l, [], h, rfl, fun z => e (List.eq_nil_of_length_eq_zero z), ?_⟩
    rw [decide_eq_true e] at q
    exact q
section
variable {X : Cx} {B : Bs} {a b : Expr} {fa fb : DTE} {k : Nat} {pos : Pos}
end
theorem HandAt.nn {M : Sto} {p : Addr} (h : HandAt M p) : M p ≠ none := by
  obtain ⟨x, e, _⟩ := h
  rw [e]
  exact fun z => by cases z
theorem HandAt.same {M M' : Sto} {p : Addr} (h : HandAt M p) (e : M' p = M p) : HandAt M' p := by
  obtain ⟨x, e1, b⟩ := h
  exact ⟨x, e.trans e1, b⟩
end Z
namespace Z
open PySem PySem.Spec PyProof.Rows L2

section
variable {X : Cx} {B : Bs} {pos p : Pos} {e : Expr} {ga : DTA}
end
end Z
namespace Z
open PySem PySem.Spec PyProof.Rows L2

section
variable {M M' : Sto} {p t : Addr} {q : Str} {A A' : Bd} {ap af : Addr} {la lf : List D} {sp : Addr} {sd : List (D × D)}
end
def g4 (ts : Ts) : D → D
  | .str x => .tup [.str x, oD (ts.lookup x)]
  | d => d
section
variable {M0 M : Sto} {C CT CM p t : Addr} {q : Str} {A : Bd} {S : Bk} {ap af sp : Addr} {tsO : Ts} {mlO : List (Str × D)}
end
end Z
namespace Z
open PySem PySem.Spec PyProof.Rows L2

end Z
namespace Z
open PySem PySem.Spec PyProof.Rows L2

theorem nms_put {α : Type} (x : Str) (a : α) : ∀ ps : List (Str × α), nms (Z.put ps x a) = if x ∈ nms ps then nms ps else nms ps ++ [x]
  | [] => by simp [Z.put, nms]
  | q :: r => by
    rw [Z.put]
    by_cases e : q.1 = x
    · rw [if_pos e, if_pos (by simp [nms, e])]
      simp [nms, e]
    · rw [if_neg e]
      show q.1 :: nms (Z.put r x a) = _
      rw [nms_put x a r]
      by_cases h : x ∈ nms r
      · rw [if_pos h, if_pos (by simp only [nms, List.map_cons, List.mem_cons]; exact .inr h)]
        rfl
      · rw [if_neg h, if_neg (by
          simp only [nms, List.map_cons, List.mem_cons, not_or]
          exact ⟨fun z => e z.symm, h⟩)]
        rfl
section
variable {M0 M M' : Sto} {p C CT : Addr} {A A' : Bd} {S : Bk}
end
end Z
namespace Z
open PySem PySem.Spec PyProof.Rows L2
section
variable {X : Cx} {B : Bs} {pos p : Pos} {a : Expr} {ga : DTA}
end
end Z
namespace Z
open PySem PySem.Spec PyProof.Rows L2
section
variable {M0 M M' : Sto} {C CT : Addr} {A0 G0 A G A' G' : Bd} {S T S' T' : Bk}
end
section
variable {M M' : Sto} {C CT p P : Addr} {q : Str} {l : List (Bd × Bk)} {pb : Addr} {n : Nat}
theorem map_set {α β : Type} (f : α → β) : ∀ {l : List α} {i : Nat} {a b : α}, l[i]? = some a → f b = f a → (l.set i b).map f = l.map f
  | [], _, _, _, h, _ => by simp at h
  | x :: l, 0, a, b, h, e => by cases h; simp [e]
  | x :: l, i + 1, a, b, h, e => by
    show f x :: (l.set i b).map f = _
    rw [map_set f (show l[i]? = some a from h) e]
    rfl
end
section
variable {M M' : Sto} {C CT pb : Addr} {L : List D} {Az : Bd} {Sz : Bk} {b0 : Addr} {A A' : Bd} {S S' : Bk} {i j : Nat}
end
end Z
namespace Z
open PySem PySem.Spec PyProof.Rows L2
section
variable {X : Cx} {B : Bs} {pos p p1 p2 p3 : Pos} {e e2 o : Expr} {es : List Expr} {fa fo : DTE} {ga : DTA} {k : Nat}
end
end Z
namespace Z
open PySem PySem.Spec PyProof.Rows L2
def Fp (t : T4) (p : Pg) : Prop := pgU p = [] ∧ ∀ g, tbl g p = some t
structure G3 (L : List Str) (f : Str → T4) (ps : Ps) : Prop where
  nm : (nms ps).Perm L
  pg : ∀ q ∈ ps, Fp (f q.1) q.2
theorem fp_tbA {f : Str → T4} : ∀ {ps : Ps}, (∀ q ∈ ps, Fp (f q.1) q.2) → ∀ acc : Ts, tbsA acc ps = some (acc ++ ps.map fun q => (q.1, f q.1))
  | [], _, acc => by rw [tbsA]; simp
  | q :: r, h, acc => by
    rw [tbsA, (h q List.mem_cons_self).2]
    dsimp only
    rw [fp_tbA (fun z hz => h z (List.mem_cons_of_mem _ hz)), List.append_assoc]
    rfl
theorem lk_mapf {f : Str → T4} {x : Str} : ∀ {ps : Ps}, x ∈ nms ps → List.lookup x (ps.map fun q => (q.1, f q.1)) = some (f x)
  | [], h => by cases h
  | q :: r, h => by
    rw [List.map_cons, List.lookup_cons]
    by_cases e : x = q.1
    · rw [e]; simp
    · rw [show (x == q.1) = false from by simpa using e]
      exact lk_mapf ((List.mem_cons.mp h).resolve_left e)
theorem mem_putN {α : Type} {x : Str} {p : α} : ∀ {ps : List (Str × α)} {q : Str × α}, (nms ps).Nodup → q ∈ put ps x p → q = (x, p) ∨ (q ∈ ps ∧ q.1 ≠ x)
  | [], q, _, h => by rw [put, List.mem_singleton] at h; exact .inl h
  | a :: r, q, nd, h => by
    have nd : (a.1 :: nms r).Nodup := nd
    obtain ⟨n1, n2⟩ := List.nodup_cons.mp nd
    rw [put] at h
    by_cases e : a.1 = x
    · rw [if_pos e] at h
      rcases List.mem_cons.mp h with h | h
      · exact .inl h
      · exact .inr ⟨List.mem_cons_of_mem _ h, fun z => n1 (by rw [e, ← z]; exact mem_nms h)⟩
    · rw [if_neg e] at h
      rcases List.mem_cons.mp h with rfl | h
      · exact .inr ⟨List.mem_cons_self, e⟩
      · rcases mem_putN n2 h with h | ⟨h, h2⟩
        · exact .inl h
        · exact .inr ⟨List.mem_cons_of_mem _ h, h2⟩
section
variable {L : List Str} {f : Str → T4} {ps : Ps} {x y : Str} {p : Pg} {t : T4} {lim : Int}
theorem G3.tb (h : G3 L f ps) : tbs ps = some (ps.map fun q => (q.1, f q.1)) := fp_tbA h.pg []
theorem G3.nd (h : G3 L f ps) (n : L.Nodup) : (nms ps).Nodup := h.nm.nodup_iff.mpr n
theorem G3.mem (h : G3 L f ps) : x ∈ nms ps ↔ x ∈ L := h.nm.mem_iff
theorem G3.lk (h : G3 L f ps) (hx : x ∈ L) : List.lookup x (ps.map fun q => (q.1, f q.1)) = some (f x) := lk_mapf (h.mem.mpr hx)
def upN (f : Str → T4) (x : Str) (t : T4) : Str → T4 := fun n => if n = x then t else f n
theorem put_pg (n : (nms ps).Nodup) (h : ∀ q ∈ ps, Fp (f q.1) q.2) (hp : Fp t p) : ∀ q ∈ put ps x p, Fp (upN f x t q.1) q.2 := fun q hq => by
  unfold upN
  rcases mem_putN n hq with rfl | ⟨hq, e⟩
  · rw [if_pos rfl]; exact hp
  · rw [if_neg e]; exact h q hq
theorem G3.set (h : G3 L f ps) (n : L.Nodup) (hx : x ∈ L) (hp : Fp t p) : G3 L (upN f x t) (put ps x p) :=
  ⟨by rw [nms_put, if_pos (h.mem.mpr hx)]; exact h.nm, put_pg (h.nd n) h.pg hp⟩
theorem G3.new (h : G3 L f ps) (n : L.Nodup) (hx : x ∉ L) (hp : Fp t p) : G3 (L ++ [x]) (upN f x t) (put ps x p) :=
  ⟨by rw [nms_put, if_neg (fun z => hx (h.mem.mp z))]; exact h.nm.append_right _, put_pg (h.nd n) h.pg hp⟩
theorem nms_dl : nms (dl x ps) = (nms ps).filter fun n => decide (n ≠ x) := by unfold nms dl; rw [List.filter_map]; rfl
theorem G3.drop (h : G3 L f ps) : G3 (L.filter fun n => decide (n ≠ x)) f (dl x ps) :=
  ⟨by rw [nms_dl]; exact h.nm.filter _, fun q hq => h.pg q (List.mem_filter.mp hq).1⟩
end
def TA (n : Int) : Pg := .tab (n, 0, 0, 1)
def tC (n : Int) : Str := ⟨([91, 49, 32, 48, 59, 32, 48, 32] ++ decC n ++ [93]).toArray⟩
section
variable {x y z : Str} {a b : Int} {ps : Ps}
theorem G3.len {L : List Str} {f : Str → T4} (h : G3 L f ps) : ps.length = L.length := by rw [← h.nm.length_eq]; exact (List.length_map ..).symm
end
end Z
namespace Z
open PySem PySem.Spec PyProof.Rows L2
section
variable {M M' : Sto} {p C CT : Addr} {A A' : Bd} {S S' : Bk} {i : Nat}
end
section
variable {M M' : Sto} {p P C CT : Addr} {q : Str} {A A' : Bd} {S S' : Bk}
end
section
variable {M M' : Sto} {p P C CT CM : Addr} {q x y z : Str} {a b : Int} {b0 : Addr} {A A' : Bd} {S S' : Bk} {L : List Str} {n : Nat}
end
end Z
namespace Z
open PySem PySem.Spec PyProof.Rows L2
section
variable {prog : Program} {w : World} {A : Around} {E : Value → Shared → Prop} {s : Shared}
end
section
variable {X : Cx} {B : Bs} {pos p : Pos} {e e2 : Expr} {es : List Expr}
end
section
variable {K : PySem.W.Frag}
end
theorem PsOk.take {ps : Ps} (ok : PsOk ps) (i : Nat) : PsOk (ps.take i) where
  few := by rw [List.length_take]; have := ok.few; omega
  nd := by rw [nms_take]; exact ok.nd.sublist (List.take_sublist _ _)
  ok := fun q h => ok.ok q (List.mem_of_mem_take h)
  use := fun j q h x hx => by
    have hj : j < i := by
      have := (List.getElem?_eq_some_iff.mp h).1
      rw [List.length_take] at this
      omega
    rw [List.getElem?_take_of_lt hj] at h
    rw [List.take_take, Nat.min_eq_left (by omega)]
    exact ok.use j q h x hx
theorem enum_get {xs : List D} {i : Nat} {d : D} (h : (enumD xs)[i]? = some d) : ∃ x, xs[i]? = some x ∧ d = .tup [.int (i : Nat), x] := by
  unfold enumD zipD at h
  rw [List.getElem?_map] at h
  obtain ⟨⟨a, b⟩, hz, rfl⟩ := Option.map_eq_some_iff.mp h
  obtain ⟨h1, h2⟩ := List.getElem?_zip_eq_some.mp hz
  obtain ⟨_, rfl⟩ := rng_at h1
  exact ⟨b, h2, by rw [Int.zero_add]⟩
theorem enum_len {xs : List D} : (enumD xs).length = xs.length := by
  unfold enumD zipD
  rw [List.length_map, List.length_zip, rng_len, Nat.min_self]
theorem G3.ok {L : List Str} {f : Str → T4} {ps : Ps} (h : G3 L f ps) (n : L.Nodup) (few : ps.length ≤ 30) (ok : ∀ q ∈ ps, NameOk q.1 ∧ PgOk q.2 ∧ pgK q.2 ≤ 8 ∧ pgN q.2 ≤ 5000) : PsOk ps :=
  ⟨few, h.nd n, ok, fun i q hq x hx => by
    rw [(h.pg q (List.mem_of_getElem? hq)).1] at hx
    cases hx⟩
end Z
namespace Z
open PySem PySem.Spec PyProof.Rows L2
def fm : Nat → Str → Pg
  | 0, x => .tms 1 (.use x)
  | 1, x => .thn [.swp, .use x]
  | _, x => .thn [.use x, .trn "L"]
section
variable {M0 M M' : Sto} {p C CT CM b0 : Addr} {A A' : Bd} {S S' : Bk} {ps ps' : Ps}
end
end Z
namespace Z
open PySem PySem.Spec PyProof.Rows L2
structure FR where
  a : Addr
  q : Addr
  st : Fst
  past : List Fst
def FR.has (x : FR) (b : Addr) : Prop := b = x.a ∨ b = x.q
section
variable {M M' : Sto} {C : Addr} {mi : D} {l : List T4} {pf ph : Addr} {F : List FR} {i : Nat} {x y : FR}
end
section
variable {M M' : Sto} {p P P2 C : Addr} {mi : D} {l : List T4} {pf ph : Addr} {F : List FR} {i k : Nat} {x y : FR}
end
end Z
namespace Z
open PySem PySem.Spec PyProof.Rows L2
end Z
namespace Z
open PySem PySem.Spec PyProof.Rows L2
end Z
namespace Z
open PySem PySem.Spec PyProof.Rows L2
def rt (m : T4) : T3 := (m.1 - m.2.2.2, 2 * m.2.2.1, (m.1 - m.2.2.2) * (m.1 - m.2.2.2) + 4 * m.2.1 * m.2.2.1)
end Z
namespace Z
open PySem PySem.Spec PyProof.Rows L2
end Z
namespace Z
open PySem PySem.Spec PyProof.Rows L2
end Z
namespace Z
open PySem PySem.Spec PyProof.Rows L2
end Z
namespace Z
open PySem PySem.Spec PyProof.Rows L2
def mv (m : T4) (v : Int × Int) : Int × Int := (m.1 * v.1 + m.2.1 * v.2, m.2.2.1 * v.1 + m.2.2.2 * v.2)
def ec (c : Nat) : Int × Int := if c = 82 then (1, 0) else (0, 1)
end Z
namespace Z
open PySem PySem.Spec PyProof.Rows L2
section
variable {n : Nat} {t u : T4} {w a r x y a' r' x' y' : List Nat}
end
end Z
namespace Z
open PySem PySem.Spec PyProof.Rows L2
section
variable {X : Cx} {B : Bs} {Ξ : XD → En → Sto → Prop} {k : Nat} {f : Addr} {fd : FuncData} {ps : List Str} {c : Ct}
end
section
variable {X : Cx} {B : Bs} {Ξ : XD → En → Sto → Prop} {C : Addr} {j k n : Nat} {c : Ct} {bs : List (Nat × List Str × (List D → List D → List D))} {g : List D → List D → List D} {o e : Expr} {es : List Expr} {fo : DTE} {ga : DTA} {pos : Pos}
end
section
variable {X : Cx} {B : Bs} {pos : Pos}
end
section
variable {prog : Program} {w : World} {A : Around} {E : Value → Shared → Prop} {s : Shared}
end
section
variable {X : Cx} {B : Bs} {pos : Pos}
end
section
variable {f : DPat} {g' : DPats} {is : List Nat} {g : DTS} {h : D → DTS} {E : Ek} {r : En} {M : Sto} {l : List D} {d : D} {n k : Nat} {i j : Str}
end
end Z
namespace Z
open PySem PySem.Spec PyProof.Rows L2
end Z
namespace Z
open PySem PySem.Spec PyProof.Rows L2
structure Fr (M : Sto) (p : Addr) (A : Bd) (cs : List (Addr × Cell)) : Prop where
  h : HandAt M p
  np : ¬ A.has p
  at_ : ∀ x ∈ cs, M x.1 = some x.2
  na : ∀ x ∈ cs, ¬ A.has x.1
  nd : (p :: cs.map (·.1)).Nodup
section
variable {M M' : Sto} {p : Addr} {A A' : Bd} {cs cs' : List (Addr × Cell)}
theorem Fr.get (f : Fr M p A cs) {i : Nat} {a : Addr} {c : Cell} (h : cs[i]? = some (a, c)) : M a = some c := f.at_ _ (List.mem_of_getElem? h)
theorem Fr.ne_p (f : Fr M p A cs) {x : Addr × Cell} (h : x ∈ cs) : x.1 ≠ p := fun z => (List.nodup_cons.mp f.nd).1 (by rw [← z]; exact List.mem_map_of_mem h)
theorem Fr.new (f : Fr M p A cs) {a : Addr} {c : Cell} (ha : M a = none) (na : ¬ A.has a) : Fr (updM M a c) p A ((a, c) :: cs) := by
  have e : ∀ x, M x ≠ none → updM M a c x = M x := fun x hx => updM_ne fun z => hx (by rw [z]; exact ha)
  refine ⟨f.h.same (e _ f.h.nn), f.np, fun x hx => ?_, fun x hx => ?_, ?_⟩
  · rcases List.mem_cons.mp hx with rfl | hx
    · exact updM_same
    · rw [e _ (by rw [f.at_ x hx]; simp)]
      exact f.at_ x hx
  · rcases List.mem_cons.mp hx with rfl | hx
    · exact na
    · exact f.na x hx
  · obtain ⟨h1, h2⟩ := List.nodup_cons.mp f.nd
    refine List.nodup_cons.mpr ⟨fun z => ?_, List.nodup_cons.mpr ⟨fun z => ?_, h2⟩⟩
    · rcases List.mem_cons.mp z with z | z
      · exact f.h.nn (by rw [z]; exact ha)
      · exact h1 z
    · obtain ⟨x, hx, e2⟩ := List.mem_map.mp z
      have := f.at_ x hx
      rw [e2, ha] at this
      cases this
theorem Fr.sub (f : Fr M p A cs) (s : cs'.Sublist cs) : Fr M p A cs' := ⟨f.h, f.np, fun x hx => f.at_ x (s.subset hx), fun x hx => f.na x (s.subset hx), List.Nodup.sublist ((s.map _).cons₂ _) f.nd⟩
theorem Fr.set (f : Fr M p A cs) {i : Nat} {a : Addr} {c c' : Cell} (h : cs[i]? = some (a, c)) : Fr (updM M a c') p A (cs.set i (a, c')) := by
  have hi := (List.getElem?_eq_some_iff.mp h).1
  have hm := List.mem_of_getElem? h
  have em : (cs.set i (a, c')).map (·.1) = cs.map (·.1) := by
    rw [List.map_set]
    refine List.ext_getElem? fun j => ?_
    rw [List.getElem?_set]
    split
    · subst j
      rw [List.getElem?_map, h, List.length_map, if_pos hi]
      rfl
    · rfl
  refine ⟨f.h.same (updM_ne (f.ne_p hm).symm), f.np, fun x hx => ?_, fun x hx => ?_, by rw [em]; exact f.nd⟩
  · rcases List.getElem?_of_mem hx with ⟨j, hj⟩
    rw [List.getElem?_set] at hj
    split at hj
    · cases hj
      exact updM_same
    · rename_i nij
      have hx2 := List.mem_of_getElem? hj
      rw [updM_ne fun z => ?_]
      · exact f.at_ x hx2
      · have nd := (List.nodup_cons.mp f.nd).2
        have e1 : (cs.map (·.1))[i]? = some a := by rw [List.getElem?_map, h]; rfl
        have e2 : (cs.map (·.1))[j]? = some a := by rw [List.getElem?_map, hj, ← z]; rfl
        exact nij ((List.getElem?_inj (by rw [List.length_map]; exact hi) nd).mp (e1.trans e2.symm))
  · rcases List.getElem?_of_mem hx with ⟨j, hj⟩
    rw [List.getElem?_set] at hj
    split at hj
    · cases hj
      have := f.na (a, c) hm
      exact this
    · exact f.na x (List.mem_of_getElem? hj)
end
section
variable {C CT : Addr} {A : Bd} {S : Bk}
end
section
variable {M M' : Sto} {p C CT CD : Addr} {A : Bd} {S : Bk} {er la : List Ps} {x0 x1 : List (Str × Str)} {af ap g1 g0 q1 o1 q0 o0 : Addr} {i : Nat}
end
end Z
namespace Z
open PySem PySem.Spec PyProof.Rows L2
end Z
namespace PySem
namespace ZX
open Builtin Builtin.ObjectAttr PySem.HandSPX
section
variable {M : Model} {A : Around} {E : Value → Shared → Prop} {h : Heap} {g : Array GenState} {d : Drawn} {t : Nat} {os : OsState}
variable {nm q : Str} {C N : Addr} {bs bm bmB : List Value} {hdct : Bool} {sn : List Str} {sub : List Value} {ab : Bool} {col : Option Bool} {dd : Option Addr} {k0 k1 k2 k3 k5 : Option Value} {B newId initId : String}
end
section
variable {prog : Program} {w : World} {A : Around} {E : Value → Shared → Prop} {R : Result → Shared → Prop} {h : Heap} {g : Array GenState} {d : Drawn} {t : Nat} {os : OsState}
variable {nm q : Str} {C N : Addr} {bs bm bmB : List Value} {hdct : Bool} {sn : List Str} {sub : List Value} {ab : Bool} {col : Option Bool} {dd : Option Addr} {k0 k1 k2 k3 k5 : Option Value} {B newId initId : String}
end
end ZX
end PySem

namespace Z
open PySem PySem.Spec PyProof.Rows L2

section
variable {X : Cx} {B : Bs} {Ξ : XD → En → Sto → Prop} {pos p : Pos} {e : Expr} {es : List Expr} {ga : DTA} {fa : DTE} {k n : Nat} {x : Str} {C : Addr} {g : List V → List (Str × V)}
end
section
variable {K : PySem.W.Frag} {d : D} {p : Str × Option Str} {φ : D → Prop}
end
end Z
namespace Z
open PySem PySem.Spec PyProof.Rows L2

section
variable {CX : CXT} {P : Program} {w : World} {K : PySem.W.Frag} {mg : Str → Option Value} {base : Heap} {N ps : List Str} {qual : Str} {scope : Scope} {f cda cc : Addr} {A : Around} {outer : List Env} {s : Shared} {H : Hp} {E : XK} {us : List Value} {vs : List V}
end
section
variable {X : Cx} {B : Bs} {Ξ : XD → En → Sto → Prop} {k j n : Nat} {c : Ct} {pos apos p0 p1 : Pos} {e : Expr} {es : List Expr} {ga : DTA} {f cda cc CD : Addr} {m self : Str} {g : List D → List D → List D} {bs : List (Nat × List Str × (List D → List D → List D))} {body : List Stmt}
end
section
variable {CX : CXT} {P : Program} {w : World} {K : PySem.W.Frag} {mg : Str → Option Value} {base : Heap} {N ps : List Str} {qual : Str} {scope : Scope} {f cda cc C : Addr} {A : Around} {outer : List Env} {s : Shared} {H : Hp} {E : XK}
  {B : Bs} {Ξ : XD → En → Sto → Prop} {k j n : Nat} {c : Ct} {pos apos p0 p1 ep : Pos} {e : Expr} {es : List Expr} {ga : DTA} {self : Str} {g : List D → List D → List D} {bs : List (Nat × List Str × (List D → List D → List D))} {body0 rest : List Stmt} {t : DTS}
end
section
variable {P : Program} {w : World} {K : PySem.W.Frag} {mg : Str → Option Value} {base : Heap} {qual : Str} {st : Stmt} {fd : FuncData} {N ps : List Str} {k : Nat} {x par file self nm : Str}
end
section
variable {K : PySem.W.Frag} {x qual : Str} {st : Stmt} {f : Addr} {fd : FuncData} {ps : List Str}
end
section
variable {X : Cx} {B : Bs} {e : Expr}
theorem de_alt {f1 f2 : DTE} (h1 : DE X B e f1) (h2 : DE X B e f2) : DE X B e (fun r M Ψ => f1 r M Ψ ∨ f2 r M Ψ) := ⟨fun pins s σ H Q I ⟨r, M, G, Ψ, R, h, k⟩ => h.elim (fun y => h1.run pins s σ H Q I ⟨r, M, G, Ψ, R, y, k⟩) fun y => h2.run pins s σ H Q I ⟨r, M, G, Ψ, R, y, k⟩⟩
end
end Z
namespace Z
open PySem PySem.Spec PyProof.Rows L2

abbrev OK := List (Option Int)
def oKy (k : Option Int) : Option Key := k.map Sum.inl
theorem oKy_inj {a b : Option Int} (h : oKy a = oKy b) : a = b := by
  cases a <;> cases b <;> first | rfl | (cases h; rfl) | cases h
def oHs : Option Int → Int
  | none => reduceHash 0xFCA86420
  | some i => hashInt i
def oiKind (P : Program) (w : World) : PySem.KeyKind P w (Option Int) where
  is := fun k v => nkIs (oKy k) v
  hash := oHs
  inj := fun v a b ha hb => oKy_inj ((noneKind P w).inj v _ _ ha hb)
  byValue := fun k v h => (noneKind P w).byValue (oKy k) v h
  pyHash := @fun A E s k v Q hv h => (noneKind P w).pyHash (k := oKy k) hv (by cases k <;> exact h)
  eqBool := @fun A E s a b u v Q hu hv h => (noneKind P w).eqBool (a := oKy a) (b := oKy b) hu hv (by
    rw [show decide (oKy a = oKy b) = decide (a = b) from decide_eq_decide.mpr ⟨oKy_inj, fun e => by rw [e]⟩]
    exact h)
  «strs» := fun k x t v h => (noneKind P w).«strs» (oKy k) x t v h
theorem oV_is {P : Program} {w : World} {k : Option Int} {u : Value} (r : RelV (oV k) u) : (oiKind P w).is k u = true := by
  cases k with
  | none => cases (show u = Value.none from r); rfl
  | some i => exact kV_is (P := P) (w := w) (k := Sum.inl i) r
theorem items_areO {P : Program} {w : World} : ∀ {ks : OK} {us : List Value}, Vals (ks.map oV) us → ItemsAre (oiKind P w) ks us
  | [], _, r => by rw [List.map_nil] at r; cases r; exact .nil
  | k :: ks, _, r => by
    rw [List.map_cons] at r
    cases r with
    | cons h t => exact .cons (oV_is h) (items_areO t)
def entO (x : OK × Addr × Value) : DictEntry := ⟨reduceHash (Builtin.Tuple.tupleHashOf (x.1.map oHs)), .ref x.2.1, x.2.2⟩
abbrev KX (bs : List (Addr × OK)) : List (OK × V) → List (OK × Addr × Value) → Prop := Paired fun p q => p.1 = q.1 ∧ (q.2.1, q.1) ∈ bs ∧ RelV p.2 q.2.2
section
variable {bs bs' : List (Addr × OK)} {kvs : List (OK × V)} {xs : List (OK × Addr × Value)}
theorem KX.val (r : KX bs kvs xs) (k : OK) : RelO (valV kvs k) ((atKey xs k).map (·.2)) := by
  induction r with
  | nil => exact True.intro
  | @cons p q ps qs h t ih =>
    obtain ⟨h1, _, h2⟩ := h
    by_cases e : p.1 = k
    · have e' : q.1 = k := h1.symm.trans e
      have b : atKey (q :: qs) k = some q.2 := by simp [atKey, List.find?_cons, e']
      rw [valV_pos e, b]; exact h2
    · have e' : ¬ q.1 = k := fun z => e (h1.trans z)
      have b : atKey (q :: qs) k = atKey qs k := by simp [atKey, List.find?_cons, e']
      rw [valV_neg e, b]; exact ih
theorem KX.more (r : KX bs kvs xs) (h : ∀ p ∈ bs, p ∈ bs') : KX bs' kvs xs := Paired.mapP r fun _ _ z => ⟨z.1, h _ z.2.1, z.2.2⟩
theorem KX.repl (r : KX bs kvs xs) (k : OK) {y : V} {u : Value} (ry : RelV y u) : KX bs (kvs.map fun kv => if kv.1 = k then (kv.1, y) else kv) (xs.map (putAt k u)) := by
  induction r with
  | nil => exact .nil
  | @cons p q ps qs h t ih =>
    rw [List.map_cons, List.map_cons]
    refine .cons ?_ ih
    obtain ⟨h1, h2, h3⟩ := h
    unfold putAt
    by_cases e : p.1 = k
    · rw [if_pos e, if_pos (h1.symm.trans e)]; exact ⟨h1, h2, ry⟩
    · rw [if_neg e, if_neg (fun z => e (h1.trans z))]; exact ⟨h1, h2, h3⟩
theorem KX.put (r : KX bs kvs xs) (k : OK) {b : Addr} {y : V} {u : Value} (ry : RelV y u) : KX ((b, k) :: bs) (putK kvs k y) (storedH xs k b u) := by
  have e : (kvs.any fun kv => decide (kv.1 = k)) = (atKey xs k).isSome := by
    have z := (r.val k).isSome_eq
    rw [valV_any, z, Option.isSome_map]
  have r' := r.more (bs' := (b, k) :: bs) fun p hp => List.mem_cons_of_mem _ hp
  unfold putK storedH
  rw [e]
  by_cases q : (atKey xs k).isSome = true
  · rw [if_pos q, if_pos q]; exact r'.repl k ry
  · rw [if_neg q, if_neg q]; exact Paired.snoc r' ⟨rfl, List.mem_cons_self, ry⟩
end
def dioP (a : Addr) (kvs : List (OK × V)) (bs : List (Addr × OK)) : Heap → Prop := fun h => (a == sysModules) = false ∧ kvs.length ≤ sizeLine ∧ ∃ xs, KX bs kvs xs ∧ ∃ o es ep, h.get? a = some o ∧ o.ExactDict ∧ o.data = .dict es ep ∧ es.toList = xs.map entO ∧ (xs.map (·.1)).Nodup
section
variable {P : Program} {w : World} {H H' : Hp} {h : Heap} {a b : Addr} {kvs : List (OK × V)} {bs : List (Addr × OK)} {k : OK}
theorem dio_ok (x : dioP a kvs bs h) : ObjOk P w H h a (.ext (dioP a kvs bs)) := by
  refine ⟨x, ?_, fun h1 h2 q st => ?_⟩
  · obtain ⟨_, _, _, _, o, _, _, e, _⟩ := x
    exact ⟨o, e⟩
  · obtain ⟨y, z, xs, r, o, es, ep, e, c⟩ := q
    exact ⟨y, z, xs, r, o, es, ep, st _ e, c⟩
theorem key_ofO (ok : HOk P w H h) (e : H b = some (.tup (k.map oV))) : (tupleKind (oiKind P w)).is h k b := by
  obtain ⟨_, its, r, o, h1, h2, n, h3⟩ := (show ObjOk P w H h b (.tup (k.map oV)) from ok b _ e)
  exact ⟨o, its.toArray, n, h1, h2, h3, by simpa using items_areO r⟩
theorem dio_of (ok : HOk P w H h) (e : H a = some (.ext (dioP a kvs bs))) (hb : ∀ p ∈ bs, H p.1 = some (.tup (p.2.map oV))) : (a == sysModules) = false ∧ kvs.length ≤ sizeLine ∧ ∃ xs, KX bs kvs xs ∧ h.DictOfH (tupleKind (oiKind P w)) a xs := by
  obtain ⟨y, z, xs, r, o, es, ep, h1, h2, h3, h4, h5⟩ := (ok a _ e).1
  refine ⟨y, z, xs, r, o, es, ep, h1, h2, h3, h4, fun x hx => ?_, h5⟩
  have all : ∀ {l : List (OK × V)} {m : List (OK × Addr × Value)}, KX bs l m → ∀ x ∈ m, (x.2.1, x.1) ∈ bs := by
    intro l m q
    induction q with
    | nil => intro x hx; exact nomatch hx
    | @cons p q ps qs hq t ih =>
      intro x hx
      rcases List.mem_cons.mp hx with e | hx
      · subst e; exact hq.2.1
      · exact ih x hx
  exact key_ofO ok (hb _ (all r x hx))
end
def DGetO (H : Hp) (a : Addr) (y : V) (r : Option V) : Prop := ∃ kvs bs k b, H a = some (.ext (dioP a kvs bs)) ∧ (∀ p ∈ bs, H p.1 = some (.tup (p.2.map oV))) ∧ y = .ref b ∧ H b = some (.tup (k.map oV)) ∧ r = valV kvs k
def DPutO (H : Hp) (a : Addr) (y v : V) (H' : Hp) : Prop := ∃ kvs bs k b, H a = some (.ext (dioP a kvs bs)) ∧ (∀ p ∈ bs, H p.1 = some (.tup (p.2.map oV))) ∧ y = .ref b ∧ H b = some (.tup (k.map oV)) ∧ kvs.length < sizeLine ∧ H' = upd H a (.ext (dioP a (putK kvs k v) ((b, k) :: bs)))
section
variable {X : Cx} {pins : List (Addr × Obj)} {σ : L2.St} {H : Hp} {s : Shared} {a : Addr} {y v : V} {u r : Value} {o : Option V} {A : Around} {E : Value → Shared → Prop}
theorem d_getItemO {Q : Value → Shared → Prop} (hu : A.units + 1 < cLine) (I : L2.Inv X pins σ H s) (g : DGetO H a y (some v)) (ry : RelV y u) (h : ∀ w' s', L2.Inv X pins σ H s' → RelV v w' → Q w' s') :
    wpAny (model X.prog X.w) A (getItem (.ref a) u) Q E s := by
  obtain ⟨kvs, bs, k, b, e, hb, rfl, eb, l⟩ := g
  cases (show u = Value.ref b from ry)
  obtain ⟨hd, z, xs, rel, dd⟩ := dio_of I.hok e hb
  obtain ⟨w', hw, rw'⟩ := RelO.some_of (v := v) (o := (atKey xs k).map (·.2)) (by rw [l]; exact rel.val k)
  obtain ⟨p, hp, hp2⟩ := Option.map_eq_some_iff.mp hw
  refine wpAny_getItem_heap (tupleKind_room_in1 hu) (key_ofO I.hok eb) dd hp ?_
  rw [hp2]
  exact h w' _ (I.tok _) rw'
theorem d_notInO {Q : Value → Shared → Prop} (hu : A.units + 1 < cLine) (I : L2.Inv X pins σ H s) (g : DGetO H a y o) (ry : RelV y u) (h : ∀ s', L2.Inv X pins σ H s' → Q (.bool (!o.isSome)) s') :
    wpAny (model X.prog X.w) A (compareOp .NotIn u (.ref a)) Q E s := by
  obtain ⟨kvs, bs, k, b, e, hb, rfl, eb, l⟩ := g
  cases (show u = Value.ref b from ry)
  obtain ⟨hd, z, xs, rel, dd⟩ := dio_of I.hok e hb
  refine wpAny_notIn_heap (tupleKind_room_in1 hu) (key_ofO I.hok eb) hd dd ?_
  have q := (rel.val k).isSome_eq
  rw [Option.isSome_map] at q
  rw [← q, ← l]
  exact h _ (I.tok _)
theorem d_setItemO {H' : Hp} {Q : Unit → Shared → Prop} (hu : A.units + 1 < cLine) (I : L2.Inv X pins σ H s) (g : DPutO H a y v H') (ry : RelV y u) (rv : RelV v r) (h : ∀ s', L2.Inv X pins σ H' s' → Q () s') :
    wpAny (model X.prog X.w) A (setItem (.ref a) u r) Q E s := by
  obtain ⟨kvs, bs, k, b, e, hb, rfl, eb, l, rfl⟩ := g
  cases (show u = Value.ref b from ry)
  obtain ⟨hd, z, xs, rel, dd⟩ := dio_of I.hok e hb
  have hz : xs.length ≤ sizeLine := by rw [← Paired.length rel]; exact z
  have hl : (putK kvs k v).length ≤ sizeLine := by have := length_putK kvs k v; omega
  refine wpAny_setItem_heap (hsz := hz) (tupleKind_room_in1 hu) (key_ofO I.hok eb) dd fun h' dd' hs => h _ ?_
  obtain ⟨q, es, ep, hq, h2, h3, h4, _, h5⟩ := dd'
  exact d_write I (by rw [e]; exact True.intro) hs ⟨q, hq⟩ (dio_ok ⟨hd, hl, _, rel.put k rv, q, es, ep, hq, h2, h3, h4, h5⟩)
theorem dictO_typeIs (I : L2.Inv X pins σ H s) (g : DGetO H a y o) : s.TypeIs (.ref a) "dict" := by
  obtain ⟨kvs, bs, k, b, e, hb, _⟩ := g
  obtain ⟨_, _, xs, _, dd⟩ := dio_of I.hok e hb
  exact dd.typeIs
end
def tDGetO (td ty : TE) : TE := fun σ H Q => td σ H fun x H1 => ty σ H1 fun y H2 => ∃ a v, x = .ref a ∧ DGetO H2 a y (some v) ∧ Q v H2
def tDNotInO (ty td : TE) : TE := fun σ H Q => ty σ H fun y H1 => td σ H1 fun x H2 => ∃ a o, x = .ref a ∧ DGetO H2 a y o ∧ Q (.bl (!o.isSome)) H2
def sDPutO (td ty tv : TE) : TS := fun D σ H => tv σ H fun v H1 => td σ H1 fun x H2 => ty σ H2 fun y H3 => ∃ a H4, x = .ref a ∧ DPutO H3 a y v H4 ∧ D.nx σ H4
section
variable {X : Cx} {o i e value : Expr} {pos pos' tpos : Pos} {td ty tv : TE}
theorem pe_dgetO (hu : X.A.units + 1 < cLine) (ho : PE X o td) (hi : PE X i ty) (hs : NoSl i) : PE X (.Subscript o i pos) (tDGetO td ty) := by
  refine ⟨fun pins s σ H Q I h => ?_⟩
  refine subD_of PySem.F.slot_dict_getitem.lookup hs (thn (ho.run pins s σ H _ I h) fun u s1 ⟨x, H1, I1, rx, q1⟩ => thn (hi.run pins s1 σ H1 _ I1 q1) fun iv s2 ⟨y, H2, I2, ry, a, v, ex, g, q2⟩ => ?_)
  subst ex
  obtain rfl : u = Value.ref a := rx
  exact ⟨dictO_typeIs I2 g, d_getItemO hu I2 g ry fun w' s3 I3 rw' => ⟨v, H2, I3, rw', q2⟩⟩
theorem pc_dnotinO (hu : X.A.units + 1 < cLine) (hi : PE X i ty) (ho : PE X o td) : PC X .NotIn i o (tDNotInO ty td) := by
  refine ⟨fun pins s σ H Q I h => ?_⟩
  refine thn (hi.run pins s σ H _ I h) fun iv s1 ⟨y, H1, I1, ry, q1⟩ => thn (ho.run pins s1 σ H1 _ I1 q1) fun u s2 ⟨x, H2, I2, rx, a, ov, ex, g, q2⟩ => ?_
  subst ex
  obtain rfl : u = Value.ref a := rx
  exact d_notInO hu I2 g ry fun s3 I3 => ⟨.bl (!ov.isSome), H2, I3, rfl, q2⟩
theorem ps_dputO (hu : X.A.units + 1 < cLine) (ho : PE X o td) (hi : PE X i ty) (hv : PE X value tv) (hs : swapsWith value (some (.Subscript o i pos')) pos.line X.env = pure false) :
    PS X (.Assign [.Subscript o i pos'] value pos) (sDPutO td ty tv) := by
  refine ⟨fun pins s σ H D I h => ?_⟩
  refine wpAny_Assign_Subscript (thn (hv.run pins s σ H _ I h) fun r s1 ⟨v, H1, I1, rv, q1⟩ => thn (ho.run pins s1 σ H1 _ I1 q1) fun u s2 ⟨x, H2, I2, rx, q2⟩ => thn (hi.run pins s2 σ H2 _ I2 q2) fun iv s3 ⟨y, H3, I3, ry, a, H4, ex, g, q3⟩ => ?_) hs
  subst ex
  obtain rfl : u = Value.ref a := rx
  exact d_setItemO hu I3 g ry rv fun s4 I4 => ⟨σ, H4, I4, q3⟩
theorem dio_empty {P : Program} {w : World} {H : Hp} (h : Heap) (hb : sysModules < h.objs.size) : ObjOk P w H (h.push { cls := .type "dict", data := .dict #[] }) h.objs.size (.ext (dioP h.objs.size [] [])) :=
  dio_ok ⟨beq_eq_false_iff_ne.mpr (Ne.symm (Nat.ne_of_lt hb)), Nat.zero_le _, [], .nil, _, #[], 0, Heap.get?_push_size _ rfl, ⟨rfl, rfl, rfl⟩, rfl, rfl, List.nodup_nil⟩
def tDNewO : TE := fun _ H Q => ∀ p, H p = none → Q (.ref p) (upd H p (.ext (dioP p [] [])))
theorem pe_dnewO : PE X (.Dict [] [] pos) tDNewO := ⟨fun pins s σ H Q I h =>
  wpAny_Dict_empty ⟨.ref s.heap.objs.size, _, I.laid (a := s.heap.objs.size) (o := .ext (dioP s.heap.objs.size [] [])) (t' := s.toks) (fun _ _ q => Heap.get?_push_of_some _ q) (Nat.le_refl _) (dio_empty s.heap I.big), rfl, h _ (I.hok.fresh (Nat.le_refl _))⟩⟩
end
def oiD : Option Int → D
  | none => .non
  | some i => .int i
def vD : V → D
  | .int i => .int i
  | .str x => .str x
  | .bl b => .bl b
  | .ref a => .ref a
  | _ => .non
def okV : V → Bool
  | .int _ | .str _ | .bl _ | .ref _ | .non => true
  | _ => false
def plV : D → Bool
  | .int _ | .str _ | .bl _ | .ref _ | .non => true
  | _ => false
theorem rep_vD {K : PySem.W.Frag} {G : Hp} {v : V} (h : okV v = true) : Rep K G (vD v) v := by
  cases v <;> first | exact .int | exact .str | exact .bl | exact .ref | exact .non | cases h
theorem vD_of {K : PySem.W.Frag} {G : Hp} {d : D} {v : V} (h : plV d = true) (r : Rep K G d v) : vD v = d ∧ okV v = true := by
  cases r <;> first | exact ⟨rfl, rfl⟩ | cases h
def lkO (kvs : List (OK × D)) (k : OK) : Option D := (kvs.find? fun kv => decide (kv.1 = k)).map (·.2)
def putO (kvs : List (OK × D)) (k : OK) (v : D) : List (OK × D) :=
  if (kvs.any fun kv => decide (kv.1 = k)) = true then kvs.map (fun kv => if kv.1 = k then (kv.1, v) else kv) else kvs ++ [(k, v)]
abbrev kvM (kv : List (OK × V)) : List (OK × D) := kv.map fun x => (x.1, vD x.2)
theorem lkO_map (k : OK) : ∀ kv : List (OK × V), lkO (kvM kv) k = (valV kv k).map vD
  | [] => rfl
  | p :: r => by
    by_cases e : p.1 = k
    · rw [valV_pos e]
      simp [lkO, kvM, List.find?_cons, e]
    · rw [valV_neg e, ← lkO_map k r]
      simp [lkO, kvM, List.find?_cons, e]
theorem putO_map (k : OK) (v : V) (kv : List (OK × V)) : putO (kvM kv) k (vD v) = kvM (putK kv k v) := by
  unfold putO putK
  have e : ((kvM kv).any fun kv => decide (kv.1 = k)) = kv.any fun kv => decide (kv.1 = k) := by
    rw [List.any_map]
    rfl
  rw [e]
  split
  · unfold kvM
    rw [List.map_map, List.map_map]
    refine List.map_congr_left fun x _ => ?_
    show (if x.1 = k then (x.1, vD v) else (x.1, vD x.2)) = _
    by_cases z : x.1 = k
    · simp [z]
    · simp [z]
  · unfold kvM
    rw [List.map_append]
    rfl
def DioAt (M : Sto) (p : Addr) (kvs : List (OK × D)) : Prop := ∃ (kv : List (OK × V)) (bs : List (Addr × OK)), M p = some (.key (dioP p kv bs) bs) ∧ kvs = kvM kv ∧ ∀ x ∈ kv, okV x.2 = true
theorem DioAt.nn {M : Sto} {p : Addr} {kvs : List (OK × D)} (h : DioAt M p kvs) : M p ≠ none := by
  obtain ⟨_, _, e, _⟩ := h
  rw [e]; simp
theorem DioAt.of {M M' : Sto} {p : Addr} {kvs : List (OK × D)} (h : DioAt M p kvs) (e : M' p = M p) : DioAt M' p kvs := by
  obtain ⟨a, b, c, d⟩ := h
  exact ⟨a, b, e.trans c, d⟩
theorem DioAt.upd {M : Sto} {p q : Addr} {kvs : List (OK × D)} {c : Cell} (h : DioAt M p kvs) (n : p ≠ q) : DioAt (updM M q c) p kvs := h.of (updM_ne n)
def ogetQ (M : Sto) (x y : D) (φ : D → Prop) : Prop := ∃ p kvs ks d, x = .ref p ∧ DioAt M p kvs ∧ y = .tpl (ks.map oiD) ∧ lkO kvs ks = some d ∧ φ d
def oinQ (M : Sto) (x y : D) (φ : Bool → Prop) : Prop := ∃ p kvs ks, x = .ref p ∧ DioAt M p kvs ∧ y = .tpl (ks.map oiD) ∧ φ (lkO kvs ks).isSome
def oputQ (M : Sto) (x y d : D) (φ : Sto → Prop) : Prop := ∃ p kvs ks, x = .ref p ∧ DioAt M p kvs ∧ y = .tpl (ks.map oiD) ∧ kvs.length < sizeLine ∧ plV d = true ∧ ∀ c, DioAt (updM M p c) p (putO kvs ks d) → φ (updM M p c)
theorem vals_oiD {K : PySem.W.Frag} {G : Hp} : ∀ {ks : OK} {vs : List V}, RepL K G (ks.map oiD) vs → vs = ks.map oV
  | [], _, r => by rw [List.map_nil] at r; cases r; rfl
  | k :: ks, _, r => by
    rw [List.map_cons] at r
    cases r with
    | cons h t =>
      rw [vals_oiD t]
      cases k with
      | none => cases h; rfl
      | some i => cases h; rfl
section
variable {K : PySem.W.Frag} {M : Sto} {H G : Hp} {x y d : D} {v u t : V}
theorem tpl_key {ks : OK} (w : Wd K M H G) (ry : Rep K G (.tpl (ks.map oiD)) u) : ∃ b, u = .ref b ∧ G b = some (.tup (ks.map oV)) := by
  cases ry with
  | tpl hb rl =>
    rw [vals_oiD rl] at hb
    exact ⟨_, rfl, hb⟩
theorem kget_x {p : Addr} {kv : List (OK × V)} {bs : List (Addr × OK)} {ks : OK} (w : Wd K M H G) (e : M p = some (.key (dioP p kv bs) bs)) (ry : Rep K G (.tpl (ks.map oiD)) u) : DGetO H p u (valV kv ks) := by
  obtain ⟨b, rfl, hb⟩ := tpl_key w ry
  obtain ⟨_, h1, h2⟩ := w.cells _ _ e
  exact ⟨kv, bs, ks, b, h1, fun q hq => w.sub _ _ (h2 q hq), rfl, w.sub _ _ hb, rfl⟩
end
theorem valV_mem {kv : List (OK × V)} {k : OK} {v : V} (h : valV kv k = some v) (ok : ∀ x ∈ kv, okV x.2 = true) : okV v = true := by
  obtain ⟨p, hp, rfl⟩ := Option.map_eq_some_iff.mp h
  exact ok _ (List.mem_of_find?_eq_some hp)
theorem putK_ok {kv : List (OK × V)} {k : OK} {v : V} (ok : ∀ x ∈ kv, okV x.2 = true) (hv : okV v = true) : ∀ x ∈ putK kv k v, okV x.2 = true := by
  intro x hx
  unfold putK at hx
  split at hx
  · obtain ⟨y, hy, rfl⟩ := List.mem_map.mp hx
    split
    · exact hv
    · exact ok y hy
  · rcases List.mem_append.mp hx with z | z
    · exact ok x z
    · rw [List.mem_singleton.mp z]; exact hv
section
variable {X : Cx} {B : Bs} {pos p3 : Pos} {a b : Expr} {fa fb fc : DTE} {k : Nat}
theorem de_oget (hr : Room k X.A) (ha : DE X B a fa) (hb : DE X B b fb) (hs : NoSl b := by exact fun _ _ => rfl) : DE X B (.Subscript a b pos) (fun r M Ψ => fa r M fun x M1 => fb r M1 fun y M2 => ogetQ M2 x y fun d => Ψ d M2) :=
  PE_imp (pe_dgetO (units1 hr) ha hb hs) fun σ H Q ⟨r, M, G, Ψ, R, h, k⟩ => by
    refine ⟨r, M, G, _, R, h, fun x M1 v H1 G1 q1 R1 s1 p1 => ⟨r, M1, G1, _, R1, q1, fun y M2 u H2 G2 q2 R2 s2 p2 => ?_⟩⟩
    obtain ⟨p, kvs, ks, d, rfl, ⟨kv, bs, e, rfl, ok⟩, rfl, hl, q⟩ := q2
    cases p1
    rw [lkO_map] at hl
    obtain ⟨v, hv, rfl⟩ := Option.map_eq_some_iff.mp hl
    exact ⟨p, v, rfl, by rw [← hv]; exact kget_x R2.wd e p2, k _ _ _ _ _ q R2 (s1.tr s2) (rep_vD (valV_mem hv ok))⟩
theorem dt_onin (hr : Room k X.A) (hb : DE X B b fb) (ha : DE X B a fa) (h1 : behindInMarks .NotIn a = false := by rfl) : DT X B (.Compare b [.NotIn] [a] pos) (fun r M Ψ => fb r M fun y M1 => fa r M1 fun x M2 => oinQ M2 x y fun c => Ψ (!c) M2) :=
  PT_imp (pt_cmp (pc_dnotinO (units1 hr) hb ha) h1) fun σ H Q ⟨r, M, G, Ψ, R, h, k⟩ => by
    refine ⟨r, M, G, _, R, h, fun y M1 v H1 G1 q1 R1 s1 p1 => ⟨r, M1, G1, _, R1, q1, fun x M2 u H2 G2 q2 R2 s2 p2 => ?_⟩⟩
    obtain ⟨p, kvs, ks, rfl, ⟨kv, bs, e, rfl, ok⟩, rfl, q⟩ := q2
    cases p2
    rw [lkO_map, Option.isSome_map] at q
    exact ⟨p, _, rfl, kget_x R2.wd e (p1.mono s2), _, rfl, k _ _ _ _ q R2 (s1.tr s2)⟩
theorem ds_oput {value : Expr} (hr : Room k X.A) (hv : DE X B value fc) (ha : DE X B a fa) (hb : DE X B b fb) (hs : swapsWith value (some (.Subscript a b p3)) pos.line X.env = pure false := by rfl) :
    DS X B (.Assign [.Subscript a b p3] value pos) (fun E r M => fc r M fun d M1 => fa r M1 fun x M2 => fb r M2 fun y M3 => oputQ M3 x y d fun M4 => E.nx r M4) :=
  PS_imp (ps_dputO (units1 hr) ha hb hv hs) fun D' σ H h => by
    obtain ⟨r, M, G, E, R, q, k⟩ := EkOk.of h
    refine ⟨r, M, G, _, R, q, fun d M1 v H1 G1 q1 R1 s1 p1 => ?_⟩
    refine ⟨r, M1, G1, _, R1, q1, fun x M2 u H2 G2 q2 R2 s2 p2 => ?_⟩
    refine ⟨r, M2, G2, _, R2, q2, fun y M3 t H3 G3 q3 R3 s3 p3 => ?_⟩
    obtain ⟨p, kvs, ks, rfl, ⟨kv, bs, e, rfl, ok⟩, rfl, hl, hd, q⟩ := q3
    have p2' := p2.mono s3
    cases p2'
    obtain ⟨e1, e2⟩ := vD_of hd p1
    obtain ⟨b0, rfl, hb0⟩ := tpl_key R3.wd p3
    obtain ⟨gp, h1, h2⟩ := R3.wd.cells _ _ e
    obtain ⟨w1, s1'⟩ := cell_put (c := .key (dioP p (putK kv ks v) ((b0, ks) :: bs)) ((b0, ks) :: bs)) (o := .ext (dioP p (putK kv ks v) ((b0, ks) :: bs))) R3.wd e ⟨upd_same, fun q hq => by
      rcases List.mem_cons.mp hq with z | z
      · rw [z]; exact hb0
      · exact h2 q z⟩
    refine ⟨p, _, rfl, ⟨kv, bs, ks, b0, h1, fun q hq => R3.wd.sub _ _ (h2 q hq), rfl, R3.wd.sub _ _ hb0, by rw [List.length_map] at hl; exact hl, rfl⟩, k.nx _ _ _ _ _ (q _ ⟨_, _, updM_same, ?_, putK_ok ok e2⟩) (R3.go w1 s1') ((s1.tr s2).tr s3)⟩
    rw [← putO_map, e1]
theorem de_onew : DE X B (.Dict [] [] pos) (fun _ M Ψ => ∀ p c, M p = none → DioAt (updM M p c) p [] → Ψ (.ref p) (updM M p c)) :=
  PE_imp pe_dnewO fun σ H Q ⟨r, M, G, Ψ, R, h, k⟩ => fun p hp => by
    obtain ⟨w, s⟩ := cell_new (c := .key (dioP p [] []) []) (o := .ext (dioP p [] [])) R.wd hp ⟨upd_same, fun q hq => nomatch hq⟩
    exact k _ _ _ _ _ (h p _ (R.wd.nomem hp) ⟨[], [], updM_same, rfl, fun x hx => nomatch hx⟩) (R.go w s) Sub.rfl' .ref
end
end Z
namespace Z

section
variable {ν κ : Type}
def runO (nx : ν → Nat → Option ν) : Option ν → List Nat → Option ν
  | o, [] => o
  | o, t :: w => runO nx (o.bind fun x => nx x t) w
theorem runO_none (nx : ν → Nat → Option ν) : ∀ w, runO nx none w = none
  | [] => rfl
  | _ :: w => runO_none nx w
theorem runO_app (nx : ν → Nat → Option ν) : ∀ (u w : List Nat) (o : Option ν), runO nx o (u ++ w) = runO nx (runO nx o u) w
  | [], _, _ => rfl
  | _ :: u, w, _ => runO_app nx u w _
theorem runO_pre {nx : ν → Nat → Option ν} {o : Option ν} {u w : List Nat} (h : runO nx o (u ++ w) ≠ none) : runO nx o u ≠ none := fun e => h (by rw [runO_app, e, runO_none])
def Lives (nx : ν → Nat → Option ν) (o : Option ν) (n : Nat) : Prop := ∃ w, LR w ∧ w.length = n ∧ runO nx o w ≠ none
def Alive (nx : ν → Nat → Option ν) (o : Option ν) : Prop := ∀ n, Lives nx o n
theorem Lives.mono {nx : ν → Nat → Option ν} {o : Option ν} {n m : Nat} (h : Lives nx o n) (l : m ≤ n) : Lives nx o m := by
  obtain ⟨w, a, b, c⟩ := h
  refine ⟨w.take m, fun z hz => a z (List.mem_of_mem_take hz), by rw [List.length_take]; omega, ?_⟩
  have e : w = w.take m ++ w.drop m := (List.take_append_drop m w).symm
  rw [e] at c
  exact runO_pre c
theorem lives_zero {nx : ν → Nat → Option ν} {x : ν} : Lives nx (some x) 0 := ⟨[], (fun _ h => nomatch h), rfl, fun h => nomatch h⟩
theorem lives_none {nx : ν → Nat → Option ν} {n : Nat} : ¬ Lives nx none n := fun ⟨w, _, _, h⟩ => h (runO_none nx w)
theorem lives_succ {nx : ν → Nat → Option ν} {x : ν} {n : Nat} : Lives nx (some x) (n + 1) ↔ Lives nx (nx x 76) n ∨ Lives nx (nx x 82) n := by
  constructor
  · rintro ⟨w, a, b, c⟩
    match w, b with
    | t :: w, b =>
      have lw : LR w := fun z hz => a z (List.mem_cons_of_mem _ hz)
      have lb : w.length = n := by simpa using b
      rcases a t List.mem_cons_self with rfl | rfl
      · exact .inl ⟨w, lw, lb, c⟩
      · exact .inr ⟨w, lw, lb, c⟩
  · rintro (⟨w, a, b, c⟩ | ⟨w, a, b, c⟩)
    · exact ⟨76 :: w, fun z hz => (List.mem_cons.mp hz).elim .inl (a z), by simp [b], c⟩
    · exact ⟨82 :: w, fun z hz => (List.mem_cons.mp hz).elim .inr (a z), by simp [b], c⟩
end
abbrev Hst := List (Option Nat × Option Nat)
def hnx (S : Hst) (i : Nat) (t : Nat) : Option Nat := (S[i]?).bind fun p => if t = 76 then p.1 else p.2
def hgo (S : Hst) (o : Option Nat) (w : List Nat) : Option Nat := runO (hnx S) o w
def hsq (S : Hst) (q : Nat) : Option Nat := (S[q / 2]?).bind fun p => if q % 2 = 0 then p.1 else p.2
theorem hsq_l (S : Hst) (i : Nat) : hsq S (2 * i) = hnx S i 76 := by
  unfold hsq hnx
  rw [show 2 * i / 2 = i by omega, show 2 * i % 2 = 0 by omega]
  rfl
theorem hsq_r (S : Hst) (i : Nat) : hsq S (2 * i + 1) = hnx S i 82 := by
  unfold hsq hnx
  rw [show (2 * i + 1) / 2 = i by omega, show (2 * i + 1) % 2 = 1 by omega]
  rfl

section
variable {ν κ : Type} [DecidableEq κ]
def insB (ke : ν → κ) (line : List ν) (y : ν) : List ν := if ke y ∈ line.map ke then line else line ++ [y]
def posB (ke : ν → κ) (line : List ν) (y : ν) : Nat := (line.map ke).idxOf (ke y)
def stB (ke : ν → κ) (line : List ν) : Option ν → List ν × Option Nat
  | none => (line, none)
  | some y => (insB ke line y, some (posB ke line y))
def rowB (nx : ν → Nat → Option ν) (ke : ν → κ) (line : List ν) (x : ν) : List ν × (Option Nat × Option Nat) :=
  ((stB ke (stB ke line (nx x 76)).1 (nx x 82)).1, ((stB ke line (nx x 76)).2, (stB ke (stB ke line (nx x 76)).1 (nx x 82)).2))
structure Born (n : Nat) (S : Hst) (b : Nat → Nat) : Prop where
  mono : ∀ u v, 0 < u → u < v → v < n → b u < b v
  at_ : ∀ v, 0 < v → v < n → hsq S (b v) = some v ∧ b v < 2 * v
  first : ∀ q v, hsq S q = some v → 0 < v → b v ≤ q
structure Bfs (nx : ν → Nat → Option ν) (ke : ν → κ) (s : ν) (line : List ν) (S : Hst) : Prop where
  s0 : line[0]? = some s
  nd : (line.map ke).Nodup
  le : S.length ≤ line.length
  st : ∀ (i : Nat) (x : ν) (p : Option Nat × Option Nat), line[i]? = some x → S[i]? = some p → ∀ (t : Nat) (o : Option Nat), (t = 76 ∧ o = p.1 ∨ t = 82 ∧ o = p.2) → match nx x t with | none => o = none | some y => ∃ (j : Nat) (z : ν), line[j]? = some z ∧ ke z = ke y ∧ o = some j
  rc : ∀ (i : Nat) (x : ν), line[i]? = some x → ∃ w, LR w ∧ runO nx (some s) w = some x
  bn : ∃ b, Born line.length S b
theorem insB_pre (ke : ν → κ) (line : List ν) (y : ν) {i : Nat} {x : ν} (h : line[i]? = some x) : (insB ke line y)[i]? = some x := by
  unfold insB
  split
  · exact h
  · rw [List.getElem?_append_left (List.getElem?_eq_some_iff.mp h).1]; exact h
theorem posB_at (ke : ν → κ) (line : List ν) (y : ν) : ∃ z, (insB ke line y)[posB ke line y]? = some z ∧ ke z = ke y := by
  unfold insB posB
  split
  · rename_i h
    have l := List.idxOf_lt_length_of_mem h
    have e := List.getElem_idxOf l
    rw [List.getElem_map] at e
    rw [List.length_map] at l
    exact ⟨line[(line.map ke).idxOf (ke y)], List.getElem?_eq_getElem l, e⟩
  · rename_i h
    have e : (line.map ke).idxOf (ke y) = line.length := by rw [List.idxOf_eq_length h, List.length_map]
    rw [e]
    exact ⟨y, by simp, rfl⟩
theorem insB_nd {ke : ν → κ} {line : List ν} (y : ν) (h : (line.map ke).Nodup) : ((insB ke line y).map ke).Nodup := by
  unfold insB
  split
  · exact h
  · rename_i hn
    rw [List.map_append, List.nodup_append]
    refine ⟨h, by simp, fun a ha b hb => ?_⟩
    simp only [List.map_cons, List.map_nil, List.mem_singleton] at hb
    rintro rfl
    exact hn (hb ▸ ha)
theorem insB_mem {ke : ν → κ} {line : List ν} {y x : ν} (h : x ∈ insB ke line y) : x ∈ line ∨ x = y := by
  unfold insB at h
  split at h
  · exact .inl h
  · rcases List.mem_append.mp h with h | h
    · exact .inl h
    · exact .inr (List.mem_singleton.mp h)
theorem insB_le (ke : ν → κ) (line : List ν) (y : ν) : line.length ≤ (insB ke line y).length := by
  unfold insB
  split
  · exact Nat.le_refl _
  · simp
theorem stB_pre {ke : ν → κ} {line : List ν} {o : Option ν} {i : Nat} {x : ν} (h : line[i]? = some x) : ((stB ke line o).1)[i]? = some x := by
  cases o with
  | none => exact h
  | some y => exact insB_pre ke line y h
theorem stB_nd {ke : ν → κ} {line : List ν} (o : Option ν) (h : (line.map ke).Nodup) : (((stB ke line o).1).map ke).Nodup := by
  cases o with
  | none => exact h
  | some y => exact insB_nd y h
theorem stB_le (ke : ν → κ) (line : List ν) (o : Option ν) : line.length ≤ ((stB ke line o).1).length := by
  cases o with
  | none => exact Nat.le_refl _
  | some y => exact insB_le ke line y
theorem stB_mem {ke : ν → κ} {line : List ν} {o : Option ν} {x : ν} (h : x ∈ (stB ke line o).1) : x ∈ line ∨ o = some x := by
  cases o with
  | none => exact .inl h
  | some y => exact (insB_mem h).imp id fun e => by rw [e]
theorem stB_new (ke : ν → κ) (line : List ν) (o : Option ν) : ((stB ke line o).1 = line ∧ ∀ v, (stB ke line o).2 = some v → v < line.length) ∨ (((stB ke line o).1).length = line.length + 1 ∧ (stB ke line o).2 = some line.length) := by
  cases o with
  | none => exact .inl ⟨rfl, fun v h => nomatch h⟩
  | some y =>
    show (insB ke line y = line ∧ _) ∨ ((insB ke line y).length = _ ∧ some (posB ke line y) = _)
    unfold insB posB
    split
    · rename_i h
      refine .inl ⟨rfl, fun v e => ?_⟩
      cases e
      have := List.idxOf_lt_length_of_mem h
      rw [List.length_map] at this
      exact this
    · rename_i h
      refine .inr ⟨by simp, ?_⟩
      rw [List.idxOf_eq_length h, List.length_map]

def GoalAt (ke : ν → κ) (line : List ν) (n : Option ν) (o : Option Nat) : Prop := match n with | none => o = none | some y => ∃ (j : Nat) (z : ν), line[j]? = some z ∧ ke z = ke y ∧ o = some j
theorem GoalAt.more {ke : ν → κ} {line line' : List ν} {n : Option ν} {o : Option Nat} (h : GoalAt ke line n o) (m : ∀ (i : Nat) (x : ν), line[i]? = some x → line'[i]? = some x) : GoalAt ke line' n o := by
  cases n with
  | none => exact h
  | some y => obtain ⟨j, z, a, b, c⟩ := h; exact ⟨j, z, m _ _ a, b, c⟩
theorem stB_goal (ke : ν → κ) (line : List ν) (n : Option ν) : GoalAt ke (stB ke line n).1 n (stB ke line n).2 := by
  cases n with
  | none => rfl
  | some y =>
    obtain ⟨z, a, b⟩ := posB_at ke line y
    exact ⟨_, z, a, b, rfl⟩
theorem hsq_app_old {S : Hst} {p : Option Nat × Option Nat} {q : Nat} (h : q < 2 * S.length) : hsq (S ++ [p]) q = hsq S q := by
  unfold hsq
  rw [List.getElem?_append_left (by omega)]
theorem hsq_app_l {S : Hst} {p : Option Nat × Option Nat} : hsq (S ++ [p]) (2 * S.length) = p.1 := by
  rw [hsq_l]
  unfold hnx
  rw [List.getElem?_append_right (Nat.le_refl _), Nat.sub_self]
  rfl
theorem hsq_app_r {S : Hst} {p : Option Nat × Option Nat} : hsq (S ++ [p]) (2 * S.length + 1) = p.2 := by
  rw [hsq_r]
  unfold hnx
  rw [List.getElem?_append_right (Nat.le_refl _), Nat.sub_self]
  rfl
theorem hsq_out {S : Hst} {q : Nat} (h : 2 * S.length ≤ q) : hsq S q = none := by
  unfold hsq
  rw [List.getElem?_eq_none (by omega)]
  rfl
theorem Bfs.row {nx : ν → Nat → Option ν} {ke : ν → κ} {s x : ν} {line : List ν} {S : Hst} (h : Bfs nx ke s line S) (hx : line[S.length]? = some x) :
    Bfs nx ke s (rowB nx ke line x).1 (S ++ [(rowB nx ke line x).2]) := by
  have up : ∀ (i : Nat) (z : ν), line[i]? = some z → ((rowB nx ke line x).1)[i]? = some z := fun i z e => stB_pre (stB_pre e)
  have nd := stB_nd (nx x 82) (stB_nd (nx x 76) h.nd)
  have hlt : S.length < line.length := (List.getElem?_eq_some_iff.mp hx).1
  have l1 := stB_le ke line (nx x 76)
  have l2 := stB_le ke (stB ke line (nx x 76)).1 (nx x 82)
  have g1 : GoalAt ke (rowB nx ke line x).1 (nx x 76) (rowB nx ke line x).2.1 := (stB_goal ke line (nx x 76)).more fun i z e => stB_pre e
  have g2 : GoalAt ke (rowB nx ke line x).1 (nx x 82) (rowB nx ke line x).2.2 := stB_goal ke _ (nx x 82)
  have idx : ∀ {i : Nat} {z z' : ν}, line[i]? = some z → ((rowB nx ke line x).1)[i]? = some z' → z' = z := fun {i z z'} a b => by rw [up _ _ a] at b; exact (Option.some.inj b).symm
  refine ⟨up _ _ h.s0, nd, ?_, fun i z p hi hp t o ht => ?_, fun i z hi => ?_, ?_⟩
  · rw [List.length_append, List.length_singleton]
    exact Nat.le_trans hlt (Nat.le_trans l1 l2)
  · by_cases c : i < S.length
    · rw [List.getElem?_append_left c] at hp
      have hi0 : ∃ z0, line[i]? = some z0 := ⟨_, List.getElem?_eq_getElem (by omega)⟩
      obtain ⟨z0, hi0⟩ := hi0
      obtain rfl := idx hi0 hi
      exact GoalAt.more (h.st i z p hi0 hp t o ht) up
    · rw [List.getElem?_append_right (by omega)] at hp
      have e : i - S.length = 0 := by
        cases k : i - S.length with
        | zero => rfl
        | succ n => rw [k] at hp; cases hp
      rw [e] at hp
      cases hp
      have ei : i = S.length := by omega
      subst ei
      obtain rfl := idx hx hi
      rcases ht with ⟨rfl, rfl⟩ | ⟨rfl, rfl⟩
      · exact g1
      · exact g2
  · obtain ⟨w0, lw0, e0⟩ := h.rc _ _ hx
    have go : ∀ (t : Nat), (t = 76 ∨ t = 82) → nx x t = some z → ∃ w, LR w ∧ runO nx (some s) w = some z := fun t ht e => by
      refine ⟨w0 ++ [t], fun c hc => ?_, ?_⟩
      · rcases List.mem_append.mp hc with hc | hc
        · exact lw0 c hc
        · rw [List.mem_singleton.mp hc]; exact ht
      · rw [runO_app, e0]
        exact e
    have hm := List.mem_of_getElem? hi
    rcases stB_mem hm with hm | e
    · rcases stB_mem hm with hm | e
      · obtain ⟨j, hj⟩ := List.getElem?_of_mem hm
        exact h.rc j z hj
      · exact go 76 (.inl rfl) e
    · exact go 82 (.inr rfl) e
  · obtain ⟨b, B⟩ := h.bn
    have n1 := stB_new ke line (nx x 76)
    have n2 := stB_new ke (stB ke line (nx x 76)).1 (nx x 82)
    generalize hr : (rowB nx ke line x).2 = p at *
    have p1 : (stB ke line (nx x 76)).2 = p.1 := by rw [← hr]; rfl
    have p2 : (stB ke (stB ke line (nx x 76)).1 (nx x 82)).2 = p.2 := by rw [← hr]; rfl
    have pl : ((rowB nx ke line x).1).length = ((stB ke (stB ke line (nx x 76)).1 (nx x 82)).1).length := rfl
    rw [p1] at n1
    rw [p2] at n2
    generalize hl1 : (stB ke line (nx x 76)).1 = m1 at *
    generalize hl2 : (stB ke m1 (nx x 82)).1 = m2 at *
    rw [pl]
    clear pl p1 p2 g1 g2 up idx nd
    -- the births: old ones, then 2 at, 2 at + 1
    let n := line.length
    let k := S.length
    have q0 : ∀ v, hsq (S ++ [p]) (2 * k) = some v ↔ p.1 = some v := fun v => by rw [hsq_app_l]
    have q1 : ∀ v, hsq (S ++ [p]) (2 * k + 1) = some v ↔ p.2 = some v := fun v => by rw [hsq_app_r]
    have old : ∀ v, 0 < v → v < n → b v < 2 * k := fun v a c => by
      obtain ⟨e, _⟩ := B.at_ v a c
      apply Classical.byContradiction
      intro z
      rw [hsq_out (show 2 * S.length ≤ b v by omega)] at e
      cases e
    have hb : ∀ v, 0 < v → v < n → hsq (S ++ [p]) (b v) = some v := fun v a c => by
      rw [hsq_app_old (old v a c)]; exact (B.at_ v a c).1
    have far : ∀ q v, hsq (S ++ [p]) q = some v → q < 2 * k ∨ q = 2 * k ∨ q = 2 * k + 1 := fun q v e => by
      apply Classical.byContradiction
      intro z
      rw [hsq_out (by rw [List.length_append, List.length_singleton]; omega)] at e
      cases e
    have lt1 : ∀ v, p.1 = some v → v < m1.length := fun v e => by
      rcases n1 with ⟨rfl, f⟩ | ⟨f1, f2⟩
      · exact f v e
      · rw [f2] at e; cases e; omega
    refine ⟨fun v => if v < n then b v else if v < m1.length then 2 * k else 2 * k + 1, ⟨fun u v hu huv hv => ?_, fun v hv hl => ?_, fun q v e hv => ?_⟩⟩
    · have hm : m1.length ≤ n + 1 := by rcases n1 with ⟨rfl, _⟩ | ⟨f1, _⟩ <;> omega
      have hm2 : m2.length ≤ m1.length + 1 := by rcases n2 with ⟨rfl, _⟩ | ⟨f1, _⟩ <;> omega
      by_cases cv : v < n
      · rw [if_pos cv, if_pos (by omega)]
        exact B.mono u v hu huv cv
      · rw [if_neg cv]
        by_cases cu : u < n
        · rw [if_pos cu]
          have := old u hu cu
          split <;> omega
        · rw [if_neg cu]
          have e1 : n = u := by omega
          have e2 : u < m1.length := by omega
          rw [if_pos e2, if_neg (by omega)]
          omega
    · by_cases cv : v < n
      · rw [if_pos cv]
        exact ⟨hb v hv cv, (B.at_ v hv cv).2⟩
      · rw [if_neg cv]
        by_cases c1 : v < m1.length
        · rw [if_pos c1]
          rcases n1 with ⟨rfl, _⟩ | ⟨f1, f2⟩
          · omega
          · have : v = n := by omega
            subst this
            exact ⟨(q0 _).mpr f2, by omega⟩
        · rw [if_neg c1]
          rcases n2 with ⟨rfl, _⟩ | ⟨f1, f2⟩
          · omega
          · have : v = m1.length := by omega
            subst this
            exact ⟨(q1 _).mpr f2, by omega⟩
    · rcases far q v e with c | rfl | rfl
      · rw [hsq_app_old c] at e
        have := B.first q v e hv
        by_cases cv : v < n
        · rw [if_pos cv]; exact this
        · exfalso
          -- a goal that is no room yet
          have hq : q / 2 < S.length := by omega
          unfold hsq at e
          rw [List.getElem?_eq_getElem hq] at e
          have hz : ∃ z0, line[q / 2]? = some z0 := ⟨_, List.getElem?_eq_getElem (by omega)⟩
          obtain ⟨z0, hz⟩ := hz
          have st := h.st (q / 2) z0 _ hz (List.getElem?_eq_getElem hq)
          have key : ∀ (t : Nat) (o : Option Nat), (t = 76 ∧ o = (S[q / 2]).1 ∨ t = 82 ∧ o = (S[q / 2]).2) → o = some v → False := fun t o ht ho => by
            have z := st t o ht
            split at z
            · rw [z] at ho; cases ho
            · obtain ⟨j, y, a1, a2, a3⟩ := z
              rw [a3] at ho
              cases ho
              exact cv (List.getElem?_eq_some_iff.mp a1).1
          have e' : (if q % 2 = 0 then (S[q / 2]).1 else (S[q / 2]).2) = some v := e
          split at e'
          · exact key 76 _ (.inl ⟨rfl, rfl⟩) e'
          · exact key 82 _ (.inr ⟨rfl, rfl⟩) e'
      · have e := (q0 v).mp e
        by_cases cv : v < n
        · rw [if_pos cv]; have := old v hv cv; omega
        · rw [if_neg cv, if_pos (lt1 v e)]
          exact Nat.le_refl _
      · by_cases cv : v < n
        · rw [if_pos cv]; have := old v hv cv; omega
        · rw [if_neg cv]
          split <;> omega
theorem Bfs.start (nx : ν → Nat → Option ν) (ke : ν → κ) (s : ν) : Bfs nx ke s [s] [] where
  s0 := rfl
  nd := by simp
  le := Nat.zero_le _
  st := fun i x p _ e => by cases e
  rc := fun i x e => by
    cases i with
    | zero => cases e; exact ⟨[], (fun _ h => nomatch h), rfl⟩
    | succ i => cases e
  bn := ⟨fun _ => 0, fun u v a b c => by simp at c; omega, fun v a c => by simp at c; omega, fun q v e => by rw [hsq_out (Nat.zero_le _)] at e; cases e⟩
theorem Bfs.go {nx : ν → Nat → Option ν} {ke : ν → κ} {s : ν} {line : List ν} {S : Hst} (h : Bfs nx ke s line S) (hl : S.length = line.length)
    (hc : ∀ x y, ke x = ke y → ∀ t, (t = 76 ∨ t = 82) → (nx x t).map ke = (nx y t).map ke) : ∀ (w : List Nat), LR w → ∀ (j : Nat) (z y : ν), line[j]? = some z → ke z = ke y → GoalAt ke line (runO nx (some y) w) (hgo S (some j) w)
  | [], _, j, z, y, hj, e => ⟨j, z, hj, e, rfl⟩
  | t :: w, lw, j, z, y, hj, e => by
    have lt : t = 76 ∨ t = 82 := lw t List.mem_cons_self
    have lw' : LR w := fun c hc => lw c (List.mem_cons_of_mem _ hc)
    have hjl : j < S.length := by rw [hl]; exact (List.getElem?_eq_some_iff.mp hj).1
    have hS := List.getElem?_eq_getElem hjl
    have hn : hnx S j t = if t = 76 then (S[j]).1 else (S[j]).2 := by unfold hnx; rw [hS]; rfl
    have st := h.st j z _ hj hS t (if t = 76 then (S[j]).1 else (S[j]).2) (by rcases lt with rfl | rfl <;> simp)
    have cg := hc z y e t lt
    show GoalAt ke line (runO nx (nx y t) w) (runO (hnx S) (hnx S j t) w)
    rw [hn]
    split at st
    · rename_i q
      rw [q] at cg
      have : nx y t = none := by
        cases k : nx y t with
        | none => rfl
        | some u => rw [k] at cg; cases cg
      rw [this, st, runO_none, runO_none]
      rfl
    · rename_i y' q
      obtain ⟨j', z', a1, a2, a3⟩ := st
      rw [q] at cg
      obtain ⟨u, hu⟩ : ∃ u, nx y t = some u := by
        cases k : nx y t with
        | none => rw [k] at cg; cases cg
        | some u => exact ⟨u, rfl⟩
      rw [hu] at cg
      rw [hu, a3]
      exact Bfs.go h hl hc w lw' j' z' u a1 (by rw [a2]; exact Option.some.inj cg)
end
end Z
namespace Z
structure Hm (S : Hst) (P : List Nat → Prop) : Prop where
  lang : ∀ w, LR w → ((S ≠ [] ∧ hgo S (some 0) w ≠ none) ↔ P w)
  ok : ∀ i t j, hnx S i t = some j → j < S.length
  rc : ∀ i, i < S.length → ∃ w, LR w ∧ hgo S (some 0) w = some i
  mn : ∀ i j, i < S.length → j < S.length → (∀ w, LR w → (hgo S (some i) w ≠ none ↔ hgo S (some j) w ≠ none)) → i = j
  bn : ∃ b, Born S.length S b
theorem lr_snoc {w : List Nat} {t : Nat} (h : LR w) (ht : t = 76 ∨ t = 82) : LR (w ++ [t]) := fun c hc => by
  rcases List.mem_append.mp hc with hc | hc
  · exact h c hc
  · rw [List.mem_singleton.mp hc]; exact ht
theorem lr_app {u w : List Nat} (h : LR u) (h' : LR w) : LR (u ++ w) := fun c hc => (List.mem_append.mp hc).elim (h c) (h' c)
theorem hgo_app (S : Hst) (o : Option Nat) (u w : List Nat) : hgo S o (u ++ w) = hgo S (hgo S o u) w := runO_app _ u w o
theorem hgo_one (S : Hst) (i t : Nat) : hgo S (some i) [t] = hnx S i t := rfl
theorem hsq_of (S : Hst) (q : Nat) : ∃ i t, (t = 76 ∨ t = 82) ∧ hsq S q = hnx S i t ∧ i = q / 2 ∧ ∀ S' : Hst, hsq S' q = hnx S' i t := by
  by_cases e : q % 2 = 0
  · refine ⟨q / 2, 76, .inl rfl, ?_, rfl, fun S' => ?_⟩
    · have := hsq_l S (q / 2); rw [show 2 * (q / 2) = q by omega] at this; exact this
    · have := hsq_l S' (q / 2); rw [show 2 * (q / 2) = q by omega] at this; exact this
  · refine ⟨q / 2, 82, .inr rfl, ?_, rfl, fun S' => ?_⟩
    · have := hsq_r S (q / 2); rw [show 2 * (q / 2) + 1 = q by omega] at this; exact this
    · have := hsq_r S' (q / 2); rw [show 2 * (q / 2) + 1 = q by omega] at this; exact this
def HR (S S' : Hst) (i j : Nat) : Prop := ∃ w, LR w ∧ hgo S (some 0) w = some i ∧ hgo S' (some 0) w = some j
section
variable {S S' : Hst} {P : List Nat → Prop}
theorem HR.sw {i j : Nat} (h : HR S S' i j) : HR S' S j i := let ⟨w, a, b, c⟩ := h; ⟨w, a, c, b⟩
theorem HR.same (h : Hm S P) (h' : Hm S' P) (n : S ≠ []) (n' : S' ≠ []) {i j : Nat} (r : HR S S' i j) (u : List Nat) (hu : LR u) : hgo S (some i) u ≠ none ↔ hgo S' (some j) u ≠ none := by
  obtain ⟨w, a, b, c⟩ := r
  have e1 := h.lang (w ++ u) (lr_app a hu)
  have e2 := h'.lang (w ++ u) (lr_app a hu)
  rw [hgo_app, b] at e1
  rw [hgo_app, c] at e2
  constructor
  · intro z; exact (e2.mpr (e1.mp ⟨n, z⟩)).2
  · intro z; exact (e1.mpr (e2.mp ⟨n', z⟩)).2
theorem lt_hgo (h : Hm S P) (n : S ≠ []) {w : List Nat} {i : Nat} (e : hgo S (some 0) w = some i) : i < S.length := by
  have gen : ∀ (w : List Nat) (j : Nat), j < S.length → hgo S (some j) w = some i → i < S.length := by
    intro w
    induction w with
    | nil => intro j hj e; cases e; exact hj
    | cons t w ih =>
      intro j hj e
      have e : runO (hnx S) (hnx S j t) w = some i := e
      cases k : hnx S j t with
      | none => rw [k, runO_none] at e; cases e
      | some u => rw [k] at e; exact ih u (h.ok _ _ _ k) e
  exact gen w 0 (List.length_pos_iff.mpr n) e
theorem HR.inj (h : Hm S P) (h' : Hm S' P) (n : S ≠ []) (n' : S' ≠ []) {i j j' : Nat} (r : HR S S' i j) (r' : HR S S' i j') : j = j' := by
  refine h'.mn j j' ?_ ?_ fun u hu => ?_
  · obtain ⟨_, _, _, c⟩ := r; exact lt_hgo h' n' c
  · obtain ⟨_, _, _, c⟩ := r'; exact lt_hgo h' n' c
  · exact (r.same h h' n n' u hu).symm.trans (r'.same h h' n n' u hu)
theorem HR.next {i t v v' : Nat} (r : HR S S' i i) (ht : t = 76 ∨ t = 82) (e : hnx S i t = some v) (e' : hnx S' i t = some v') : HR S S' v v' := by
  obtain ⟨w, a, b, c⟩ := r
  exact ⟨w ++ [t], lr_snoc a ht, by rw [hgo_app, b]; exact e, by rw [hgo_app, c]; exact e'⟩
theorem hr_born {b : Nat → Nat} {n : Nat} (B : Born n S b) {q : Nat} (hq : ∀ q' < q, hsq S q' = hsq S' q') : ∀ v, v < n → (v = 0 ∨ b v < q) → HR S S' v v := by
  intro v
  induction v using Nat.strongRecOn with
  | ind v ih =>
    intro hv hb
    by_cases v0 : v = 0
    · subst v0; exact ⟨[], (fun _ h => nomatch h), rfl, rfl⟩
    · have bq : b v < q := hb.resolve_left v0
      obtain ⟨e, l⟩ := B.at_ v (by omega) hv
      obtain ⟨i, t, ht, e1, e2, e3⟩ := hsq_of S (b v)
      have ri : HR S S' i i := ih i (by omega) (by omega) (by
        by_cases i0 : i = 0
        · exact .inl i0
        · refine .inr ?_
          have := (B.at_ i (by omega) (by omega)).2
          omega)
      refine ri.next ht (e1.symm.trans e) ?_
      rw [← e3 S', ← hq _ bq]
      exact e
theorem Hm.seq (h : Hm S P) (h' : Hm S' P) (n : S ≠ []) (n' : S' ≠ []) : ∀ q, hsq S q = hsq S' q := by
  obtain ⟨b, B⟩ := h.bn
  obtain ⟨b', B'⟩ := h'.bn
  intro q
  induction q using Nat.strongRecOn with
  | ind q ih =>
    obtain ⟨i, t, ht, e1, ei, e3⟩ := hsq_of S q
    have e1' := e3 S'
    have ih' : ∀ q' < q, hsq S' q' = hsq S q' := fun q' hq => (ih q' hq).symm
    by_cases out : ¬ i < S.length ∧ ¬ i < S'.length
    · rw [hsq_out (by omega), hsq_out (by omega)]
    have ri : HR S S' i i := by
      by_cases c : i < S.length
      · refine hr_born B ih i c ?_
        by_cases i0 : i = 0
        · exact .inl i0
        · have := (B.at_ i (by omega) c).2
          exact .inr (by omega)
      · have c' : i < S'.length := by omega
        refine (hr_born B' ih' i c' ?_).sw
        by_cases i0 : i = 0
        · exact .inl i0
        · have := (B'.at_ i (by omega) c').2
          exact .inr (by omega)
    have sm := ri.same h h' n n' [t] (fun c hc => by rw [List.mem_singleton.mp hc]; exact ht)
    rw [hgo_one, hgo_one] at sm
    cases k : hnx S i t with
    | none =>
      cases k' : hnx S' i t with
      | none => rw [e1, e1', k, k']
      | some v' => rw [k, k'] at sm; exact absurd (sm.mpr (fun z => nomatch z)) (fun z => z rfl)
    | some v =>
      cases k' : hnx S' i t with
      | none => rw [k, k'] at sm; exact absurd (sm.mp (fun z => nomatch z)) (fun z => z rfl)
      | some v' =>
        have rv := ri.next ht k k'
        have lv := h.ok _ _ _ k
        have lv' := h'.ok _ _ _ k'
        have hq : hsq S q = some v := e1.trans k
        have hq' : hsq S' q = some v' := e1'.trans k'
        suffices z : v = v' by rw [hq, hq', z]
        have A : (v = 0 ∨ b v < q) → v = v' := fun z => (hr_born B ih v lv z).inj h h' n n' rv
        have A' : (v' = 0 ∨ b' v' < q) → v = v' := fun z => ((hr_born B' ih' v' lv' z).inj h' h n' n rv.sw).symm
        by_cases v0 : v = 0
        · exact A (.inl v0)
        by_cases v0' : v' = 0
        · exact A' (.inl v0')
        have f := B.first q v hq (by omega)
        have f' := B'.first q v' hq' (by omega)
        by_cases c : b v < q
        · exact A (.inr c)
        by_cases c' : b' v' < q
        · exact A' (.inr c')
        rcases Nat.lt_trichotomy v v' with z | z | z
        · exfalso
          have m := B'.mono v v' (by omega) z lv'
          have a := (B'.at_ v (by omega) (by omega)).1
          rw [← ih _ (by omega)] at a
          have := B.first _ v a (by omega)
          omega
        · exact z
        · exfalso
          have m := B.mono v' v (by omega) z lv
          have a := (B.at_ v' (by omega) (by omega)).1
          rw [ih _ (by omega)] at a
          have := B'.first _ v' a (by omega)
          omega
theorem Hm.nil (h : Hm S P) : S = [] ↔ ¬ P [] := by
  have := h.lang [] (fun _ h => nomatch h)
  rw [← this]
  constructor
  · intro e z; exact z.1 e
  · intro z
    apply Classical.byContradiction
    intro k
    exact z ⟨k, fun e => nomatch e⟩
theorem hsq_ext (h : ∀ q, hsq S q = hsq S' q) (l : S.length = S'.length) : S = S' := by
  refine List.ext_getElem? fun i => ?_
  by_cases c : i < S.length
  · have c' : i < S'.length := by omega
    have a := h (2 * i)
    have a' := h (2 * i + 1)
    rw [hsq_l, hsq_l] at a
    rw [hsq_r, hsq_r] at a'
    unfold hnx at a a'
    rw [List.getElem?_eq_getElem c, List.getElem?_eq_getElem c'] at *
    have a : (S[i]).1 = (S'[i]).1 := a
    have a' : (S[i]).2 = (S'[i]).2 := a'
    rw [Prod.ext a a']
  · rw [List.getElem?_eq_none (by omega), List.getElem?_eq_none (by omega)]
theorem Hm.len_le (h : Hm S P) (h' : Hm S' P) (n : S ≠ []) (hq : ∀ q, hsq S q = hsq S' q) : S'.length ≤ S.length := by
  apply Classical.byContradiction
  intro z
  obtain ⟨b', B'⟩ := h'.bn
  have hp := List.length_pos_iff.mpr n
  have a := (B'.at_ S.length hp (by omega)).1
  rw [← hq] at a
  obtain ⟨i, t, ht, e1, _⟩ := hsq_of S (b' S.length)
  have := h.ok i t _ (e1.symm.trans a)
  omega
theorem Hm.uniq (h : Hm S P) (h' : Hm S' P) : S = S' := by
  by_cases p : P []
  · have n : S ≠ [] := fun z => h.nil.mp z p
    have n' : S' ≠ [] := fun z => h'.nil.mp z p
    have q := h.seq h' n n'
    exact hsq_ext q (Nat.le_antisymm (h'.len_le h n' fun i => (q i).symm) (h.len_le h' n q))
  · rw [h.nil.mpr p, h'.nil.mpr p]
theorem Hm.congr {P' : List Nat → Prop} (h : Hm S P) (e : ∀ w, LR w → (P w ↔ P' w)) : Hm S P' :=
  ⟨fun w lw => (h.lang w lw).trans (e w lw), h.ok, h.rc, h.mn, h.bn⟩
end
end Z
namespace Z
section
variable {α β : Type} [DecidableEq α] [DecidableEq β]
theorem ndp_len : ∀ (l m : List α), l.Nodup → (∀ x ∈ l, x ∈ m) → l.length ≤ m.length
  | [], _, _, _ => Nat.zero_le _
  | x :: l, m, hn, hs => by
    obtain ⟨h1, h2⟩ := List.nodup_cons.mp hn
    have hx : x ∈ m := hs x List.mem_cons_self
    have ih := ndp_len l (m.erase x) h2 fun y hy => by
      have hne : y ≠ x := fun e => h1 (e ▸ hy)
      exact (List.mem_erase_of_ne hne).2 (hs y (List.mem_cons_of_mem _ hy))
    have e := List.length_erase_of_mem hx
    have hp : 0 < m.length := List.length_pos_of_mem hx
    rw [List.length_cons]
    omega
def dsc : List α → List α
  | [] => []
  | x :: l => if x ∈ dsc l then dsc l else x :: dsc l
theorem dsc_mem {x : α} : ∀ {l : List α}, x ∈ dsc l ↔ x ∈ l
  | [] => Iff.rfl
  | y :: l => by
    unfold dsc
    have ih := dsc_mem (x := x) (l := l)
    split
    · rename_i h
      rw [List.mem_cons, ih]
      constructor
      · exact .inr
      · rintro (rfl | z)
        · exact dsc_mem.mp h
        · exact z
    · rw [List.mem_cons, List.mem_cons, ih]
theorem dsc_nd : ∀ (l : List α), (dsc l).Nodup
  | [] => List.nodup_nil
  | y :: l => by
    unfold dsc
    split
    · exact dsc_nd l
    · rename_i h
      exact List.nodup_cons.mpr ⟨h, dsc_nd l⟩
theorem dsc_le (l : List α) : (dsc l).length ≤ l.length := ndp_len _ _ (dsc_nd l) fun x hx => dsc_mem.mp hx
theorem dsc_sub {l m : List α} (h : ∀ x ∈ l, x ∈ m) : (dsc l).length ≤ (dsc m).length := ndp_len _ _ (dsc_nd l) fun x hx => dsc_mem.mpr (h x (dsc_mem.mp hx))
theorem dsc_inj {g : α → β} {l : List α} (h : (dsc l).length ≤ (dsc (l.map g)).length) : ∀ a ∈ l, ∀ b ∈ l, g a = g b → a = b := by
  intro a ha b hb e
  apply Classical.byContradiction
  intro ne
  have ha' : a ∈ dsc l := dsc_mem.mpr ha
  have l1 := List.length_erase_of_mem ha'
  have hp : 0 < (dsc l).length := List.length_pos_of_mem ha'
  have s : ∀ y ∈ dsc (l.map g), y ∈ ((dsc l).erase a).map g := fun y hy => by
    obtain ⟨x, hx, rfl⟩ := List.mem_map.mp (dsc_mem.mp hy)
    by_cases c : x = a
    · subst c
      exact List.mem_map.mpr ⟨b, (List.mem_erase_of_ne fun z => ne z.symm).2 (dsc_mem.mpr hb), e.symm⟩
    · exact List.mem_map.mpr ⟨x, (List.mem_erase_of_ne c).2 (dsc_mem.mpr hx), rfl⟩
  have := ndp_len _ _ (dsc_nd _) s
  rw [List.length_map] at this
  omega
theorem dsc_map_le (g : α → β) (l : List α) : (dsc (l.map g)).length ≤ (dsc l).length := by
  have := ndp_len (dsc (l.map g)) ((dsc l).map g) (dsc_nd _) fun y hy => by
    obtain ⟨x, hx, rfl⟩ := List.mem_map.mp (dsc_mem.mp hy)
    exact List.mem_map.mpr ⟨x, dsc_mem.mpr hx, rfl⟩
  rwa [List.length_map] at this
end
def Rng (T : Hst) : Prop := ∀ i t j, hnx T i t = some j → j < T.length
def gl (a : List Bool) : Option Nat → Bool
  | none => false
  | some g => a.getD g false
def lvN (T : Hst) (a : List Bool) : List Bool := (a.zip T).map fun p => p.1 && (gl a p.2.1 || gl a p.2.2)
def lvS (T : Hst) : Nat → List Bool
  | 0 => T.map fun _ => true
  | k + 1 => lvN T (lvS T k)
theorem lvN_len (T : Hst) (a : List Bool) (h : a.length = T.length) : (lvN T a).length = T.length := by unfold lvN; simp [h]
theorem lvS_len (T : Hst) : ∀ k, (lvS T k).length = T.length
  | 0 => by simp [lvS]
  | k + 1 => lvN_len T _ (lvS_len T k)
theorem hnx_l {T : Hst} {i : Nat} (h : i < T.length) : hnx T i 76 = (T[i]).1 := by unfold hnx; rw [List.getElem?_eq_getElem h]; rfl
theorem hnx_r {T : Hst} {i : Nat} (h : i < T.length) : hnx T i 82 = (T[i]).2 := by unfold hnx; rw [List.getElem?_eq_getElem h]; rfl
theorem hnx_out {T : Hst} {i t : Nat} (h : T.length ≤ i) : hnx T i t = none := by unfold hnx; rw [List.getElem?_eq_none h]; rfl
theorem lvS_at {T : Hst} (R : Rng T) : ∀ k i, i < T.length → ((lvS T k).getD i false = true ↔ Lives (hnx T) (some i) k)
  | 0, i, h => by
    have : (lvS T 0).getD i false = true := by simp [lvS, List.getD_eq_getElem?_getD, h]
    exact ⟨fun _ => lives_zero, fun _ => this⟩
  | k + 1, i, h => by
    have hl := lvS_len T k
    have e : (lvS T (k + 1)).getD i false = ((lvS T k).getD i false && (gl (lvS T k) (T[i]).1 || gl (lvS T k) (T[i]).2)) := by
      show (lvN T (lvS T k)).getD i false = _
      unfold lvN
      rw [List.getD_eq_getElem?_getD, List.getElem?_map, List.getElem?_eq_getElem (by rw [List.length_zip]; omega)]
      simp [List.getD_eq_getElem?_getD, show i < (lvS T k).length by omega]
    have g : ∀ o, (∀ j, o = some j → j < T.length) → (gl (lvS T k) o = true ↔ Lives (hnx T) o k) := fun o ho => by
      cases o with
      | none => exact ⟨fun z => (nomatch z), fun z => (lives_none z).elim⟩
      | some j => exact lvS_at R k j (ho j rfl)
    rw [e, Bool.and_eq_true, Bool.or_eq_true, lvS_at R k i h, g _ fun j hj => R i 76 j (by rw [hnx_l h]; exact hj), g _ fun j hj => R i 82 j (by rw [hnx_r h]; exact hj), lives_succ, hnx_l h, hnx_r h]
    constructor
    · exact fun z => z.2
    · refine fun z => ⟨?_, z⟩
      have : Lives (hnx T) (some i) (k + 1) := lives_succ.mpr (by rw [hnx_l h, hnx_r h]; exact z)
      exact this.mono (Nat.le_succ k)
structure Lvg (T : Hst) (a : List Bool) : Prop where
  len : a.length = T.length
  at_ : ∀ i, i < T.length → (a.getD i false = true ↔ Alive (hnx T) (some i))
theorem lv_fix {T : Hst} (R : Rng T) {k : Nat} (e : lvS T (k + 1) = lvS T k) : Lvg T (lvS T k) := by
  have all : ∀ m, lvS T (k + m) = lvS T k := by
    intro m
    induction m with
    | zero => rfl
    | succ m ih =>
      show lvN T (lvS T (k + m)) = _
      rw [ih]
      exact e
  refine ⟨lvS_len T k, fun i h => ⟨fun z n => ?_, fun z => (lvS_at R k i h).mpr (z k)⟩⟩
  have := all n
  rw [← this] at z
  exact ((lvS_at R (k + n) i h).mp z).mono (by omega)
def lvC (a : List Bool) : Nat := a.count true
theorem lvN_le (T : Hst) (a : List Bool) (h : a.length = T.length) (i : Nat) : (lvN T a).getD i false = true → a.getD i false = true := by
  unfold lvN
  rw [List.getD_eq_getElem?_getD, List.getElem?_map]
  intro z
  cases k : (a.zip T)[i]? with
  | none => rw [k] at z; cases z
  | some p =>
    rw [k] at z
    have z : (p.1 && _) = true := z
    rw [Bool.and_eq_true] at z
    have := List.getElem?_zip_eq_some.mp k
    rw [List.getD_eq_getElem?_getD, this.1]
    exact z.1
theorem count_lt : ∀ {a b : List Bool}, a.length = b.length → (∀ i : Nat, b.getD i false = true → a.getD i false = true) → b ≠ a → b.count true < a.count true
  | [], [], _, _, n => absurd rfl n
  | x :: a, y :: b, hl, hi, n => by
    have h0 := hi 0
    have hr : ∀ i : Nat, b.getD i false = true → a.getD i false = true := fun i => hi (i + 1)
    have hl' : a.length = b.length := by simpa using hl
    have le : b.count true ≤ a.count true := by
      by_cases e : b = a
      · rw [e]; exact Nat.le_refl _
      · exact Nat.le_of_lt (count_lt hl' hr e)
    cases x <;> cases y
    · have : b ≠ a := fun e => n (by rw [e])
      simpa using count_lt hl' hr this
    · exact absurd (h0 rfl) (fun z => nomatch z)
    · simp; omega
    · have : b ≠ a := fun e => n (by rw [e])
      have := count_lt hl' hr this
      simp only [List.count_cons_self]
      omega
theorem lvC_lt {T : Hst} {a : List Bool} (h : a.length = T.length) (n : lvN T a ≠ a) : lvC (lvN T a) < lvC a := count_lt (by rw [lvN_len T a h, h]) (lvN_le T a h) n
section
variable {ν : Type} {nx : ν → Nat → Option ν}
theorem alive_pre {o : Option ν} {w : List Nat} (lw : LR w) (h : Alive nx (runO nx o w)) : Alive nx o := fun n => by
  obtain ⟨u, a, b, c⟩ := h n
  have : Lives nx o (w ++ u).length := ⟨w ++ u, lr_app lw a, rfl, by rw [runO_app]; exact c⟩
  exact this.mono (by rw [List.length_append]; omega)
theorem alive_none : ¬ Alive nx none := fun h => lives_none (h 0)
end
end Z
namespace Z
def fkx (f : List (Option Nat)) : Option Nat → Option Nat
  | none => none
  | some g => f.getD g none
def clK (T : Hst) (f : List (Option Nat)) (i : Nat) : List (Option Nat) := [f.getD i none, fkx f (hnx T i 76), fkx f (hnx T i 82)]
def clF (T : Hst) (al : List Bool) (f : List (Option Nat)) : Nat → List (List (Option Nat)) × List (Option Nat)
  | 0 => ([], [])
  | i + 1 => if al.getD i false = true then (insB id (clF T al f i).1 (clK T f i), (clF T al f i).2 ++ [some (posB id (clF T al f i).1 (clK T f i))]) else ((clF T al f i).1, (clF T al f i).2 ++ [none])
def clN (T : Hst) (al : List Bool) (f : List (Option Nat)) : List (Option Nat) := (clF T al f T.length).2
theorem clF_len (T : Hst) (al : List Bool) (f : List (Option Nat)) : ∀ n, (clF T al f n).2.length = n
  | 0 => rfl
  | n + 1 => by
    unfold clF
    split <;> simp [clF_len T al f n]
theorem getD_app_old {α : Type} {l : List α} {x d : α} {i : Nat} (h : i < l.length) : (l ++ [x]).getD i d = l.getD i d := by
  rw [List.getD_eq_getElem?_getD, List.getD_eq_getElem?_getD, List.getElem?_append_left h]
theorem getD_app_new {α : Type} {l : List α} {x d : α} : (l ++ [x]).getD l.length d = x := by
  rw [List.getD_eq_getElem?_getD, List.getElem?_append_right (Nat.le_refl _), Nat.sub_self]
  rfl
structure ClOk (T : Hst) (al : List Bool) (f : List (Option Nat)) (n : Nat) (ks : List (List (Option Nat))) (lt : List (Option Nat)) : Prop where
  nd : ks.Nodup
  no : ∀ i, i < n → al.getD i false = false → lt.getD i none = none
  yes : ∀ i, i < n → al.getD i false = true → ∃ v, lt.getD i none = some v ∧ ks[v]? = some (clK T f i)
theorem clF_ok (T : Hst) (al : List Bool) (f : List (Option Nat)) : ∀ n, ClOk T al f n (clF T al f n).1 (clF T al f n).2
  | 0 => ⟨List.nodup_nil, fun i h => by omega, fun i h => by omega⟩
  | n + 1 => by
    have ih := clF_ok T al f n
    have hl := clF_len T al f n
    unfold clF
    split
    · rename_i ha
      refine ⟨?_, fun i h q => ?_, fun i h q => ?_⟩
      · have := insB_nd (ke := id) (line := (clF T al f n).1) (clK T f n) (by rw [List.map_id]; exact ih.nd)
        rwa [List.map_id] at this
      · by_cases c : i < n
        · dsimp only
          rw [getD_app_old (by omega)]; exact ih.no i c q
        · have : i = n := by omega
          subst this
          rw [ha] at q; cases q
      · by_cases c : i < n
        · dsimp only
          rw [getD_app_old (by omega)]
          obtain ⟨v, a, b⟩ := ih.yes i c q
          exact ⟨v, a, insB_pre id _ _ b⟩
        · have e : i = n := by omega
          obtain ⟨z, a, b⟩ := posB_at id (clF T al f n).1 (clK T f n)
          refine ⟨_, ?_, a.trans ?_⟩
          · dsimp only
            rw [e]
            have g := getD_app_new (l := (clF T al f n).2) (x := some (posB id (clF T al f n).1 (clK T f n))) (d := none)
            rw [hl] at g
            exact g
          · rw [e]; exact congrArg some b
    · rename_i ha
      have ha : al.getD n false = false := by simpa using ha
      refine ⟨ih.nd, fun i h q => ?_, fun i h q => ?_⟩
      · by_cases c : i < n
        · dsimp only
          rw [getD_app_old (by omega)]; exact ih.no i c q
        · have e : i = n := by omega
          dsimp only
          rw [e]
          have g := getD_app_new (l := (clF T al f n).2) (x := (none : Option Nat)) (d := none)
          rw [hl] at g
          exact g
      · by_cases c : i < n
        · dsimp only
          rw [getD_app_old (by omega)]; exact ih.yes i c q
        · have e : i = n := by omega
          subst e
          rw [ha] at q; cases q
theorem clN_len (T : Hst) (al : List Bool) (f : List (Option Nat)) : (clN T al f).length = T.length := clF_len T al f _
def EqK (T : Hst) (k : Nat) (o o' : Option Nat) : Prop := ∀ w, LR w → w.length ≤ k → (Alive (hnx T) (hgo T o w) ↔ Alive (hnx T) (hgo T o' w))
def EqA (T : Hst) (o o' : Option Nat) : Prop := ∀ w, LR w → (Alive (hnx T) (hgo T o w) ↔ Alive (hnx T) (hgo T o' w))
theorem EqK.here {T : Hst} {k : Nat} {o o' : Option Nat} (h : EqK T k o o') : Alive (hnx T) o ↔ Alive (hnx T) o' := h [] (fun _ z => nomatch z) (Nat.zero_le _)
theorem eqK_succ {T : Hst} {k i j : Nat} : EqK T (k + 1) (some i) (some j) ↔ (Alive (hnx T) (some i) ↔ Alive (hnx T) (some j)) ∧ EqK T k (hnx T i 76) (hnx T j 76) ∧ EqK T k (hnx T i 82) (hnx T j 82) := by
  constructor
  · intro h
    refine ⟨h.here, fun w lw lk => ?_, fun w lw lk => ?_⟩
    · exact h (76 :: w) (fun z hz => (List.mem_cons.mp hz).elim .inl (lw z)) (by simp; omega)
    · exact h (82 :: w) (fun z hz => (List.mem_cons.mp hz).elim .inr (lw z)) (by simp; omega)
  · rintro ⟨h0, h1, h2⟩ w lw lk
    match w with
    | [] => exact h0
    | t :: w =>
      have lw' : LR w := fun z hz => lw z (List.mem_cons_of_mem _ hz)
      have lk' : w.length ≤ k := by simpa using lk
      rcases lw t List.mem_cons_self with rfl | rfl
      · exact h1 w lw' lk'
      · exact h2 w lw' lk'
theorem eqK_dead {T : Hst} {k : Nat} {o o' : Option Nat} (h : ¬ Alive (hnx T) o) (h' : ¬ Alive (hnx T) o') : EqK T k o o' := fun w lw _ =>
  ⟨fun z => (h (alive_pre lw z)).elim, fun z => (h' (alive_pre lw z)).elim⟩
structure Sem (T : Hst) (k : Nat) (f : List (Option Nat)) : Prop where
  len : f.length = T.length
  no : ∀ i, i < T.length → (f.getD i none = none ↔ ¬ Alive (hnx T) (some i))
  eq : ∀ i j, i < T.length → j < T.length → Alive (hnx T) (some i) → Alive (hnx T) (some j) → (f.getD i none = f.getD j none ↔ EqK T k (some i) (some j))
theorem fkx_iff {T : Hst} {k : Nat} {f : List (Option Nat)} (S : Sem T k f) {o o' : Option Nat} (ho : ∀ j, o = some j → j < T.length) (ho' : ∀ j, o' = some j → j < T.length) : fkx f o = fkx f o' ↔ EqK T k o o' := by
  have dead : ∀ o, (∀ j, o = some j → j < T.length) → (fkx f o = none ↔ ¬ Alive (hnx T) o) := fun o h => by
    cases o with
    | none => exact ⟨fun _ => alive_none, fun _ => rfl⟩
    | some j => exact S.no j (h j rfl)
  by_cases a : Alive (hnx T) o
  · by_cases b : Alive (hnx T) o'
    · cases o with
      | none => exact (alive_none a).elim
      | some i =>
        cases o' with
        | none => exact (alive_none b).elim
        | some j => exact S.eq i j (ho i rfl) (ho' j rfl) a b
    · constructor
      · intro e
        rw [(dead o' ho').mpr b] at e
        exact absurd a ((dead o ho).mp e)
      · intro e; exact absurd (e.here.mp a) b
  · by_cases b : Alive (hnx T) o'
    · constructor
      · intro e
        rw [(dead o ho).mpr a] at e
        exact absurd b ((dead o' ho').mp e.symm)
      · intro e; exact absurd (e.here.mpr b) a
    · rw [(dead o ho).mpr a, (dead o' ho').mpr b]
      exact ⟨fun _ => eqK_dead a b, fun _ => rfl⟩
theorem Sem.start {T : Hst} {al : List Bool} (L : Lvg T al) : Sem T 0 (al.map fun b => if b = true then some 0 else none) := by
  have at_ : ∀ i, i < T.length → (al.map fun b => if b = true then some 0 else none).getD i none = if al.getD i false = true then some 0 else none := fun i h => by
    have hl := L.len
    rw [List.getD_eq_getElem?_getD, List.getElem?_map, List.getD_eq_getElem?_getD, List.getElem?_eq_getElem (by omega)]
    rfl
  refine ⟨by rw [List.length_map, L.len], fun i h => ?_, fun i j hi hj ai aj => ?_⟩
  · rw [at_ i h, ← L.at_ i h]
    split <;> simp_all
  · rw [at_ i hi, at_ j hj, if_pos ((L.at_ i hi).mpr ai), if_pos ((L.at_ j hj).mpr aj)]
    refine ⟨fun _ w lw lk => ?_, fun _ => rfl⟩
    have : w = [] := List.eq_nil_of_length_eq_zero (by omega)
    subst this
    exact ⟨fun _ => aj, fun _ => ai⟩
theorem Sem.next {T : Hst} (R : Rng T) {al : List Bool} (L : Lvg T al) {k : Nat} {f : List (Option Nat)} (S : Sem T k f) : Sem T (k + 1) (clN T al f) := by
  have C := clF_ok T al f T.length
  have key : ∀ i j, i < T.length → j < T.length → Alive (hnx T) (some i) → Alive (hnx T) (some j) → (clK T f i = clK T f j ↔ EqK T (k + 1) (some i) (some j)) := fun i j hi hj ai aj => by
    rw [eqK_succ, ← fkx_iff S (fun m => R i 76 m) (fun m => R j 76 m), ← fkx_iff S (fun m => R i 82 m) (fun m => R j 82 m)]
    unfold clK
    constructor
    · intro e
      injection e with e1 e
      injection e with e2 e
      injection e with e3 _
      exact ⟨⟨fun _ => aj, fun _ => ai⟩, e2, e3⟩
    · rintro ⟨_, e2, e3⟩
      have e1 : f.getD i none = f.getD j none := (S.eq i j hi hj ai aj).mpr fun w lw lk => by
        match w with
        | [] => exact ⟨fun _ => aj, fun _ => ai⟩
        | t :: w =>
          have lw' : LR w := fun z hz => lw z (List.mem_cons_of_mem _ hz)
          have lk' : w.length ≤ k := by have := lk; simp at this; omega
          rcases lw t List.mem_cons_self with rfl | rfl
          · exact (fkx_iff S (fun m => R i 76 m) (fun m => R j 76 m)).mp e2 w lw' lk'
          · exact (fkx_iff S (fun m => R i 82 m) (fun m => R j 82 m)).mp e3 w lw' lk'
      rw [e1, e2, e3]
  refine ⟨clN_len T al f, fun i h => ?_, fun i j hi hj ai aj => ?_⟩
  · constructor
    · intro e a
      obtain ⟨v, z, _⟩ := C.yes i h ((L.at_ i h).mpr a)
      rw [show (clN T al f).getD i none = _ from z] at e
      cases e
    · intro a
      refine C.no i h ?_
      cases c : al.getD i false with
      | false => rfl
      | true => exact absurd ((L.at_ i h).mp c) a
  · obtain ⟨v, z, y⟩ := C.yes i hi ((L.at_ i hi).mpr ai)
    obtain ⟨v', z', y'⟩ := C.yes j hj ((L.at_ j hj).mpr aj)
    rw [show (clN T al f).getD i none = _ from z, show (clN T al f).getD j none = _ from z', ← key i j hi hj ai aj]
    constructor
    · intro e
      have e : v = v' := Option.some.inj e
      subst e
      rw [y] at y'
      exact Option.some.inj y'
    · intro e
      rw [e] at y
      have a1 := (List.getElem?_eq_some_iff.mp y).1
      rw [← y'] at y
      rw [(List.getElem?_inj a1 C.nd).mp y]
structure Kds (T : Hst) (f : List (Option Nat)) : Prop where
  len : f.length = T.length
  no : ∀ i, i < T.length → (f.getD i none = none ↔ ¬ Alive (hnx T) (some i))
  eq : ∀ i j, i < T.length → j < T.length → Alive (hnx T) (some i) → Alive (hnx T) (some j) → (f.getD i none = f.getD j none ↔ EqA T (some i) (some j))
theorem getD_map_zip {f g : List (Option Nat)} (hl : f.length = g.length) (h : ∀ i j, i < f.length → j < f.length → g.getD i none = g.getD j none → f.getD i none = f.getD j none) : ∃ m : Option Nat → Option Nat, f = g.map m := by
  refine ⟨fun v => f.getD (g.idxOf v) none, ?_⟩
  refine List.ext_getElem? fun i => ?_
  by_cases c : i < f.length
  · rw [List.getElem?_map, List.getElem?_eq_getElem c, List.getElem?_eq_getElem (by omega)]
    have cg : i < g.length := by omega
    have mem : g[i] ∈ g := List.getElem_mem cg
    have l1 := List.idxOf_lt_length_of_mem mem
    have e1 := List.getElem_idxOf l1
    have := h i (g.idxOf g[i]) c (by omega) (by
      rw [List.getD_eq_getElem?_getD, List.getElem?_eq_getElem cg, List.getD_eq_getElem?_getD, List.getElem?_eq_getElem l1]
      exact congrArg some e1.symm |> Option.some.inj)
    show some f[i] = some (f.getD (g.idxOf g[i]) none)
    rw [← this, List.getD_eq_getElem?_getD, List.getElem?_eq_getElem c]
    rfl
  · rw [List.getElem?_eq_none (by omega), List.getElem?_eq_none (by rw [List.length_map]; omega)]
theorem Sem.fine {T : Hst} {al : List Bool} (L : Lvg T al) {k : Nat} {f g : List (Option Nat)} (S : Sem T k f) (S' : Sem T (k + 1) g) : ∀ i j, i < T.length → j < T.length → g.getD i none = g.getD j none → f.getD i none = f.getD j none := fun i j hi hj e => by
  by_cases a : Alive (hnx T) (some i)
  · have b : Alive (hnx T) (some j) := Classical.byContradiction fun z => by
      rw [(S'.no j hj).mpr z] at e
      exact (S'.no i hi).mp e a
    have q := (S'.eq i j hi hj a b).mp e
    exact (S.eq i j hi hj a b).mpr fun w lw lk => q w lw (by omega)
  · have b : ¬ Alive (hnx T) (some j) := fun z => by
      rw [(S'.no i hi).mpr a] at e
      exact (S'.no j hj).mp e.symm z
    rw [(S.no i hi).mpr a, (S.no j hj).mpr b]
theorem Sem.dsc_le {T : Hst} {al : List Bool} (L : Lvg T al) {k : Nat} {f g : List (Option Nat)} (S : Sem T k f) (S' : Sem T (k + 1) g) : (dsc f).length ≤ (dsc g).length := by
  obtain ⟨m, e⟩ := getD_map_zip (f := f) (g := g) (by rw [S.len, S'.len]) fun i j hi hj => S.fine L S' i j (by rw [← S.len]; exact hi) (by rw [← S.len]; exact hj)
  rw [e]
  exact dsc_map_le m g
theorem Sem.done {T : Hst} (R : Rng T) {al : List Bool} (L : Lvg T al) {k : Nat} {f g : List (Option Nat)} (S : Sem T k f) (S' : Sem T (k + 1) g) (h : (dsc g).length = (dsc f).length) : Kds T g := by
  obtain ⟨m, e⟩ := getD_map_zip (f := f) (g := g) (by rw [S.len, S'.len]) fun i j hi hj => S.fine L S' i j (by rw [← S.len]; exact hi) (by rw [← S.len]; exact hj)
  have inj := dsc_inj (g := m) (l := g) (by rw [← e, h]; exact Nat.le_refl _)
  have gm : ∀ i, i < T.length → g.getD i none ∈ g := fun i hi => by
    have hl := S'.len
    rw [List.getD_eq_getElem?_getD, List.getElem?_eq_getElem (by omega)]
    exact List.getElem_mem _
  have fm : ∀ i, i < T.length → f.getD i none = m (g.getD i none) := fun i hi => by
    have hl := S'.len
    rw [e, List.getD_eq_getElem?_getD, List.getElem?_map, List.getD_eq_getElem?_getD, List.getElem?_eq_getElem (by omega)]
    rfl
  have back : ∀ i j, i < T.length → j < T.length → f.getD i none = f.getD j none → g.getD i none = g.getD j none := fun i j hi hj q => by
    rw [fm i hi, fm j hj] at q
    exact inj _ (gm i hi) _ (gm j hj) q
  -- to k is to k + 1
  have up : ∀ o o', (∀ j, o = some j → j < T.length) → (∀ j, o' = some j → j < T.length) → EqK T k o o' → EqK T (k + 1) o o' := fun o o' ho ho' q => by
    by_cases a : Alive (hnx T) o
    · have b := q.here.mp a
      cases o with
      | none => exact (alive_none a).elim
      | some i =>
        cases o' with
        | none => exact (alive_none b).elim
        | some j =>
          have hi := ho i rfl
          have hj := ho' j rfl
          exact (S'.eq i j hi hj a b).mp (back i j hi hj ((S.eq i j hi hj a b).mpr q))
    · exact eqK_dead a fun z => a (q.here.mpr z)
  have all : ∀ n i j, i < T.length → j < T.length → EqK T k (some i) (some j) → EqK T (k + n) (some i) (some j) := by
    intro n
    induction n with
    | zero => exact fun i j _ _ q => q
    | succ n ih =>
      intro i j hi hj q
      have q1 := eqK_succ.mp (up _ _ (fun m e => by cases e; exact hi) (fun m e => by cases e; exact hj) q)
      have step : ∀ t, EqK T k (hnx T i t) (hnx T j t) → EqK T (k + n) (hnx T i t) (hnx T j t) := fun t z => by
        by_cases a : Alive (hnx T) (hnx T i t)
        · have b := z.here.mp a
          cases e1 : hnx T i t with
          | none => rw [e1] at a; exact (alive_none a).elim
          | some i' =>
            cases e2 : hnx T j t with
            | none => rw [e2] at b; exact (alive_none b).elim
            | some j' =>
              rw [e1, e2] at z
              exact ih i' j' (R _ _ _ e1) (R _ _ _ e2) z
        · exact eqK_dead a fun y => a (z.here.mpr y)
      exact eqK_succ.mpr ⟨q1.1, step 76 q1.2.1, step 82 q1.2.2⟩
  refine ⟨S'.len, S'.no, fun i j hi hj ai aj => ?_⟩
  rw [S'.eq i j hi hj ai aj]
  constructor
  · intro q w lw
    have q0 : EqK T k (some i) (some j) := fun w lw lk => q w lw (by omega)
    exact all w.length i j hi hj q0 w lw (by omega)
  · intro q w lw _
    exact q w lw
end Z
namespace Z
def kn (T : Hst) (kd : List (Option Nat)) (x t : Nat) : Option Nat := (hnx T x t).bind fun g => if (kd.getD g none).isSome = true then some g else none
def ke (kd : List (Option Nat)) (x : Nat) : Option Nat := kd.getD x none
section
variable {T : Hst} {kd : List (Option Nat)}
theorem kdS_iff (R : Rng T) (K : Kds T kd) {g : Nat} (h : g < T.length) : (kd.getD g none).isSome = true ↔ Alive (hnx T) (some g) := by
  have := K.no g h
  constructor
  · intro z
    apply Classical.byContradiction
    intro a
    rw [this.mpr a] at z; cases z
  · intro a
    cases e : kd.getD g none with
    | none => exact absurd a (this.mp e)
    | some v => rfl
theorem kn_eq (R : Rng T) (K : Kds T kd) (x t : Nat) : (Alive (hnx T) (hnx T x t) → kn T kd x t = hnx T x t) ∧ (¬ Alive (hnx T) (hnx T x t) → kn T kd x t = none) := by
  unfold kn
  cases e : hnx T x t with
  | none => exact ⟨fun _ => rfl, fun _ => rfl⟩
  | some g =>
    have hg := R _ _ _ e
    show (_ → (if (kd.getD g none).isSome = true then some g else none) = some g) ∧ (_ → (if (kd.getD g none).isSome = true then some g else none) = none)
    by_cases a : Alive (hnx T) (some g)
    · rw [if_pos ((kdS_iff R K hg).mpr a)]; exact ⟨fun _ => rfl, fun z => absurd a z⟩
    · rw [if_neg fun z => a ((kdS_iff R K hg).mp z)]; exact ⟨fun z => absurd z a, fun _ => rfl⟩
theorem kn_run (R : Rng T) (K : Kds T kd) : ∀ (w : List Nat) (o : Option Nat), LR w → (Alive (hnx T) (hgo T o w) → runO (kn T kd) o w = hgo T o w) ∧ (¬ Alive (hnx T) (hgo T o w) → Alive (hnx T) o → runO (kn T kd) o w = none)
  | [], o, _ => ⟨fun _ => rfl, fun z a => absurd a z⟩
  | t :: w, o, lw => by
    have lw' : LR w := fun c hc => lw c (List.mem_cons_of_mem _ hc)
    cases o with
    | none => exact ⟨fun a => by
        have a : Alive (hnx T) (runO (hnx T) none w) := a
        rw [runO_none] at a; exact (alive_none a).elim, fun _ a => (alive_none a).elim⟩
    | some x =>
      have ih := kn_run R K w (hnx T x t) lw'
      show (Alive (hnx T) (hgo T (hnx T x t) w) → runO (kn T kd) (kn T kd x t) w = hgo T (hnx T x t) w) ∧ (¬ Alive (hnx T) (hgo T (hnx T x t) w) → _ → runO (kn T kd) (kn T kd x t) w = none)
      by_cases a : Alive (hnx T) (hnx T x t)
      · rw [(kn_eq R K x t).1 a]
        exact ⟨ih.1, fun z _ => ih.2 z a⟩
      · rw [(kn_eq R K x t).2 a, runO_none]
        exact ⟨fun z => absurd (alive_pre lw' z) a, fun _ _ => rfl⟩
theorem eqA_next {i j t : Nat} (ht : t = 76 ∨ t = 82) (h : EqA T (some i) (some j)) : EqA T (hnx T i t) (hnx T j t) := fun w lw => h (t :: w) fun c hc => (List.mem_cons.mp hc).elim (fun e => by rw [e]; exact ht) (lw c)
theorem ke_cong (R : Rng T) (K : Kds T kd) : ∀ x y, ke kd x = ke kd y → ∀ t, (t = 76 ∨ t = 82) → (kn T kd x t).map (ke kd) = (kn T kd y t).map (ke kd) := by
  intro x y e t ht
  have dead : ∀ x, ke kd x = none → kn T kd x t = none := fun x z => by
    by_cases c : x < T.length
    · have na := (K.no x c).mp z
      refine (kn_eq R K x t).2 fun a => na ?_
      exact alive_pre (o := some x) (w := [t]) (fun c hc => by rw [List.mem_singleton.mp hc]; exact ht) a
    · unfold kn; rw [hnx_out (by omega)]; rfl
  cases k : ke kd x with
  | none => rw [dead x k, dead y (by rw [← e]; exact k)]
  | some v =>
    have lt : ∀ x, ke kd x = some v → x < T.length := fun x z => by
      apply Classical.byContradiction
      intro c
      have hl := K.len
      unfold ke at z
      rw [List.getD_eq_getElem?_getD, List.getElem?_eq_none (by omega)] at z
      cases z
    have ky : ke kd y = some v := by rw [← e]; exact k
    have hx := lt x k
    have hy := lt y ky
    have ax : Alive (hnx T) (some x) := (kdS_iff R K hx).mp (by unfold ke at k; rw [k]; rfl)
    have ay : Alive (hnx T) (some y) := (kdS_iff R K hy).mp (by unfold ke at ky; rw [ky]; rfl)
    have q := eqA_next ht ((K.eq x y hx hy ax ay).mp e)
    have q0 := q [] (fun _ z => nomatch z)
    by_cases a : Alive (hnx T) (hnx T x t)
    · have b := q0.mp a
      rw [(kn_eq R K x t).1 a, (kn_eq R K y t).1 b]
      cases e1 : hnx T x t with
      | none => rw [e1] at a; exact (alive_none a).elim
      | some g =>
        cases e2 : hnx T y t with
        | none => rw [e2] at b; exact (alive_none b).elim
        | some g' =>
          rw [e1, e2] at q
          rw [e1] at a
          rw [e2] at b
          exact congrArg some ((K.eq g g' (R _ _ _ e1) (R _ _ _ e2) a b).mpr q)
    · have b : ¬ Alive (hnx T) (hnx T y t) := fun z => a (q0.mpr z)
      rw [(kn_eq R K x t).2 a, (kn_eq R K y t).2 b]
theorem Bfs.rng {ν κ : Type} [DecidableEq κ] {nx : ν → Nat → Option ν} {kf : ν → κ} {s : ν} {line : List ν} {S : Hst} (h : Bfs nx kf s line S) (hl : S.length = line.length) : Rng S := fun i t j e => by
  have hi : i < S.length := by
    apply Classical.byContradiction
    intro z
    rw [hnx_out (by omega)] at e; cases e
  have hz : line[i]? = some line[i] := List.getElem?_eq_getElem (by omega)
  have hS := List.getElem?_eq_getElem hi
  have key : ∀ t' o, (t' = 76 ∧ o = (S[i]).1 ∨ t' = 82 ∧ o = (S[i]).2) → o = some j → j < S.length := fun t' o ht ho => by
    have z := h.st i _ _ hz hS t' o ht
    split at z
    · rw [z] at ho; cases ho
    · obtain ⟨j', y, a1, a2, a3⟩ := z
      rw [a3] at ho
      cases ho
      rw [hl]
      exact (List.getElem?_eq_some_iff.mp a1).1
  unfold hnx at e
  rw [hS] at e
  have e : (if t = 76 then (S[i]).1 else (S[i]).2) = some j := e
  split at e
  · exact key 76 _ (.inl ⟨rfl, rfl⟩) e
  · exact key 82 _ (.inr ⟨rfl, rfl⟩) e
theorem least_hm (R : Rng T) (K : Kds T kd) (h0 : T ≠ []) (a0 : Alive (hnx T) (some 0)) {line : List Nat} {S : Hst} (h : Bfs (kn T kd) (ke kd) 0 line S) (hl : S.length = line.length) : Hm S (fun w => Alive (hnx T) (hgo T (some 0) w)) := by
  have hc := ke_cong R K
  have go0 : ∀ w, LR w → GoalAt (ke kd) line (runO (kn T kd) (some 0) w) (hgo S (some 0) w) := fun w lw => h.go hl hc w lw 0 0 0 h.s0 rfl
  have hp : 0 < T.length := List.length_pos_iff.mpr h0
  have lne : S ≠ [] := fun e => by
    have := (List.getElem?_eq_some_iff.mp h.s0).1
    rw [e] at hl
    simp at hl
    omega
  have lv : ∀ w, LR w → (hgo S (some 0) w ≠ none ↔ Alive (hnx T) (hgo T (some 0) w)) := fun w lw => by
    have g := go0 w lw
    have k := kn_run R K w (some 0) lw
    by_cases a : Alive (hnx T) (hgo T (some 0) w)
    · rw [k.1 a] at g
      refine ⟨fun _ => a, fun _ z => ?_⟩
      cases e : hgo T (some 0) w with
      | none => rw [e] at a; exact alive_none a
      | some y =>
        rw [e] at g
        obtain ⟨j, y', _, _, q⟩ := g
        rw [q] at z; cases z
    · rw [k.2 a a0] at g
      exact ⟨fun z => absurd g z, fun z => absurd z a⟩
  have memT : ∀ i x, line[i]? = some x → x < T.length ∧ Alive (hnx T) (some x) := fun i x e => by
    obtain ⟨w, lw, q⟩ := h.rc i x e
    have k := kn_run R K w (some 0) lw
    by_cases a : Alive (hnx T) (hgo T (some 0) w)
    · rw [k.1 a] at q
      rw [q] at a
      refine ⟨?_, a⟩
      -- a room
      have gen : ∀ (w : List Nat) (j : Nat), j < T.length → hgo T (some j) w = some x → x < T.length := by
        intro w
        induction w with
        | nil => intro j hj e; cases e; exact hj
        | cons t w ih =>
          intro j hj e
          have e : runO (hnx T) (hnx T j t) w = some x := e
          cases k : hnx T j t with
          | none => rw [k, runO_none] at e; cases e
          | some u => rw [k] at e; exact ih u (R _ _ _ k) e
      exact gen w 0 hp q
    · rw [k.2 a a0] at q; cases q
  refine ⟨fun w lw => ?_, h.rng hl, fun i hi => ?_, fun i j hi hj q => ?_, by rw [hl]; exact h.bn⟩
  · rw [← lv w lw]
    exact ⟨fun z => z.2, fun z => ⟨lne, z⟩⟩
  · have hx : line[i]? = some line[i] := List.getElem?_eq_getElem (by omega)
    obtain ⟨w, lw, e⟩ := h.rc i _ hx
    have g := go0 w lw
    rw [e] at g
    obtain ⟨j, z, a1, a2, a3⟩ := g
    refine ⟨w, lw, ?_⟩
    rw [a3]
    have hj := (List.getElem?_eq_some_iff.mp a1).1
    have : (line.map (ke kd))[j]? = (line.map (ke kd))[i]? := by
      rw [List.getElem?_map, List.getElem?_map, a1, hx]
      exact congrArg some a2
    rw [(List.getElem?_inj (by rw [List.length_map]; exact hj) h.nd).mp this]
  · -- rooms that lead alike have one number
    have hx : line[i]? = some line[i] := List.getElem?_eq_getElem (by omega)
    have hy : line[j]? = some line[j] := List.getElem?_eq_getElem (by omega)
    obtain ⟨lx, ax⟩ := memT i _ hx
    obtain ⟨ly, ay⟩ := memT j _ hy
    have res : ∀ (i x : Nat), line[i]? = some x → Alive (hnx T) (some x) → ∀ w, LR w → (hgo S (some i) w ≠ none ↔ Alive (hnx T) (hgo T (some x) w)) := fun i x e ax w lw => by
      have g := h.go hl hc w lw i x x e rfl
      have k := kn_run R K w (some x) lw
      by_cases a : Alive (hnx T) (hgo T (some x) w)
      · rw [k.1 a] at g
        refine ⟨fun _ => a, fun _ z => ?_⟩
        cases e : hgo T (some x) w with
        | none => rw [e] at a; exact alive_none a
        | some y =>
          rw [e] at g
          obtain ⟨j, y', _, _, q⟩ := g
          rw [q] at z; cases z
      · rw [k.2 a ax] at g
        exact ⟨fun z => absurd g z, fun z => absurd z a⟩
    have eq : EqA T (some line[i]) (some line[j]) := fun w lw => by
      rw [← res i _ hx ax w lw, ← res j _ hy ay w lw]
      exact q w lw
    have := (K.eq _ _ lx ly ax ay).mpr eq
    have : (line.map (ke kd))[i]? = (line.map (ke kd))[j]? := by
      rw [List.getElem?_map, List.getElem?_map, hx, hy]
      exact congrArg some this
    exact (List.getElem?_inj (by rw [List.length_map]; omega) h.nd).mp this
theorem least_len (R : Rng T) (K : Kds T kd) (h0 : T ≠ []) {line : List Nat} {S : Hst} (h : Bfs (kn T kd) (ke kd) 0 line S) : line.length ≤ T.length := by
  have hp : 0 < T.length := List.length_pos_iff.mpr h0
  have nd : line.Nodup := by
    have := h.nd
    exact (List.pairwise_map.mp this).imp fun {a b} z e => z (by rw [e])
  have := ndp_len line (List.range T.length) nd fun x hx => by
    obtain ⟨i, e⟩ := List.getElem?_of_mem hx
    obtain ⟨w, lw, q⟩ := h.rc i x e
    have gen : ∀ (w : List Nat) (o : Option Nat), (∀ j, o = some j → j < T.length) → runO (kn T kd) o w = some x → x < T.length := by
      intro w
      induction w with
      | nil => intro o ho e; exact ho x e
      | cons t w ih =>
        intro o ho e
        refine ih _ (fun j hj => ?_) e
        cases o with
        | none => cases hj
        | some y =>
          have hj : kn T kd y t = some j := hj
          unfold kn at hj
          cases e1 : hnx T y t with
          | none => rw [e1] at hj; cases hj
          | some g =>
            rw [e1] at hj
            have hj : (if (kd.getD g none).isSome = true then some g else none) = some j := hj
            split at hj
            · cases hj; exact R _ _ _ e1
            · cases hj
    exact List.mem_range.mpr (gen w (some 0) (fun j e => by cases e; exact hp) q)
  rwa [List.length_range] at this
end
theorem hm_nil {P : List Nat → Prop} (h : ∀ w, LR w → ¬ P w) : Hm [] P where
  lang := fun w lw => ⟨fun z => absurd rfl z.1, fun z => absurd z (h w lw)⟩
  ok := fun i t j e => by
    rw [hnx_out (Nat.zero_le _)] at e; cases e
  rc := fun i h => by cases h
  mn := fun i j h => by cases h
  bn := ⟨fun _ => 0, ⟨fun u v a b c => (by cases c), fun v a c => (by cases c), fun q v e => (by rw [hsq_out (Nat.zero_le _)] at e; cases e)⟩⟩
def Ext (L : List Nat → Prop) (w : List Nat) : Prop := ∀ n, ∃ u, LR u ∧ u.length = n ∧ L (w ++ u)
theorem alive_ext {T : Hst} {L : List Nat → Prop} (h : ∀ w, LR w → (hgo T (some 0) w ≠ none ↔ L w)) {w : List Nat} (lw : LR w) : Alive (hnx T) (hgo T (some 0) w) ↔ Ext L w := by
  refine forall_congr' fun n => ⟨fun ⟨u, a, b, c⟩ => ⟨u, a, b, (h _ (lr_app lw a)).mp ?_⟩, fun ⟨u, a, b, c⟩ => ⟨u, a, b, ?_⟩⟩
  · rw [hgo_app]; exact c
  · have := (h _ (lr_app lw a)).mpr c
    rw [hgo_app] at this
    exact this
theorem bfs_lang {ν : Type} [DecidableEq ν] {nx : ν → Nat → Option ν} {s : ν} {line : List ν} {T : Hst} (h : Bfs nx id s line T) (hl : T.length = line.length) (w : List Nat) (lw : LR w) : hgo T (some 0) w ≠ none ↔ runO nx (some s) w ≠ none := by
  have g := h.go hl (fun x y e t _ => by rw [show x = y from e]) w lw 0 s s h.s0 rfl
  cases e : runO nx (some s) w with
  | none => rw [e] at g; exact ⟨fun z => absurd g z, fun z => absurd rfl z⟩
  | some y =>
    rw [e] at g
    obtain ⟨j, _, _, _, q⟩ := g
    rw [q]
    exact ⟨fun _ z => (nomatch z), fun _ z => (nomatch z)⟩
end Z
namespace Z
theorem snoc_ind {α : Type} {P : List α → Prop} (h0 : P []) (h1 : ∀ w t, P w → P (w ++ [t])) (w : List α) : P w := by
  have : ∀ v : List α, P v.reverse := by
    intro v
    induction v with
    | nil => exact h0
    | cons t v ih => rw [List.reverse_cons]; exact h1 _ _ ih
  have := this w.reverse
  rwa [List.reverse_reverse] at this
def isSt (bars : List (List Nat)) (x : List Nat) : Bool := x == [] || bars.any fun b => decide (x.length < b.length) && b.take x.length == x
def hitB (bars : List (List Nat)) (w : List Nat) : Bool := bars.any fun b => b.isSuffixOf w
def cutS (bars : List (List Nat)) : List Nat → List Nat
  | [] => []
  | c :: w => if isSt bars (c :: w) = true then c :: w else cutS bars w
def bnx (bars : List (List Nat)) (v : List Nat) (t : Nat) : Option (List Nat) := if hitB bars (v ++ [t]) = true then none else some (cutS bars (v ++ [t]))
def NoBar (bars : List (List Nat)) (w : List Nat) : Prop := ∀ b ∈ bars, ¬ b <:+: w
section
variable {bars : List (List Nat)}
theorem isSt_iff {x : List Nat} : isSt bars x = true ↔ x = [] ∨ ∃ b ∈ bars, x.length < b.length ∧ x <+: b := by
  unfold isSt
  rw [Bool.or_eq_true, List.any_eq_true]
  constructor
  · rintro (h | ⟨b, hb, h⟩)
    · exact .inl (by simpa using h)
    · rw [Bool.and_eq_true] at h
      refine .inr ⟨b, hb, of_decide_eq_true h.1, ?_⟩
      have := List.take_prefix x.length b
      rwa [show b.take x.length = x by simpa using h.2] at this
  · rintro (h | ⟨b, hb, l, p⟩)
    · exact .inl (by simpa using h)
    · refine .inr ⟨b, hb, ?_⟩
      rw [Bool.and_eq_true]
      exact ⟨decide_eq_true l, by simpa using (List.prefix_iff_eq_take.mp p).symm⟩
theorem isSt_nil : isSt bars [] = true := rfl
theorem isSt_snoc {u : List Nat} {t : Nat} (h : isSt bars (u ++ [t]) = true) : isSt bars u = true := by
  rcases isSt_iff.mp h with e | ⟨b, hb, l, p⟩
  · simp at e
  · refine isSt_iff.mpr (.inr ⟨b, hb, ?_, (List.prefix_append u [t]).trans p⟩)
    simp at l
    omega
theorem cutS_st : ∀ w, isSt bars (cutS bars w) = true
  | [] => isSt_nil
  | c :: w => by
    unfold cutS
    split
    · assumption
    · exact cutS_st w
theorem cutS_suf : ∀ w, cutS bars w <:+ w
  | [] => List.suffix_refl _
  | c :: w => by
    unfold cutS
    split
    · exact List.suffix_refl _
    · exact (cutS_suf w).trans (List.suffix_cons c w)
theorem cutS_max : ∀ (w x : List Nat), x <:+ w → isSt bars x = true → x <:+ cutS bars w
  | [], x, h, _ => by
    rw [List.suffix_nil.mp h]
    exact List.nil_suffix
  | c :: w, x, h, hs => by
    unfold cutS
    split
    · exact h
    · rename_i n
      rcases List.suffix_cons_iff.mp h with e | h
      · rw [e] at hs; exact absurd hs n
      · exact cutS_max w x h hs
theorem cutS_drop {w : List Nat} {k : Nat} (hk : k < w.length) (h : isSt bars (w.drop k) = false) : cutS bars (w.drop k) = cutS bars (w.drop (k + 1)) := by
  have e : w.drop k = w[k] :: w.drop (k + 1) := List.drop_eq_getElem_cons hk
  rw [e] at h ⊢
  rw [cutS, if_neg (by rw [h]; simp)]
theorem cutS_here {w : List Nat} (h : isSt bars w = true) : cutS bars w = w := by
  cases w with
  | nil => rfl
  | cons c w => rw [cutS, if_pos h]
theorem hit_iff {w : List Nat} : hitB bars w = true ↔ ∃ b ∈ bars, b <:+ w := by
  unfold hitB
  rw [List.any_eq_true]
  constructor
  · rintro ⟨b, hb, h⟩; exact ⟨b, hb, List.isSuffixOf_iff_suffix.mp h⟩
  · rintro ⟨b, hb, h⟩; exact ⟨b, hb, List.isSuffixOf_iff_suffix.mpr h⟩
theorem suf_snoc {b w : List Nat} {t : Nat} (hb : b ≠ []) (h : b <:+ w ++ [t]) : ∃ b', b = b' ++ [t] ∧ b' <:+ w := by
  rcases List.eq_nil_or_concat b with e | ⟨b', c, e⟩
  · exact absurd e hb
  · obtain ⟨u, hu⟩ := h
    rw [e, List.concat_eq_append, ← List.append_assoc] at hu
    have := List.append_inj' hu rfl
    have ec : c = t := by simpa using this.2
    exact ⟨b', by rw [e, List.concat_eq_append, ec], ⟨u, this.1⟩⟩
theorem snoc_suf {b w : List Nat} {t : Nat} (h : b <:+ w) : b ++ [t] <:+ w ++ [t] := by
  obtain ⟨u, hu⟩ := h
  exact ⟨u, by rw [← List.append_assoc, hu]⟩
theorem hit_cut (hb : ∀ b ∈ bars, b ≠ []) (w : List Nat) (t : Nat) : hitB bars (cutS bars w ++ [t]) = hitB bars (w ++ [t]) := by
  rw [Bool.eq_iff_iff, hit_iff, hit_iff]
  constructor
  · rintro ⟨b, m, h⟩
    exact ⟨b, m, h.trans (snoc_suf (cutS_suf w))⟩
  · rintro ⟨b, m, h⟩
    obtain ⟨b', e, h'⟩ := suf_snoc (hb b m) h
    refine ⟨b, m, ?_⟩
    rw [e]
    refine snoc_suf (cutS_max w b' h' (isSt_iff.mpr (.inr ⟨b, m, ?_, ?_⟩)))
    · rw [e]; simp
    · rw [e]; exact List.prefix_append _ _
theorem suf_anti {a b : List Nat} (h : a <:+ b) (h' : b <:+ a) : a = b := h.eq_of_length (Nat.le_antisymm h.length_le h'.length_le)
theorem cut_cut (w : List Nat) (t : Nat) : cutS bars (cutS bars w ++ [t]) = cutS bars (w ++ [t]) := by
  refine suf_anti ?_ ?_
  · exact cutS_max _ _ ((cutS_suf _).trans (snoc_suf (cutS_suf w))) (cutS_st _)
  · refine cutS_max _ _ ?_ (cutS_st _)
    have s := cutS_suf (bars := bars) (w ++ [t])
    have st := cutS_st (bars := bars) (w ++ [t])
    by_cases e : cutS bars (w ++ [t]) = []
    · rw [e]; exact List.nil_suffix
    · obtain ⟨u, e1, h1⟩ := suf_snoc e s
      rw [e1]
      refine snoc_suf (cutS_max w u h1 ?_)
      rw [e1] at st
      exact isSt_snoc st
theorem noBar_snoc (hb : ∀ b ∈ bars, b ≠ []) {w : List Nat} {t : Nat} : NoBar bars (w ++ [t]) ↔ NoBar bars w ∧ hitB bars (w ++ [t]) = false := by
  constructor
  · intro h
    refine ⟨fun b m z => h b m (z.trans (List.prefix_append w [t]).isInfix), ?_⟩
    cases e : hitB bars (w ++ [t]) with
    | false => rfl
    | true =>
      obtain ⟨b, m, s⟩ := hit_iff.mp e
      exact absurd s.isInfix (h b m)
  · rintro ⟨h, e⟩ b m ⟨x, y, z⟩
    rcases List.eq_nil_or_concat y with q | ⟨y', c, q⟩
    · rw [q, List.append_nil] at z
      have : hitB bars (w ++ [t]) = true := hit_iff.mpr ⟨b, m, ⟨x, z⟩⟩
      rw [e] at this; cases this
    · rw [q, List.concat_eq_append, ← List.append_assoc] at z
      have := (List.append_inj' z rfl).1
      exact h b m ⟨x, y', this⟩
theorem noBar_nil (hb : ∀ b ∈ bars, b ≠ []) : NoBar bars [] := fun b m z => hb b m (List.infix_nil.mp z)
theorem run_bar (hb : ∀ b ∈ bars, b ≠ []) (w : List Nat) : (NoBar bars w → runO (bnx bars) (some []) w = some (cutS bars w)) ∧ (¬ NoBar bars w → runO (bnx bars) (some []) w = none) := by
  refine snoc_ind (P := fun w => (NoBar bars w → runO (bnx bars) (some []) w = some (cutS bars w)) ∧ (¬ NoBar bars w → runO (bnx bars) (some []) w = none)) ?_ ?_ w
  · exact ⟨fun _ => rfl, fun z => absurd (noBar_nil hb) z⟩
  · intro w t ih
    rw [runO_app]
    by_cases a : NoBar bars w
    · rw [ih.1 a]
      show (_ → bnx bars (cutS bars w) t = _) ∧ (_ → bnx bars (cutS bars w) t = none)
      unfold bnx
      rw [hit_cut hb, cut_cut]
      by_cases c : hitB bars (w ++ [t]) = true
      · rw [if_pos c]
        refine ⟨fun z => ?_, fun _ => rfl⟩
        rw [((noBar_snoc hb).mp z).2] at c; cases c
      · rw [if_neg c]
        refine ⟨fun _ => rfl, fun z => absurd ((noBar_snoc hb).mpr ⟨a, by simpa using c⟩) z⟩
    · rw [ih.2 a, runO_none]
      exact ⟨fun z => absurd ((noBar_snoc hb).mp z).1 a, fun _ => rfl⟩
theorem bar_lang (hb : ∀ b ∈ bars, b ≠ []) (w : List Nat) : runO (bnx bars) (some []) w ≠ none ↔ NoBar bars w := by
  have h := run_bar hb w
  by_cases a : NoBar bars w
  · rw [h.1 a]; exact ⟨fun _ => a, fun _ z => nomatch z⟩
  · rw [h.2 a]; exact ⟨fun z => absurd rfl z, fun z => absurd z a⟩
def staU (bars : List (List Nat)) : List (List Nat) := [] :: bars.flatMap fun b => (List.range b.length).map b.take
theorem staU_mem {x : List Nat} : x ∈ staU bars ↔ isSt bars x = true := by
  unfold staU
  rw [List.mem_cons, List.mem_flatMap, isSt_iff]
  constructor
  · rintro (e | ⟨b, m, h⟩)
    · exact .inl e
    · obtain ⟨k, hk, rfl⟩ := List.mem_map.mp h
      have hk := List.mem_range.mp hk
      exact .inr ⟨b, m, by rw [List.length_take]; omega, List.take_prefix _ _⟩
  · rintro (e | ⟨b, m, l, p⟩)
    · exact .inl e
    · exact .inr ⟨b, m, List.mem_map.mpr ⟨x.length, List.mem_range.mpr l, (List.prefix_iff_eq_take.mp p).symm⟩⟩
theorem staU_len : (staU bars).length = 1 + (bars.map List.length).sum := by
  unfold staU
  rw [List.length_cons, List.length_flatMap, Nat.add_comm]
  congr 2
  refine List.map_congr_left fun b _ => ?_
  rw [List.length_map, List.length_range]
theorem bfs_starts {line : List (List Nat)} {T : Hst} (h : Bfs (bnx bars) id [] line T) : ∀ x ∈ line, isSt bars x = true := fun x hx => by
  obtain ⟨i, e⟩ := List.getElem?_of_mem hx
  obtain ⟨w, lw, q⟩ := h.rc i x e
  have gen : ∀ (w : List Nat) (o : Option (List Nat)), (∀ j, o = some j → isSt bars j = true) → runO (bnx bars) o w = some x → isSt bars x = true := by
    intro w
    induction w with
    | nil => intro o ho e; exact ho x e
    | cons t w ih =>
      intro o ho e
      refine ih _ (fun j hj => ?_) e
      cases o with
      | none => cases hj
      | some y =>
        have hj : bnx bars y t = some j := hj
        unfold bnx at hj
        split at hj
        · cases hj
        · cases hj; exact cutS_st _
  exact gen w (some []) (fun j e => by cases e; rfl) q
theorem bfs_bar_le {line : List (List Nat)} {T : Hst} (h : Bfs (bnx bars) id [] line T) : line.length ≤ 1 + (bars.map List.length).sum := by
  rw [← staU_len]
  refine ndp_len _ _ (by have := h.nd; rwa [List.map_id] at this) fun x hx => staU_mem.mpr (bfs_starts h x hx)
end
end Z
namespace Z
open PySem PySem.Spec PyProof.Rows L2

def setO (P : Program) (w : World) (a : Addr) (l : OK) : HO := .ext fun h => h.SetOf (oiKind P w) a (fun k => decide (k ∈ l)) (dsc l).length
section
variable {P : Program} {w : World} {H : Hp} {h h' : Heap} {a : Addr} {l : OK} {S : Option Int → Bool} {n : Nat}
theorem setOf_atO (R : h.SetOf (oiKind P w) a S n) (k : ∀ o, h.get? a = some o → h'.get? a = some o) : h'.SetOf (oiKind P w) a S n := by
  obtain ⟨o, es, ep, t, e, c⟩ := R
  exact ⟨o, es, ep, t, k _ e, c⟩
theorem setO_new (R : h.SetOf (oiKind P w) a (fun k => decide (k ∈ l)) (dsc l).length) : ObjOk P w H h a (setO P w a l) := by
  have ⟨o, _, _, _, ho, _⟩ := R
  exact ⟨R, ⟨o, ho⟩, fun h1 h2 p k => setOf_atO p k⟩
theorem setO_fresh {w' : World} : (h.push { cls := .type "set", dict := none, data := .set #[] 0 (.fresh 0 0 (!w'.params.followText "set-order")) }).SetOf (oiKind P w) h.objs.size (fun k => decide (k ∈ ([] : OK))) (dsc ([] : OK)).length :=
  ⟨_, #[], 0, _, Heap.get?_push_size _ rfl, ⟨rfl, rfl, rfl⟩, rfl, (fun e he => by simp at he), (fun k => by simp), (by decide), (by rfl), rfl⟩
theorem dsc_snoc {α : Type} [DecidableEq α] (l : List α) (k : α) : (dsc (l ++ [k])).length = if k ∈ l then (dsc l).length else (dsc l).length + 1 := by
  split
  · rename_i h
    refine Nat.le_antisymm (dsc_sub fun x hx => ?_) (dsc_sub fun x hx => List.mem_append_left _ hx)
    rcases List.mem_append.mp hx with z | z
    · exact z
    · rw [List.mem_singleton.mp z]; exact h
  · rename_i h
    have nd : (k :: dsc l).Nodup := List.nodup_cons.mpr ⟨fun z => h (dsc_mem.mp z), dsc_nd l⟩
    refine Nat.le_antisymm (ndp_len _ (k :: dsc l) (dsc_nd _) fun x hx => ?_) (ndp_len (k :: dsc l) _ nd fun x hx => dsc_mem.mpr ?_)
    · rcases List.mem_append.mp (dsc_mem.mp hx) with z | z
      · exact List.mem_cons_of_mem _ (dsc_mem.mpr z)
      · exact List.mem_cons.mpr (.inl (List.mem_singleton.mp z))
    · rcases List.mem_cons.mp hx with z | z
      · exact List.mem_append_right _ (List.mem_singleton.mpr z)
      · exact List.mem_append_left _ (dsc_mem.mp z)
end
theorem oV_scan {k : Option Int} {u : Value} (r : RelV (oV k) u) : u.scannable = true := by
  cases k with
  | none => cases (show u = Value.none from r); rfl
  | some i =>
    obtain ⟨t, e⟩ := (show ∃ t, u = Value.int i t from r)
    rw [e]; rfl
theorem addO_ok {X : Cx} {pins : List (Addr × Obj)} {σ : L2.St} {H : Hp} {s : Shared} {E : Value → Shared → Prop} {D : Addr} {l : OK} {k : Option Int} {u : Value} {Q : Value → Shared → Prop} (I : L2.Inv X pins σ H s) (hD : H D = some (setO X.prog X.w D l)) (room : l.length + 1 < scanBound) (r : RelV (oV k) u)
    (h : ∀ s', L2.Inv X pins σ (upd H D (setO X.prog X.w D (l ++ [k]))) s' → Q .none s') : wpAny (model X.prog X.w) X.A (call (.builtin "set.add") [.ref D, u]) Q E s := by
  have R := (I.hok D _ hD).1
  have le := dsc_le l
  refine call_set_add (knd := oiKind X.prog X.w) (oV_is r) (oV_scan r) R (by omega) fun h' sb new => ?_
  have new' : h'.SetOf (oiKind X.prog X.w) D (fun j => decide (j ∈ l ++ [k])) (dsc (l ++ [k])).length := by
    rw [dsc_snoc]
    have e1 : (fun k' : Option Int => decide (k' ∈ l) || decide (k' = k)) = fun j => decide (j ∈ l ++ [k]) := by
      funext j
      rw [← Bool.decide_or]
      exact decide_eq_decide.mpr (by simp)
    rw [← e1]
    by_cases z : k ∈ l
    · rw [if_pos z]; rw [if_pos (decide_eq_true z)] at new; exact new
    · rw [if_neg z]; rw [if_neg (by simpa using z)] at new; exact new
  have he : ∃ v, h'.get? D = some v := by
    have ⟨o, _, _, _, ho, _⟩ := new'
    exact ⟨o, ho⟩
  exact h _ (I.write (e := D) (t' := s.toks + 1) (by rw [hD]; trivial) (.inl rfl) (fun b v hb hv => (sb.2 b hb).trans hv) he (setO_new new'))
def tScO (P : Program) (w : World) (wi : TI) (g : TG) (tt : TT) (te : TE) (vs : List Nat) : TE := fun σ H Q => wi σ H fun J H1 => ∀ D, H1 D = none → ∃ W : Nat → Nat → Hp → Prop, (∃ m, W 0 m (upd H1 D (setO P w D []))) ∧ ∀ i m H, W i m H →
  (J.stop i H ∧ Q (.ref D) H) ∨ (J.go i H ∧ ∃ Nx : Hp → Prop, (∀ H', Nx H' → ∃ m', m' < m ∧ W (i + 1) m' H') ∧ ∀ x H', J.yld i H x H' → g x (L2.wipe σ vs) H' fun σ2 H2 => L2.wipe σ2 vs = L2.wipe σ vs ∧ tt σ2 H2 fun b H3 =>
    if b = true then te σ2 H3 fun y H4 => ∃ (k : Option Int) (l : OK), y = oV k ∧ H4 D = some (setO P w D l) ∧ l.length + 1 < scanBound ∧ Nx (upd H4 D (setO P w D (l ++ [k]))) else Nx H3)
theorem sc_turns {Y : Cx} {tg iter elt : Expr} {scope : Scope} {pos : Pos} {it D : Addr} {tn : Nat → Heap → Prop} {J : It} {σw : L2.St} {vs : List Nat} {g : TG} {tt : TT} {te : TE} {ifs : List Expr} {R : Result → Shared → Prop} {W : Nat → Nat → Hp → Prop} {Fin : Hp → Prop}
    (T : Turn Y.prog Y.w Y.K tg J Y.ex it tn) (hc : Y.calm = true) (hp : Y.pn = []) (hw : L2.wipe σw vs = σw) (pg : PG Y tg g) (pt : PTs Y ifs tt)
    (pe : ∀ (pn : List (Addr × Obj)) (s : Shared) (σ : L2.St) (H : Hp) (Q : VK), L2.Inv Y pn σ H s → L2.wipe σ vs = σw → te σ H Q → wpAny (model Y.prog Y.w) Y.A (eval elt Y.env) (EP Y pn σ Q) (fun _ _ => False) s) (hxe : Y.xe = fun _ _ => False)
    (turn : ∀ i m H, W i m H → (J.stop i H ∧ Fin H) ∨ (J.go i H ∧ ∃ Nx : Hp → Prop, (∀ H', Nx H' → ∃ m', m' < m ∧ W (i + 1) m' H') ∧ ∀ x H', J.yld i H x H' → g x σw H' fun σ2 H2 => L2.wipe σ2 vs = σw ∧ tt σ2 H2 fun b H3 => if b = true then te σ2 H3 fun y H4 => ∃ (k : Option Int) (l : OK), y = oV k ∧ H4 D = some (setO Y.prog Y.w D l) ∧ l.length + 1 < scanBound ∧ Nx (upd H4 D (setO Y.prog Y.w D (l ++ [k]))) else Nx H3))
    (fin : ∀ s H, L2.Inv Y [] σw H s → Fin H → R (.ok .next) s) {s : Shared} {H : Hp} {m : Nat} (I : L2.Inv Y [] σw H s) (st : tn 0 s.heap) (nf : ∀ b ∈ Y.ex, H b = none) (w : W 0 m H) :
    codeAny (model Y.prog Y.w) Y.A (.compLoop (.SetComp elt [⟨tg, iter, ifs, 0⟩] scope pos) 0 (.ref it) (.ref D) Y.env) R s := by
  have own : ∀ {σ' : L2.St} {H' : Hp} {s' : Shared}, L2.Inv Y [] σ' H' s' → (∀ b ∈ Y.ex, H' b = none) → ∀ b ∈ Y.ex, FpOk Y [] H' b := fun {σ' H' s'} I' hn b hb =>
    ⟨hn b hb, (I'.ok.exf b hb).1, I'.ok.exfs b hb, .inl hb, fun x c e => (I'.ok.exf b hb).2 x c e, fun p hp' => absurd (show p ∈ Y.pn ++ [] from hp') (by rw [hp]; simp)⟩
  refine PpSet.compLoopS_any (fun n s' => ∃ i H', L2.Inv Y [] σw H' s' ∧ tn i s'.heap ∧ (∀ b ∈ Y.ex, H' b = none) ∧ W i n H') ?_ m ⟨0, H, I, st, nf, w⟩
  rintro n s5 ⟨i, H5, I5, st5, n5, w5⟩
  rcases turn i n H5 w5 with ⟨stop, q⟩ | ⟨go, Nx, hNx, step⟩
  · refine thnF (T.done Y rfl rfl rfl hc i [] s5 _ H5 (fun _ _ => False) I5 (own I5 n5) st5 stop) fun r s6 ⟨hr, I6⟩ => ?_
    subst hr
    exact fin _ _ I6 q
  · refine thnF (T.item Y rfl rfl rfl hc i [] s5 _ H5 (fun _ _ => False) I5 (own I5 n5) st5 go) fun r s6 ⟨u, hr, h6⟩ => ?_
    subst hr
    refine thnF h6 fun _ s7 ⟨x, H7, I7, r7, y7, st7, n7⟩ => ?_
    have hg := pg.run _ s7 _ H7 x u _ (I7.pinned (own I7 n7) (T.obj _ _ st7)) r7 (step x H7 y7)
    rw [hxe] at hg
    refine thnF hg fun _ s8 ⟨σ8, H8, I8, hw8, q8⟩ => ?_
    have ht := pt.run _ s8 σ8 H8 _ I8 q8
    rw [hxe] at ht
    refine thnF ht fun b s9 ⟨H9, I9, q9⟩ => ?_
    have back : ∀ {s' : Shared} {H' : Hp}, L2.Inv Y ([] ++ pinsAt Y.ex s7.heap) σ8 H' s' → Nx H' → ∃ m, m < n ∧ ∃ i H', L2.Inv Y [] σw H' s' ∧ tn i s'.heap ∧ (∀ b ∈ Y.ex, H' b = none) ∧ W i m H' := fun {s' H'} I' nx => by
      obtain ⟨m', hm, w'⟩ := hNx _ nx
      have pinned : ∀ b ∈ Y.ex, ∀ o, s7.heap.get? b = some o → s'.heap.get? b = some o ∧ H' b = none := fun b hb o e =>
        let z := I'.pin (b, o) (List.mem_append_right _ (List.mem_append_right _ (mem_pinsAt hb e)))
        ⟨z.1, z.2.1⟩
      refine ⟨m', hm, i + 1, _, (I'.unpinned (pins := [])).weak ?_ (fun j v e => ?_), T.keep _ _ _ st7 fun b hb o e => (pinned b hb o e).1, fun b hb => ?_, w'⟩
      · rw [← hw8, L2.wipe_length]
      · rw [← hw8] at e
        exact (wipe_some e).1
      · obtain ⟨o, e, _⟩ := T.obj _ _ st7 b hb
        exact (pinned b hb o e).2
    cases b with
    | false => exact back I9 q9
    | true =>
      rw [if_pos rfl] at q9 ⊢
      refine thnF (pe _ s9 σ8 _ _ I9 hw8 q9) fun z s10 ⟨yv, H10, I10, r10, kk, l, ey, hD10, hz10, nx⟩ => ?_
      subst ey
      exact addO_ok (X := Y) I10 hD10 hz10 r10 fun s11 I11 => back I11 nx
theorem sc_inv {X : Cx} {pins : List (Addr × Obj)} {s : Shared} {σ : L2.St} {H : Hp} {Q : VK} {elt tg iter : Expr} {scope : Scope} {own : List (Str × Nat)} {pos : Pos} {wi : TI} {g : TG} {tt : TT} {te : TE} {ifs : List Expr}
    (hc : X.calm = true) (hN : X.N.Nodup) (I : L2.Inv X pins σ H s) (hi : PI X tg iter wi) (ok : BlkOk X.N X.env.scope scope own)
    (hg : ∀ (s : Shared) (H : Hp) (C : Addr) (cl : List (Str × Addr)) (fp : List Addr), PG (X.blk s H scope (compEnvC scope cl C X.env) fp) tg g)
    (ht : ∀ (s : Shared) (H : Hp) (C : Addr) (cl : List (Str × Addr)) (fp : List Addr), PTs (X.blk s H scope (compEnvC scope cl C X.env) fp) ifs tt)
    (he : ∀ (s3 : Shared) (H3 : Hp) (C : Addr) (cl : List (Str × Addr)) (fp : List Addr), L2.Inv X pins σ H3 s3 → (∀ b ∈ fp, FpOk X pins H3 b) → ∀ (pn : List (Addr × Obj)) (s : Shared) (σ8 : L2.St) (H : Hp) (Q : VK), L2.Inv (X.blk s3 H3 scope (compEnvC scope cl C X.env) fp) pn σ8 H s → L2.wipe σ8 (own.map (·.2)) = L2.wipe σ (own.map (·.2)) → te σ8 H Q →
      wpAny (model X.prog X.w) X.A (eval elt (compEnvC scope cl C X.env)) (EP (X.blk s3 H3 scope (compEnvC scope cl C X.env) fp) pn σ8 Q) (fun _ _ => False) s)
    (h : tScO X.prog X.w wi g tt te (own.map (·.2)) σ H Q) (hs : ∀ x, foldedSetIterable iter X.env x = pure x := by intro _; rfl) :
    wpAny (model X.prog X.w) X.A (eval (.SetComp elt [⟨tg, iter, ifs, 0⟩] scope pos) X.env) (EP X pins σ Q) X.xe s := by
  have hfree : ∀ y ∈ scope.names, y.2 = .free → ∃ c, X.env.cells.lookup y.1 = some c := fun y hy e => (ok.free y hy e).elim (fun k => I.ok.has _ (.inl k)) fun k => I.ok.has _ (.inr k)
  rw [PpSet.eval_SetComp]
  refine wpAny_comprehension_free rfl hs (closure_ok hfree) ok.kind (fun y hy e => by rw [ok.uniq y hy, e]) (thn (hi.run pins s σ H _ I h) fun xv s1 hx => thn hx fun itv s2 h2 => ?_)
  obtain ⟨it, fp, tn, J, H2, e, I2, T, st2, f2, q⟩ := h2
  subst e
  refine PpSet.newSet_ok (newEnv_comp ?_)
  have hDn : H2 s2.heap.objs.size = none := I2.hok.fresh (Nat.le_refl _)
  obtain ⟨W, ⟨m0, w0⟩, turn⟩ := q s2.heap.objs.size hDn
  have I3 : L2.Inv X pins σ (upd H2 s2.heap.objs.size (setO X.prog X.w s2.heap.objs.size [])) { s2 with heap := s2.heap.push { cls := .type "set", dict := none, data := .set #[] 0 (.fresh 0 0 (!X.w.params.followText "set-order")) } } :=
    I2.laid (t' := s2.toks) (fun b o e => Heap.get?_push_of_some _ e) (Nat.le_refl _) (setO_new setO_fresh)
  have sz : ∀ b ∈ fp, b < s2.heap.objs.size := fun b hb => let ⟨o, e, _⟩ := T.obj _ _ st2 b hb; Heap.lt_size e
  have f3 : ∀ b ∈ fp, FpOk X pins (upd H2 s2.heap.objs.size (setO X.prog X.w s2.heap.objs.size [])) b := fun b hb => ⟨by rw [upd_ne (Nat.ne_of_lt (sz b hb))]; exact (f2 b hb).1, (f2 b hb).2⟩
  have st3 := T.keep _ _ (s2.heap.push { cls := .type "set", dict := none, data := .set #[] 0 (.fresh 0 0 (!X.w.params.followText "set-order")) }) st2 fun b _ o e => Heap.get?_push_of_some _ e
  generalize hD : s2.heap.objs.size = D at *
  generalize hs3 : ({ s2 with heap := s2.heap.push { cls := .type "set", dict := none, data := .set #[] 0 (.fresh 0 0 (!X.w.params.followText "set-order")) } } : Shared) = s3 at I3
  have h3 : s2.heap.push { cls := .type "set", dict := none, data := .set #[] 0 (.fresh 0 0 (!X.w.params.followText "set-order")) } = s3.heap := by rw [← hs3]
  rw [h3] at st3
  have sz3 : ∀ b ∈ fp, b < s3.heap.objs.size := fun b hb => let ⟨o, e, _⟩ := T.obj _ _ st3 b hb; Heap.lt_size e
  generalize hH3 : upd H2 D (setO X.prog X.w D []) = H3 at *
  have I4 := block_start I3 ok hN fun b hb => ⟨f3 b hb, sz3 b hb⟩
  have st4 : tn 0 (pushCells (s3.heap.push { cls := .type "dict", data := .dict #[] }) scope.names) := T.keep _ _ _ st3 fun b _ o e => pushCells_keeps _ _ _ _ (Heap.get?_push_of_some _ e)
  show codeAny _ _ (.compStart (.SetComp elt [⟨tg, iter, ifs, 0⟩] scope pos) 0 (.ref it) (.ref D) (compEnvC scope (cellsFrom (s3.heap.objs.size + 1) scope.names (cloFrom X.env.cells scope.names [])) s3.heap.objs.size X.env)) (compPost (model X.prog X.w) X.A X.xe none (EP X pins σ Q) (.ref D) s3.heap.objs.size) { s3 with heap := pushCells (s3.heap.push { cls := .type "dict", data := .dict #[] }) scope.names }
  have loop : codeAny (model X.prog X.w) X.A (.compLoop (.SetComp elt [⟨tg, iter, ifs, 0⟩] scope pos) 0 (.ref it) (.ref D) (compEnvC scope (cellsFrom (s3.heap.objs.size + 1) scope.names (cloFrom X.env.cells scope.names [])) s3.heap.objs.size X.env)) (compPost (model X.prog X.w) X.A X.xe none (EP X pins σ Q) (.ref D) s3.heap.objs.size) { s3 with heap := pushCells (s3.heap.push { cls := .type "dict", data := .dict #[] }) scope.names } := by
    refine sc_turns (Y := X.blk s3 H3 scope (compEnvC scope (cellsFrom (s3.heap.objs.size + 1) scope.names (cloFrom X.env.cells scope.names [])) s3.heap.objs.size X.env) fp) (W := W) (Fin := fun H => Q (.ref D) H) T hc rfl wipe_wipe (hg _ _ _ _ _) (ht _ _ _ _ _) (fun pn s' σ8 H' Q' I8 hw8 q8 => he s3 H3 _ _ fp I3 f3 pn s' σ8 H' Q' I8 hw8 q8) rfl (fun i m H' w' => ?_) (fun s6 H6 I6 q6 => ?_) I4 st4 (fun b hb => (f3 b hb).1) w0
    · rcases turn i m H' w' with z | ⟨z1, Nx, z2, z3⟩
      · exact .inl z
      · exact .inr ⟨z1, Nx, z2, z3⟩
    · obtain ⟨m, hn, _⟩ := I6.loc
      have nC : H6 s3.heap.objs.size = none := I6.free
      have I7 : L2.Inv X pins σ H6 s6 := I3.call' (ch := fp) I6.os I6.base I6.hok I6.bare fun b hb => ⟨(f3 b hb).2.2.2.1, (f3 b hb).2.1, (f3 b hb).2.2.2.2.1, (f3 b hb).2.2.2.2.2⟩
      refine ⟨m, hn, fun h'' sb => ?_⟩
      obtain ⟨g0, g1, g2, g3, g4, g5⟩ := I3.fpOk (Nat.le_refl _) nC
      exact ⟨.ref D, H6, I7.turned (t' := s6.toks) (fun b o hb e => (sb.2 b hb).trans e) g0 g1 g3 g4 g5, rfl, q6⟩
  exact PpSet.codeAny_compStart_set loop (T.self X.A 0 _ _ _ st4 loop)

def rLenO (P : Program) (w : World) : List V → Hp → VK → Prop := fun xs H Q => ∃ a l, xs = [.ref a] ∧ H a = some (setO P w a l) ∧ l.length < scanBound ∧ Q (.int (dsc l).length) H
theorem cr_lenO {X : Cx} : CallR X (.builtin "len") (rLenO X.prog X.w) := fun pins s σ H xs us Q I rv ⟨a, l, e, ha, hl, q⟩ => by
  subst e
  cases rv with
  | cons r1 r2 =>
    cases r2
    cases r1
    obtain ⟨o, es, ep, t, ho, hex, hd, _, _, hb, hf, hn⟩ := (I.hok a _ ha).1
    refine call_len_set ho hex hd hf (by have : scanBound = 4096 := rfl; omega) ?_
    rw [hn]
    exact ⟨.int (dsc l).length, H, I.tok _, ⟨_, rfl⟩, q⟩
theorem Rel.pokeH {K : PySem.W.Frag} {B : Bs} {r : En} {M : Sto} {σ : L2.St} {H G : Hp} {p : Addr} {u u' : HO} (R : Rel K B r M σ H G) (hp : H p = some u) (h0 : B.H p = none) (hM : M p = none) (hG : G p = none) : Rel K B r M σ (upd H p u') G where
  wd := ⟨fun a o e => by rw [upd_ne (by intro z; rw [z, hG] at e; cases e)]; exact R.wd.sub _ _ e, fun a c e => by
    obtain ⟨h1, h2⟩ := R.wd.cells a c e
    exact ⟨h1, h2.move Sub.rfl' fun o z => by rw [upd_ne (by intro q; rw [q, hM] at e; cases e)]; exact z⟩⟩
  len := R.len
  slots := R.slots
  sin := ⟨fun a o h n => by rw [upd_ne (by intro z; rw [z, h0] at h; cases h)]; exact R.sin.keep a o h n, fun a h => by rw [upd_ne (by intro z; rw [z, h0] at h; exact h rfl)]; exact R.sin.stay a h, R.sin.gsub, R.sin.gnew, R.sin.mnew⟩

@[irreducible] def compS (vs : List Nat) (wi : DTI) (as : D → En → (En → Prop) → Prop) (tt : DTT) (fe : DTE) (r : En) (M : Sto) (Φ : OK → Sto → Prop) : Prop := wi r M fun xs S M1 => ∃ Iv : Nat → OK → Sto → Prop, Iv 0 [] M1 ∧ (∀ i acc M, Iv i acc M → S M) ∧
  (∀ i d acc M, xs[i]? = some d → Iv i acc M → as d (wipeD r vs) fun r2 => tt r2 M fun b M3 => if b = true then fe r2 M3 fun y M4 => ∃ k, y = oiD k ∧ acc.length + 1 < scanBound ∧ Iv (i + 1) (acc ++ [k]) M4 else Iv (i + 1) acc M3) ∧ ∀ acc M, Iv xs.length acc M → Φ acc M
section
variable {X : Cx} {B : Bs} {pos apos p2 p : Pos} {e o : Expr} {es : List Expr} {fa fe : DTE} {tt : DTT} {ga : DTA} {k : Nat}
theorem comp_coreS {vs : List Nat} {wi : DTI} {g : TG} {as : D → En → (En → Prop) → Prop} (tg : TgOk X.K vs g as) {σ : L2.St} {H : Hp} {Q : VK} {r : En} {M : Sto} {G : Hp} {Φ : OK → Sto → Prop} (R : Rel X.K B r M σ H G) (h : compS vs wi as tt fe r M Φ)
    (hQ : ∀ acc M' H' G' D, Φ acc M' → Rel X.K B r M' σ H' G' → Sub G G' → H' D = some (setO X.prog X.w D acc) → B.H D = none → M' D = none → G' D = none → Q (.ref D) H') : tScO X.prog X.w (liftI X.K B wi) g (liftTAny X.K tt) (liftAny X.K fe) vs σ H Q := by
  unfold compS at h
  refine ⟨r, M, G, _, R, h, fun xs S M1 J H1 G1 ⟨Iv, i0, hS, turn, fin⟩ R1 s1 y => fun D hD => ?_⟩
  have bD : B.H D = none := by
    cases q : B.H D with
    | none => rfl
    | some o => exact absurd hD (R1.sin.stay D (by rw [q]; simp))
  have gD : G1 D = none := by
    cases q : G1 D with
    | none => rfl
    | some u => rw [R1.wd.sub _ _ q] at hD; cases hD
  have mD := R1.wd.nomem hD
  have R1' : Rel X.K B r M1 σ (upd H1 D (setO X.prog X.w D [])) G1 := by
    refine R1.go ⟨fun a o e => by rw [upd_ne (ne_of_none (R1.wd.sub _ _ e) hD)]; exact R1.wd.sub _ _ e, fun a c e => ?_⟩ ⟨fun a o h _ => by rw [upd_ne (ne_of_none h hD)]; exact h, fun a h => ?_, Sub.rfl', fun a h n => absurd n h, fun a h n => absurd n h⟩
    · obtain ⟨h1, h2⟩ := R1.wd.cells a c e
      exact ⟨h1, h2.move Sub.rfl' fun o z => by rw [upd_ne (ne_of_none z hD)]; exact z⟩
    · by_cases z : a = D
      · rw [z, upd_same]; simp
      · rw [upd_ne z]; exact h
  refine ⟨fun i m H => ∃ acc M G2, Rel X.K B r M σ H G2 ∧ Sub G1 G2 ∧ H D = some (setO X.prog X.w D acc) ∧ M D = none ∧ G2 D = none ∧ Iv i acc M ∧ i ≤ xs.length ∧ m = xs.length - i, ⟨_, [], M1, G1, R1', Sub.rfl', upd_same, mD, gD, i0, Nat.zero_le _, rfl⟩, ?_⟩
  rintro i m H2 ⟨acc, M2, G2, R2, s2, hL, mD2, gD2, i2, hi, rfl⟩
  obtain ⟨y1, y2⟩ := y i r M2 σ H2 G2 R2 s2 (hS _ _ _ i2)
  by_cases hl : i < xs.length
  · obtain ⟨y3, y4⟩ := y1 hl
    refine .inr ⟨y3, fun H => ∃ acc M G2, Rel X.K B r M σ H G2 ∧ Sub G1 G2 ∧ H D = some (setO X.prog X.w D acc) ∧ M D = none ∧ G2 D = none ∧ Iv (i + 1) acc M, fun H ⟨acc, M, G2, a1, a2, a3, a5, a6, a7⟩ => ⟨_, by omega, acc, M, G2, a1, a2, a3, a5, a6, a7, hl, rfl⟩, fun x H3 hy => ?_⟩
    -- the item has come: the list is what it was
    obtain ⟨G3, d, g3, hd, p⟩ := y4 x H3 hy
    have R3 := R2.grow g3
    have hL3 := g3.same _ _ hL
    have mem_free : ∀ {H' G' : Hp}, Grow H2 G2 H' G' → G' D = none := fun {H' G'} g => by
      cases q : G' D with
      | none => rfl
      | some u => have z := g.gnew D (by rw [q]; simp) gD2; rw [hL] at z; cases z
    have gD3 := mem_free g3
    -- the base of this turn
    have Rw := R3.wipe vs
    have Ri : Rel X.K ⟨H3, G3, M2⟩ (wipeD r vs) M2 (L2.wipe σ vs) H3 G3 := ⟨Rw.wd, Rw.len, Rw.slots, Since.refl⟩
    have back : ∀ {r' : En} {M' : Sto} {σ' : L2.St} {H' G' : Hp}, Rel X.K ⟨H3, G3, M2⟩ r' M' σ' H' G' → Rel X.K B r M' σ H' G' ∧ Sub G3 G' ∧ H' D = some (setO X.prog X.w D acc) ∧ M' D = none ∧ G' D = none := fun {r' M' σ' H' G'} R' => by
      refine ⟨R3.go R'.wd R'.sin, R'.sin.gsub, R'.sin.keep D _ hL3 mD2, ?_, ?_⟩
      · cases q : M' D with
        | none => rfl
        | some c => have z := R'.sin.mnew D (by rw [q]; simp) mD2; rw [show (⟨H3, G3, M2⟩ : Bs).H D = H3 D from rfl, hL3] at z; cases z
      · cases q : G' D with
        | none => rfl
        | some c => have z := R'.sin.gnew D (by rw [q]; simp) gD3; rw [show (⟨H3, G3, M2⟩ : Bs).H D = H3 D from rfl, hL3] at z; cases z
    refine tg ⟨H3, G3, M2⟩ d x (wipeD r vs) M2 (L2.wipe σ vs) H3 G3 _ _ Ri p (turn i d acc M2 hd i2) fun r' σ' q' R' hw => ⟨by rw [hw, wipe_wipe], ⟨H3, G3, M2⟩, r', M2, G3, _, R', q', fun b M4 H4 G4 q4 R4 s4 => ?_⟩
    cases b with
    | false =>
      obtain ⟨b1, b2, b3, b4, b5⟩ := back R4
      exact ⟨acc, M4, G4, b1, (s2.tr g3.gsub).tr b2, b3, b4, b5, q4⟩
    | true =>
      refine ⟨⟨H3, G3, M2⟩, r', M4, G4, _, R4, q4, fun y M5 v H5 G5 ⟨kk, ey, z5, q5⟩ R5 s5 p5 => ?_⟩
      obtain ⟨b1, b2, b3, b4, b5⟩ := back R5
      subst ey
      have ev : v = oV kk := by
        cases kk with
        | none => cases p5; rfl
        | some i => cases p5; rfl
      exact ⟨kk, acc, ev, b3, z5, acc ++ [kk], M5, G5, b1.pokeH b3 bD b4 b5, (s2.tr g3.gsub).tr b2, upd_same, b4, b5, q5⟩
  · have e : i = xs.length := by omega
    subst e
    exact .inl ⟨y2 (Nat.le_refl _), hQ _ _ _ _ _ (fin _ _ i2) R2 (s1.tr s2) hL bD mD2 gD2⟩

theorem de_lenSc {elt tg iter : Expr} {ifs : List Expr} {scope : Scope} {own : List (Str × Nat)} {wi : DTI} {g : TG} {as : D → En → (En → Prop) → Prop} (hm : X.mg "len" = none) (hc : X.calm = true) (hN : X.N.Nodup) (hi : DI X B tg iter wi) (ok : BlkOk X.N X.env.scope scope own) (tgk : TgOk X.K (own.map (·.2)) g as)
    (hg : ∀ (s : Shared) (H : Hp) (C : Addr) (cl : List (Str × Addr)) (fp : List Addr), PG (X.blk s H scope (compEnvC scope cl C X.env) fp) tg g)
    (ht : ∀ (B : Bs) (s : Shared) (H : Hp) (C : Addr) (cl : List (Str × Addr)) (fp : List Addr), PTs (X.blk s H scope (compEnvC scope cl C X.env) fp) ifs (liftT X.K B tt))
    (he : ∀ (B : Bs) (s : Shared) (H : Hp) (C : Addr) (cl : List (Str × Addr)) (fp : List Addr), PE (X.blk s H scope (compEnvC scope cl C X.env) fp) elt (lift X.K B fe)) (hs : ∀ x, foldedSetIterable iter X.env x = pure x := by intro _; rfl) (hgl : Gl X "len" := by rfl) :
    DE X B (.Call (.Name "len" p) [.SetComp elt [⟨tg, iter, ifs, 0⟩] scope pos] [] p2) (fun r M Ψ => compS (own.map (·.2)) wi as tt fe r M fun acc M' => acc.length < scanBound ∧ Ψ (.int (dsc acc).length) M') := by
  have sc : PE X (.SetComp elt [⟨tg, iter, ifs, 0⟩] scope pos) (tScO X.prog X.w (liftI X.K B wi) g (liftTAny X.K tt) (liftAny X.K fe) (own.map (·.2))) := ⟨fun pins s σ H Q I h =>
    sc_inv hc hN I hi ok hg (fun s H C cl fp => ⟨fun pins s1 σ H1 Q I ⟨B', q⟩ => (ht B' s H C cl fp).run pins s1 σ H1 Q I q⟩) (fun s3 H3 C cl fp _ _ pn s8 σ8 H8 Q8 I8 _ ⟨B', q⟩ => (he B' s3 H3 C cl fp).run pn s8 σ8 H8 Q8 I8 q) h hs⟩
  refine PE_imp (pe_callB (cr_lenO (X := X)) hgl hm (by decide +kernel) (pa_cons sc pa_nil)) fun σ H Q ⟨r, M, G, Ψ, R, h, kk⟩ => ?_
  show tScO X.prog X.w (liftI X.K B wi) g (liftTAny X.K tt) (liftAny X.K fe) (own.map (·.2)) σ H (fun x H1 => rLenO X.prog X.w [x] H1 Q)
  refine comp_coreS tgk R h fun acc M' H' G' D ⟨q0, q⟩ R' s hL h0 hM hG => ?_
  exact ⟨D, acc, rfl, hL, q0, kk _ _ _ _ _ q R' s .int⟩
end
end Z
namespace Z
open PySem PySem.Spec PyProof.Rows L2
def endsD (M : Sto) (x : D) (ds : List D) (φ : PD) : Prop := match x, ds with
  | .str a, [.str b] => φ (.bl (Txt.endswith a b)) M
  | _, _ => False
theorem ok_ends {K : PySem.W.Frag} : OkM K (fun x xs H Q => ∃ a b, x = .str a ∧ xs = [.str b] ∧ Q (.bl (Txt.endswith a b)) H) endsD := fun M H G x v ds vs φ Q w r rs h k => by
  unfold endsD at h
  split at h
  · cases r
    cases rs with
    | cons r1 rs =>
      cases rs
      cases r1
      exact ⟨_, _, rfl, rfl, Post.id k w h .bl⟩
  · exact h.elim
section
variable {X : Cx} {B : Bs} {pos px apos p3 : Pos} {a b e : Expr} {fa fb fc : DTE} {ga : DTA} {k : Nat}
theorem de_disp1K (ha : DE X B a fa) (hb : DE X B b fb) : DE X B (.Dict [some a] [b] pos)
    (fun r M Ψ => ∀ p, M p = none → fa r (updM M p (.dic [])) fun y M1 => fb r M1 fun d M2 => M2 p = some (.dic []) ∧ (∃ k, keyD y = some k) ∧ Ψ (.ref p) (updM M2 p (.dic [(y, d)]))) :=
  PE_imp (pe_disp (pps_cons ha hb pps_nil) rfl rfl (by simp) (show 1 ≤ 15 by decide)) fun σ H Q ⟨r, M, G, Ψ, R, h, k⟩ => fun p hp => by
    obtain ⟨w, s⟩ := cell_new (c := .dic []) (o := .dK []) R.wd hp ⟨_, upd_same, .nil⟩
    refine ⟨r, _, G, _, R.go w s, h p (R.wd.nomem hp), fun y M1 v H1 G1 q1 R1 s1 p1 => ?_⟩
    refine ⟨r, M1, G1, _, R1, q1, fun d M2 u H2 G2 q2 R2 s2 p2 => ?_⟩
    obtain ⟨e, ⟨kk, hk⟩, q⟩ := q2
    obtain ⟨kvs, hh, r0⟩ := (R2.wd.cells _ _ e).2
    cases r0
    have ev := key_v p1 hk
    subst ev
    obtain ⟨w3, s3⟩ := cell_put (c := .dic [(y, d)]) (o := .dK [(kk, u)]) R2.wd e ⟨_, upd_same, .cons hk p2 .nil⟩
    exact ⟨hh, [(kk, u)], rfl, (show 1 ≤ 15 by decide), k _ _ _ _ _ q (R2.go w3 s3) (s1.tr s2) .ref⟩
end
def dfltA (a : At) (i : Nat) (K : PySem.W.Frag) : Addr := match K.lookup (a.ad K) with
  | some ⟨_, _, .func fd, _⟩ => (match fd.defaults with
    | .ref T => (match K.lookup T with
      | some ⟨_, _, .seq its _, _⟩ => (match its.toList[i]? with
        | some (.ref a) => a
        | _ => 0)
      | _ => 0)
    | _ => 0)
  | _ => 0
def emtF (a : At) (i : Nat) : FF := fun K => match K.lookup (dfltA a i K) with
  | some ⟨.type c, _, .seq its _, _⟩ => decide (c = "tuple") && decide (its.size = 0)
  | _ => false
theorem emtF_ok {a : At} {i : Nat} {K : PySem.W.Frag} (c : emtF a i K = true) : ∀ G, Rep K G (.tup []) (.ref (dfltA a i K)) := fun G => by
  unfold emtF at c
  split at c
  · rename_i q cc dd its n sl e
    obtain ⟨c1, c2⟩ := Bool.and_eq_true_iff.mp c
    have c2 := of_decide_eq_true c2
    refine .tup (.inr ⟨_, its, n, e, by rw [of_decide_eq_true c1], rfl, by rw [c2]; exact Nat.zero_le _, ?_⟩) .nil
    have : its.toList = [] := List.eq_nil_of_length_eq_zero (by rw [Array.length_toList]; exact c2)
    rw [this]
    exact .nil
  · cases c
def rLenOD : List V → Hp → VK → Prop := fun xs H Q => ∃ p kvs bs, xs = [.ref p] ∧ H p = some (.ext (dioP p kvs bs)) ∧ (∀ q ∈ bs, H q.1 = some (.tup (q.2.map oV))) ∧ Q (.int (kvs.length : Nat)) H
theorem cr_lenOD {X : Cx} : CallR X (.builtin "len") rLenOD := fun pins s σ H xs us Q I rv ⟨a, kvs, bs, e, ha, hb, q⟩ => by
  subst e
  cases rv with
  | cons r1 r2 =>
    cases r2
    cases r1
    obtain ⟨hd, z, ys, rel, dd⟩ := dio_of I.hok ha hb
    have el : ys.length = kvs.length := (Paired.length rel).symm
    refine call_len_dictH hd dd (by rw [sizeLine_eq] at z; omega) ?_
    rw [el]
    exact ⟨.int (kvs.length : Nat), H, I.tok _, ⟨_, rfl⟩, q⟩
def olenQ (M : Sto) (ds : List D) (φ : PD) : Prop := match ds with
  | [x] => ∃ p kvs, x = .ref p ∧ DioAt M p kvs ∧ φ (.int (kvs.length : Nat)) M
  | _ => False
theorem ok_olen {K : PySem.W.Frag} : OkC K rLenOD olenQ := fun M H G ds vs φ Q w rs h k => by
  unfold olenQ at h
  split at h
  · obtain ⟨p, kvs, rfl, ⟨kv, bs, e, rfl, ok⟩, h⟩ := h
    cases rs with
    | cons r1 r2 =>
      cases r2
      cases r1
      obtain ⟨gp, h1, h2⟩ := w.cells _ _ e
      rw [List.length_map] at h
      exact ⟨p, kv, bs, rfl, h1, fun q hq => w.sub _ _ (h2 q hq), Post.id k w h .int⟩
  · exact h.elim
theorem de_olen {X : Cx} {B : Bs} {pos p : Pos} {e : Expr} {ga : DTA} (hm : X.mg "len" = none) (ha : DA X B [e] ga) (hg : Gl X "len" := by rfl) (he : starEach [e] X.env = (false, eval e X.env) :: starEach [] X.env := by rfl) (hpl : (backTo pos (starEach [] X.env)).any (·.1) = false := by rfl) :
    DE X B (.Call (.Name "len" p) [e] [] pos) (fun r M Ψ => ga r M fun ds M1 => olenQ M1 ds Ψ) := de_callB cr_lenOD ok_olen hm (by decide +kernel) ha hg (by decide) (by decide) he hpl
end Z
namespace Z
open PySem PySem.Spec PyProof.Rows L2
def hoD (o : Option Nat) : D := match o with
  | none => .non
  | some n => .int (n : Nat)
def hrD (p : Option Nat × Option Nat) : D := .tup [hoD p.1, hoD p.2]
def hbt (C : Addr) (S : Hst) : D := .obj C [("rows_by_room", .tup (S.map hrD))]
theorem zip_bm {α β : Type} (f : α → D) (g : β → D) (a : List α) (b : List β) : zipD (a.map f) (b.map g) = (a.zip b).map fun p => .tup [f p.1, g p.2] := by
  unfold zipD
  rw [List.zip_map, List.map_map]
  rfl
theorem nbL_bl : ∀ (a b : List Bool), nbL (a.map .bl) = nbL (b.map .bl) → a = b
  | [], [], _ => rfl
  | [], _ :: _, h => by cases h
  | _ :: _, [], h => by cases h
  | x :: a, y :: b, h => by
    have h : D.int (if x = true then 1 else 0) :: nbL (a.map .bl) = D.int (if y = true then 1 else 0) :: nbL (b.map .bl) := h
    injection h with h1 h2
    rw [nbL_bl a b h2]
    have : x = y := by cases x <;> cases y <;> first | rfl | (injection h1 with h1; cases h1)
    rw [this]
theorem ne_bls {M : Sto} {a b : List Bool} {φ : D → Prop} (q : φ (.bl (decide (a ≠ b)))) : neD M (.lst (a.map .bl)) (.lst (b.map .bl)) φ := by
  refine nePb (n := 1) (m := 1) (.lst (PbL.of fun d hd => ?_)) (.lst (PbL.of fun d hd => ?_)) ⟨(fun i z => by cases z), (fun i z => by cases z), (fun i z => by cases z)⟩ fun c hc => ?_
  · obtain ⟨x, _, rfl⟩ := List.mem_map.mp hd; exact .bl x
  · obtain ⟨x, _, rfl⟩ := List.mem_map.mp hd; exact .bl x
  · have : (!c) = decide (a ≠ b) := by
      rw [Bool.eq_iff_iff]
      simp only [Bool.not_eq_true', decide_eq_true_eq]
      constructor
      · intro z e
        rw [← Bool.not_eq_true, hc] at z
        exact z (by rw [e])
      · intro n
        rw [← Bool.not_eq_true, hc]
        intro z
        have z : D.lst (nbL (a.map .bl)) = D.lst (nbL (b.map .bl)) := z
        injection z with z
        exact n (nbL_bl a b z)
    rw [this]; exact q
def alD (al : List Bool) : D → D
  | .int i => .bl (al.getD i.toNat false)
  | _ => .bl false
theorem alD_ho (al : List Bool) (o : Option Nat) : alD al (hoD o) = .bl (gl al o) := by
  cases o with
  | none => rfl
  | some n => rfl
def oI (o : Option Nat) : Option Int := o.map Int.ofNat
theorem oiD_oI (o : Option Nat) : oiD (oI o) = hoD o := by cases o <;> rfl
theorem oI_inj {a b : Option Nat} (h : oI a = oI b) : a = b := by
  cases a <;> cases b <;> first | rfl | (cases h; rfl) | cases h
theorem mapI_inj : ∀ {a b : List (Option Nat)}, a.map oI = b.map oI → a = b
  | [], [], _ => rfl
  | [], _ :: _, h => by cases h
  | _ :: _, [], h => by cases h
  | x :: a, y :: b, h => by
    rw [List.map_cons, List.map_cons] at h
    injection h with h1 h2
    rw [oI_inj h1, mapI_inj h2]
def plG {κ ι : Type} (f : κ → ι) (ks : List κ) : List (ι × D) := ks.zipIdx.map fun p => (f p.1, D.int (p.2 : Nat))
theorem plG_snoc {κ ι : Type} (f : κ → ι) (ks : List κ) (k : κ) : plG f (ks ++ [k]) = plG f ks ++ [(f k, D.int (ks.length : Nat))] := by
  unfold plG
  rw [List.zipIdx_append, List.map_append]
  simp
theorem plG_len {κ ι : Type} (f : κ → ι) (ks : List κ) : (plG f ks).length = ks.length := by unfold plG; simp
theorem plG_find {κ ι : Type} [DecidableEq κ] [DecidableEq ι] {f : κ → ι} (hf : ∀ a b, f a = f b → a = b) (ks : List κ) (k : κ) : ((plG f ks).find? fun kv => decide (kv.1 = f k)).map (·.2) = if k ∈ ks then some (.int (ks.idxOf k : Nat)) else none := by
  refine snoc_ind (P := fun ks => ((plG f ks).find? fun kv => decide (kv.1 = f k)).map (·.2) = if k ∈ ks then some (.int (ks.idxOf k : Nat)) else none) ?_ ?_ ks
  · rfl
  · intro ks x ih
    rw [plG_snoc, List.find?_append]
    by_cases h : k ∈ ks
    · rw [if_pos h] at ih
      rw [if_pos (List.mem_append_left _ h)]
      cases e : (plG f ks).find? fun kv => decide (kv.1 = f k) with
      | none => rw [e] at ih; cases ih
      | some y =>
        rw [e] at ih
        rw [List.idxOf_append, if_pos h]
        exact ih
    · rw [if_neg h] at ih
      cases e : (plG f ks).find? fun kv => decide (kv.1 = f k) with
      | some y => rw [e] at ih; cases ih
      | none =>
        by_cases z : x = k
        · subst z
          rw [if_pos (by simp), List.idxOf_append, if_neg h]
          simp
        · have z' : ¬ f x = f k := fun q => z (hf _ _ q)
          rw [if_neg (by simp [h, Ne.symm z])]
          simp [z']
theorem plG_any {κ ι : Type} [DecidableEq κ] [DecidableEq ι] {f : κ → ι} (hf : ∀ a b, f a = f b → a = b) (ks : List κ) (k : κ) : ((plG f ks).any fun kv => decide (kv.1 = f k)) = decide (k ∈ ks) := by
  unfold plG
  rw [List.any_map, Bool.eq_iff_iff, List.any_eq_true, decide_eq_true_eq]
  constructor
  · rintro ⟨⟨y, n⟩, hy, e⟩
    have : y = k := hf _ _ (of_decide_eq_true e)
    subst this
    have := List.mem_zipIdx hy
    rw [this.2.2]; exact List.getElem_mem _
  · intro h
    obtain ⟨i, hi, e⟩ := List.getElem_of_mem h
    exact ⟨(k, i), List.mem_zipIdx_iff_getElem?.mpr (by rw [List.getElem?_eq_getElem hi, e]), decide_eq_true rfl⟩
abbrev plO (ks : List (List (Option Nat))) : List (OK × D) := plG (fun k => k.map oI) ks
theorem lkO_in {ks : List (List (Option Nat))} {k : List (Option Nat)} (h : k ∈ ks) : lkO (plO ks) (k.map oI) = some (.int (posB id ks k : Nat)) := by
  have := plG_find (f := fun k : List (Option Nat) => k.map oI) (fun _ _ e => mapI_inj e) ks k
  rw [if_pos h] at this
  unfold posB
  rw [List.map_id]
  exact this
theorem lkO_out {ks : List (List (Option Nat))} {k : List (Option Nat)} (h : k ∉ ks) : lkO (plO ks) (k.map oI) = none := by
  have := plG_find (f := fun k : List (Option Nat) => k.map oI) (fun _ _ e => mapI_inj e) ks k
  rw [if_neg h] at this
  exact this
theorem putO_pl {ks : List (List (Option Nat))} {k : List (Option Nat)} (h : k ∉ ks) : putO (plO ks) (k.map oI) (.int (ks.length : Nat)) = plO (ks ++ [k]) := by
  unfold putO
  rw [plG_any (f := fun k : List (Option Nat) => k.map oI) (fun _ _ e => mapI_inj e), if_neg (by simpa using h)]
  exact (plG_snoc (fun k : List (Option Nat) => k.map oI) ks k).symm
def hoL (f : List (Option Nat)) : List D := f.map hoD
theorem hoL_at {f : List (Option Nat)} {i : Nat} (h : i < f.length) : (hoL f)[i]? = some (hoD (f.getD i none)) := by
  unfold hoL
  rw [List.getElem?_map, List.getElem?_eq_getElem h, List.getD_eq_getElem?_getD, List.getElem?_eq_getElem h]
  rfl
def fkD (f : List (Option Nat)) : D → D
  | .int i => hoD (f.getD i.toNat none)
  | _ => .non
theorem fkD_ho (f : List (Option Nat)) (o : Option Nat) : fkD f (hoD o) = hoD (fkx f o) := by cases o <;> rfl
theorem sb_hoL (g : Addr → D) : ∀ f : List (Option Nat), sbL g (hoL f) = hoL f
  | [] => rfl
  | o :: f => by
    show sb g (hoD o) :: sbL g (hoL f) = hoD o :: hoL f
    rw [sb_hoL g f]
    cases o <;> rfl
theorem ret_hoL {M0 M : Sto} {fd : D} {f : List (Option Nat)} {Ψ : D → Sto → Prop} (hB : ∀ a, M0 a ≠ none → M a = M0 a) (h : fd = .lst (hoL f) ∨ ∃ p, fd = .ref p ∧ M0 p = none ∧ M p = some (.lst (hoL f))) (q : Ψ (.lst (hoL f)) M0) : rtF M0 Ψ fd M := by
  rcases h with rfl | ⟨p, rfl, hp, e⟩
  · refine ⟨_, _, .drop, ?_⟩
    rw [rs_same hB]; exact q
  · refine ⟨_, _, .frz 1, ?_⟩
    rw [rs_same hB]
    show Ψ (fzA M0 M 1 p) M0
    have : fzA M0 M 1 p = .lst (hoL f) := by
      unfold fzA
      rw [hp, e]
      show D.lst (sbL _ _) = _
      rw [sb_hoL]
    rw [this]; exact q
def LstIs (M0 M : Sto) (fd : D) (l : List D) : Prop := fd = .lst l ∨ ∃ p, fd = .ref p ∧ M0 p = none ∧ M p = some (.lst l)
theorem LstIs.lst {M0 M : Sto} {fd : D} {l : List D} (h : LstIs M0 M fd l) : lstOf M fd = some l := by
  rcases h with rfl | ⟨p, rfl, _, e⟩
  · rfl
  · exact lstOf_at e
theorem LstIs.upd {M0 M : Sto} {fd : D} {l : List D} {p : Addr} {c : Cell} (h : LstIs M0 M fd l) (n : M p = none ∨ ∃ c', M p = some c' ∧ ∀ l, c' ≠ .lst l) : LstIs M0 (updM M p c) fd l := by
  rcases h with rfl | ⟨q, rfl, h0, e⟩
  · exact .inl rfl
  · refine .inr ⟨q, rfl, h0, ?_⟩
    rw [updM_ne]
    · exact e
    · rintro rfl
      rcases n with n | ⟨c', n, k⟩
      · rw [n] at e; cases e
      · rw [n] at e; cases e; exact k _ rfl
theorem ix_is {M0 M : Sto} {fd : D} {l : List D} {k : Nat} {x : D} {φ : D → Prop} (h : LstIs M0 M fd l) (e : l[k]? = some x) (q : φ x) : ixD M fd (.int (k : Int)) φ := by
  rcases h with rfl | ⟨p, rfl, _, h⟩
  · exact ix_ln e q
  · exact ix_at h e q
theorem posB_out {κ : Type} [DecidableEq κ] {ks : List κ} {k : κ} (h : k ∉ ks) : posB id ks k = ks.length ∧ posB id (ks ++ [k]) k = ks.length ∧ insB id ks k = ks ++ [k] := by
  refine ⟨?_, ?_, ?_⟩
  · unfold posB
    rw [List.map_id]
    exact List.idxOf_eq_length h
  · unfold posB
    rw [List.map_id]
    show List.idxOf k (ks ++ [k]) = _
    rw [List.idxOf_append, if_neg h]
    simp
  · unfold insB
    rw [List.map_id]
    exact if_neg h
theorem insB_in {κ : Type} [DecidableEq κ] {ks : List κ} {k : κ} (h : k ∈ ks) : insB id ks k = ks := by
  unfold insB
  rw [List.map_id]
  exact if_pos h
theorem hoL_snoc (f : List (Option Nat)) (o : Option Nat) : hoL (f ++ [o]) = hoL f ++ [hoD o] := by
  unfold hoL
  rw [List.map_append]; rfl
theorem clF_t {T : Hst} {al : List Bool} {f : List (Option Nat)} {i : Nat} (h : al.getD i false = true) : clF T al f (i + 1) = (insB id (clF T al f i).1 (clK T f i), (clF T al f i).2 ++ [some (posB id (clF T al f i).1 (clK T f i))]) := by
  rw [clF, if_pos h]
theorem clF_f {T : Hst} {al : List Bool} {f : List (Option Nat)} {i : Nat} (h : al.getD i false = false) : clF T al f (i + 1) = ((clF T al f i).1, (clF T al f i).2 ++ [none]) := by
  rw [clF, if_neg (by rw [h]; simp)]
theorem clF_le (T : Hst) (al : List Bool) (f : List (Option Nat)) : ∀ i, (clF T al f i).1.length ≤ i
  | 0 => Nat.le_refl _
  | i + 1 => by
    have ih := clF_le T al f i
    by_cases h : al.getD i false = true
    · rw [clF_t h]
      by_cases m : clK T f i ∈ (clF T al f i).1
      · show (insB id _ _).length ≤ _
        rw [insB_in m]; omega
      · show (insB id _ _).length ≤ _
        rw [(posB_out m).2.2, List.length_append, List.length_singleton]; omega
    · rw [clF_f (by simpa using h)]
      exact Nat.le_succ_of_le ih
theorem compS_hoL {vs : List Nat} {wi : DTI} {as : D → En → (En → Prop) → Prop} {fe : DTE} {r : En} {M : Sto} {Φ : OK → Sto → Prop} {S : Sto → Prop} {f : List (Option Nat)} (hw : ∀ K : List D → (Sto → Prop) → Sto → Prop, K (hoL f) S M → wi r M K) (hS : S M) (hl : f.length ≤ 4000)
    (he : ∀ d (Q : D → Sto → Prop), Q d M → as d (wipeD r vs) fun r2 => fe r2 M Q) (hm : ∀ (d : D) (p q : En → Prop), (∀ r, p r → q r) → as d (wipeD r vs) p → as d (wipeD r vs) q) (fin : Φ (f.map oI) M) : compS vs wi as (fun _ M Ψ => Ψ true M) fe r M Φ := by
  unfold compS
  refine hw _ ⟨fun i acc M' => M' = M ∧ acc = (f.take i).map oI, ⟨rfl, rfl⟩, fun i acc M' h => by rw [h.1]; exact hS, fun i d acc M' hd h => ?_, fun acc M' h => ?_⟩
  · obtain ⟨rfl, rfl⟩ := h
    unfold hoL at hd
    rw [List.getElem?_map] at hd
    obtain ⟨o, ho, rfl⟩ := Option.map_eq_some_iff.mp hd
    refine hm _ _ _ (fun r2 z => ?_) (he (hoD o) (fun y M4 => ∃ k, y = oiD k ∧ ((f.take i).map oI).length + 1 < scanBound ∧ M4 = M' ∧ (f.take i).map oI ++ [k] = (f.take (i + 1)).map oI) ⟨oI o, (oiD_oI o).symm, ?_, rfl, ?_⟩)
    · show (if true = true then _ else _)
      rw [if_pos rfl]
      exact z
    · rw [List.length_map, List.length_take]
      have : scanBound = 4096 := rfl
      omega
    · rw [List.take_add_one, ho, List.map_append]
      rfl
  · obtain ⟨rfl, rfl⟩ := h
    have : (hoL f).length = f.length := List.length_map ..
    rw [this, List.take_length]
    exact fin
theorem dsc_oI (f : List (Option Nat)) : (dsc (f.map oI)).length = (dsc f).length := by
  refine Nat.le_antisymm (dsc_map_le _ _) ?_
  have : f = (f.map oI).map fun o => o.map Int.toNat := by
    rw [List.map_map]
    conv => lhs; rw [← List.map_id f]
    refine List.map_congr_left fun o _ => ?_
    cases o <;> rfl
  rw [this, List.map_map]
  have e : (oI ∘ fun o : Option Int => o.map Int.toNat) ∘ oI = oI := by
    funext o; cases o <;> rfl
  have := dsc_map_le (fun o : Option Int => o.map Int.toNat) (f.map oI)
  rw [List.map_map] at this
  have e2 : ((fun o : Option Int => o.map Int.toNat) ∘ oI) = id := by funext o; cases o <;> rfl
  rw [e2, List.map_id] at this
  rw [List.map_map]
  have e3 : ((fun o : Option Int => o.map Int.toNat) ∘ oI) = id := e2
  simp only [e3, List.map_id]
  first | exact this | (rw [List.map_map]; exact this) | skip
section
variable {κ : Type} [DecidableEq κ] {f : κ → D}
theorem dlk_in (hf : ∀ a b, f a = f b → a = b) {ks : List κ} {k : κ} (h : k ∈ ks) : dlook (plG f ks) (f k) = some (.int (posB id ks k : Nat)) := by
  letI : DecidableEq D := fun a b => Classical.propDecidable (a = b)
  have := plG_find hf ks k
  rw [if_pos h] at this
  unfold posB
  rw [List.map_id]
  exact this
theorem dlk_out (hf : ∀ a b, f a = f b → a = b) {ks : List κ} {k : κ} (h : k ∉ ks) : dlook (plG f ks) (f k) = none := by
  letI : DecidableEq D := fun a b => Classical.propDecidable (a = b)
  have := plG_find hf ks k
  rw [if_neg h] at this
  exact this
theorem dput_pl (hf : ∀ a b, f a = f b → a = b) {ks : List κ} {k : κ} (h : k ∉ ks) : dput (plG f ks) (f k) (.int (ks.length : Nat)) = plG f (ks ++ [k]) := by
  unfold dput
  rw [dlk_out hf h, if_neg (by simp), plG_snoc]
end
theorem hoD_inj {a b : Option Nat} (h : hoD a = hoD b) : a = b := by
  cases a <;> cases b
  · rfl
  · cases h
  · cases h
  · injection h with h; rw [Int.ofNat.inj h]
def prtB {ν κ : Type} [DecidableEq κ] (nx : ν → Nat → Option ν) (kf : ν → κ) (line : List ν) (x : ν) : Nat → List ν × List (Option Nat)
  | 0 => (line, [])
  | i + 1 => ((stB kf (prtB nx kf line x i).1 (nx x (if i = 0 then 76 else 82))).1, (prtB nx kf line x i).2 ++ [(stB kf (prtB nx kf line x i).1 (nx x (if i = 0 then 76 else 82))).2])
theorem prtB_two {ν κ : Type} [DecidableEq κ] (nx : ν → Nat → Option ν) (kf : ν → κ) (line : List ν) (x : ν) : prtB nx kf line x 2 = ((rowB nx kf line x).1, [(rowB nx kf line x).2.1, (rowB nx kf line x).2.2]) := rfl
abbrev inL (l : List Nat) : List D := l.map fun i => D.int (i : Nat)
theorem dcAt {M : Sto} {p : Addr} {l : List (D × D)} (h : M p = some (.dic l)) : dicOf M (.ref p) = some l := by
  show (match M p with | some (.dic l) => some l | some (.dit l) => some l | _ => none) = _
  rw [h]
theorem least_mem {T : Hst} {kd : List (Option Nat)} (R : Rng T) (h0 : T ≠ []) {line : List Nat} {S : Hst} (h : Bfs (kn T kd) (ke kd) 0 line S) : ∀ x ∈ line, x < T.length := fun x hx => by
  have hp : 0 < T.length := List.length_pos_iff.mpr h0
  obtain ⟨i, e⟩ := List.getElem?_of_mem hx
  obtain ⟨w, lw, q⟩ := h.rc i x e
  have gen : ∀ (w : List Nat) (o : Option Nat), (∀ j, o = some j → j < T.length) → runO (kn T kd) o w = some x → x < T.length := by
    intro w
    induction w with
    | nil => intro o ho e; exact ho x e
    | cons t w ih =>
      intro o ho e
      refine ih _ (fun j hj => ?_) e
      cases o with
      | none => cases hj
      | some y =>
        have hj : kn T kd y t = some j := hj
        unfold kn at hj
        cases e1 : hnx T y t with
        | none => rw [e1] at hj; cases hj
        | some g =>
          rw [e1] at hj
          have hj : (if (kd.getD g none).isSome = true then some g else none) = some j := hj
          split at hj
          · cases hj; exact R _ _ _ e1
          · cases hj
  exact gen w (some 0) (fun j e => by cases e; exact hp) q
theorem posB_map {ν κ : Type} [DecidableEq κ] (kf : ν → κ) (ln : List ν) (g : ν) : posB id (ln.map kf) (kf g) = posB kf ln g := by
  unfold posB
  rw [List.map_id]; rfl
theorem inL_snoc (l : List Nat) (g : Nat) : inL (l ++ [g]) = inL l ++ [.int (g : Nat)] := by rw [inL, List.map_append]; rfl
theorem insB_pos {ν κ : Type} [DecidableEq κ] {kf : ν → κ} {ln : List ν} {g : ν} (h : kf g ∈ ln.map kf) : insB kf ln g = ln := if_pos h
theorem insB_neg {ν κ : Type} [DecidableEq κ] {kf : ν → κ} {ln : List ν} {g : ν} (h : kf g ∉ ln.map kf) : insB kf ln g = ln ++ [g] := if_neg h
abbrev wdD (b : List Nat) : D := .str ⟨b.toArray⟩
theorem ends_w (w b : List Nat) : Txt.endswith ⟨w.toArray⟩ ⟨b.toArray⟩ = b.isSuffixOf w := by
  unfold Txt.endswith
  rw [StrLaws.subAt_eq, Bool.eq_iff_iff, Bool.and_eq_true, decide_eq_true_eq, List.isSuffixOf_iff_suffix, List.suffix_iff_eq_drop]
  have l1 : (⟨b.toArray⟩ : Str).length = b.length := by show b.toArray.size = _; simp
  have l2 : (⟨w.toArray⟩ : Str).length = w.length := by show w.toArray.size = _; simp
  rw [l1, l2]
  constructor
  · rintro ⟨h1, h2⟩
    have h2 : (w.drop (w.length - b.length)).take b.length = b := by simpa using h2
    rw [List.take_of_length_le (by rw [List.length_drop]; omega)] at h2
    exact h2.symm
  · intro h
    have hl : b.length ≤ w.length := by
      have := congrArg List.length h
      rw [List.length_drop] at this
      omega
    refine ⟨by omega, ?_⟩
    have : (w.drop (w.length - b.length)).take b.length = b := by
      rw [List.take_of_length_le (by rw [List.length_drop]; omega)]; exact h.symm
    simpa using this
theorem dlook_app {l m : List (D × D)} {c : D} : dlook (l ++ m) c = (dlook l c).or (dlook m c) := by
  unfold dlook
  rw [List.find?_append]
  cases h : l.find? fun kv => @decide (kv.1 = c) (Classical.propDecidable _) <;> simp
open Classical in
theorem dlook_repl (c d c' : D) : ∀ l : List (D × D), (dlook (l.map fun kv => if kv.1 = c then (kv.1, d) else kv) c').isSome = (dlook l c').isSome
  | [] => rfl
  | q :: l => by
    have e : (if q.1 = c then (q.1, d) else q).1 = q.1 := by split <;> rfl
    rw [List.map_cons]
    by_cases z : q.1 = c'
    · rw [dlook_pos z, dlook_pos (e.trans z)]; rfl
    · rw [dlook_neg z, dlook_neg (fun y => z (e.symm.trans y)), dlook_repl c d c' l]
open Classical in
theorem dput_is (l : List (D × D)) (c d c' : D) : (dlook (dput l c d) c').isSome = ((dlook l c').isSome || decide (c' = c)) := by
  unfold dput
  split
  · rename_i h
    rw [dlook_repl]
    by_cases z : c' = c
    · rw [z, h]; simp
    · rw [decide_eq_false z, Bool.or_false]
  · rename_i h
    rw [dlook_app]
    by_cases z : c' = c
    · rw [z, dlook_pos (q := (c, d)) rfl]
      cases dlook l c <;> simp
    · rw [dlook_neg (q := (c, d)) (fun y => z y.symm), dlook_nil, decide_eq_false z]
      cases dlook l c' <;> simp
theorem dput_le (l : List (D × D)) (c d : D) : (dput l c d).length ≤ l.length + 1 := by
  unfold dput
  split
  · rw [List.length_map]; omega
  · simp
theorem wdD_inj {a b : List Nat} (h : wdD a = wdD b) : a = b := by
  injection h with h
  injection h with h
  exact congrArg Array.toList h
def StIs (l : List (D × D)) (P : List Nat → Prop) : Prop := ∀ w, (dlook l (wdD w)).isSome = true ↔ P w
open Classical in
theorem StIs.put {l : List (D × D)} {P : List Nat → Prop} {w : List Nat} {d : D} (h : StIs l P) : StIs (dput l (wdD w) d) (fun x => P x ∨ x = w) := fun x => by
  rw [dput_is, Bool.or_eq_true, h x, decide_eq_true_eq]
  exact ⟨fun z => z.imp id wdD_inj, fun z => z.imp id fun e => by rw [e]⟩
theorem StIs.congr {l : List (D × D)} {P Q : List Nat → Prop} (h : StIs l P) (e : ∀ w, P w ↔ Q w) : StIs l Q := fun w => (h w).trans (e w)
theorem sum_ge : ∀ {bars : List (List Nat)}, (∀ b ∈ bars, LR b ∧ b ≠ []) → bars.length ≤ (bars.map List.length).sum
  | [], _ => Nat.le_refl _
  | b :: l, h => by
    have h1 := List.length_pos_iff.mpr (h b List.mem_cons_self).2
    have ih := sum_ge (bars := l) fun x hx => h x (List.mem_cons_of_mem _ hx)
    rw [List.map_cons, List.sum_cons, List.length_cons]
    omega
theorem sum_take (bars : List (List Nat)) (i : Nat) : ((bars.take i).map List.length).sum ≤ (bars.map List.length).sum := by
  conv => rhs; rw [← List.take_append_drop i bars]
  rw [List.map_append, List.sum_append]
  omega
theorem isSt_take {bars : List (List Nat)} {i : Nat} {b : List Nat} (hb : bars[i]? = some b) (w : List Nat) : isSt (bars.take (i + 1)) w = true ↔ isSt (bars.take i) w = true ∨ ∃ k' < b.length, w = b.take k' := by
  rw [isSt_iff, isSt_iff, List.take_add_one, hb]
  constructor
  · rintro (e | ⟨c, m, l, p⟩)
    · exact .inl (.inl e)
    · rcases List.mem_append.mp m with m | m
      · exact .inl (.inr ⟨c, m, l, p⟩)
      · have : c = b := by simpa using m
        subst this
        exact .inr ⟨w.length, l, List.prefix_iff_eq_take.mp p⟩
  · rintro ((e | ⟨c, m, l, p⟩) | ⟨k', hk, e⟩)
    · exact .inl e
    · exact .inr ⟨c, List.mem_append_left _ m, l, p⟩
    · refine .inr ⟨b, by simp, by rw [e, List.length_take]; omega, by rw [e]; exact List.take_prefix _ _⟩
theorem mem_sum : ∀ {bars : List (List Nat)} {b : List Nat}, b ∈ bars → b.length ≤ (bars.map List.length).sum
  | c :: l, b, h => by
    rw [List.map_cons, List.sum_cons]
    rcases List.mem_cons.mp h with e | h
    · rw [e]; omega
    · have := mem_sum h; omega
theorem sum_step {bars : List (List Nat)} {i : Nat} {b : List Nat} (hb : bars[i]? = some b) : ((bars.take (i + 1)).map List.length).sum = ((bars.take i).map List.length).sum + b.length := by
  rw [List.take_add_one, hb, List.map_append, List.sum_append]
  simp
theorem isSt_len {bars : List (List Nat)} {x : List Nat} {n : Nat} (h : isSt bars x = true) (hn : ∀ b ∈ bars, b.length ≤ n) : x.length ≤ n := by
  rcases isSt_iff.mp h with e | ⟨b, m, l, _⟩
  · rw [e]; exact Nat.zero_le _
  · have := hn b m; omega
theorem wdL_snoc (l : List (List Nat)) (g : List Nat) : (l ++ [g]).map wdD = l.map wdD ++ [wdD g] := by rw [List.map_append]; rfl
theorem signs_LR : Z.signs "LR" = [wdD [76], wdD [82]] := by rfl
theorem sb_hrL (g : Addr → D) : ∀ S : Hst, sbL g (S.map hrD) = S.map hrD
  | [] => rfl
  | p :: S => by
    show sb g (hrD p) :: sbL g (S.map hrD) = hrD p :: S.map hrD
    rw [sb_hrL g S]
    obtain ⟨a, b⟩ := p
    cases a <;> cases b <;> rfl
theorem words_of {P : List Nat → Prop} : ∀ {acc : List D}, (∀ y ∈ acc, ∃ w, P w ∧ y = wdD w) → ∃ bars : List (List Nat), (∀ b ∈ bars, P b) ∧ acc = bars.map wdD
  | [], _ => ⟨[], (fun b h => nomatch h), rfl⟩
  | y :: l, h => by
    obtain ⟨w, hw, rfl⟩ := h y List.mem_cons_self
    obtain ⟨bars, hb, e⟩ := words_of (acc := l) fun z hz => h z (List.mem_cons_of_mem _ hz)
    exact ⟨w :: bars, fun b m => (List.mem_cons.mp m).elim (fun e => by rw [e]; exact hw) (hb b), by rw [e]; rfl⟩
def inTxD (_ : Sto) (x y : D) (φ : D → Prop) : Prop := match x, y with
  | .str a, .str b => φ (.bl (!(Builtin.Str.occurrences b a 0 b.length 1).isEmpty))
  | _, _ => False
theorem ok_inTx {K : PySem.W.Frag} : Ok2 K (fun x y H Q => ∃ i j, x = .str i ∧ y = .str j ∧ Q (.bl (!(Builtin.Str.occurrences j i 0 j.length 1).isEmpty)) H) inTxD := fun M H G x y v u φ Q w rx ry h k => by
  unfold inTxD at h
  split at h
  · cases rx
    cases ry
    exact ⟨_, _, rfl, rfl, k _ _ _ _ h (Grow.refl w.sub) .bl⟩
  · exact h.elim
theorem de_inTx {X : Cx} {B : Bs} {pos : Pos} {a b : Expr} {fa fb : DTE} (ha : DE X B a fa) (hb : DE X B b fb) (hm : behindInMarks .In b = false := by rfl) : DE X B (.Compare a [.In] [b] pos) (bin2 inTxD fa fb) := de_cmp op_in_str ok_inTx hm ha hb
theorem in_tx (w b : List Nat) : (!(Builtin.Str.occurrences ⟨w.toArray⟩ ⟨b.toArray⟩ 0 (⟨w.toArray⟩ : Str).length 1).isEmpty) = true ↔ b <:+: w := by
  rw [StrLaws.found_iff]
  have l1 : (⟨b.toArray⟩ : Str).length = b.length := by show b.toArray.size = _; simp
  have l2 : (⟨w.toArray⟩ : Str).length = w.length := by show w.toArray.size = _; simp
  rw [l1, l2]
  constructor
  · rintro ⟨i, hi, h⟩
    rw [StrLaws.subAt_eq, l1] at h
    have h : (w.drop i).take b.length = b := by simpa using h
    rw [← h]
    exact ((List.take_prefix _ _).isInfix).trans (List.drop_suffix _ _).isInfix
  · rintro ⟨u, v, e⟩
    have hl := congrArg List.length e
    rw [List.length_append, List.length_append] at hl
    refine ⟨u.length, by omega, ?_⟩
    rw [StrLaws.subAt_eq, l1]
    have : (w.drop u.length).take b.length = b := by
      rw [← e, List.append_assoc, List.drop_left, List.take_left]
    simpa using this
theorem len_sumB {bars : List (List Nat)} {m : Nat} : (∀ b ∈ bars, b.length ≤ m) → (bars.map List.length).sum ≤ bars.length * m := by
  induction bars with
  | nil => intro _; simp
  | cons b l ih =>
    intro h
    have h1 := h b List.mem_cons_self
    have h2 := ih fun x hx => h x (List.mem_cons_of_mem _ hx)
    rw [List.map_cons, List.sum_cons, List.length_cons, Nat.succ_mul]
    omega
end Z
namespace Z
open PySem PySem.Spec PyProof.Rows L2
def PC (L : List Nat → Prop) : Prop := ∀ w u, LR u → L (w ++ u) → L w
theorem nobar_pc (bars : List (List Nat)) : PC (NoBar bars) := fun w u _ h b m z => h b m (z.trans ((List.prefix_append w u).isInfix))
theorem PC.ext {L : List Nat → Prop} (h : PC L) : PC (Ext L) := fun w u lu e n => by
  obtain ⟨v, a, b, c⟩ := e n
  refine ⟨(u ++ v).take n, fun z hz => lr_app lu a z (List.mem_of_mem_take hz), by rw [List.length_take, List.length_append]; omega, h _ ((u ++ v).drop n) (fun z hz => lr_app lu a z (List.mem_of_mem_drop hz)) ?_⟩
  rw [List.append_assoc w, List.take_append_drop, ← List.append_assoc]
  exact c
theorem PC.and {L M : List Nat → Prop} (h : PC L) (k : PC M) : PC (fun w => L w ∧ M w) := fun w u lu z => ⟨h w u lu z.1, k w u lu z.2⟩
theorem PC.or {L M : List Nat → Prop} (h : PC L) (k : PC M) : PC (fun w => L w ∨ M w) := fun w u lu z => z.imp (h w u lu) (k w u lu)
theorem Ext.here {L : List Nat → Prop} {w : List Nat} (h : Ext L w) : L w := by
  obtain ⟨u, a, b, c⟩ := h 0
  rw [List.eq_nil_of_length_eq_zero b, List.append_nil] at c
  exact c
theorem Ext.step {L : List Nat → Prop} (h : PC L) {w : List Nat} (e : Ext L w) : ∃ t, (t = 76 ∨ t = 82) ∧ Ext L (w ++ [t]) := by
  apply Classical.byContradiction
  intro z
  have h1 : ¬ Ext L (w ++ [76]) := fun q => z ⟨76, .inl rfl, q⟩
  have h2 : ¬ Ext L (w ++ [82]) := fun q => z ⟨82, .inr rfl, q⟩
  obtain ⟨n1, k1⟩ := Classical.not_forall.mp h1
  obtain ⟨n2, k2⟩ := Classical.not_forall.mp h2
  obtain ⟨u, a, b, c⟩ := e (n1 + n2 + 1)
  match u, b with
  | t :: u, b =>
    have la : LR u := fun z hz => a z (List.mem_cons_of_mem _ hz)
    have bl : u.length = n1 + n2 := by simpa using b
    have cut : ∀ n, n ≤ n1 + n2 → L (w ++ [t] ++ u.take n) := fun n hn => by
      refine h _ (u.drop n) (fun z hz => la z (List.mem_of_mem_drop hz)) ?_
      rw [List.append_assoc (w ++ [t]), List.take_append_drop, List.append_assoc]
      exact c
    rcases a t List.mem_cons_self with rfl | rfl
    · exact k1 ⟨u.take n1, fun z hz => la z (List.mem_of_mem_take hz), by rw [List.length_take]; omega, cut n1 (by omega)⟩
    · exact k2 ⟨u.take n2, fun z hz => la z (List.mem_of_mem_take hz), by rw [List.length_take]; omega, cut n2 (by omega)⟩
theorem Ext.run {L : List Nat → Prop} (h : PC L) {w : List Nat} (e : Ext L w) : ∀ n, ∃ u, LR u ∧ u.length = n ∧ Ext L (w ++ u)
  | 0 => ⟨[], (fun _ z => nomatch z), rfl, by rw [List.append_nil]; exact e⟩
  | n + 1 => by
    obtain ⟨u, a, b, c⟩ := e.run h n
    obtain ⟨t, ht, d⟩ := c.step h
    exact ⟨u ++ [t], lr_snoc a ht, by simp [b], by rw [← List.append_assoc]; exact d⟩
theorem Ext.mono {L M : List Nat → Prop} (h : ∀ w, L w → M w) {w : List Nat} (e : Ext L w) : Ext M w := fun n => let ⟨u, a, b, c⟩ := e n; ⟨u, a, b, h _ c⟩
theorem ext_congr {L M : List Nat → Prop} {w : List Nat} (h : ∀ u, LR u → (L (w ++ u) ↔ M (w ++ u))) : Ext L w ↔ Ext M w :=
  forall_congr' fun n => exists_congr fun u => ⟨fun ⟨a, b, c⟩ => ⟨a, b, (h u a).mp c⟩, fun ⟨a, b, c⟩ => ⟨a, b, (h u a).mpr c⟩⟩
theorem hm_card {S : Hst} {P : List Nat → Prop} {κ : Type} [DecidableEq κ] (h : Hm S P) (φ : List Nat → κ) (U : List κ) (hU : ∀ w, LR w → P w → φ w ∈ U) (hr : ∀ w w', LR w → LR w' → P w → P w' → φ w = φ w' → ∀ u, LR u → (P (w ++ u) ↔ P (w' ++ u))) : S.length ≤ U.length := by
  have pick : ∀ i : Fin S.length, ∃ w, LR w ∧ hgo S (some 0) w = some i.1 := fun i => h.rc i.1 i.2
  let f : Fin S.length → List Nat := fun i => Classical.choose (pick i)
  have hf : ∀ i, LR (f i) ∧ hgo S (some 0) (f i) = some i.1 := fun i => Classical.choose_spec (pick i)
  have ne : ∀ i : Fin S.length, S ≠ [] := fun i => List.length_pos_iff.mp (Nat.lt_of_le_of_lt (Nat.zero_le _) i.2)
  have hp : ∀ i, P (f i) := fun i => (h.lang _ (hf i).1).mp ⟨ne i, by rw [(hf i).2]; exact fun z => nomatch z⟩
  have inj : ∀ i j, φ (f i) = φ (f j) → i = j := fun i j e => by
    refine Fin.ext (h.mn i.1 j.1 i.2 j.2 fun u lu => ?_)
    have q := hr _ _ (hf i).1 (hf j).1 (hp i) (hp j) e u lu
    rw [← h.lang _ (lr_app (hf i).1 lu), ← h.lang _ (lr_app (hf j).1 lu), hgo_app, hgo_app, (hf i).2, (hf j).2] at q
    exact ⟨fun z => (q.mp ⟨ne i, z⟩).2, fun z => (q.mpr ⟨ne i, z⟩).2⟩
  have nd : ((List.finRange S.length).map fun i => φ (f i)).Nodup := by
    have base : (List.finRange S.length).Nodup := List.nodup_finRange _
    exact List.Pairwise.map _ (fun a b q e => q (inj a b e)) base
  have := ndp_len _ U nd fun x hx => by
    obtain ⟨i, _, rfl⟩ := List.mem_map.mp hx
    exact hU _ (hf i).1 (hp i)
  simpa using this
theorem st_sub {bs all : List (List Nat)} (h : ∀ b ∈ bs, b ∈ all) {x : List Nat} (q : isSt bs x = true) : isSt all x = true :=
  isSt_iff.mpr ((isSt_iff.mp q).imp id fun ⟨b, m, l⟩ => ⟨b, h b m, l⟩)
theorem cut_sub {bs all : List (List Nat)} (h : ∀ b ∈ bs, b ∈ all) (w : List Nat) : cutS bs w = cutS bs (cutS all w) := by
  refine suf_anti ?_ ?_
  · exact cutS_max _ _ (cutS_max _ _ (cutS_suf w) (st_sub h (cutS_st w))) (cutS_st w)
  · exact cutS_max _ _ ((cutS_suf _).trans (cutS_suf w)) (cutS_st _)
theorem nobar_step {bs all : List (List Nat)} (h : ∀ b ∈ bs, b ∈ all) (hb : ∀ b ∈ bs, b ≠ []) {w w' : List Nat} (e : cutS all w = cutS all w') (f : NoBar bs w ↔ NoBar bs w') {u : List Nat} (lu : LR u) : NoBar bs (w ++ u) ↔ NoBar bs (w' ++ u) := by
  by_cases q : NoBar bs w
  · have q' := f.mp q
    rw [← bar_lang hb, ← bar_lang hb, runO_app, runO_app, (run_bar hb w).1 q, (run_bar hb w').1 q', cut_sub h w, cut_sub h w', e]
  · have q' : ¬ NoBar bs w' := fun z => q (f.mpr z)
    exact ⟨fun z => absurd (nobar_pc bs w u lu z) q, fun z => absurd (nobar_pc bs w' u lu z) q'⟩
theorem ext_congr2 {L : List Nat → Prop} {w w' : List Nat} (h : ∀ u, LR u → (L (w ++ u) ↔ L (w' ++ u))) : Ext L w ↔ Ext L w' :=
  forall_congr' fun n => exists_congr fun u => ⟨fun ⟨a, b, c⟩ => ⟨a, b, (h u a).mp c⟩, fun ⟨a, b, c⟩ => ⟨a, b, (h u a).mpr c⟩⟩
theorem ext_congr3 {L : List Nat → Prop} {w w' : List Nat} (h : ∀ u, LR u → (L (w ++ u) ↔ L (w' ++ u))) {u : List Nat} (lu : LR u) : Ext L (w ++ u) ↔ Ext L (w' ++ u) :=
  ext_congr2 fun v lv => by rw [List.append_assoc, List.append_assoc]; exact h _ (lr_app lu lv)
theorem hm_bars {S : Hst} {bs : List (List Nat)} (hb : ∀ b ∈ bs, b ≠ []) (h : Hm S (Ext (NoBar bs))) : S.length ≤ 1 + (bs.map List.length).sum := by
  rw [← staU_len]
  exact hm_card h (cutS bs) (staU bs) (fun w _ _ => staU_mem.mpr (cutS_st w)) fun w w' lw lw' p p' e u lu => ext_congr3 (fun v lv => nobar_step (fun b m => m) hb e ⟨fun _ => p'.here, fun _ => p.here⟩ lv) lu
inductive BJ : Type
  | bar (bs : List (List Nat))
  | and (a b : BJ)
  | or (a b : BJ)
def BJ.lang : BJ → List Nat → Prop
  | .bar bs => NoBar bs
  | .and a b => fun w => a.lang w ∧ b.lang w
  | .or a b => fun w => a.lang w ∨ b.lang w
def BJ.all : BJ → List (List Nat)
  | .bar bs => bs
  | .and a b => a.all ++ b.all
  | .or a b => a.all ++ b.all
def BJ.over (ls : List (List (List Nat))) : BJ → Prop
  | .bar bs => bs ∈ ls
  | .and a b => a.over ls ∧ b.over ls
  | .or a b => a.over ls ∧ b.over ls
open Classical in
noncomputable def flgs (ls : List (List (List Nat))) (w : List Nat) : List Bool := ls.map fun bs => decide (NoBar bs w)
def allF : Nat → List (List Bool)
  | 0 => [[]]
  | n + 1 => (allF n).map (true :: ·) ++ (allF n).map (false :: ·)
theorem allF_len : ∀ n, (allF n).length = 2 ^ n
  | 0 => rfl
  | n + 1 => by unfold allF; rw [List.length_append, List.length_map, List.length_map, allF_len n]; omega
theorem allF_mem : ∀ l : List Bool, l ∈ allF l.length
  | [] => List.mem_singleton.mpr rfl
  | true :: l => List.mem_append.mpr (.inl (List.mem_map.mpr ⟨l, allF_mem l, rfl⟩))
  | false :: l => List.mem_append.mpr (.inr (List.mem_map.mpr ⟨l, allF_mem l, rfl⟩))
theorem BJ.step {ls : List (List (List Nat))} {all : List (List Nat)} (ha : ∀ bs ∈ ls, ∀ b ∈ bs, b ∈ all) (hb : ∀ bs ∈ ls, ∀ b ∈ bs, b ≠ []) {w w' : List Nat} (e : cutS all w = cutS all w') (f : ∀ bs ∈ ls, (NoBar bs w ↔ NoBar bs w')) {u : List Nat} (lu : LR u) : ∀ j : BJ, j.over ls → (j.lang (w ++ u) ↔ j.lang (w' ++ u))
  | .bar bs, h => nobar_step (ha bs h) (hb bs h) e (f bs h) lu
  | .and a b, h => and_congr (BJ.step ha hb e f lu a h.1) (BJ.step ha hb e f lu b h.2)
  | .or a b, h => or_congr (BJ.step ha hb e f lu a h.1) (BJ.step ha hb e f lu b h.2)
theorem hm_join {S : Hst} {j : BJ} (ls : List (List (List Nat))) (hj : j.over ls) (hb : ∀ bs ∈ ls, ∀ b ∈ bs, b ≠ []) (h : Hm S (Ext j.lang)) : S.length ≤ (1 + (ls.flatten.map List.length).sum) * 2 ^ ls.length := by
  rw [← staU_len, ← allF_len]
  have ha : ∀ bs ∈ ls, ∀ b ∈ bs, b ∈ ls.flatten := fun bs m b mb => List.mem_flatten.mpr ⟨bs, m, mb⟩
  have := hm_card h (fun w => (cutS ls.flatten w, flgs ls w)) ((staU ls.flatten).flatMap fun v => (allF ls.length).map fun f => (v, f)) (fun w _ _ => ?_) fun w w' lw lw' p p' e u lu => ext_congr3 (fun v lv => ?_) lu
  · refine Nat.le_trans this ?_
    rw [List.length_flatMap]
    have e : ((staU ls.flatten).map fun v => ((allF ls.length).map fun f => (v, f)).length) = List.replicate (staU ls.flatten).length (allF ls.length).length := by
      refine List.eq_replicate_iff.mpr ⟨by simp, fun x hx => ?_⟩
      obtain ⟨_, _, rfl⟩ := List.mem_map.mp hx
      simp
    rw [e, List.sum_replicate_nat]
    exact Nat.le_refl _
  · refine List.mem_flatMap.mpr ⟨_, staU_mem.mpr (cutS_st w), List.mem_map.mpr ⟨_, ?_, rfl⟩⟩
    have := allF_mem (flgs ls w)
    rwa [show (flgs ls w).length = ls.length from by unfold flgs; rw [List.length_map]] at this
  · refine BJ.step ha hb (Prod.mk.inj e).1 (fun bs m => ?_) lv j hj
    have e2 : flgs ls w = flgs ls w' := (Prod.mk.inj e).2
    unfold flgs at e2
    have := List.map_inj_left.mp e2 bs m
    exact decide_eq_decide.mp this
end Z
namespace Z
open PySem PySem.Spec PyProof.Rows L2
theorem hm_low {S : Hst} {P : List Nat → Prop} (h : Hm S P) (n : Nat) (f : Nat → List Nat) (hf : ∀ i, i < n → LR (f i) ∧ P (f i)) (hd : ∀ i j, i < j → j < n → ∃ u, LR u ∧ ¬ (P (f i ++ u) ↔ P (f j ++ u))) : n ≤ S.length := by
  by_cases n0 : n = 0
  · omega
  have ne : S ≠ [] := ((h.lang _ (hf 0 (by omega)).1).mpr (hf 0 (by omega)).2).1
  have ex : ∀ i, i < n → ∃ r, hgo S (some 0) (f i) = some r := fun i hi => by
    have := ((h.lang _ (hf i hi).1).mpr (hf i hi).2).2
    cases e : hgo S (some 0) (f i) with
    | none => exact absurd e this
    | some r => exact ⟨r, rfl⟩
  let g : Nat → Nat := fun i => (hgo S (some 0) (f i)).getD 0
  have hg : ∀ i, i < n → hgo S (some 0) (f i) = some (g i) := fun i hi => by
    obtain ⟨r, e⟩ := ex i hi
    show _ = some ((hgo S (some 0) (f i)).getD 0)
    rw [e]; rfl
  have inj : ∀ i j, i < j → j < n → g i ≠ g j := fun i j hij hj e => by
    obtain ⟨u, lu, hu⟩ := hd i j hij hj
    apply hu
    rw [← h.lang _ (lr_app (hf i (by omega)).1 lu), ← h.lang _ (lr_app (hf j hj).1 lu), hgo_app, hgo_app, hg i (by omega), hg j hj, e]
  have nd : ((List.range n).map g).Nodup := by
    refine List.pairwise_map.mpr ?_
    refine List.Pairwise.imp_of_mem ?_ (List.pairwise_lt_range (n := n))
    intro a b ha hb hab
    exact inj a b hab (List.mem_range.mp hb)
  have := ndp_len _ (List.range S.length) nd fun x hx => by
    obtain ⟨i, hi, rfl⟩ := List.mem_map.mp hx
    exact List.mem_range.mpr (lt_hgo h ne (hg i (List.mem_range.mp hi)))
  simpa using this
theorem lr_rep {c n : Nat} (h : c = 76 ∨ c = 82) : LR (List.replicate n c) := fun x hx => by rw [List.eq_of_mem_replicate hx]; exact h
end Z
namespace Z
section
open PySem PySem.SeqAt GQ
open AutoSeq1 (wpAny_loadPart')
open MeetsSeq MeetsSeq2 MeetsSeq3 SeqRoads2
variable {prog : Program} {w : World} {A : Around} {R : Result → Shared → Prop}
end
section
open PySem PySem.SeqAt GQ
variable {prog : Program} {w : World} {A : Around} {E : Value → Shared → Prop} {s : Shared}
end
open PySem PySem.Spec PyProof.Rows L2
section
variable {X : Cx} {j k : Nat} {own : D → D → Sto → Prop}
variable {B : Bs} {c : Ct} {pos : Pos} {a b : Expr} {fa fb : DTE} {C : Addr} {bs : List (Nat × List Str × (List D → List D → List D))}
end

structure OwnS (K : PySem.W.Frag) (C C2 : Addr) : Prop where
  a : OwnF K C
  b : OwnF K C2
  yes : PySem.W.kitOne K (.ref C2) (.ref C) = some true
def ownS (x y : Str) : FF := fun K => (ownF x K && (ownF y K && decide (PySem.W.kitOne K (.ref (He.ga K y)) (.ref (He.ga K x)) = some true)))
theorem ownS_ok {x y : Str} {K : PySem.W.Frag} (c : ownS x y K = true) : OwnS K (He.ga K x) (He.ga K y) := by
  obtain ⟨c1, c⟩ := He.ba c
  obtain ⟨c2, c⟩ := He.ba c
  exact ⟨ownF_ok c1, ownF_ok c2, of_decide_eq_true c⟩
def isiS (C C2 : Addr) (M : Sto) (ds : List D) (φ : PD) : Prop := match ds with
  | [d, .ref C'] => C' = C ∧ ((∃ fs, objOf M d = some (C, fs) ∧ φ (.bl true) M) ∨ (∃ fs, objOf M d = some (C2, fs) ∧ φ (.bl true) M) ∨ ∃ t, tyN M d = some t ∧ φ (.bl false) M)
  | _ => False
theorem ok_isiS {K : PySem.W.Frag} {C C2 : Addr} (F : OwnS K C C2) : OkC K (rIsi K) (isiS C C2) := fun M H G ds vs φ Q w r h k => by
  unfold isiS at h
  split at h
  · obtain ⟨rfl, h⟩ := h
    cases r with
    | cons r1 r2 => cases r2 with
      | cons r2 r3 =>
        cases r3; cases r2
        rcases h with ⟨fs, e, h⟩ | ⟨fs, e, h⟩ | ⟨t, e, h⟩
        · obtain ⟨a, dx, fvs, rfl, h1, _⟩ := obj_rep w r1 e
          exact ⟨_, _, _, _, _, rfl, .own _, .base (.ins h1 F.a.cl F.a.ha F.a.hn F.a.htk F.a.hm), F.a.self, k.id w h .bl⟩
        · obtain ⟨a, dx, fvs, rfl, h1, _⟩ := obj_rep w r1 e
          exact ⟨_, _, _, _, _, rfl, .own _, .base (.ins h1 F.b.cl F.b.ha F.b.hn F.b.htk F.b.hm), F.yes, k.id w h .bl⟩
        · exact ⟨_, _, _, _, _, rfl, .own _, tyN_x w r1 e, F.a.other t (tyN_ok e), k.id w h .bl⟩
  · exact h.elim
section
variable {X : Cx} {B : Bs} {pos p : Pos} {a b : Expr} {ga : DTA} {C C2 : Addr}
theorem de_isis (hm : X.mg "isinstance" = none) (F : OwnS X.K C C2) (ha : DA X B [a, b] ga) (hg : Gl X "isinstance" := by rfl) (he : starEach [a, b] X.env = (false, eval a X.env) :: starEach [b] X.env := by rfl) (hpl : (backTo pos (starEach [b] X.env)).any (·.1) = false := by rfl) :
    DE X B (.Call (.Name "isinstance" p) [a, b] [] pos) (fun r M Ψ => ga r M fun ds M1 => isiS C C2 M1 ds Ψ) := de_callB call_isi (ok_isiS F) hm boot_isinstance ha hg (by decide) (by decide) he hpl
end
section
variable {X : Cx} {B : Bs} {k j n : Nat} {c : Ct} {pos : Pos} {a b : Expr} {fa fb : DTE} {C C2 : Addr} {bs : List (Nat × List Str × (List D → List D → List D))}
end
theorem pl_ho {n : Nat} (o : Option Nat) : Pl n (hoD o) := by
  cases o with
  | none => exact .non
  | some k => exact .int _
theorem pl_rows {n : Nat} (S : Hst) : Pl (n + 2) (.tup (S.map hrD)) := .tup (PlL.of fun d hd => by
  obtain ⟨p, _, rfl⟩ := List.mem_map.mp hd
  exact .tup (.cons (pl_ho _) (.cons (pl_ho _) .nil)))
theorem hrD_inj : ∀ p q : Option Nat × Option Nat, hrD p = hrD q → p = q := fun p q e => by
  unfold hrD at e
  injection e with e
  injection e with e1 e2
  injection e2 with e2 _
  exact Prod.ext (hoD_inj e1) (hoD_inj e2)
theorem rows_inj {S T : Hst} : D.tup (S.map hrD) = .tup (T.map hrD) ↔ S = T := by
  constructor
  · intro e
    injection e with e
    exact map_inj hrD_inj e
  · rintro rfl; rfl
end Z
namespace Z
open PySem PySem.Spec PyProof.Rows L2
section
variable {S : Hst} {L M : List Nat → Prop}
theorem Hm.ext_congr (h : Hm S (Ext L)) (e : ∀ w, LR w → (L w ↔ M w)) : Hm S (Ext M) := h.congr fun w lw => Z.ext_congr fun u lu => e _ (lr_app lw lu)
theorem noBar_app {a b : List (List Nat)} {w : List Nat} : NoBar (a ++ b) w ↔ NoBar a w ∧ NoBar b w := by
  constructor
  · intro h; exact ⟨fun x m => h x (List.mem_append_left _ m), fun x m => h x (List.mem_append_right _ m)⟩
  · rintro ⟨h, k⟩ x m
    exact (List.mem_append.mp m).elim (h x) (k x)
theorem no_rows {bs : List (List Nat)} (h1 : [76] ∈ bs) (h2 : [82] ∈ bs) {w : List Nat} : ¬ Ext (NoBar bs) w := fun e => by
  obtain ⟨u, a, b, c⟩ := e 1
  match u, b with
  | [t], _ =>
    rcases a t List.mem_cons_self with rfl | rfl
    · exact c _ h1 ⟨w, [], by simp⟩
    · exact c _ h2 ⟨w, [], by simp⟩
variable {b1 b2 b3 : List (List Nat)}
end
theorem lst_dr {p : Addr} {M M' : Sto} {d : D} {l : List D} (h : lstOf M d = some l) (n : d ≠ .ref p) (dr : Dr p M M') : lstOf M' d = some l := by
  cases d with
  | ref a => exact lstOf_at (by rw [dr.2 a fun z => n (by rw [z])]; exact lstOf_ref h)
  | _ => exact h
theorem lst_upd {M : Sto} {d : D} {l : List D} {q : Addr} {c : Cell} (h : lstOf M d = some l) (hq : M q = none) : lstOf (updM M q c) d = some l := by
  cases d with
  | ref a =>
    have e := lstOf_ref h
    exact lstOf_at (by rw [updM_ne (fun z => by rw [z, hq] at e; cases e)]; exact e)
  | _ => exact h
end Z
namespace Z
open PySem PySem.Spec PyProof.Rows L2
section
variable {S : Hst} {r : Nat}
end

end Z
namespace Z
open PySem PySem.Spec PyProof.Rows L2
section
variable {tu : Bool} {w : List Nat} {u : T4} {a r : List Nat}
end
def ini (S : Hst) : Option Nat := if S = [] then none else some 0
section
variable {S : Hst} {tu : Bool} {w : List Nat} {u : T4} {a r : List Nat}
end
end Z
namespace Z
section
open PySem PySem.SeqAt GQ
variable {prog : Program} {w : World} {A : Around} {E : Value → Shared → Prop} {s : Shared}
end
open PySem PySem.Spec PyProof.Rows L2
section
variable {X : Cx} {B : Bs} {k j : Nat} {c : Ct} {pos apos p : Pos} {a : Expr} {ga : DTA} {C : Addr} {bs : List (Nat × List Str × (List D → List D → List D))}
end
end Z
namespace Z
open PySem PySem.Spec PyProof.Rows L2 PySem.W PySem.Calls Builtin

def missFit (cd : ClassData) (name : Str) : Bool :=
  decide (cd.name.cps.foldl (fun k c => k + (Str.utf8Of c).length) 0 ≤ 100) && decide (((s!"type object '{cd.name.toString}' has no attribute '" : Str) ++ name ++ "'").length ≤ sizeLine)
section
variable {prog : Program} {w : World} {A : Around} {E : Value → Shared → Prop} {s : Shared} {K : Frag} {D : Addr} {name : Str}
variable {x C f : Addr} {L : Addr} {h₀ : Heap} {m : Str → Option Value} {ox : Obj} {od : Option Obj}
end

section
variable {X : Cx} {B : Bs} {k j n : Nat} {c : Ct} {pos : Pos} {a b : Expr} {fa fb : DTE} {C D : Addr} {bs : List (Nat × List Str × (List Z.D → List Z.D → List Z.D))}
end
theorem add_LL {M : Sto} {a b : Z.D} {xs ys : List Z.D} {φ : Z.D → Prop} (ha : lstOf M a = some xs) (hb : lstOf M b = some ys) (hl : xs.length + ys.length ≤ sizeLine) (q : φ (.lst (xs ++ ys))) : addD M a b φ := by
  cases a <;> first | exact ⟨_, _, ha, hb, hl, q⟩ | (simp [lstOf] at ha) | (cases b <;> first | exact ⟨_, _, ha, hb, hl, q⟩ | (simp [lstOf] at ha hb))
example : missFit ({ (default : ClassData) with name := "Combined" }) (dunderR "mul") = true := by decide +kernel
end Z
namespace L2
open PySem PySem.Spec PyProof.Rows
end L2
namespace Z
open PySem PySem.Spec PyProof.Rows L2
section
variable {X : Cx} {B : Bs} {pos : Pos} {e : Expr} {ga : DTA}
end
end Z
namespace Z
open PySem PySem.Spec PyProof.Rows L2
structure BB (s : Nat) (bs : List (List Nat)) : Prop where
  ok : ∀ b ∈ bs, LR b ∧ b ≠ [] ∧ b.length ≤ 20
  len : bs.length ≤ 20
  sum : (bs.map List.length).sum ≤ s
variable {s t : Nat} {b1 b2 : List (List Nat)} {S : Hst}
theorem BB.up (h : BB s b1) (e : s ≤ t) : BB t b1 := ⟨h.ok, h.len, Nat.le_trans h.sum e⟩
theorem BB.ne (h : BB s b1) : ∀ b ∈ b1, b ≠ [] := fun b m => (h.ok b m).2.1
theorem BB.l (h : BB s b1) (hm : Hm S (Ext (NoBar b1))) : S.length ≤ 1 + s := Nat.le_trans (hm_bars h.ne hm) (by have := h.sum; omega)
theorem BB.and (h : BB s b1) (k : BB t b2) (hm : Hm S (Ext fun w => NoBar b1 w ∧ NoBar b2 w)) : S.length ≤ 1 + (s + t) := by
  have := hm_bars (bs := b1 ++ b2) (fun b m => (List.mem_append.mp m).elim (h.ne b) (k.ne b)) (hm.ext_congr fun w _ => noBar_app.symm)
  rw [List.map_append, List.sum_append] at this
  have := h.sum
  have := k.sum
  omega
theorem BB.or (h : BB s b1) (k : BB t b2) (hm : Hm S (Ext fun w => NoBar b1 w ∨ NoBar b2 w)) : S.length ≤ (1 + (s + t)) * 4 := by
  have := hm_join (j := .or (.bar b1) (.bar b2)) [b1, b2] ⟨by simp [BJ.over], by simp [BJ.over]⟩ (fun bs m => by
    simp only [List.mem_cons, List.not_mem_nil, or_false] at m
    rcases m with rfl | rfl
    · exact h.ne
    · exact k.ne) hm
  simp only [List.flatten_cons, List.flatten_nil, List.append_nil, List.map_append, List.sum_append, List.length_cons, List.length_nil] at this
  have := h.sum
  have := k.sum
  omega
end Z
namespace TxSet
open PySem PySem.Spec PyProof.Rows L2
def kyS (e : Int × Value) : Str := match e.2 with
  | .str k _ => k
  | _ => ⟨#[]⟩
def Gd (P : Program) (w : World) (e : Int × Value) : Prop := ∃ k tk, e.2 = Value.str k tk ∧ e.1 = (PySem.strKind P w).hash k
def SetT (P : Program) (w : World) (h : Heap) (a : Addr) (ks : List Str) : Prop :=
  ∃ o es ep t, h.get? a = some o ∧ o.ExactSet ∧ o.data = .set es ep t ∧ (∀ e ∈ es.toList, Gd P w e) ∧ (es.toList.map kyS).Perm ks ∧ ks.Nodup ∧
    es.size < scanBound ∧ t.fits es.size = true ∧ Ris t.place.toList ∧ (w.params.followText "set-order" = true ∨ t.led = true)
section
variable {P : Program} {w : World} {h h' : Heap} {a : Addr} {ks : List Str}
theorem SetT.at (R : SetT P w h a ks) (k : ∀ o, h.get? a = some o → h'.get? a = some o) : SetT P w h' a ks := by
  obtain ⟨o, es, ep, t, ho, r⟩ := R
  exact ⟨o, es, ep, t, k o ho, r⟩
theorem is_ky {e : Int × Value} (g : Gd P w e) (k : Str) : (PySem.strKind P w).is k e.2 = true ↔ kyS e = k := by
  obtain ⟨k0, tk, e1, _⟩ := g
  unfold kyS
  rw [e1]
  show ((k0 == k) = true) ↔ k0 = k
  exact beq_iff_eq
theorem elems {l : List (Int × Value)} (g : ∀ e ∈ l, Gd P w e) : ElemsOf (PySem.strKind P w) l := fun e he => by
  obtain ⟨k, tk, e1, e2⟩ := g e he
  exact ⟨⟨k, by rw [e1]; exact strKind_is P w k tk, e2⟩, by rw [e1] <;> rfl⟩
end
section
variable {P : Program} {w : World} {A : Around} {E : Value → Shared → Prop} {s : Shared} {a : Addr} {ks : List Str}
theorem tail {g : Bool → PySem.Sem Unit} (hg : ∀ (b : Bool) (s₁ : Shared) (Q' : Unit → Shared → Prop), Q' () s₁ → wpAny (model P w) A (g b) Q' E s₁)
    {o : Obj} {es es1 : Array (Int × Value)} {ep : Nat} {t t2 : SetTable} (ho : s.heap.get? a = some o) (hex : o.ExactSet) (hd : o.data = .set es ep t)
    (g1 : ∀ e ∈ es1.toList, Gd P w e) (pk : (es1.toList.map kyS).Perm ks) (nd : ks.Nodup) (hb : es1.size < scanBound) (hf : t2.fits es1.size = true) (hr : Ris t2.place.toList)
    (hl : w.params.followText "set-order" = true ∨ t2.led = true) {wd : Bool} {R : Option Bool → Shared → Prop} (hR : ∀ h', Heap.SameBut a s.heap h' → SetT P w h' a ks → R (some true) { s with heap := h' }) :
    wpAny (model P w) A (do
        storeSet a es1 t2
        if (!wd && t2.tooFull) = true then do
            g (relayAll t2 es1 (SetTable.grown es1.size)).2.2
            storeSet a (relayAll t2 es1 (SetTable.grown es1.size)).1 (relayAll t2 es1 (SetTable.grown es1.size)).2.1
            pure (some true)
          else pure (some true)) R E s := by
  refine wpAny_bind (wpAny_storeSet_of ho hd ?_ (fits_of_scanBound hb))
  have ho1 := store_at (es' := es1) (t' := t2) ho hd
  have sb := Heap.SameBut.update s.heap a (Obj.putSet es1 t2)
  cases hc : (!wd && t2.tooFull) with
  | false => rw [if_neg (by simp)]; exact wpAny_pure (hR _ sb ⟨_, es1, _, t2, ho1, hex, rfl, g1, pk, nd, hb, hf, hr, hl⟩)
  | true =>
    rw [if_pos rfl]
    have pm := relayAll_perm t2 es1 (SetTable.grown es1.size)
    have hf3 := relayAll_fits t2 es1 (SetTable.grown es1.size)
    have hr3 := relayAll_ris t2 es1 (SetTable.grown es1.size)
    have hl3 := relayAll_led t2 es1 (SetTable.grown es1.size)
    generalize relayAll t2 es1 (SetTable.grown es1.size) = Z at pm hf3 hr3 hl3 ⊢
    obtain ⟨es2, t3, gave⟩ := Z
    dsimp only at pm hf3 hr3 hl3 ⊢
    have hb2 : es2.size < scanBound := by rw [← Array.length_toList, pm.length_eq, Array.length_toList]; exact hb
    refine wpAny_bind (hg _ _ _ (wpAny_bind (wpAny_storeSet_of ho1 rfl ?_ (fits_of_scanBound hb2))))
    exact wpAny_pure (hR _ (sb.trans (Heap.SameBut.update _ a _)) ⟨_, es2, _, t3, store_at (es' := es2) (t' := t3) ho1 rfl, hex, rfl, fun e he => g1 e (pm.mem_iff.mp he), (pm.map kyS).trans pk, nd, hb2, hf3, hr3, hl.imp id fun z => by rw [hl3]; exact z⟩)
theorem add {k : Str} {tk : Tok} {Q : Bool → Shared → Prop} (R : SetT P w s.heap a ks) (room : ks.length + 1 < scanBound)
    (hQ : ∀ b h', Heap.SameBut a s.heap h' → SetT P w h' a (if k ∈ ks then ks else ks ++ [k]) → Q b { s with heap := h' }) :
    wpAny (model P w) A (setAddHashed a (.str k tk) ((PySem.strKind P w).hash k)) Q E s := by
  obtain ⟨o, es, ep, t, ho, hex, hd, g, pk, nd, hb, hf, hr, hl⟩ := R
  have hkey : (PySem.strKind P w).is k (.str k tk) = true := strKind_is P w k tk
  have hsc : (Value.str k tk).scannable = true := rfl
  have hel := elems g
  unfold setAddHashed setAddHashedIn
  refine wpAny_holding (wpAny_bind (wpAny_setState_of ho hd hf ?_))
  dsimp only
  rw [byScan_of hsc hb hel]
  simp only [↓reduceIte]
  unfold setAddByScan
  refine wpAny_bind (wpAny_bind (wpAny_rule (wpAny_bind (wpAny_setScan_of hkey ho hd hf hel ?_))))
  cases hfi : List.findIdx? (fun e => (PySem.strKind P w).is k e.2) es.toList with
  | some j =>
    dsimp only
    obtain ⟨hj, pj, _⟩ := List.findIdx?_eq_some_iff_getElem.mp hfi
    have hk : k ∈ ks := pk.mem_iff.mp (List.mem_map.mpr ⟨_, List.getElem_mem hj, (is_ky (g _ (List.getElem_mem hj)) k).mp pj⟩)
    refine wpAny_pure (wpAny_pure (hQ _ s.heap (Heap.SameBut.refl a s.heap) ?_))
    rw [if_pos hk]
    exact ⟨o, es, ep, t, ho, hex, hd, g, pk, nd, hb, hf, hr, hl⟩
  | none =>
    dsimp only
    have hk : k ∉ ks := fun z => by
      obtain ⟨e, he, q⟩ := List.mem_map.mp (pk.mem_iff.mpr z)
      have c := List.findIdx?_eq_none_iff.mp hfi e he
      rw [(is_ky (g e he) k).mpr q] at c
      cases c
    have pm := layNew_perm t es ((PySem.strKind P w).hash k) (.str k tk)
    have hf1 := layNew_fits t es ((PySem.strKind P w).hash k) (.str k tk)
    have hr1 := layNew_ris t es ((PySem.strKind P w).hash k) (.str k tk) hr
    have hl1 := layNew_led t es ((PySem.strKind P w).hash k) (.str k tk)
    generalize layNew t es ((PySem.strKind P w).hash k) (.str k tk) = Z at pm hf1 hr1 hl1 ⊢
    obtain ⟨es1, t1, wd, gave⟩ := Z
    dsimp only at pm hf1 hr1 hl1 ⊢
    rw [Array.toList_push] at pm
    have g1 : ∀ e ∈ es1.toList, Gd P w e := fun e he => by
      rcases List.mem_append.mp (pm.mem_iff.mp he) with z | z
      · exact g e z
      · rw [List.mem_singleton.mp z]; exact ⟨k, tk, rfl, rfl⟩
    have pk1 : (es1.toList.map kyS).Perm (ks ++ [k]) := by
      have := pm.map kyS
      rw [List.map_append] at this
      exact this.trans (pk.append_right _)
    have nd1 : (ks ++ [k]).Nodup := List.nodup_append.mpr ⟨nd, by simp, fun x hx y hy => by rw [List.mem_singleton.mp hy]; exact fun z => hk (z ▸ hx)⟩
    have hb1 : es1.size < scanBound := by
      have := pk1.length_eq
      rw [List.length_map, Array.length_toList, List.length_append, List.length_singleton] at this
      omega
    have led : w.params.followText "set-order" = true ∨ t1.led = true := hl.imp id fun z => by rw [hl1]; exact z
    have fin : ∀ h', Heap.SameBut a s.heap h' → SetT P w h' a (ks ++ [k]) → Q true { s with heap := h' } := fun h' sb r => hQ true h' sb (by rw [if_neg hk]; exact r)
    have hgw : ∀ (b : Bool) {s₁ : Shared} {Q' : Unit → Shared → Prop}, Q' () s₁ → wpAny (model P w) A (match b with | true => rule "set.scan.the-table-gave-way" | false => pure ()) Q' E s₁ :=
      fun b s₁ Q' q => by cases b <;> first | exact wpAny_pure q | exact wpAny_rule q
    refine wpAny_bind (hgw _ ?_)
    split
    · refine wpAny_bind ?_
      rw [hashByValue_scannable 8 hsc]
      refine wpAny_pure (tail ?_ ho hex hd g1 pk1 nd1 hb1 ?_ ?_ ?_ fun h' sb r => ?_)
      · intro b s₁ Q' q; cases b <;> first | exact wpAny_pure q | exact wpAny_rule q
      · first | (split <;> first | exact hf1 | exact SetTable.fits_plain_off hf1) | exact hf1
      · first | (split <;> exact hr1) | exact hr1
      · first | (split <;> exact led) | exact led
      · dsimp only; exact wpAny_pure (fin h' sb r)
    · refine wpAny_bind (wpAny_pure ?_)
      simp only [↓reduceIte]
      refine tail ?_ ho hex hd g1 pk1 nd1 hb1 hf1 hr1 led fun h' sb r => ?_
      · intro b s₁ Q' q; cases b <;> first | exact wpAny_pure q | exact wpAny_rule q
      · dsimp only; exact wpAny_pure (fin h' sb r)

def grow (ks : List Str) (k : Str) : List Str := if k ∈ ks then ks else ks ++ [k]
theorem grow_mem (ks : List Str) (k j : Str) : j ∈ grow ks k ↔ j ∈ ks ∨ j = k := by
  unfold grow
  split
  · rename_i h
    exact ⟨.inl, fun z => z.elim id fun e => e ▸ h⟩
  · simp
theorem grow_len (ks : List Str) (k : Str) : (grow ks k).length ≤ ks.length + 1 := by
  unfold grow
  split <;> simp
theorem fold_mem : ∀ (xs ks : List Str) (j : Str), j ∈ xs.foldl grow ks ↔ j ∈ ks ∨ j ∈ xs
  | [], ks, j => by simp
  | x :: xs, ks, j => by
    rw [List.foldl_cons, fold_mem xs, grow_mem, List.mem_cons]
    exact or_assoc
theorem fold_len : ∀ (xs ks : List Str), (xs.foldl grow ks).length ≤ ks.length + xs.length
  | [], ks => by simp
  | x :: xs, ks => by
    rw [List.foldl_cons]
    have := fold_len xs (grow ks x)
    have := grow_len ks x
    rw [List.length_cons]
    omega
theorem update {I : Addr} {fp wr : List Addr} {G : Array GenState → Array GenState → Prop} {n : Nat} {Pv : Nat → Value → Prop} {St : Nat → Shared → Prop} {R : Result → Shared → Prop}
    (W : WalksS P w A.in1 I fp wr G n Pv St) (S : Addr) (hSf : S ∉ fp) (xs : List Str) (hn : n = xs.length) (hsz : xs.length + 1 < scanBound) (hval : ∀ i v, Pv i v → ∃ x t, xs[i]? = some x ∧ v = .str x t) :
    ∀ (k i : Nat) (s : Shared), n - i = k → i ≤ n → St i s → SetT P w s.heap S ((xs.take i).foldl grow []) →
      (∀ s', Moved (S :: wr) G s s' → SetT P w s'.heap S (xs.foldl grow []) → R (.ok (.ret .none)) s') →
      codeAny (model P w) A (.builtin "set.update.loop" ⟨[.ref S, .ref I], []⟩) R s := by
  have hSw : S ∉ wr := fun h => hSf (W.sub _ h)
  have hsub : ∀ b ∈ wr, b ∈ S :: wr := fun b hb => List.mem_cons_of_mem _ hb
  intro k
  induction k with
  | zero =>
    intro i s hk hi hst hS hR
    have hin : i = n := by omega
    subst hin
    refine codeAny_builtin PyProof.Rows.F.entry_set_update_loop ?_
    rw [Around.under_plainId PyProof.Rows.F.plain_set_update_loop _]
    show wpAny _ A.in1 (pyNext (.ref I) >>= _) _ _ s
    refine wpAny_bind (W.done s _ _ hst fun s' hm => ?_)
    show wpAny _ A.in1 (ret Value.none) _ _ s'
    rw [hn, List.take_length] at hS
    exact wpAny_pure (hR s' (hm.mono hsub) (hS.at fun o e => hm.heap S o hSw e))
  | succ k ih =>
    intro i s hk hi hst hS hR
    have hlt : i < n := by omega
    refine codeAny_builtin PyProof.Rows.F.entry_set_update_loop ?_
    rw [Around.under_plainId PyProof.Rows.F.plain_set_update_loop _]
    show wpAny _ A.in1 (pyNext (.ref I) >>= _) _ _ s
    refine wpAny_bind (W.item i s _ _ hlt hst fun v s' hP hst' hm => ?_)
    obtain ⟨x, t, hx, rfl⟩ := hval i v hP
    have hS' := hS.at fun o e => hm.heap S o hSw e
    show wpAny _ A.in1 (holding [Value.str x t] (setAdd S (.str x t)) >>= _) _ _ s'
    refine wpAny_bind (wpAny_holding ?_)
    unfold setAdd
    refine wpAny_holding ?_
    refine wpAny_bind ((PySem.strKind P w).pyHash (k := x) (strKind_is _ _ _ _) ?_)
    have hl : ((xs.take i).foldl grow []).length ≤ xs.length := by
      have := fold_len (xs.take i) []
      rw [List.length_take, List.length_nil] at this
      omega
    refine add (s := { s' with toks := s'.toks + 1 }) hS' (by omega) fun b h' hsb hS2 => ?_
    have e2 : (xs.take (i + 1)).foldl grow [] = grow ((xs.take i).foldl grow []) x := by
      rw [List.take_add_one, hx, List.foldl_append]
      rfl
    refine wpAny_pure ⟨plainId_quiet PyProof.Rows.F.plain_set_update_loop _, ih (i + 1) _ (by omega) hlt (W.frame _ s' _ _ hst' (Nat.le_succ _) fun b hb o e => ?_) (by rw [e2]; exact hS2) fun s'' hm'' hS'' => ?_⟩
    · rw [hsb.2 b (fun h : b = S => hSf (by rw [← h]; exact hb))]; exact e
    · refine hR s'' (Moved.trans W.gtrans ((hm.mono hsub).then_heap (Nat.le_succ _) fun b o hb e => ?_) hm'') hS''
      rw [hsb.2 b (fun h : b = S => hb (by rw [h]; exact List.mem_cons_self))]; exact e
theorem fresh {h : Heap} {a : Addr} (ho : h.get? a = some { cls := .type "set", dict := none, data := .set #[] 0 (.fresh 0 0 (!w.params.followText "set-order")) }) : SetT P w h a [] :=
  ⟨_, #[], 0, _, ho, ⟨rfl, rfl, rfl⟩, rfl, (fun e he => by simp at he), by simp, by simp, by decide, rfl, List.Pairwise.nil, by
    show _ ∨ (!w.params.followText "set-order") = true
    cases w.params.followText "set-order"
    · exact .inr rfl
    · exact .inl rfl⟩
set_option maxRecDepth 100000 in
set_option maxHeartbeats 3200000 in
theorem call_set {l : Addr} {items : Array Value} {xs : List Str} {Q : Value → Shared → Prop} (hh : A.handled = none) (hl : s.heap.IsList l items) (hsz : items.size = xs.length) (hval : ∀ (i : Nat) (v : Value), items[i]? = some v → ∃ x t, xs[i]? = some x ∧ v = .str x t) (hb : xs.length + 1 < scanBound)
    (h : ∀ (h' : Heap) (tk : Nat), SetT P w h' s.heap.objs.size (xs.foldl grow []) → (∀ b o, s.heap.get? b = some o → h'.get? b = some o) → Q (.ref s.heap.objs.size) { s with heap := h', toks := tk }) :
    wpAny (model P w) A (call (.type "set") [.ref l]) Q E s := by
  obtain ⟨c, tl, hmro⟩ := F.called_set.mro
  have hmade := F.called_set.made
  have hsub := F.called_set.sub
  refine wpAny_call (codeAny_of_tree ?_)
  show wpAny _ _ (callAny (.type "set") _) _ _ _
  refine wpAny_pure ⟨Code.quiet_builtin _ (by decide +kernel), codeAny_builtin F.entry_type_call ?_⟩
  rw [Around.under_plain (weight_type_call_type "set" [.ref l] []) rfl]
  have h1 := F.called_set.notType
  have h2 := F.called_set.canCreate
  have hct := F.typeCall_set_1 (.ref l)
  repeat (any_goals (first | assumption | wp_step))
  refine codeAny_mono (code_set_led1 (.ref l) (E := E) (Q₁ := fun obj s₁ => obj = .ref s.heap.objs.size ∧ s₁ = { s with heap := s.heap.push { cls := .type "set", dict := none, data := .set #[] 0 (.fresh 0 0 (!w.params.followText "set-order")) } }) ⟨rfl, rfl⟩) fun r s₁ hr => ?_
  cases r with
  | error e => exact hr
  | ok fl =>
    cases fl with
    | ret obj =>
      obtain ⟨rfl, rfl⟩ := hr
      have hS : (s.heap.push { cls := .type "set", dict := none, data := .set #[] 0 (.fresh 0 0 (!w.params.followText "set-order")) }).get? s.heap.objs.size = some { cls := .type "set", dict := none, data := .set #[] 0 (.fresh 0 0 (!w.params.followText "set-order")) } := Heap.get?_push_size _ rfl
      have hT : Shared.TypeIs { s with heap := s.heap.push { cls := .type "set", dict := none, data := .set #[] 0 (.fresh 0 0 (!w.params.followText "set-order")) } } (.ref s.heap.objs.size) "set" := ⟨_, hS, rfl⟩
      have hli := F.called_set.init.lookup
      have hbi := F.called_set.init.bind (.ref s.heap.objs.size)
      repeat (any_goals (first | assumption | wp_step))
      refine codeAny_mono (codeAny_call_builtin (R := wants (fun r s₂ => r = .none ∧ ∃ h' tk, s₂ = { s with heap := h', toks := tk } ∧ SetT P w h' s.heap.objs.size (xs.foldl grow []) ∧
          (∀ b o, s.heap.get? b = some o → h'.get? b = some o)) E) F.called_set.init.plain F.entry_set_init (check_set_init_1 hT ?_)) fun r₂ s₂ hr₂ => ?_
      · obtain ⟨ol, hol, hcl, nl, hdl⟩ := hl
        obtain ⟨ocls, odict, odata, oslots⟩ := ol
        simp only at hcl hdl
        subst hcl; subst hdl
        have hol' : (s.heap.push { cls := .type "set", dict := none, data := .set #[] 0 (.fresh 0 0 (!w.params.followText "set-order")) }).get? l = some { cls := .type "list", dict := odict, data := .seq items nl, slots := oslots } := Heap.get?_push_of_some _ hol
        have hsls := F.sub_list_set
        have hslf := F.sub_list_frozenset
        have hne : (Value.type "list" == Value.type "dict") = false := by decide
        have hl1 : (s.heap.push { cls := .type "set", dict := none, data := .set #[] 0 (.fresh 0 0 (!w.params.followText "set-order")) }).IsList l items := ⟨_, hol', rfl, nl, rfl⟩
        unfold Builtin.«set.__init__» noKeywords Builtin.Frozenset.updateFrom
        generalize hPI : pyIter = PI
        wp_walk
        subst hPI
        refine wpAny_pyIter_list hl1 ?_
        refine wpAny_bind (wpAny_runValue ?_)
        have hlS : l < s.heap.objs.size := Heap.lt_size hol
        have hh3 : A.in1.in1.in1.handled = none := by simp [hh]
        have hneI : l ≠ (s.heap.push { cls := .type "set", dict := none, data := .set #[] 0 (.fresh 0 0 (!w.params.followText "set-order")) }).objs.size := by
          rw [Heap.size_push]; exact Nat.ne_of_lt (Nat.lt_succ_of_lt hlS)
        have hSf : s.heap.objs.size ∉ [(s.heap.push { cls := .type "set", dict := none, data := .set #[] 0 (.fresh 0 0 (!w.params.followText "set-order")) }).objs.size, l] := by
          rw [Heap.size_push]; simp only [List.mem_cons, List.mem_singleton, List.not_mem_nil, or_false, not_or]
          exact ⟨Nat.ne_of_lt (Nat.lt_succ_self _), Nat.ne_of_gt hlS⟩
        refine update ((Walks.list hh3 _ l hneI items).toS) s.heap.objs.size hSf xs hsz hb hval (items.size - 0) 0 _ (by omega) (Nat.zero_le _)
          ⟨⟨_, Heap.get?_push_size _ rfl, rfl, rfl⟩, (hl1.push _)⟩ (fresh (Heap.get?_push_of_some _ hS)) fun s' hm hS' => ?_
        obtain ⟨h', g2, d', tk', os'⟩ := s'
        have eg : g2 = s.gens := hm.gens
        have ed : d' = s.drawn := hm.drawn
        have eo : os' = s.os := hm.os
        subst eg; subst ed; subst eo
        show wpAny _ _ _ _ _ _
        refine wpAny_pure ?_
        show wpAny _ _ (ret Value.none) _ _ _
        refine wpAny_pure ⟨rfl, h', tk', rfl, hS', fun b o e => ?_⟩
        have hbl := Heap.lt_size e
        refine hm.heap b o (fun z => ?_) (Heap.get?_push_of_some _ (Heap.get?_push_of_some _ e))
        rcases List.mem_cons.mp z with z | z
        · exact Nat.ne_of_lt hbl z
        · have z := List.mem_singleton.mp z
          exact absurd hbl (by rw [z, Heap.size_push]; exact Nat.not_lt.mpr (Nat.le_succ _))
      · cases r₂ with
        | error e => exact hr₂
        | ok fl₂ =>
          cases fl₂ with
          | ret r =>
            obtain ⟨rfl, h', tk, rfl, hS', hk'⟩ := hr₂
            repeat (any_goals (first | assumption | wp_step))
            exact h _ _ hS' hk'
          | _ => exact hr₂.elim
    | _ => exact hr.elim
end
end TxSet
namespace TxSet
open PySem PySem.Spec PyProof.Rows L2
def isTx (v : Value) (k : Str) : Prop := ∃ t, v = Value.str k t
theorem each_of : ∀ (vs : List Value), (∀ v ∈ vs, ∃ k t, v = Value.str k t) → ∃ ks, PySem.W.EachIs isTx vs ks ∧ ks = vs.map fun v => kyS (0, v)
  | [], _ => ⟨[], .nil, rfl⟩
  | v :: vs, h => by
    obtain ⟨k, t, e⟩ := h v List.mem_cons_self
    obtain ⟨ks, a, b⟩ := each_of vs fun u hu => h u (List.mem_cons_of_mem _ hu)
    exact ⟨k :: ks, .cons ⟨t, e⟩ a, by rw [List.map_cons, b, e]; rfl⟩
section
variable {P : Program} {w : World} {A : Around} {E : Value → Shared → Prop} {s : Shared} {a : Addr} {ks : List Str}
theorem sorted_txt {Q : Value → Shared → Prop} (R : SetT P w s.heap a ks) (hh : A.handled = none) (hu : A.units + 8 < cLine) (hsz : ks.length ≤ sizeLine)
    (hQ : ∀ s' p (out : List Value) (c : Nat) (ks' : List Str), (∀ b o, s.heap.get? b = some o → s'.heap.get? b = some o) → s'.gens = s.gens → s'.os = s.os → s.heap.objs.size ≤ p →
      s'.heap.get? p = some (seqObj "list" out.toArray c) → PySem.W.EachIs isTx out ks' → ks'.Perm ks → Q (.ref p) s') :
    wpAny (model P w) A (call (.builtin "sorted") [.ref a]) Q E s := by
  obtain ⟨o, es, ep, t, ho, hex, hd, g, pk, nd, hb, hf, hr, hl⟩ := R
  refine Calls.call_function_entry kind_sorted plain_sorted entry_sorted (args_sorted1 _) ?_
  unfold Builtin.«sorted»
  refine wpAny_bind (m := checkCount "sorted" 1 1 _) (wpAny_pure ?_)
  refine wpAny_bind (collect_set (A := A.in1) hh ⟨o, ho, hex.1, hd⟩ hf hb hr hl fun s1 vs k1 hz g1 o1 pm => ?_)
  have hv : ∀ v ∈ vs, ∃ k t, v = Value.str k t := fun v hv => by
    obtain ⟨e, he, q⟩ := List.mem_map.mp (pm.mem_iff.mp hv)
    obtain ⟨k, tk, h1, _⟩ := g e he
    exact ⟨k, tk, by rw [← q]; exact h1⟩
  obtain ⟨ks1, ea, eb⟩ := each_of vs hv
  have pv : ks1.Perm ks := by
    have q := pm.map fun v => kyS (0, v)
    rw [List.map_map] at q
    rw [eb]
    exact q.trans pk
  have hvl : vs.length = ks1.length := ea.length
  have hz2 : vs.length ≤ sizeLine := by rw [hvl, pv.length_eq]; exact hsz
  refine wpAny_bind (wpAny_newList ?_ hz2)
  have hoL : (s1.heap.push (seqObj "list" vs.toArray 0)).get? s1.heap.objs.size = some (seqObj "list" vs.toArray 0) := Heap.get?_push_size _ rfl
  refine wpAny_bind (wpAny_holding (PySem.W.list_sort_data (s := { s1 with heap := s1.heap.push (seqObj "list" vs.toArray 0) }) (R := isTx) (enc := fun k => PyData.str k) (bs := ks1) hoL ea (ea.mono fun v k ⟨t, e⟩ => ⟨[], by rw [e]; exact .str k t, by simp⟩) (PySem.W.AllAlike.of fun b b' => rfl) (PySem.W.Sortable.others fun b => ⟨(fun z => nomatch z), fun xs z => nomatch z⟩) (by rw [← hvl]; exact hz2) (fun b _ => ?_) fun out a1 a2 => ?_))
  · show A.units + 1 + 1 + 0 < cLine
    omega
  obtain ⟨c, hc⟩ := sortedHeap_at (vs := vs) (out := out.toArray) hoL
  refine wpAny_pure ⟨_, rfl, hQ _ s1.heap.objs.size out c _ (fun b u e => ?_) g1 o1 hz hc a2 ((List.mergeSort_perm _ _).trans pv)⟩
  have q := k1 b u e
  have hlt := Heap.lt_size q
  show (sortedHeap (s1.heap.push (seqObj "list" vs.toArray 0)) s1.heap.objs.size vs out.toArray).get? b = some u
  rw [sortedHeap_old (Nat.ne_of_lt hlt) (by rw [size_push']; exact Nat.lt_succ_of_lt hlt)]
  exact Heap.get?_push_of_some _ q
end
def SetTO (P : Program) (w : World) (a : Addr) (ks : List Str) : HO := .ext fun h => SetT P w h a ks
theorem setTO_new {P : Program} {w : World} {H : Hp} {h : Heap} {a : Addr} {ks : List Str} (R : SetT P w h a ks) : ObjOk P w H h a (SetTO P w a ks) := by
  have ⟨o, es, ep, t, ho, _⟩ := R
  exact ⟨R, ⟨o, ho⟩, fun h1 h2 p k => SetT.at p k⟩
theorem vals_str : ∀ {ks : List Str} {us : List Value}, Vals (ks.map V.str) us → ∀ (i : Nat) (v : Value), us[i]? = some v → ∃ x t, ks[i]? = some x ∧ v = .str x t
  | [], _, .nil, i, v, h => by simp at h
  | k :: ks, _, .cons r t, 0, v, h => by
    obtain ⟨tk, rfl⟩ := r
    cases h
    exact ⟨k, tk, rfl, rfl⟩
  | k :: ks, _, .cons r t, i + 1, v, h => by
    rw [List.getElem?_cons_succ] at h ⊢
    exact vals_str t i v h
theorem vals_tx : ∀ {us : List Value} {ks : List Str}, PySem.W.EachIs isTx us ks → Vals (ks.map V.str) us
  | _, _, .nil => .nil
  | _, _, .cons ⟨t, e⟩ h => .cons ⟨t, e⟩ (vals_tx h)
section
variable {X : Cx}
def rSetT (K : PySem.W.Frag) (P : Program) (w : World) : List V → Hp → VK → Prop := fun xs H Q => ∃ (l : Addr) (ks : List Str), xs = [V.ref l] ∧ SqL K H l (ks.map V.str) ∧ ks.length + 1 < scanBound ∧
  ∀ a, H a = none → Q (.ref a) (upd H a (SetTO P w a (ks.foldl grow [])))
theorem cr_setT (hc : X.calm = true) : CallR X (.type "set") (rSetT X.K X.prog X.w) := by
  intro pins s σ H xs us Q I r h
  obtain ⟨l, ks, rfl, hl, hb, q⟩ := h
  rw [Vals.ref1 r]
  obtain ⟨its, rv, pl, hz⟩ := I.list hl
  have hn : H s.heap.objs.size = none := I.hok.fresh (Nat.le_refl _)
  refine call_set (P := X.prog) (w := X.w) (xs := ks) (I.ok.hd hc) pl.isList ?_ (fun i v e => vals_str rv i v (by simpa using e)) hb fun h' tk R k => ?_
  · have := rv.length
    rw [List.length_map] at this
    simp [this]
  · exact ⟨.ref s.heap.objs.size, upd H s.heap.objs.size (SetTO X.prog X.w s.heap.objs.size _), I.laid (t' := tk) k (Nat.le_refl _) (setTO_new R), rfl, q _ hn⟩
def rSortT (P : Program) (w : World) : List V → Hp → VK → Prop := fun vs H Q => ∃ (a : Addr) (ks : List Str), vs = [V.ref a] ∧ H a = some (SetTO P w a ks) ∧ ks.length ≤ sizeLine ∧
  ∀ (ks' : List Str) (p : Addr), ks'.Perm ks → H p = none → Q (.ref p) (upd H p (.lst (ks'.map V.str)))
theorem cr_sortT (hc : X.calm = true) (hu : X.A.units + 8 < cLine) : CallR X (.builtin "sorted") (rSortT X.prog X.w) := by
  intro pins s σ H vs us Q I r h
  obtain ⟨a, ks, rfl, ha, hsz, q⟩ := h
  have R : SetT X.prog X.w s.heap a ks := (I.hok a _ ha).1
  rw [Vals.ref1 r]
  refine sorted_txt R (I.ok.hd hc) hu hsz fun s' p out c ks' k g o hp hg hout pm => ?_
  have hlen : (ks'.map V.str).length ≤ sizeLine := by rw [List.length_map, pm.length_eq]; exact hsz
  have hn : H p = none := I.hok.fresh hp
  have J : Inv X pins σ (upd H p (.lst (ks'.map V.str))) { s with heap := s'.heap, gens := s'.gens, drawn := s'.drawn, toks := s'.toks } :=
    I.call (ch := []) (Un.laid k hp hn) (I.hok.laid k hp ⟨hlen, out, c, vals_tx hout, hg⟩) (by rw [g]; exact I.bare) (fun _ z => nomatch z)
  have e : s' = { s with heap := s'.heap, gens := s'.gens, drawn := s'.drawn, toks := s'.toks } := by
    cases s'
    cases s
    cases o
    rfl
  rw [e]
  exact ⟨.ref p, _, J, rfl, q ks' p pm hn⟩
end
end TxSet
namespace Z
open PySem PySem.Spec PyProof.Rows L2 TxSet
def ssD (M : Sto) (ds : List D) (φ : PD) : Prop := match ds with
  | [d] => ∃ ws : List Str, lstOf M d = some (ws.map .str) ∧ ws.length ≤ 1000 ∧ ∀ l' : List Str, (∀ x, x ∈ l' ↔ x ∈ ws) → l'.Nodup → φ (.lst (l'.map .str)) M
  | _ => False
theorem fold_nodup : ∀ (xs ks : List Str), ks.Nodup → (xs.foldl grow ks).Nodup
  | [], ks, h => h
  | x :: xs, ks, h => by
    rw [List.foldl_cons]
    refine fold_nodup xs _ ?_
    unfold grow
    split
    · exact h
    · rename_i k
      exact List.nodup_append.mpr ⟨h, by simp, fun a ha b hb => by rw [List.mem_singleton.mp hb]; exact fun z => k (z ▸ ha)⟩
section
variable {X : Cx} {B : Bs} {pos p p2 pos2 : Pos} {e : Expr} {ga : DTA} {k : Nat}
theorem grow_h {H G : Hp} {a : Addr} {o : HO} (s : Sub G H) (ha : H a = none) : Grow H G (upd H a o) G :=
  ⟨fun b u h => by rw [upd_ne (ne_of_none h ha)]; exact h, Sub.rfl', fun b u h => by rw [upd_ne (ne_of_none (s _ _ h) ha)]; exact s _ _ h, fun _ h n => absurd n h⟩
theorem de_sortSet (hc : X.calm = true) (hr : Room k X.A) (hm : X.mg "sorted" = none) (hm2 : X.mg "set" = none) (ha : DA X B [e] ga) (hg : Gl X "sorted" := by rfl) (hg2 : Gl X "set" := by rfl)
    (he : starEach [e] X.env = (false, eval e X.env) :: starEach [] X.env := by rfl) (hpl : (backTo pos2 (starEach [] X.env)).any (·.1) = false := by rfl)
    (he2 : starEach [.Call (.Name "set" p2) [e] [] pos2] X.env = (false, eval (.Call (.Name "set" p2) [e] [] pos2) X.env) :: starEach [] X.env := by rfl) (hpl2 : (backTo pos (starEach [] X.env)).any (·.1) = false := by rfl) :
    DE X B (.Call (.Name "sorted" p) [.Call (.Name "set" p2) [e] [] pos2] [] pos) (fun r M Ψ => ga r M fun ds M1 => ssD M1 ds Ψ) := by
  have hu : X.A.units + 8 < cLine := by have := room65 hr; omega
  refine PE_imp (pe_callB (cr_sortT hc hu) hg hm (by rfl) (pa_cons (pe_callTy (cr_setT hc) hg2 hm2 (by rfl) ha (by decide) (by decide) he hpl) pa_nil he2) (by decide) (by decide) he2 hpl2) fun σ H Q ⟨r, M, G, Ψ, R, h, kk⟩ => ?_
  refine ⟨r, M, G, _, R, h, fun ds M1 vs H1 G1 q R1 s1 p1 => ?_⟩
  unfold ssD at q
  split at q
  · rename_i d
    obtain ⟨ws, e1, hl, q⟩ := q
    cases p1 with
    | cons p1 p2 =>
      cases p2
      obtain ⟨l, us, rfl, h1, r1⟩ := lst_rep' R1.wd p1 e1
      rw [strs_of r1] at h1
      refine ⟨l, ws, rfl, h1, ?_, fun a ha => ?_⟩
      · show ws.length + 1 < scanBound
        have : (1002 : Nat) < scanBound := by unfold scanBound; decide
        omega
      · refine ⟨a, _, rfl, upd_same, ?_, fun ks' p pm hp => ?_⟩
        · have := fold_len ws []
          rw [List.length_nil] at this
          exact Nat.le_trans (show _ ≤ 1000000 by omega) big_ok
        · have g1 := grow_h (o := SetTO X.prog X.w a (ws.foldl grow [])) R1.wd.sub ha
          have g2 := grow_upd (o := .lst (ks'.map V.str)) g1.sub hp
          refine kk _ _ _ _ _ (q ks' (fun x => ?_) (pm.nodup_iff.mpr (fold_nodup ws [] List.nodup_nil))) (R1.grow (g1.trans g2)) (s1.tr (g1.trans g2).gsub) (.lst (.inl upd_same) (rep_strs ks'))
          rw [pm.mem_iff, fold_mem]
          simp
  · exact q.elim
end
end Z
namespace Z
open PySem PySem.Spec PyProof.Rows L2
def la2 (w : List Nat) : List Nat := w.drop (w.length - 2)
theorem la2_suf (w : List Nat) : la2 w <:+ w := List.drop_suffix _ _
theorem la2_snoc (w : List Nat) (t : Nat) : la2 (w ++ [t]) = la2 (la2 w ++ [t]) := by
  unfold la2
  rw [List.length_append, List.length_append, List.length_drop, List.length_singleton]
  rw [show w.length + 1 - 2 = w.length - 1 from by omega]
  by_cases h : w.length ≤ 1
  · rw [show w.length - (w.length - 2) + 1 - 2 = w.length - 1 from by omega, show w.length - 2 = 0 from by omega, List.drop_zero]
  · rw [List.drop_append_of_le_length (by omega), List.drop_append_of_le_length (by rw [List.length_drop]; omega), List.drop_drop]
    congr 2
    omega
variable {bs : List (List Nat)}
def B3 (bs : List (List Nat)) : Prop := ∀ b ∈ bs, LR b ∧ b ≠ [] ∧ b.length ≤ 3
theorem B3.step (h : B3 bs) (w : List Nat) (t : Nat) : NoBar bs (w ++ [t]) ↔ NoBar bs w ∧ NoBar bs (la2 w ++ [t]) := by
  constructor
  · intro n
    refine ⟨fun b m z => n b m (z.trans (List.prefix_append w [t]).isInfix), fun b m z => n b m (z.trans ?_)⟩
    obtain ⟨p, e⟩ := la2_suf w
    exact ⟨p, [], by rw [List.append_nil, ← List.append_assoc, e]⟩
  · rintro ⟨n1, n2⟩ b m ⟨p, s, e⟩
    obtain ⟨_, b0, b3⟩ := h b m
    cases hs : s.reverse with
    | nil =>
      have : s = [] := List.reverse_eq_nil_iff.mp hs
      subst this
      rw [List.append_nil] at e
      obtain ⟨c, d, rfl⟩ : ∃ c d, b = c ++ [d] := ⟨b.dropLast, b.getLast b0, (List.dropLast_concat_getLast b0).symm⟩
      rw [← List.append_assoc] at e
      have e1 : p ++ c = w := (List.append_inj' e rfl).1
      have e2 : [d] = [t] := (List.append_inj' e rfl).2
      refine n2 _ m ?_
      rw [← e2]
      have cl : c.length ≤ 2 := by rw [List.length_append, List.length_singleton] at b3; omega
      have : c <:+ la2 w := by
        unfold la2
        rw [← e1]
        refine ⟨p.drop ((p ++ c).length - 2), ?_⟩
        rw [List.length_append, List.drop_append, show p.length + c.length - 2 - p.length = 0 from by omega, List.drop_zero]
      obtain ⟨q, eq⟩ := this
      exact ⟨q, [], by rw [← eq]; simp⟩
    | cons x r =>
      have : s = r.reverse ++ [x] := by rw [← List.reverse_reverse s, hs, List.reverse_cons]
      subst this
      rw [← List.append_assoc] at e
      have e1 := (List.append_inj' e rfl).1
      exact n1 b m ⟨p, r.reverse, e1⟩
theorem B3.same (h : B3 bs) {w w' : List Nat} (n : NoBar bs w) (n' : NoBar bs w') (e : la2 w = la2 w') : ∀ u, NoBar bs (w ++ u) ↔ NoBar bs (w' ++ u) := by
  have gen : ∀ u : List Nat, (la2 (w ++ u) = la2 (w' ++ u)) ∧ (NoBar bs (w ++ u) ↔ NoBar bs (w' ++ u)) := by
    intro u
    induction hn : u.length generalizing u with
    | zero => rw [List.eq_nil_of_length_eq_zero hn, List.append_nil, List.append_nil]; exact ⟨e, fun _ => n', fun _ => n⟩
    | succ k ih =>
      obtain ⟨c, d, rfl⟩ : ∃ c d, u = c ++ [d] := ⟨u.dropLast, u.getLast (by intro z; rw [z] at hn; cases hn), (List.dropLast_concat_getLast _).symm⟩
      rw [List.length_append, List.length_singleton] at hn
      obtain ⟨i1, i2⟩ := ih c (by omega)
      rw [← List.append_assoc, ← List.append_assoc]
      refine ⟨by rw [la2_snoc, i1, ← la2_snoc], ?_⟩
      exact (h.step _ _).trans ((and_congr i2 (by rw [i1])).trans (h.step _ _).symm)
  exact fun u => (gen u).2
theorem B3.ext (h : B3 bs) {w w' : List Nat} (n : NoBar bs w) (n' : NoBar bs w') (e : la2 w = la2 w') : Ext (NoBar bs) w ↔ Ext (NoBar bs) w' := by
  have k := h.same n n' e
  constructor
  · intro z m
    obtain ⟨v, a, b, c⟩ := z m
    exact ⟨v, a, b, (k v).mp c⟩
  · intro z m
    obtain ⟨v, a, b, c⟩ := z m
    exact ⟨v, a, b, (k v).mpr c⟩
theorem B3.ten (h : B3 bs) (w : List Nat) : (∃ v, LR v ∧ v.length = 10 ∧ NoBar bs (w ++ v)) ↔ Ext (NoBar bs) w := by
  constructor
  · rintro ⟨v0, a0, b0, c0⟩
    have pre : ∀ {u v : List Nat}, NoBar bs (u ++ v) → NoBar bs u := fun n b m z => n b m (z.trans (List.prefix_append _ _).isInfix)
    -- longer and longer
    have more : ∀ N, ∃ v, LR v ∧ N + 10 ≤ v.length ∧ NoBar bs (w ++ v) := by
      intro N
      induction N with
      | zero => exact ⟨v0, a0, by omega, c0⟩
      | succ N ih =>
        obtain ⟨v, a, b, c⟩ := ih
        have len : ∀ i, i ≤ v.length → (w ++ v.take i).length = w.length + i := fun i hi => by rw [List.length_append, List.length_take, Nat.min_eq_left hi]
        -- two places of the first ten with the same last two turns
        have two : ∃ i j, i < j ∧ j ≤ 10 ∧ la2 (w ++ v.take i) = la2 (w ++ v.take j) := by
          have fin : ∀ k, 2 ≤ k → k ≤ 10 → la2 (w ++ v.take k) ∈ [[76, 76], [76, 82], [82, 76], [82, 82]] := by
            intro k h2 h10
            have e : la2 (w ++ v.take k) = (v.take k).drop (k - 2) := by
              unfold la2
              rw [len k (by omega), List.drop_append, List.drop_eq_nil_of_le (by omega), List.nil_append]
              congr 1
              omega
            have l2 : ((v.take k).drop (k - 2)).length = 2 := by rw [List.length_drop, List.length_take]; omega
            have lr : LR ((v.take k).drop (k - 2)) := fun c hc => a c (List.mem_of_mem_take (List.mem_of_mem_drop hc))
            rw [e]
            match (v.take k).drop (k - 2), l2, lr with
            | [p, q], _, lr =>
              have h1 := lr p (by simp)
              have h2 := lr q (by simp)
              rcases h1 with rfl | rfl <;> rcases h2 with rfl | rfl <;> simp
          apply Classical.byContradiction
          intro z
          have nd : ((List.range 5).map fun k => la2 (w ++ v.take (k + 2))).Nodup := by
            rw [List.nodup_iff_pairwise_ne, List.pairwise_map]
            refine List.Pairwise.imp_of_mem (fun {p q} hp hq hlt e => ?_) (List.pairwise_lt_range (n := 5))
            rw [List.mem_range] at hp hq
            exact z ⟨p + 2, q + 2, by omega, by omega, e⟩
          have sub : ∀ x ∈ ((List.range 5).map fun k => la2 (w ++ v.take (k + 2))), x ∈ [[76, 76], [76, 82], [82, 76], [82, 82]] := fun x hx => by
            obtain ⟨k, hk, rfl⟩ := List.mem_map.mp hx
            rw [List.mem_range] at hk
            exact fin (k + 2) (by omega) (by omega)
          have := ndp_len _ _ nd sub
          simp at this
        obtain ⟨i, j, hij, hj, e⟩ := two
        have ni : NoBar bs (w ++ v.take i) := by
          refine pre (v := v.drop i) ?_
          rw [List.append_assoc, List.take_append_drop]
          exact c
        have nj : NoBar bs (w ++ v.take j) := by
          refine pre (v := v.drop j) ?_
          rw [List.append_assoc, List.take_append_drop]
          exact c
        refine ⟨v.take j ++ v.drop i, fun x hx => (List.mem_append.mp hx).elim (fun z => a x (List.mem_of_mem_take z)) fun z => a x (List.mem_of_mem_drop z), ?_, ?_⟩
        · rw [List.length_append, List.length_take, List.length_drop]; omega
        · rw [← List.append_assoc]
          refine (h.same ni nj e (v.drop i)).mp ?_
          rw [List.append_assoc, List.take_append_drop]
          exact c
    intro n
    obtain ⟨v, a, b, c⟩ := more n
    refine ⟨v.take n, fun x hx => a x (List.mem_of_mem_take hx), by rw [List.length_take]; omega, pre (v := v.drop n) ?_⟩
    rw [List.append_assoc, List.take_append_drop]
    exact c
  · intro z
    exact z 10
def Ends (bs : List (List Nat)) (w : List Nat) (i : Nat) (l : List (List Nat)) : Prop := ∀ e, e ∈ l ↔ ∃ v, LR v ∧ v.length = i ∧ NoBar bs (w ++ v) ∧ e = la2 (w ++ v)
theorem Ends.start (n : NoBar bs w) : Ends bs w 0 [la2 w] := fun e => by
  rw [List.mem_singleton]
  constructor
  · rintro rfl
    exact ⟨[], (fun _ z => nomatch z), rfl, by rw [List.append_nil]; exact n, by rw [List.append_nil]⟩
  · rintro ⟨v, _, hv, _, rfl⟩
    rw [List.eq_nil_of_length_eq_zero hv, List.append_nil]
theorem Ends.next (h : B3 bs) {w : List Nat} {i : Nat} {l l' : List (List Nat)} (k : Ends bs w i l) (hl : ∀ e, e ∈ l' ↔ ∃ u, (∃ c ∈ l, u = c ++ [76] ∨ u = c ++ [82]) ∧ NoBar bs u ∧ e = la2 u) : Ends bs w (i + 1) l' := fun e => by
  rw [hl]
  constructor
  · rintro ⟨u, ⟨c, hc, hu⟩, nu, rfl⟩
    obtain ⟨v, a, b, n, rfl⟩ := (k c).mp hc
    have gen : ∀ t, (t = 76 ∨ t = 82) → NoBar bs (la2 (w ++ v) ++ [t]) → ∃ v', LR v' ∧ v'.length = i + 1 ∧ NoBar bs (w ++ v') ∧ la2 (la2 (w ++ v) ++ [t]) = la2 (w ++ v') := fun t ht nt =>
      ⟨v ++ [t], lr_snoc a ht, by rw [List.length_append, b]; rfl, by rw [← List.append_assoc]; exact (h.step _ t).mpr ⟨n, nt⟩, by rw [← List.append_assoc]; exact (la2_snoc _ t).symm⟩
    rcases hu with rfl | rfl
    · exact gen 76 (.inl rfl) nu
    · exact gen 82 (.inr rfl) nu
  · rintro ⟨v, a, b, n, rfl⟩
    obtain ⟨c, t, rfl⟩ : ∃ c t, v = c ++ [t] := ⟨v.dropLast, v.getLast (by intro z; rw [z] at b; cases b), (List.dropLast_concat_getLast _).symm⟩
    rw [← List.append_assoc] at n ⊢
    obtain ⟨n1, n2⟩ := (h.step _ t).mp n
    rw [List.length_append, List.length_singleton] at b
    have ht := a t (by simp)
    refine ⟨la2 (w ++ c) ++ [t], ⟨la2 (w ++ c), (k _).mpr ⟨c, fun x hx => a x (List.mem_append_left _ hx), by omega, n1, rfl⟩, ?_⟩, n2, la2_snoc _ t⟩
    rcases ht with rfl | rfl
    · exact .inl rfl
    · exact .inr rfl
theorem Ends.fin (h : B3 bs) {w : List Nat} {l : List (List Nat)} (k : Ends bs w 10 l) : l ≠ [] ↔ Ext (NoBar bs) w := by
  rw [← h.ten]
  constructor
  · intro z
    obtain ⟨e, he⟩ := List.exists_mem_of_ne_nil l z
    obtain ⟨v, a, b, c, _⟩ := (k e).mp he
    exact ⟨v, a, b, c⟩
  · rintro ⟨v, a, b, c⟩ z
    rw [z] at k
    exact absurd ((k _).mpr ⟨v, a, b, c, rfl⟩) (by simp)
theorem Ends.lr {w : List Nat} (lw : LR w) {i : Nat} {l : List (List Nat)} (k : Ends bs w i l) : ∀ e ∈ l, LR e ∧ e.length ≤ 2 := fun e he => by
  obtain ⟨v, a, _, _, rfl⟩ := (k e).mp he
  refine ⟨fun c hc => ?_, by unfold la2; rw [List.length_drop]; omega⟩
  exact (List.mem_append.mp ((la2_suf _).subset hc)).elim (lw c) (a c)
theorem ends_few {l : List (List Nat)} (nd : l.Nodup) (h : ∀ e ∈ l, LR e ∧ e.length ≤ 2) : l.length ≤ 7 := by
  refine ndp_len l [[], [76], [82], [76, 76], [76, 82], [82, 76], [82, 82]] nd fun e he => ?_
  obtain ⟨lr, hl⟩ := h e he
  match e, lr, hl with
  | [], _, _ => simp
  | [p], lr, _ => rcases lr p (by simp) with rfl | rfl <;> simp
  | [p, q], lr, _ => rcases lr p (by simp) with rfl | rfl <;> rcases lr q (by simp) with rfl | rfl <;> simp
  | p :: q :: r :: t, _, hl => simp at hl
end Z
namespace Z
open PySem PySem.Spec PyProof.Rows L2
theorem sl_la2 {M : Sto} {w : List Nat} {φ : D → Prop} (h : w.length ≤ 400000) (q : φ (wdD (la2 w))) : slD M (wdD w) (some (-2)) none φ := by
  refine ⟨w_sz h, ?_⟩
  have e : L2.cutS ⟨w.toArray⟩ (some (-2)) none = ⟨(la2 w).toArray⟩ := by
    unfold L2.cutS la2
    rw [HT.sIx_none, wlen]
    have : HT.sIx w.length 0 (some (-2)) = w.length - 2 := by
      show (if (-2 : Int) < 0 then ((-2 : Int) + (w.length : Int)).toNat else min (-2 : Int).toNat w.length) = _
      rw [if_pos (by decide)]
      omega
    rw [this]
    congr 2
    exact List.take_of_length_le (by simp)
  show φ (.str (L2.cutS _ _ _))
  rw [e]
  exact q
def kpW (bars : List (List Nat)) (u : List Nat) : Bool := !((bars.map fun b => !(Builtin.Str.occurrences ⟨u.toArray⟩ ⟨b.toArray⟩ 0 (⟨u.toArray⟩ : Str).length 1).isEmpty).any id)
theorem kpW_ok {bars : List (List Nat)} {u : List Nat} : kpW bars u = true ↔ NoBar bars u := by
  unfold kpW
  rw [Bool.not_eq_true', List.any_map, ← Bool.not_eq_true, List.any_eq_true]
  constructor
  · intro h b mb z
    exact h ⟨b, mb, (in_tx _ b).mpr z⟩
  · rintro h ⟨b, mb, z⟩
    exact h b mb ((in_tx _ b).mp z)
def unW : D → List Nat
  | .str s => s.cps.toList
  | _ => []
theorem unW_wd (w : List Nat) : unW (wdD w) = w := rfl
def mvs (l : List (List Nat)) : List (List Nat) := l.map (· ++ [76]) ++ l.map (· ++ [82])
theorem mvs_mem {l : List (List Nat)} {u : List Nat} : u ∈ mvs l ↔ ∃ c ∈ l, u = c ++ [76] ∨ u = c ++ [82] := by
  unfold mvs
  rw [List.mem_append, List.mem_map, List.mem_map]
  constructor
  · rintro (⟨c, hc, e⟩ | ⟨c, hc, e⟩)
    · exact ⟨c, hc, .inl e.symm⟩
    · exact ⟨c, hc, .inr e.symm⟩
  · rintro ⟨c, hc, e | e⟩
    · exact .inl ⟨c, hc, e.symm⟩
    · exact .inr ⟨c, hc, e.symm⟩
theorem ends_fm (bars l : List (List Nat)) : (((mvs l).map wdD).filter fun d => kpW bars (unW d)).map (fun d => wdD (la2 (unW d))) = ((((mvs l).filter (kpW bars)).map la2).map fun w => (⟨w.toArray⟩ : Str)).map D.str := by
  rw [List.filter_map, List.map_map, List.map_map, List.map_map]
  rfl
theorem ends_set {bars : List (List Nat)} {tok : List Nat} {i : Nat} {l : List (List Nat)} (h : B3 bars) (k : Ends bars tok i l) {l' : List Str} (hm : ∀ x, x ∈ l' ↔ x ∈ (((mvs l).filter (kpW bars)).map la2).map fun w => (⟨w.toArray⟩ : Str)) (nd : l'.Nodup) :
    ∃ L : List (List Nat), l'.map D.str = L.map wdD ∧ L.Nodup ∧ Ends bars tok (i + 1) L := by
  refine ⟨l'.map fun x => x.cps.toList, ?_, ?_, ?_⟩
  · rw [List.map_map]
    rfl
  · refine List.pairwise_map.mpr (nd.imp fun {a b} ne e => ne ?_)
    cases a; cases b
    simp only [Str.mk.injEq] at *
    exact Array.toList_inj.mp e
  · refine k.next h fun e => ?_
    rw [List.mem_map]
    constructor
    · rintro ⟨x, hx, rfl⟩
      obtain ⟨v, hv, rfl⟩ := List.mem_map.mp ((hm x).mp hx)
      obtain ⟨u, hu, rfl⟩ := List.mem_map.mp hv
      obtain ⟨h1, h2⟩ := List.mem_filter.mp hu
      exact ⟨u, mvs_mem.mp h1, kpW_ok.mp h2, rfl⟩
    · rintro ⟨u, hu, nu, rfl⟩
      exact ⟨⟨(la2 u).toArray⟩, (hm _).mpr (List.mem_map.mpr ⟨la2 u, List.mem_map.mpr ⟨u, List.mem_filter.mpr ⟨mvs_mem.mpr hu, kpW_ok.mpr nu⟩, rfl⟩, rfl⟩), rfl⟩
end Z
namespace Z
open PySem PySem.Spec PyProof.Rows L2
theorem sq_shift {x y : List Nat} {i : Nat} (h : x.length ≤ i) : sq x y (i + y.length) = sq x y i := by
  unfold sq
  rw [if_neg (by omega), if_neg (by omega)]
  unfold cyc
  rw [show i + y.length - x.length = i - x.length + y.length from by omega, Nat.add_mod_right]
theorem beg_snoc (x y : List Nat) (n : Nat) : beg x y (n + 1) = beg x y n ++ [sq x y n] := by
  unfold beg
  rw [List.range_succ, List.map_append]
  rfl
theorem la2_beg {x y : List Nat} {n : Nat} : la2 (beg x y (n + 2)) = [sq x y n, sq x y (n + 1)] := by
  rw [beg_snoc, beg_snoc]
  unfold la2
  have : (beg x y n).length = n := by unfold beg; simp
  rw [List.append_assoc]
  rw [List.length_append, this]
  show (beg x y n ++ [sq x y n, sq x y (n + 1)]).drop (n + 2 - 2) = _
  rw [show n + 2 - 2 = (beg x y n).length from by omega, List.drop_left]
theorem B3.far {bs : List (List Nat)} (h : B3 bs) {x y : List Nat} (hs : x.length + y.length ≤ 20) (k : ∀ n, n < 24 → Ext (NoBar bs) (beg x y n)) : ∀ n, Ext (NoBar bs) (beg x y n) := by
  intro n
  induction n using Nat.strongRecOn with
  | ind n ih =>
    by_cases c : n < 24
    · exact k n c
    · by_cases y0 : y.length = 0
      · have e : y = [] := List.eq_nil_of_length_eq_zero y0
        obtain ⟨m, rfl⟩ : ∃ m, n = m + 3 := ⟨n - 3, by omega⟩
        have z : ∀ i, x.length ≤ i → sq x y i = 0 := fun i hi => by
          unfold sq
          rw [if_neg (by omega), e]
          simp [cyc]
        have p1 := ih (m + 2) (by omega)
        have n1 : NoBar bs (beg x y (m + 3)) := by
          rw [show m + 3 = m + 2 + 1 from rfl, beg_snoc]
          refine (h.step _ _).mpr ⟨p1.here, ?_⟩
          have q := (h.step _ _).mp (by rw [← beg_snoc]; exact p1.here : NoBar bs (beg x y (m + 1) ++ [sq x y (m + 1)]))
          obtain ⟨m', rfl⟩ : ∃ m', m = m' + 1 := ⟨m - 1, by omega⟩
          rw [la2_beg] at q ⊢
          rw [z _ (by omega), z _ (by omega), z _ (by omega)] at q ⊢
          exact q.2
        refine (h.ext n1 p1.here ?_).mpr p1
        obtain ⟨m', rfl⟩ : ∃ m', m = m' + 1 := ⟨m - 1, by omega⟩
        rw [show m' + 1 + 3 = m' + 2 + 2 from rfl, la2_beg, show m' + 1 + 2 = m' + 1 + 2 from rfl, la2_beg, z _ (by omega), z _ (by omega), z _ (by omega)]
      obtain ⟨m, rfl⟩ : ∃ m, n = m + 3 + y.length := ⟨n - y.length - 3, by omega⟩
      have hx : x.length ≤ m := by omega
      have pm := ih (m + 3) (by omega)
      have p1 := ih (m + 2 + y.length) (by omega)
      have e1 : sq x y (m + y.length) = sq x y m := sq_shift hx
      have e2 : sq x y (m + 1 + y.length) = sq x y (m + 1) := sq_shift (by omega)
      have e3 : sq x y (m + 2 + y.length) = sq x y (m + 2) := sq_shift (by omega)
      have n1 : NoBar bs (beg x y (m + 3 + y.length)) := by
        rw [show m + 3 + y.length = m + 2 + y.length + 1 from by omega, beg_snoc]
        refine (h.step _ _).mpr ⟨p1.here, ?_⟩
        have q := (h.step _ _).mp (by rw [← beg_snoc]; exact pm.here : NoBar bs (beg x y (m + 2) ++ [sq x y (m + 2)]))
        rw [show m + 2 + y.length = m + y.length + 2 from by omega, la2_beg]
        rw [la2_beg] at q
        rw [show m + y.length + 2 = m + 2 + y.length from by omega, show m + y.length + 1 = m + 1 + y.length from by omega, e1, e2, e3]
        exact q.2
      refine (h.ext n1 pm.here ?_).mpr pm
      rw [show m + 3 + y.length = m + 1 + y.length + 2 from by omega, la2_beg, show m + 3 = m + 1 + 2 from rfl, la2_beg, show m + 1 + y.length + 1 = m + 2 + y.length from by omega, e2, e3]
section
variable {S : Hst} {P : List Nat → Prop}
theorem hm_empty (h : Hm S P) : S = [] ↔ ¬ P [] := by
  have := h.lang [] (fun _ z => nomatch z)
  rw [← this]
  constructor
  · rintro e ⟨n, _⟩; exact n e
  · intro z
    exact Classical.byContradiction fun n => z ⟨n, fun q => nomatch q⟩
end
noncomputable def exB (bs : List (List Nat)) (w : List Nat) : Bool := @decide (Ext (NoBar bs) w) (Classical.propDecidable _)
theorem exB_ok {bs : List (List Nat)} {w : List Nat} : exB bs w = true ↔ Ext (NoBar bs) w := by unfold exB; exact @decide_eq_true_iff _ (Classical.propDecidable _)
theorem exB_is {bs : List (List Nat)} {w : List Nat} {b : Bool} (h : b = true ↔ Ext (NoBar bs) w) : b = exB bs w := Bool.eq_iff_iff.mpr (h.trans exB_ok.symm)
theorem rng_int (n : Nat) : rngD 0 n = (List.range n).map fun i => D.int (i : Nat) := by
  unfold rngD
  refine List.map_congr_left fun i _ => ?_
  rw [Int.zero_add]
end Z
namespace Z
open PySem PySem.Spec PyProof.Rows L2
def allW : Nat → List (List Nat)
  | 0 => [[]]
  | n + 1 => (allW n).flatMap fun w => [w ++ [76], w ++ [82]]
theorem allW_len : ∀ n, (allW n).length = 2 ^ n
  | 0 => rfl
  | n + 1 => by
    have : ∀ l : List (List Nat), (l.flatMap fun w => [w ++ [76], w ++ [82]]).length = 2 * l.length := by
      intro l
      induction l with
      | nil => rfl
      | cons a l ih => rw [List.flatMap_cons, List.length_append, ih, List.length_cons]; simp; omega
    unfold allW
    rw [this, allW_len n]
    omega
theorem allW_mem : ∀ {n : Nat} {w : List Nat}, w ∈ allW n ↔ LR w ∧ w.length = n
  | 0, w => by
    unfold allW
    rw [List.mem_singleton]
    constructor
    · rintro rfl; exact ⟨(fun _ z => nomatch z), rfl⟩
    · exact fun h => List.eq_nil_of_length_eq_zero h.2
  | n + 1, w => by
    unfold allW
    rw [List.mem_flatMap]
    constructor
    · rintro ⟨c, hc, hw⟩
      obtain ⟨a, b⟩ := allW_mem.mp hc
      simp only [List.mem_cons, List.not_mem_nil, or_false] at hw
      rcases hw with rfl | rfl
      · exact ⟨lr_snoc a (.inl rfl), by rw [List.length_append, b]; rfl⟩
      · exact ⟨lr_snoc a (.inr rfl), by rw [List.length_append, b]; rfl⟩
    · rintro ⟨a, b⟩
      obtain ⟨c, t, rfl⟩ : ∃ c t, w = c ++ [t] := ⟨w.dropLast, w.getLast (by intro z; rw [z] at b; cases b), (List.dropLast_concat_getLast _).symm⟩
      rw [List.length_append, List.length_singleton] at b
      refine ⟨c, allW_mem.mpr ⟨fun x hx => a x (List.mem_append_left _ hx), by omega⟩, ?_⟩
      have := a t (by simp)
      rcases this with rfl | rfl <;> simp
def allU (n : Nat) : List (List Nat) := (List.range n).flatMap allW
theorem allU_suc (n : Nat) : allU (n + 1) = allU n ++ allW n := by
  unfold allU
  rw [List.range_succ, List.flatMap_append]
  simp
theorem allU_mem {n : Nat} {w : List Nat} : w ∈ allU n ↔ LR w ∧ w.length < n := by
  unfold allU
  rw [List.mem_flatMap]
  constructor
  · rintro ⟨k, hk, h⟩
    obtain ⟨a, b⟩ := allW_mem.mp h
    exact ⟨a, by have := List.mem_range.mp hk; omega⟩
  · rintro ⟨a, b⟩
    exact ⟨w.length, List.mem_range.mpr b, allW_mem.mpr ⟨a, rfl⟩⟩
noncomputable def sgW (bs : List (List Nat)) (w : List Nat) : List Bool := (allU 7).map fun v => exB bs (w ++ v)
noncomputable def nxW (bs : List (List Nat)) (w : List Nat) (t : Nat) : Option (List Nat) := if exB bs (w ++ [t]) = true then some (w ++ [t]) else none
section
variable {bs : List (List Nat)}
theorem ex_down {w u : List Nat} (lu : LR u) (h : exB bs (w ++ u) = true) : exB bs w = true := exB_ok.mpr ((nobar_pc bs).ext w u lu (exB_ok.mp h))
theorem la2_two {w v : List Nat} (h : v.length = 2) : la2 (w ++ v) = v := by
  unfold la2
  rw [List.length_append, h, show w.length + 2 - 2 = w.length from by omega, List.drop_left]
theorem sg_sem (h : B3 bs) {w w' : List Nat} (e : sgW bs w = sgW bs w') (v : List Nat) (lv : LR v) : exB bs (w ++ v) = exB bs (w' ++ v) := by
  have short : ∀ v, LR v → v.length < 7 → exB bs (w ++ v) = exB bs (w' ++ v) := fun v lv hv => by
    unfold sgW at e
    exact List.map_inj_left.mp e v (allU_mem.mpr ⟨lv, hv⟩)
  by_cases hv : v.length < 7
  · exact short v lv hv
  · have e2 : v = v.take 2 ++ v.drop 2 := (List.take_append_drop 2 v).symm
    have l1 : LR (v.take 2) := fun c hc => lv c (List.mem_of_mem_take hc)
    have l2 : LR (v.drop 2) := fun c hc => lv c (List.mem_of_mem_drop hc)
    have n2 : (v.take 2).length = 2 := by rw [List.length_take]; omega
    have s2 := short _ l1 (by omega)
    generalize v.take 2 = a at e2 l1 n2 s2
    generalize v.drop 2 = b at e2 l2
    subst e2
    cases q : exB bs (w ++ a) with
    | false =>
      have f1 : exB bs (w ++ (a ++ b)) = false := Bool.eq_false_iff.mpr fun z => by
        rw [← List.append_assoc] at z
        have := ex_down l2 z
        rw [q] at this
        cases this
      have f2 : exB bs (w' ++ (a ++ b)) = false := Bool.eq_false_iff.mpr fun z => by
        rw [← List.append_assoc] at z
        have := ex_down l2 z
        rw [← s2, q] at this
        cases this
      rw [f1, f2]
    | true =>
      have x1 := (exB_ok.mp q).here
      rw [s2] at q
      have x2 := (exB_ok.mp q).here
      have k := h.same x1 x2 (by rw [la2_two n2, la2_two n2])
      rw [← List.append_assoc, ← List.append_assoc, Bool.eq_iff_iff, exB_ok, exB_ok]
      exact ext_congr2 (L := NoBar bs) (w := w ++ a ++ b) (w' := w' ++ a ++ b) fun u lu => by
        rw [List.append_assoc (w ++ a), List.append_assoc (w' ++ a)]
        exact k (b ++ u)
theorem sg_of {w w' : List Nat} (e : ∀ v, LR v → exB bs (w ++ v) = exB bs (w' ++ v)) : sgW bs w = sgW bs w' := by
  unfold sgW
  exact List.map_congr_left fun v hv => e v (allU_mem.mp hv).1
theorem nx_cong (h : B3 bs) : ∀ w w', sgW bs w = sgW bs w' → ∀ t, (t = 76 ∨ t = 82) → (nxW bs w t).map (sgW bs) = (nxW bs w' t).map (sgW bs) := fun w w' e t ht => by
  have lt : LR [t] := fun c hc => by rw [List.mem_singleton.mp hc]; exact ht
  have s := sg_sem h e [t] lt
  unfold nxW
  rw [s]
  split
  · refine congrArg some (sg_of fun v lv => ?_)
    rw [List.append_assoc, List.append_assoc]
    exact sg_sem h e _ (lr_app lt lv)
  · rfl
theorem nx_run : ∀ (v w : List Nat), LR v → exB bs w = true → runO (nxW bs) (some w) v = if exB bs (w ++ v) = true then some (w ++ v) else none
  | [], w, _, h => by rw [List.append_nil, if_pos h]; rfl
  | t :: v, w, lv, h => by
    have lv' : LR v := fun c hc => lv c (List.mem_cons_of_mem _ hc)
    show runO (nxW bs) (nxW bs w t) v = _
    unfold nxW
    cases q : exB bs (w ++ [t]) with
    | true =>
      rw [if_pos rfl]
      show runO (nxW bs) (some (w ++ [t])) v = _
      rw [nx_run v _ lv' q, List.append_assoc]
      rfl
    | false =>
      rw [if_neg (by simp), runO_none, if_neg]
      intro z
      rw [show w ++ t :: v = w ++ [t] ++ v from by simp] at z
      have := ex_down lv' z
      rw [q] at this
      cases this
theorem sign_hm (h : B3 bs) (e0 : exB bs [] = true) {line : List (List Nat)} {S : Hst} (F : Bfs (nxW bs) (sgW bs) [] line S) (hl : S.length = line.length) : Hm S (Ext (NoBar bs)) := by
  have hc := nx_cong h
  have lne : S ≠ [] := fun e => by
    have := (List.getElem?_eq_some_iff.mp F.s0).1
    rw [e] at hl
    simp at hl
    omega
  have mem : ∀ i x, line[i]? = some x → exB bs x = true := fun i x e => by
    obtain ⟨w, lw, q⟩ := F.rc i x e
    rw [nx_run w [] lw e0] at q
    split at q
    · rename_i z
      cases q
      exact z
    · cases q
  have res : ∀ (i : Nat) (x : List Nat), line[i]? = some x → ∀ w, LR w → (hgo S (some i) w ≠ none ↔ exB bs (x ++ w) = true) := fun i x e w lw => by
    have g := F.go hl hc w lw i x x e rfl
    rw [nx_run w x lw (mem i x e)] at g
    cases q : exB bs (x ++ w) with
    | true =>
      rw [q, if_pos rfl] at g
      obtain ⟨j, z, _, _, k⟩ := g
      rw [k]
      exact ⟨fun _ => rfl, fun _ z => nomatch z⟩
    | false =>
      rw [q, if_neg (by simp)] at g
      have g : hgo S (some i) w = none := g
      rw [g]
      exact ⟨fun z => absurd rfl z, fun z => nomatch z⟩
  refine ⟨fun w lw => ?_, F.rng hl, fun i hi => ?_, fun i j hi hj q => ?_, by rw [hl]; exact F.bn⟩
  · rw [← exB_ok, ← show exB bs ([] ++ w) = true ↔ exB bs w = true from Iff.rfl, ← res 0 [] F.s0 w lw]
    exact ⟨fun z => z.2, fun z => ⟨lne, z⟩⟩
  · have hx : line[i]? = some line[i] := List.getElem?_eq_getElem (by omega)
    obtain ⟨w, lw, e⟩ := F.rc i _ hx
    have g := F.go hl hc w lw 0 [] [] F.s0 rfl
    rw [e] at g
    obtain ⟨j, z, a1, a2, a3⟩ := g
    refine ⟨w, lw, ?_⟩
    rw [a3]
    have hj := (List.getElem?_eq_some_iff.mp a1).1
    have : (line.map (sgW bs))[j]? = (line.map (sgW bs))[i]? := by
      rw [List.getElem?_map, List.getElem?_map, a1, hx]
      exact congrArg some a2
    rw [(List.getElem?_inj (by rw [List.length_map]; exact hj) F.nd).mp this]
  · have hx : line[i]? = some line[i] := List.getElem?_eq_getElem (by omega)
    have hy : line[j]? = some line[j] := List.getElem?_eq_getElem (by omega)
    have eq : sgW bs line[i] = sgW bs line[j] := sg_of fun v lv => by
      rw [Bool.eq_iff_iff, ← res i _ hx v lv, ← res j _ hy v lv]
      exact q v lv
    have : (line.map (sgW bs))[i]? = (line.map (sgW bs))[j]? := by
      rw [List.getElem?_map, List.getElem?_map, hx, hy]
      exact congrArg some eq
    exact (List.getElem?_inj (by rw [List.length_map]; omega) F.nd).mp this
theorem sign_few (h : B3 bs) (e0 : exB bs [] = true) {line : List (List Nat)} {S : Hst} (F : Bfs (nxW bs) (sgW bs) [] line S) : line.length ≤ 7 ∧ ∀ x ∈ line, LR x ∧ exB bs x = true := by
  have mem : ∀ x ∈ line, LR x ∧ exB bs x = true := fun x hx => by
    obtain ⟨i, e⟩ := List.getElem?_of_mem hx
    obtain ⟨w, lw, q⟩ := F.rc i x e
    rw [nx_run w [] lw e0] at q
    split at q
    · rename_i z
      cases q
      exact ⟨lw, z⟩
    · cases q
  refine ⟨?_, mem⟩
  have nd : (line.map la2).Nodup := by
    refine List.pairwise_map.mpr ((List.pairwise_map.mp F.nd).imp_of_mem fun {a b} ha hb ne e => ne (sg_of fun v lv => ?_))
    obtain ⟨_, ea⟩ := mem a ha
    obtain ⟨_, eb⟩ := mem b hb
    have k := h.same (exB_ok.mp ea).here (exB_ok.mp eb).here e
    rw [Bool.eq_iff_iff, exB_ok, exB_ok]
    exact ext_congr2 (L := NoBar bs) (w := a ++ v) (w' := b ++ v) fun u lu => by
      rw [List.append_assoc, List.append_assoc]
      exact k (v ++ u)
  have := ends_few nd fun e he => by
    obtain ⟨x, hx, rfl⟩ := List.mem_map.mp he
    refine ⟨fun c hc => (mem x hx).1 c ((la2_suf x).subset hc), by unfold la2; rw [List.length_drop]; omega⟩
  rwa [List.length_map] at this
end
end Z
namespace Z
open PySem PySem.Spec PyProof.Rows L2
def blL (s : List Bool) : D := .lst (s.map .bl)
theorem pb_blL (s : List Bool) : Pb 1 (blL s) := .lst (PbL.of fun d hd => by
  obtain ⟨x, _, rfl⟩ := List.mem_map.mp hd
  exact .bl x)
theorem nb_blL {a b : List Bool} (h : nb (blL a) = nb (blL b)) : a = b := by
  have h : D.lst (nbL (a.map .bl)) = D.lst (nbL (b.map .bl)) := h
  injection h with h
  exact nbL_bl a b h
theorem pbL_blL (L : List (List Bool)) : PbL 1 (L.map blL) := PbL.of fun d hd => by
  obtain ⟨t, _, rfl⟩ := List.mem_map.mp hd
  exact pb_blL t
theorem in_blL {M : Sto} {y : D} {L : List (List Bool)} {g : List Bool} {φ : Bool → Prop} (hl : lstOf M y = some (L.map blL)) (q : ∀ b : Bool, (b = true ↔ g ∈ L) → φ b) : inQ M (blL g) y φ :=
  inPb hl (pb_blL g) (n := 1) (pbL_blL L) fun b hb => q b (hb.trans (by
    rw [List.map_map, List.mem_map]
    constructor
    · rintro ⟨t, ht, e⟩; rw [← nb_blL e]; exact ht
    · exact fun h => ⟨g, h, rfl⟩))
theorem idx_atG {α : Type} [DecidableEq α] : ∀ {l : List α} {g : α}, g ∈ l → l[l.idxOf g]? = some g ∧ ∀ i, i < l.idxOf g → l[i]? ≠ some g
  | u :: l, g, h => by
    by_cases z : u = g
    · subst z
      rw [List.idxOf_cons_self]
      exact ⟨rfl, fun i hi => absurd hi (Nat.not_lt_zero _)⟩
    · have hg : g ∈ l := (List.mem_cons.mp h).resolve_left (fun e => z e.symm)
      obtain ⟨a, b⟩ := idx_atG hg
      have e : (u :: l).idxOf g = l.idxOf g + 1 := by
        rw [List.idxOf_cons]
        have : (u == g) = false := by simpa using z
        rw [this]
        rfl
      rw [e]
      refine ⟨a, fun i hi => ?_⟩
      match i, hi with
      | 0, _ => exact fun q => z (Option.some.inj q)
      | i + 1, hi => exact b i (by omega)
theorem lidx_blL {M : Sto} {y : D} {L : List (List Bool)} {g : List Bool} {φ : PD} (hl : lstOf M y = some (L.map blL)) (h : g ∈ L) (q : φ (.int (@List.idxOf _ instBEqOfDecidableEq g L : Nat)) M) : lidxD M y [blL g] φ := by
  obtain ⟨a, b⟩ := idx_atG h
  refine lidxPb (j := @List.idxOf _ instBEqOfDecidableEq g L) hl (pb_blL g) (n := 1) (pbL_blL L) ?_ (fun i hi => ?_) q
  · rw [List.getElem?_map, List.getElem?_map, a]; rfl
  · rw [List.getElem?_map, List.getElem?_map]
    intro e
    cases k : L[i]? with
    | none => rw [k] at e; cases e
    | some t =>
      rw [k] at e
      have := nb_blL (Option.some.inj e)
      exact b i hi (by rw [k, this])
theorem idx_new {α : Type} [DecidableEq α] : ∀ {l : List α} {g : α}, g ∉ l → (l ++ [g]).idxOf g = l.idxOf g
  | [], g, _ => by simp
  | u :: l, g, h => by
    have hu : (u == g) = false := by simpa using fun e => h (by simp [e])
    have := idx_new (l := l) (g := g) fun z => h (List.mem_cons_of_mem _ z)
    rw [List.cons_append, List.idxOf_cons, List.idxOf_cons, hu, this]
theorem rows_rng (S : Hst) : S.map hrD = (List.range S.length).map fun i => D.tup [hoD (hnx S i 76), hoD (hnx S i 82)] := by
  refine List.ext_getElem (by simp) fun i h1 h2 => ?_
  have hi : i < S.length := by simpa using h1
  rw [List.getElem_map, List.getElem_map, List.getElem_range, hnx_l hi, hnx_r hi]
  rfl
theorem str_L {c : Nat} (h : c = 76 ∨ c = 82) (e : D.str "L" = .str ⟨#[c]⟩) : c = 76 := by
  rcases h with rfl | rfl
  · rfl
  · injection e with e
    exact absurd (congrArg Str.cps e) (by decide +kernel)
theorem str_R {c : Nat} (h : c = 76 ∨ c = 82) (e : D.str "R" = .str ⟨#[c]⟩) : c = 82 := by
  rcases h with rfl | rfl
  · injection e with e
    exact absurd (congrArg Str.cps e) (by decide +kernel)
  · rfl
def rpH (n : Nat) : Str := Str.empty ++ ("Habit(" : Str) ++ (toString ((n : Nat) : Int) : Str) ++ (" rooms)" : Str)
theorem rpH_ok : ∀ n : Nat, n ≤ 20 → (Str.empty ++ ("Habit(" : Str) ++ (toString ((n : Nat) : Int) : Str)).length ≤ 100 ∧ (rpH n).length ≤ 100 := by
  intro n hn
  have : ∀ m : Fin 21, (Str.empty ++ ("Habit(" : Str) ++ (toString ((m.1 : Nat) : Int) : Str)).length ≤ 100 ∧ (rpH m.1).length ≤ 100 := by decide +kernel
  exact this ⟨n, by omega⟩
abbrev bs22 : List (List Nat) := [[76, 76], [82, 82]]
theorem alt_step {w : List Nat} {t : Nat} (ht : t = 76 ∨ t = 82) : NoBar bs22 (w ++ [t]) ↔ NoBar bs22 w ∧ w.getLast? ≠ some t := by
  rw [noBar_snoc (by simp)]
  refine and_congr_right fun _ => ?_
  rcases List.eq_nil_or_concat w with rfl | ⟨c, d, rfl⟩
  · rcases ht with rfl | rfl <;> simp [hitB, List.isSuffixOf, List.isPrefixOf]
  · rcases ht with rfl | rfl <;> (simp [hitB, List.isSuffixOf, List.isPrefixOf]; exact ⟨fun h e => h e.symm, fun h e => h e.symm⟩)
theorem alt_same {w w' : List Nat} (n : NoBar bs22 w) (n' : NoBar bs22 w') (e : w.getLast? = w'.getLast?) : ∀ u, LR u → (NoBar bs22 (w ++ u) ↔ NoBar bs22 (w' ++ u)) := by
  refine snoc_ind (fun _ => by simp [n, n']) fun u t ih lu => ?_
  have lu' : LR u := fun c hc => lu c (List.mem_append_left _ hc)
  have ht := lu t (by simp)
  rw [← List.append_assoc, ← List.append_assoc, alt_step ht, alt_step ht, ih lu']
  have : (w ++ u).getLast? = (w' ++ u).getLast? := by
    rw [List.getLast?_append, List.getLast?_append, e]
  rw [this]
theorem alt_ext {w : List Nat} (n : NoBar bs22 w) : Ext (NoBar bs22) w := fun k => by
  induction k with
  | zero => exact ⟨[], (fun _ z => nomatch z), rfl, by rw [List.append_nil]; exact n⟩
  | succ k ih =>
    obtain ⟨u, a, b, c⟩ := ih
    obtain ⟨t, ht, ne⟩ : ∃ t, (t = 76 ∨ t = 82) ∧ (w ++ u).getLast? ≠ some t := by
      by_cases z : (w ++ u).getLast? = some 76
      · exact ⟨82, .inr rfl, by rw [z]; simp⟩
      · exact ⟨76, .inl rfl, z⟩
    exact ⟨u ++ [t], lr_snoc a ht, by rw [List.length_append, b]; rfl, by rw [← List.append_assoc]; exact (alt_step ht).mpr ⟨c, ne⟩⟩
theorem len3d {S : Hst} (h : Hm S (Ext (NoBar bs22))) : S.length = 3 := by
  have l76 : LR [76] := lr_rep (n := 1) (.inl rfl)
  have l82 : LR [82] := lr_rep (n := 1) (.inr rfl)
  have n0 : NoBar bs22 [] := noBar_nil (by simp)
  have n1 : NoBar bs22 [76] := (alt_step (w := []) (.inl rfl)).mpr ⟨n0, by simp⟩
  have n2 : NoBar bs22 [82] := (alt_step (w := []) (.inr rfl)).mpr ⟨n0, by simp⟩
  have n12 : NoBar bs22 [82, 76] := (alt_step (w := [82]) (.inl rfl)).mpr ⟨n2, by simp⟩
  have x1 : ¬ Ext (NoBar bs22) [76, 76] := fun z => z.here [76, 76] (by simp) (List.infix_refl _)
  have x2 : ¬ Ext (NoBar bs22) [82, 82] := fun z => z.here [82, 82] (by simp) (List.infix_refl _)
  refine Nat.le_antisymm ?_ ?_
  · refine hm_card h (fun w => w.getLast?) [none, some 76, some 82] (fun w lw _ => ?_) fun w w' lw lw' p p' e u lu => ?_
    · cases z : w.getLast? with
      | none => simp
      | some c =>
        have := lw c (List.mem_of_getLast? z)
        rcases this with rfl | rfl <;> simp
    · have k := alt_same p.here p'.here e
      exact ext_congr2 (L := NoBar bs22) (w := w ++ u) (w' := w' ++ u) fun v lv => by
        rw [List.append_assoc, List.append_assoc]
        exact k (u ++ v) (lr_app lu lv)
  · refine hm_low h 3 (fun i => if i = 0 then [] else if i = 1 then [76] else [82]) (fun i hi => ?_) fun i j hij hj => ?_
    · have : i = 0 ∨ i = 1 ∨ i = 2 := by omega
      rcases this with rfl | rfl | rfl
      · exact ⟨(fun _ z => nomatch z), alt_ext n0⟩
      · exact ⟨l76, alt_ext n1⟩
      · exact ⟨l82, alt_ext n2⟩
    · have : (i = 0 ∧ j = 1) ∨ (i = 0 ∧ j = 2) ∨ (i = 1 ∧ j = 2) := by omega
      rcases this with ⟨rfl, rfl⟩ | ⟨rfl, rfl⟩ | ⟨rfl, rfl⟩
      · exact ⟨[76], l76, fun z => x1 (z.mp (alt_ext n1))⟩
      · exact ⟨[82], l82, fun z => x2 (z.mp (alt_ext n2))⟩
      · exact ⟨[76], l76, fun z => x1 (z.mpr (alt_ext n12))⟩
theorem same_ho {M : Sto} {n : Nat} (o : Option Nat) : Same M (n + 1) (hoD o) (hoD o) := by
  cases o with
  | none => exact Same.no
  | some i => exact Same.i _
theorem same_hr {M : Sto} {n : Nat} (p : Option Nat × Option Nat) : Same M (n + 2) (hrD p) (hrD p) := Same.t (.cons (same_ho _) (.cons (same_ho _) .nil)) (show 2 ≤ 1000000 by decide)
theorem same_rows {M : Sto} {n : Nat} (S : Hst) (h : S.length ≤ 1000) : Same M (n + 3) (.lst (S.map hrD)) (.lst (S.map hrD)) := by
  refine Same.l ?_ (by rw [List.length_map]; omega)
  clear h
  induction S with
  | nil => exact .nil
  | cons p S ih => exact .cons (same_hr p) ih
theorem pl_rowsL {n : Nat} (S : Hst) : Pl (n + 2) (.lst (S.map hrD)) := .lst (PlL.of fun d hd => by
  obtain ⟨t, _, rfl⟩ := List.mem_map.mp hd
  exact .tup (.cons (pl_ho _) (.cons (pl_ho _) .nil)))
theorem rowsL_inj {S T : Hst} : D.lst (S.map hrD) = .lst (T.map hrD) ↔ S = T := by
  constructor
  · intro h
    injection h with h
    exact rows_inj.mp (by rw [h])
  · rintro rfl
    rfl
theorem noBar_rev {bs : List (List Nat)} (u : List Nat) : NoBar bs.reverse u ↔ NoBar bs u := by
  unfold NoBar
  simp
theorem noBar_ext {bs : List (List Nat)} {t : Nat} (u : List Nat) : NoBar (bs ++ bs.map (· ++ [t])) u ↔ NoBar bs u := by
  rw [noBar_app]
  refine and_iff_left_of_imp fun n b m z => ?_
  obtain ⟨c, hc, rfl⟩ := List.mem_map.mp m
  exact n c hc ((List.prefix_append c [t]).isInfix.trans z)
theorem forD_b {M0 : Sto} {wi : DTI} {g : DTG} {f : DTS} {E : Ek} {r : En} {M : Sto} {xs : List D} {S : Sto → Prop} (hw : ∀ K : List D → (Sto → Prop) → Sto → Prop, K xs S M → wi r M K) (Iv : Nat → En → Sto → Prop) (T : En → Sto → Prop) (h0 : Iv 0 r M) (hS : ∀ i r M, Iv i r M → S M)
    (tail : ∀ r M, T r M → E.nx r M) (turn : (∀ r M, T r M → E.nx r M) → ∀ i d r M, xs[i]? = some d → Iv i r M → g d r M fun r' M' => f { E with nx := Cl M0 (Iv (i + 1)), ct := Cl M0 (Iv (i + 1)), bk := E.nx } r' M') (fin : ∀ r M, Iv xs.length r M → T r M) : forD M0 wi g f E r M :=
  forD_n hw Iv h0 hS (turn tail) fun r M h => tail r M (fin r M h)
end Z
namespace K37
open PySem PySem.Spec PyProof.Rows L2 Z

def top (i : Nat) : Stmt := PySem.Challenge.pw_turnmill_k37_whole_least_machines_of_hab.main.body.getD i (.Pass ⟨0, 0, 0, 0⟩)
abbrev s__law_hand : Stmt := top 56
abbrev s__law_pick : Stmt := top 57
abbrev s__law_of : Stmt := top 58
abbrev s__law_word : Stmt := top 60
abbrev s__law_some : Stmt := top 61
abbrev s__law_barred : Stmt := top 63
abbrev s__law_goes : Stmt := top 64
abbrev s__law_all : Stmt := top 62
abbrev s__law_sign_of : Stmt := top 65
abbrev s__law_habit : Stmt := top 66
abbrev s_is_word : Stmt := top 21
abbrev s_living : Stmt := top 49
abbrev s_classes_of : Stmt := top 50
abbrev s_least_steps : Stmt := top 51
abbrev s_barred_steps : Stmt := top 48
abbrev s_Habitd_initd : Stmt := inClass (top 53) 1
abbrev s__law_same : Stmt := top 59
abbrev s_Habitd_lend : Stmt := inClass (top 53) 15
abbrev s_is_integer : Stmt := top 19
abbrev s_is_within : Stmt := top 20
abbrev s_Habit_check_room : Stmt := inClass (top 53) 4
abbrev s_is_turn : Stmt := top 22
abbrev s_check_turn : Stmt := top 24
abbrev s_Habit_step : Stmt := inClass (top 53) 3
abbrev s__law_steps_told : Stmt := top 68
abbrev s_check_word : Stmt := top 23
abbrev s_Habit_gone : Stmt := inClass (top 53) 5
abbrev s_Habit_goes : Stmt := inClass (top 53) 6
abbrev s__law_goal : Stmt := top 67
abbrev s_Habitd_eqd : Stmt := inClass (top 53) 16
abbrev s_Habitd_reprd : Stmt := inClass (top 53) 17
abbrev s_law : Stmt := top 69
abbrev s_InvalidRoom : Stmt := inClass (top 7) 0
abbrev s_InvalidWord : Stmt := inClass (top 3) 0
abbrev s_TooManyRooms : Stmt := inClass (top 11) 0
theorem sc__law_hand : FnScope ["_law_script", "_law_cells", "_law_mark", "_law_cell"] ["_law_script"] (defScope s__law_hand) := ⟨rfl, rfl, rfl, by decide +kernel, rfl, by decide +kernel, by decide +kernel⟩
theorem sc__law_pick : FnScope ["_law_hand_here", "_law_many", "_law_cell", "_law_one", "_law_two", "_law_drawn"] ["_law_hand_here", "_law_many"] (defScope s__law_pick) := ⟨rfl, rfl, rfl, by decide +kernel, rfl, by decide +kernel, by decide +kernel⟩
theorem sc__law_of : FnScope ["_law_hand_here", "_law_items"] ["_law_hand_here", "_law_items"] (defScope s__law_of) := ⟨rfl, rfl, rfl, by decide +kernel, rfl, by decide +kernel, by decide +kernel⟩
theorem sc__law_word : FnScope ["_law_hand_here", "_law_peak", "_law_k"] ["_law_hand_here", "_law_peak"] (defScope s__law_word) := ⟨rfl, rfl, rfl, by decide +kernel, rfl, by decide +kernel, by decide +kernel⟩
theorem sc__law_some : FnScope ["_law_hand_here", "_law_peak"] ["_law_hand_here", "_law_peak"] (defScope s__law_some) := ⟨rfl, rfl, rfl, by decide +kernel, rfl, by decide +kernel, by decide +kernel⟩
theorem sc__law_barred : FnScope ["_law_hand_here", "_law_many", "_law_size", "_law_k"] ["_law_hand_here", "_law_many", "_law_size"] (defScope s__law_barred) := ⟨rfl, rfl, rfl, by decide +kernel, rfl, by decide +kernel, by decide +kernel⟩
theorem sc__law_goes : FnScope ["_law_banned", "_law_token", "_law_ends", "_law_step", "_law_more", "_law_one", "_law_end", "_law_late"] ["_law_banned", "_law_token"] (defScope s__law_goes) := ⟨rfl, rfl, rfl, by decide +kernel, rfl, by decide +kernel, by decide +kernel⟩
theorem sc__law_all : FnScope ["_law_length", "_law_found", "_law_step", "_law_more", "_law_token", "_law_side"] ["_law_length"] (defScope s__law_all) := ⟨rfl, rfl, rfl, by decide +kernel, rfl, by decide +kernel, by decide +kernel⟩
theorem sc__law_sign_of : FnScope ["_law_banned", "_law_token", "_law_found", "_law_size", "_law_late"] ["_law_banned", "_law_token"] (defScope s__law_sign_of) := ⟨rfl, rfl, rfl, by decide +kernel, rfl, by decide +kernel, by decide +kernel⟩
theorem sc__law_habit : FnScope ["_law_banned", "_law_words", "_law_signs", "_law_steps", "_law_at", "_law_goals", "_law_side", "_law_late", "_law_sign"] ["_law_banned"] (defScope s__law_habit) := ⟨rfl, rfl, rfl, by decide +kernel, rfl, by decide +kernel, by decide +kernel⟩
theorem sc_is_word : FnScope ["value", "turn"] ["value"] (defScope s_is_word) := ⟨rfl, rfl, rfl, by decide +kernel, rfl, by decide +kernel, by decide +kernel⟩
theorem sc_living : FnScope ["steps", "alive", "searching", "later", "row", "one", "goal"] ["steps"] (defScope s_living) := ⟨rfl, rfl, rfl, by decide +kernel, rfl, by decide +kernel, by decide +kernel⟩
theorem sc_classes_of : FnScope ["steps", "alive", "found", "searching", "places", "later", "room", "row", "key", "one", "goal"] ["steps", "alive"] (defScope s_classes_of) := ⟨rfl, rfl, rfl, by decide +kernel, rfl, by decide +kernel, by decide +kernel⟩
theorem sc_least_steps : FnScope ["steps", "alive", "kinds", "line", "places", "found", "at", "row", "goal", "kind"] ["steps"] (defScope s_least_steps) := ⟨rfl, rfl, rfl, by decide +kernel, rfl, by decide +kernel, by decide +kernel⟩
theorem sc_barred_steps : FnScope ["barred", "starts", "word", "size", "known", "line", "steps", "at", "row", "turn", "cut", "one"] ["barred"] (defScope s_barred_steps) := ⟨rfl, rfl, rfl, by decide +kernel, rfl, by decide +kernel, by decide +kernel⟩
theorem sc_Habitd_initd : FnScope ["self", "barred", "word"] ["self", "barred"] (defScope s_Habitd_initd) := ⟨rfl, rfl, rfl, by decide +kernel, rfl, by decide +kernel, by decide +kernel⟩
theorem sc__law_same : FnScope ["_law_found", "_law_due", "_law_one", "_law_two"] ["_law_found", "_law_due"] (defScope s__law_same) := ⟨rfl, rfl, rfl, by decide +kernel, rfl, by decide +kernel, by decide +kernel⟩
theorem sc_Habitd_lend : FnScope ["self"] ["self"] (defScope s_Habitd_lend) := ⟨rfl, rfl, rfl, by decide +kernel, rfl, by decide +kernel, by decide +kernel⟩
theorem sc_is_integer : FnScope ["value"] ["value"] (defScope s_is_integer) := ⟨rfl, rfl, rfl, by decide +kernel, rfl, by decide +kernel, by decide +kernel⟩
theorem sc_is_within : FnScope ["value", "least", "most"] ["value", "least", "most"] (defScope s_is_within) := ⟨rfl, rfl, rfl, by decide +kernel, rfl, by decide +kernel, by decide +kernel⟩
theorem sc_Habit_check_room : FnScope ["self", "room"] ["self", "room"] (defScope s_Habit_check_room) := ⟨rfl, rfl, rfl, by decide +kernel, rfl, by decide +kernel, by decide +kernel⟩
theorem sc_is_turn : FnScope ["value"] ["value"] (defScope s_is_turn) := ⟨rfl, rfl, rfl, by decide +kernel, rfl, by decide +kernel, by decide +kernel⟩
theorem sc_check_turn : FnScope ["value"] ["value"] (defScope s_check_turn) := ⟨rfl, rfl, rfl, by decide +kernel, rfl, by decide +kernel, by decide +kernel⟩
theorem sc_Habit_step : FnScope ["self", "room", "turn"] ["self", "room", "turn"] (defScope s_Habit_step) := ⟨rfl, rfl, rfl, by decide +kernel, rfl, by decide +kernel, by decide +kernel⟩
theorem sc__law_steps_told : FnScope ["_law_custom", "_law_place"] ["_law_custom"] (defScope s__law_steps_told) := ⟨rfl, rfl, rfl, by decide +kernel, rfl, by decide +kernel, by decide +kernel⟩
theorem sc_check_word : FnScope ["value"] ["value"] (defScope s_check_word) := ⟨rfl, rfl, rfl, by decide +kernel, rfl, by decide +kernel, by decide +kernel⟩
theorem sc_Habit_gone : FnScope ["self", "room", "word", "turn"] ["self", "room", "word"] (defScope s_Habit_gone) := ⟨rfl, rfl, rfl, by decide +kernel, rfl, by decide +kernel, by decide +kernel⟩
theorem sc_Habit_goes : FnScope ["self", "word", "room"] ["self", "word", "room"] (defScope s_Habit_goes) := ⟨rfl, rfl, rfl, by decide +kernel, rfl, by decide +kernel, by decide +kernel⟩
theorem sc__law_goal : FnScope ["_law_steps", "_law_place", "_law_token", "_law_side"] ["_law_steps", "_law_place", "_law_token"] (defScope s__law_goal) := ⟨rfl, rfl, rfl, by decide +kernel, rfl, by decide +kernel, by decide +kernel⟩
theorem sc_Habitd_eqd : FnScope ["self", "other"] ["self", "other"] (defScope s_Habitd_eqd) := ⟨rfl, rfl, rfl, by decide +kernel, rfl, by decide +kernel, by decide +kernel⟩
theorem sc_Habitd_reprd : FnScope ["self"] ["self"] (defScope s_Habitd_reprd) := ⟨rfl, rfl, rfl, by decide +kernel, rfl, by decide +kernel, by decide +kernel⟩
theorem sc_law : FnScope ["_law_script", "_law_hand_here", "_law_step", "_law_banned", "_law_steps", "_law_custom", "_law_side", "_law_place", "_law_token", "_law_found", "_law_late", "_law_same_here", "_law_one"] ["_law_script"] (defScope s_law) := ⟨rfl, rfl, rfl, by decide +kernel, rfl, by decide +kernel, by decide +kernel⟩
theorem sc_InvalidRoom : FnScope ["self", "given"] ["self", "given"] (defScope s_InvalidRoom) := ⟨rfl, rfl, rfl, by decide +kernel, rfl, by decide +kernel, by decide +kernel⟩
theorem sc_InvalidWord : FnScope ["self", "given"] ["self", "given"] (defScope s_InvalidWord) := ⟨rfl, rfl, rfl, by decide +kernel, rfl, by decide +kernel, by decide +kernel⟩
theorem sc_TooManyRooms : FnScope ["self", "most"] ["self", "most"] (defScope s_TooManyRooms) := ⟨rfl, rfl, rfl, by decide +kernel, rfl, by decide +kernel, by decide +kernel⟩
structure Txt (K : PySem.W.Frag) (mg : Str → Option Value) : Prop where
  n_range : mg "range" = none
  n_len : mg "len" = none
  cl_Habit : Cls K (He.ga K "Habit")
  cf_Habit : CmpF K (He.ga K "Habit")
  n_repr : mg "repr" = none
  n_str : mg "str" = none
  na_Habit_rows_by_room : NoAttr K (He.ga K "Habit") "rows_by_room"
  cl_Combined : Cls K (He.ga K "Combined")
  na_Combined_rows_by_room : NoAttr K (He.ga K "Combined") "rows_by_room"
  n_isinstance : mg "isinstance" = none
  os_Habit_Combined : OwnS K (He.ga K "Habit") (He.ga K "Combined")
  gl_Habit : mg "Habit" = some (.ref (He.ga K "Habit"))
  n_int : mg "int" = none
  k_TURNS : ∃ t, mg "TURNS" = some (.str "LR" t)
  n_all : mg "all" = none
  n_bool : mg "bool" = none
  n_tuple : mg "tuple" = none
  n_list : mg "list" = none
  n_zip : mg "zip" = none
  k_MOST_BARRED : ∃ t, mg "MOST_BARRED" = some (.int 20 t)
  n_any : mg "any" = none
  k_MOST_ROOMS : ∃ t, mg "MOST_ROOMS" = some (.int 300 t)
  n_enumerate : mg "enumerate" = none
  n_sorted : mg "sorted" = none
  n_set : mg "set" = none
  emT_Habitd_initd_0 : ∀ G, Rep K G (.tup []) (.ref (dfltA (.mt "Habit" "__init__") 0 K))
  nf_Habit_list : PySem.W.notFirst K (He.ga K "Habit") (.type "list") = true
def isIn (M : Sto) (d : D) : Bool := decide (tyN M d = some "int")
theorem cutJ {P A : Prop} (main : P → A) (rest : P) : A := main rest
theorem cut1 {α : Type} {Q C : α → Prop} {A : Prop} (main : (∀ a, C a → Q a) → A) (rest : ∀ a, C a → Q a) : A := main rest
theorem cut3 {α β γ : Type} {Q C : α → β → γ → Prop} {A : Prop} (main : (∀ a b c, C a b c → Q a b c) → A) (rest : ∀ a b c, C a b c → Q a b c) : A := main rest
theorem no_at {f : Str} {d : D} (h : (f == ("whole" : Str)) = false) : List.lookup f [(("whole" : Str), d)] = none := look_ne h
theorem no_plain {d : D} : List.lookup ("plain" : Str) [(("whole" : Str), d)] = none := no_at (by decide +kernel)
theorem no_back {d : D} : List.lookup ("back" : Str) [(("whole" : Str), d)] = none := no_at (by decide +kernel)
theorem no_alike {d : D} : List.lookup ("alike" : Str) [(("whole" : Str), d)] = none := no_at (by decide +kernel)
theorem no_taken {d : D} : List.lookup ("taken" : Str) [(("whole" : Str), d)] = none := no_at (by decide +kernel)
theorem no_entries {d : D} : List.lookup ("entries" : Str) [(("whole" : Str), d)] = none := no_at (by decide +kernel)
theorem no_power {d : D} : List.lookup ("power" : Str) [(("whole" : Str), d)] = none := no_at (by decide +kernel)
theorem wB_LR {x : Str} (h : LR x.cps.toList) : wB (.str x) = true := List.all_eq_true.mpr fun c hc => decide_eq_true (lr_mem.mpr (h c hc))
theorem wB_odd {x : Str} {c : Nat} (hc : c ∈ x.cps.toList) (h : c ≠ 76 ∧ c ≠ 82) : wB (.str x) = false := by
  cases e : wB (.str x) with
  | false => rfl
  | true =>
    have := of_decide_eq_true (List.all_eq_true.mp e c hc)
    rcases lr_mem.mp this with z | z
    · exact absurd z h.1
    · exact absurd z h.2
section
variable {P : Program} {w : World} {K : PySem.W.Frag} {mg : Str → Option Value} {base : Heap}
abbrev b__law_hand : List (Nat × List Str × (List D → List D → List D)) := [(pos 1)]
abbrev b__law_pick : List (Nat × List Str × (List D → List D → List D)) := [(pos 2)]
abbrev b__law_of : List (Nat × List Str × (List D → List D → List D)) := [(pos 2)]
abbrev b__law_word : List (Nat × List Str × (List D → List D → List D)) := [(pos 2)]
abbrev b__law_some : List (Nat × List Str × (List D → List D → List D)) := [(pos 2)]
abbrev b__law_barred : List (Nat × List Str × (List D → List D → List D)) := [(pos 3)]
abbrev b__law_goes : List (Nat × List Str × (List D → List D → List D)) := [(pos 2)]
abbrev b__law_all : List (Nat × List Str × (List D → List D → List D)) := [(pos 1)]
abbrev b__law_sign_of : List (Nat × List Str × (List D → List D → List D)) := [(pos 2)]
abbrev b__law_habit : List (Nat × List Str × (List D → List D → List D)) := [(pos 1)]
abbrev b_is_word : List (Nat × List Str × (List D → List D → List D)) := [(pos 1)]
abbrev b_living : List (Nat × List Str × (List D → List D → List D)) := [(pos 1)]
abbrev b_classes_of : List (Nat × List Str × (List D → List D → List D)) := [(pos 2)]
abbrev b_least_steps : List (Nat × List Str × (List D → List D → List D)) := [(pos 1)]
abbrev b_barred_steps : List (Nat × List Str × (List D → List D → List D)) := [(pos 1)]
abbrev b_Habitd_initd : List (Nat × List Str × (List D → List D → List D)) := [(2, [], fun ds dz => gS [.p 0, .p 1] ds [.tup []] dz)]
abbrev b__law_same : List (Nat × List Str × (List D → List D → List D)) := [(pos 2)]
abbrev b_Habitd_lend : List (Nat × List Str × (List D → List D → List D)) := [(pos 1)]
abbrev b_is_integer : List (Nat × List Str × (List D → List D → List D)) := [(pos 1)]
abbrev b_is_within : List (Nat × List Str × (List D → List D → List D)) := [(pos 3)]
abbrev b_Habit_check_room : List (Nat × List Str × (List D → List D → List D)) := [(pos 2)]
abbrev b_is_turn : List (Nat × List Str × (List D → List D → List D)) := [(pos 1)]
abbrev b_check_turn : List (Nat × List Str × (List D → List D → List D)) := [(pos 1)]
abbrev b_Habit_step : List (Nat × List Str × (List D → List D → List D)) := [(1, ["turn", "room"], fun ds dz => gS [.p 0, .k 1, .k 0] ds [] dz), (pos 3)]
abbrev b__law_steps_told : List (Nat × List Str × (List D → List D → List D)) := [(pos 1)]
abbrev b_check_word : List (Nat × List Str × (List D → List D → List D)) := [(pos 1)]
abbrev b_Habit_gone : List (Nat × List Str × (List D → List D → List D)) := [(pos 3)]
abbrev b_Habit_goes : List (Nat × List Str × (List D → List D → List D)) := [(2, [], fun ds dz => gS [.p 0, .p 1, .d 0] ds [.int 0] dz), (1, ["room", "word"], fun ds dz => gS [.p 0, .k 1, .k 0] ds [] dz)]
abbrev b__law_goal : List (Nat × List Str × (List D → List D → List D)) := [(pos 3)]
abbrev b_Habitd_eqd : List (Nat × List Str × (List D → List D → List D)) := [(pos 2)]
abbrev b_Habitd_reprd : List (Nat × List Str × (List D → List D → List D)) := [(pos 1)]
abbrev b_law : List (Nat × List Str × (List D → List D → List D)) := [(pos 1)]
def c__law_hand : Ct := fun ds M Ψ _ => ∃ ns : List Int, ds = [scr ns] ∧ ns.length ≤ 63 ∧ ∀ p (h : Hand), M p = none → h.cs.length ≤ 63 → 0 ≤ h.i → Ψ (.ref p) (updM M p (hd h))
theorem ok__law_hand {f : Addr} {fd : FuncData} {dvs : List V} {kws : List (Str × V)} (T : Txt K mg)  (F : FnZ K "_law_hand" "_law_hand" s__law_hand dvs kws f fd) : FnOk P w K mg base (L2.CX P w) 2 f fd ["_law_script"] (spC K (["_law_script"] : List Str).length (c__law_hand)) := by
  have hnd := sc__law_hand.nd
  refine fnD F sc__law_hand (c__law_hand) fun cdv A outer s H E B Ξ hr z => ⟨_, (dss_cons (ds_setLc (i := 1) rfl hnd (sw_true rfl rfl rfl rfl) (di_list (de_slice (de_var (i := 0)) do_none (do_some de_int))) (blkOk_by (own := [("_law_cell", 3)]) (by rfl)) (tg_name (i := 3) (by decide)) (fun _ _ _ _ _ => (pg_name (i := 3) hnd rfl (by first | exact Or.inl rfl | exact Or.inr rfl) (by first | exact .inl rfl | exact .inr rfl))) (fun _ _ _ _ _ _ => dts_nil) (fun _ _ _ _ _ _ => (de_int1 T.n_int (da_cons (de_var (i := 3)) da_nil))))
    (dss_cons (ds_set (i := 2) hnd (de_add de_int (de_mul de_int (de_len T.n_len (da_cons (de_var (i := 1)) da_nil)))))
    (dss_cons (ds_for z.po rfl (di_list (de_var (i := 1))) (dg_name (i := 3) hnd) (dss_one (ds_set (i := 2) hnd (de_fmod (de_int1 T.n_int (da_cons (de_add (de_mul (de_var (i := 2)) de_int) (de_var (i := 3))) da_nil)) de_int))))
    (dss_one (ds_ret (de_lstM (da_cons (de_var (i := 1)) (da_cons de_int (da_cons de_int (da_cons (de_var (i := 2)) da_nil)))))))))), fun ds Ψ hl hc => ?_⟩
  obtain ⟨ns, rfl, hl, q⟩ := hc
  have hl2 : (cutD ns none (some 63)).length ≤ 63 := Nat.le_trans (cut_len _ _ _) hl
  refine compD_map (xs := cutD (ns.map D.int) none (some 63)) (S := fun M => lstOf M (.lst (cutD (ns.map D.int) none (some 63))) = some (cutD (ns.map D.int) none (some 63))) (fun K h => ⟨_, rfl, h⟩) (fun d => d) rfl ?_ (fun d hd Q q => ?_) ?_
  · rw [cut_map, List.length_map]
    exact Nat.le_trans hl2 (Nat.le_trans (by decide) big_ok)
  · rw [cut_map] at hd
    obtain ⟨i, _, rfl⟩ := List.mem_map.mp hd
    exact q
  rw [List.map_id', cut_map]
  generalize hcs : cutD ns none (some 63) = cs at hl2 ⊢
  refine ⟨IntMulOk.of_left (by decide), ?_⟩
  refine forD_n (xs := cs.map D.int) (S := fun M => lstOf M (.lst (cs.map D.int)) = some (cs.map D.int)) (fun K h => ⟨_, rfl, h⟩) (fun i r M' => M' = B.M ∧ ∃ (m : Int) (o : Option D), r = [some (scr ns), some (.lst (cs.map D.int)), some (.int m), o]) ⟨rfl, _, none, rfl⟩ (fun _ _ _ _ => rfl) (fun i d r M' hd h => ?_) (fun r M' h => ?_)
  · obtain ⟨rfl, m, o, rfl⟩ := h
    obtain ⟨c, _, rfl⟩ := List.mem_map.mp (lmem hd)
    exact ⟨IntMulOk.of_right (by decide), by decide, .of ⟨rfl, _, _, rfl⟩⟩
  · obtain ⟨rfl, m, o, rfl⟩ := h
    exact ⟨ln (n := 4) rfl (by decide), fun p hp => ⟨_, _, .same, q p ⟨cs, 0, 0, m⟩ hp hl2 (Int.le_refl 0)⟩⟩
theorem dok_b {j : Int} (h : 0 < j) (h' : j < 2 ^ 100) : Dok j := dok_of (n := 100) (by omega) (by omega) (by decide)
def c__law_pick : Ct := fun ds M Ψ _ => ∃ (p : Addr) (n : Int), ds = [.ref p, .int n] ∧ HandAt M p ∧ 0 < n ∧ n < 2 ^ 100 ∧ ∀ k M', 0 ≤ k → k < n → Dr p M M' → Ψ (.int k) M'
theorem ok__law_pick {f : Addr} {fd : FuncData} {dvs : List V} {kws : List (Str × V)} (T : Txt K mg)  (F : FnZ K "_law_pick" "_law_pick" s__law_pick dvs kws f fd) : FnOk P w K mg base (L2.CX P w) 2 f fd ["_law_hand_here", "_law_many"] (spC K (["_law_hand_here", "_law_many"] : List Str).length (c__law_pick)) := by
  have hnd := sc__law_pick.nd
  refine fnD F sc__law_pick (c__law_pick) fun cdv A outer s H E B Ξ hr z => ⟨_, (dss_cons (ds_if (dt_lt (de_ix (de_var (i := 0)) de_int) de_int) (dss_cons (ds_setix (de_add (de_ix (de_var (i := 0)) de_int) de_int) (de_var (i := 0)) de_int)
    (dss_cons (ds_set (i := 2) hnd (de_add (de_ix (de_var (i := 0)) de_int) (de_mul (de_ix (de_var (i := 0)) de_int) de_int)))
    (dss_cons (ds_if (dt_le (de_ix (de_var (i := 0)) de_int) (de_len T.n_len (da_cons (de_ix (de_var (i := 0)) de_int) da_nil))) (dss_one (ds_set (i := 2) hnd (de_ix (de_ix (de_var (i := 0)) de_int) (de_sub (de_ix (de_var (i := 0)) de_int) de_int)))) dss_nil)
    (dss_cons (ds_if (dw_or (dt_gt (de_ix (de_var (i := 0)) de_int) (de_len T.n_len (da_cons (de_ix (de_var (i := 0)) de_int) da_nil))) (dw_or1 (dt_lt (de_var (i := 2)) (de_pow de_int de_int)))).pt (dss_cons (ds_set (i := 3) hnd (de_fmod (de_int1 T.n_int (da_cons (de_add (de_add (de_mul (de_var (i := 2)) de_int) (de_mul (de_ix (de_var (i := 0)) de_int) de_int)) (de_ix (de_var (i := 0)) de_int)) da_nil)) de_int))
    (dss_cons (ds_set (i := 4) hnd (de_fmod (de_int1 T.n_int (da_cons (de_add (de_mul (de_var (i := 3)) (de_var (i := 3))) (de_mul (de_ix (de_var (i := 0)) de_int) de_int)) da_nil)) de_int))
    (dss_one (ds_ret (de_fmod (de_fdiv (de_fmod (de_int1 T.n_int (da_cons (de_add (de_mul (de_var (i := 4)) de_int) (de_var (i := 3))) da_nil)) de_int) de_int) (de_var (i := 1))))))) dss_nil)
    (dss_one (ds_setix (de_var (i := 2)) (de_var (i := 0)) de_int)))))) dss_nil)
    (dss_cons (ds_set (i := 5) hnd (de_fmod (de_int1 T.n_int (da_cons (de_ix (de_var (i := 0)) de_int) da_nil)) (de_var (i := 1))))
    (dss_cons (ds_setix (de_fdiv (de_int1 T.n_int (da_cons (de_ix (de_var (i := 0)) de_int) da_nil)) (de_var (i := 1))) (de_var (i := 0)) de_int)
    (dss_one (ds_ret (de_var (i := 5))))))), fun ds Ψ hl hc => ?_⟩
  obtain ⟨p, n, rfl, ⟨h, e0, hcl, hi⟩, n0, n1, q⟩ := hc
  have nz : n ≠ 0 := by omega
  refine ix_ref e0 ?_
  refine bl_c (fun _ => ?_) (fun _ => ?_)
  rotate_left
  · refine ix_ref e0 ?_
    refine ⟨nz, ?_⟩
    refine ix_ref e0 ?_
    refine ⟨dok_b n0 n1, ?_⟩
    refine set_ref e0 rfl ?_
    exact ⟨_, _, .same, q _ _ (fm0 n0) (fm1 n0) ⟨handAt_of updM_same hcl hi, fun b hb => updM_ne hb⟩⟩
  refine ix_ref e0 ?_
  refine set_gen e0 rfl fun M1 e1 f1 => ?_
  have e1 : M1 p = some (hd ⟨h.cs, h.i + 1, h.r, h.m⟩) := e1
  have hi1 : 0 ≤ h.i + 1 := by omega
  refine ix_ref e1 ?_
  refine ix_ref e1 ?_
  refine ⟨IntMulOk.of_right (by decide), ?_⟩
  refine ix_ref e1 ?_
  refine ix_ref e1 ?_
  refine bl_c (fun h1 => ?_) (fun h1 => ?_)
  · refine ix_ref e1 ?_
    refine ix_ref e1 ?_
    have h1' : h.i + 1 ≤ ((h.cs.map D.int).length : Int) := of_decide_eq_true h1
    obtain ⟨d, hd, hm⟩ := at_some (xs := h.cs.map D.int) (i := h.i + 1 - 1) (by omega) (by omega)
    obtain ⟨c, _, rfl⟩ := List.mem_map.mp hm
    refine optK_of (d := .int (h.i + 1)) rfl ?_
    refine optK_of hd ?_
    refine ix_ref e1 ?_
    refine ix_ref e1 ?_
    refine bl_c (fun h2 => ?_) (fun h2 => ?_)
    rotate_left
    · refine ⟨⟨by decide, by decide, by decide⟩, ?_⟩
      refine bl_c (fun h3 => ?_) (fun h3 => ?_)
      rotate_left
      · refine set_ref e1 rfl ?_
        refine ix_ref updM_same ?_
        refine ⟨nz, ?_⟩
        refine ix_ref updM_same ?_
        refine ⟨dok_b n0 n1, ?_⟩
        refine set_ref updM_same rfl ?_
        exact ⟨_, _, .same, q _ _ (fm0 n0) (fm1 n0) ⟨handAt_of updM_same hcl hi1, fun b hb => (updM_ne hb).trans ((updM_ne hb).trans (f1 b hb))⟩⟩
      refine ⟨IntMulOk.of_right (by decide), ?_⟩
      refine ix_ref e1 ?_
      refine ⟨IntMulOk.of_right (by decide), ?_⟩
      refine ix_ref e1 ?_
      refine ⟨by decide, ?_⟩
      refine ⟨mok_s (fm_small (by decide) (by decide)), ?_⟩
      refine ix_ref e1 ?_
      refine ⟨IntMulOk.of_right (by decide), ?_⟩
      refine ⟨by decide, ?_⟩
      refine ⟨IntMulOk.of_right (by decide), by decide, dok_s (by decide) (by decide), nz, ?_⟩
      exact ⟨_, _, .same, q _ _ (fm0 n0) (fm1 n0) ⟨handAt_of e1 hcl hi1, f1⟩⟩
    refine ⟨IntMulOk.of_right (by decide), ?_⟩
    refine ix_ref e1 ?_
    refine ⟨IntMulOk.of_right (by decide), ?_⟩
    refine ix_ref e1 ?_
    refine ⟨by decide, ?_⟩
    refine ⟨mok_s (fm_small (by decide) (by decide)), ?_⟩
    refine ix_ref e1 ?_
    refine ⟨IntMulOk.of_right (by decide), ?_⟩
    refine ⟨by decide, ?_⟩
    refine ⟨IntMulOk.of_right (by decide), by decide, dok_s (by decide) (by decide), nz, ?_⟩
    exact ⟨_, _, .same, q _ _ (fm0 n0) (fm1 n0) ⟨handAt_of e1 hcl hi1, f1⟩⟩
  · refine ix_ref e1 ?_
    refine ix_ref e1 ?_
    refine bl_c (fun h2 => ?_) (fun h2 => ?_)
    rotate_left
    · refine ⟨⟨by decide, by decide, by decide⟩, ?_⟩
      refine bl_c (fun h3 => ?_) (fun h3 => ?_)
      rotate_left
      · refine set_ref e1 rfl ?_
        refine ix_ref updM_same ?_
        refine ⟨nz, ?_⟩
        refine ix_ref updM_same ?_
        refine ⟨dok_b n0 n1, ?_⟩
        refine set_ref updM_same rfl ?_
        exact ⟨_, _, .same, q _ _ (fm0 n0) (fm1 n0) ⟨handAt_of updM_same hcl hi1, fun b hb => (updM_ne hb).trans ((updM_ne hb).trans (f1 b hb))⟩⟩
      refine ⟨IntMulOk.of_right (by decide), ?_⟩
      refine ix_ref e1 ?_
      refine ⟨IntMulOk.of_right (by decide), ?_⟩
      refine ix_ref e1 ?_
      refine ⟨by decide, ?_⟩
      refine ⟨mok_s (fm_small (by decide) (by decide)), ?_⟩
      refine ix_ref e1 ?_
      refine ⟨IntMulOk.of_right (by decide), ?_⟩
      refine ⟨by decide, ?_⟩
      refine ⟨IntMulOk.of_right (by decide), by decide, dok_s (by decide) (by decide), nz, ?_⟩
      exact ⟨_, _, .same, q _ _ (fm0 n0) (fm1 n0) ⟨handAt_of e1 hcl hi1, f1⟩⟩
    refine ⟨IntMulOk.of_right (by decide), ?_⟩
    refine ix_ref e1 ?_
    refine ⟨IntMulOk.of_right (by decide), ?_⟩
    refine ix_ref e1 ?_
    refine ⟨by decide, ?_⟩
    refine ⟨mok_s (fm_small (by decide) (by decide)), ?_⟩
    refine ix_ref e1 ?_
    refine ⟨IntMulOk.of_right (by decide), ?_⟩
    refine ⟨by decide, ?_⟩
    refine ⟨IntMulOk.of_right (by decide), by decide, dok_s (by decide) (by decide), nz, ?_⟩
    exact ⟨_, _, .same, q _ _ (fm0 n0) (fm1 n0) ⟨handAt_of e1 hcl hi1, f1⟩⟩
def c__law_of : Ct := fun ds M Ψ _ => ∃ (p : Addr) (x : D) (l : List D), ds = [.ref p, x] ∧ HandAt M p ∧ itm x = some l ∧ 0 < l.length ∧ l.length ≤ 1000000 ∧ ∀ d M', d ∈ l → Dr p M M' → Ψ d M'
theorem ok__law_of {f : Addr} {fd : FuncData} {dvs : List V} {kws : List (Str × V)} (T : Txt K mg) (h__law_pick : Gf P w K mg base "_law_pick" 2 (c__law_pick) b__law_pick) (F : FnZ K "_law_of" "_law_of" s__law_of dvs kws f fd) : FnOk P w K mg base (L2.CX P w) 3 f fd ["_law_hand_here", "_law_items"] (spC K (["_law_hand_here", "_law_items"] : List Str).length (c__law_of)) := by
  have hnd := sc__law_of.nd
  refine fnD F sc__law_of (c__law_of) fun cdv A outer s H E B Ξ hr z => ⟨_, (dss_one (ds_ret (de_ix (de_var (i := 1)) (de_call h__law_pick hr z (List.Mem.head _) (da_cons (de_var (i := 0)) (da_cons (de_len T.n_len (da_cons (de_var (i := 1)) da_nil)) da_nil)))))), fun ds Ψ hl hc => ?_⟩
  obtain ⟨p, x, l, rfl, hh, hx, l0, l1, q⟩ := hc
  cases x with
  | str x =>
    cases hx
    rw [signs_len] at l0 l1
    have hz : x.length ≤ sizeLine := Nat.le_trans l1 big_ok
    refine ⟨hz, rfl, rfl, p, _, rfl, hh, (show (0 : Int) < (x.cps.size : Int) by omega), (show (x.cps.size : Int) < 2 ^ 100 by omega), fun k M' k0 k1 dr => ⟨hz, ?_⟩⟩
    obtain ⟨c, hc, hm⟩ := at_some (xs := x.cps.toList) k0 (by rw [Array.length_toList]; exact k1)
    exact optK_of hc ⟨_, _, .same, q _ _ (List.mem_map.mpr ⟨c, hm, rfl⟩) dr⟩
  | tup l =>
    cases hx
    refine ⟨rfl, rfl, p, _, rfl, hh, by omega, by omega, fun k M' k0 k1 dr => ?_⟩
    obtain ⟨c, hc, hm⟩ := at_some k0 k1
    exact optK_of hc ⟨_, _, .same, q _ _ hm dr⟩
  | lst l =>
    cases hx
    refine ⟨rfl, rfl, p, _, rfl, hh, by omega, by omega, fun k M' k0 k1 dr => ?_⟩
    obtain ⟨c, hc, hm⟩ := at_some k0 k1
    exact optK_of hc ⟨_, _, .same, q _ _ hm dr⟩
  | _ => cases hx
def c__law_word : Ct := fun ds M Ψ _ => ∃ (p : Addr) (n : Int), ds = [.ref p, .int n] ∧ HandAt M p ∧ 0 ≤ n ∧ n ≤ 100000 ∧ ∀ w M', LR w → (w.length : Int) ≤ n → Dr p M M' → Ψ (.str ⟨w.toArray⟩) M'
theorem ok__law_word {f : Addr} {fd : FuncData} {dvs : List V} {kws : List (Str × V)} (T : Txt K mg) (h__law_pick : Gf P w K mg base "_law_pick" 2 (c__law_pick) b__law_pick) (h__law_of : Gf P w K mg base "_law_of" 3 (c__law_of) b__law_of) (F : FnZ K "_law_word" "_law_word" s__law_word dvs kws f fd) : FnOk P w K mg base (L2.CX P w) 4 f fd ["_law_hand_here", "_law_peak"] (spC K (["_law_hand_here", "_law_peak"] : List Str).length (c__law_word)) := by
  have hnd := sc__law_word.nd
  refine fnD F sc__law_word (c__law_word) fun cdv A outer s H E B Ξ hr z => ⟨_, (dss_one (ds_ret (de_join de_str (de_lc rfl hnd (di_range1 T.n_range (da_cons (de_call h__law_pick hr z (List.Mem.head _) (da_cons (de_var (i := 0)) (da_cons (de_add (de_var (i := 1)) de_int) da_nil))) da_nil)) (blkOk_by (own := [("_law_k", 2)]) (by rfl)) (tg_name (i := 2) (by decide)) (fun _ _ _ _ _ => (pg_name (i := 2) hnd rfl (by first | exact Or.inl rfl | exact Or.inr rfl) (by first | exact .inl rfl | exact .inr rfl))) (fun _ _ _ _ _ _ => dts_nil) (fun _ _ _ _ _ _ => (de_call h__law_of hr zx_blk (List.Mem.head _) (da_cons (de_var (i := 0)) (da_cons de_str da_nil)))))))), fun ds Ψ hl hc => ?_⟩
  obtain ⟨p, n, rfl, hh, n0, n1, q⟩ := hc
  refine ⟨trivial, ?_⟩
  refine compD_of (fun xs S M1 => ∃ k : Int, 0 ≤ k ∧ k ≤ n ∧ xs = rngD 0 k.toNat ∧ S = (fun _ => True) ∧ Dr p B.M M1) (fun K h => ?_) (fun xs S M1 ⟨k, k0, k1, e1, e2, dr⟩ => ?_)
  · exact ⟨rfl, rfl, p, _, rfl, hh, by omega, by omega, fun k M' k0 k1 dr => ⟨⟨by omega, by omega⟩, h _ _ _ ⟨k, k0, by omega, rfl, rfl, dr⟩⟩⟩
  subst e1 e2
  refine comp_st (Dr p B.M) (fun _ y => ∃ c : Nat, (c = 76 ∨ c = 82) ∧ y = .str ⟨#[c]⟩) dr (fun _ _ => trivial) (by rw [rng_len]; exact Nat.le_trans (by omega) big_ok) (fun d hd M' I Q hQ => ?_) (fun acc M' I hl hy => ?_)
  · refine ⟨rfl, rfl, p, _, _, rfl, I.1, rfl, by decide, by decide, fun d M4 hd dr' => hQ _ _ (I.trans dr') ?_⟩
    obtain ⟨c, hc, rfl⟩ := signs_mem hd
    exact ⟨c, lr_mem.mp hc, rfl⟩
  · have hall : ∀ y ∈ acc, ∃ c : Nat, (c = 76 ∨ c = 82) ∧ y = .str ⟨#[c]⟩ := fun y hm => by
      obtain ⟨i, hi, e⟩ := List.getElem_of_mem hm
      have hi2 : i < (rngD 0 k.toNat).length := hl ▸ hi
      exact hy i _ y (List.getElem?_eq_getElem hi2) (by rw [List.getElem?_eq_getElem hi, e])
    obtain ⟨w, hw, rfl⟩ := chars_of hall
    rw [rng_len, List.length_map] at hl
    refine ⟨_, w.map fun c => (⟨#[c]⟩ : Str), .inl rfl, strsD_chars w, ?_, ?_⟩
    · rw [chars_sum, List.length_map]
      show _ + _ * 0 ≤ _
      omega
    · refine ⟨_, _, .same, ?_⟩
      show Ψ (.str (Txt.join Str.empty _)) M'
      rw [join_chars]
      exact q w M' hw (by omega) I
def c__law_some : Ct := fun ds M Ψ _ => ∃ (p : Addr) (n : Int), ds = [.ref p, .int n] ∧ HandAt M p ∧ 1 ≤ n ∧ n ≤ 1000 ∧ ∀ w M', LR w → w ≠ [] → (w.length : Int) ≤ n → Dr p M M' → Ψ (.str ⟨w.toArray⟩) M'
theorem ok__law_some {f : Addr} {fd : FuncData} {dvs : List V} {kws : List (Str × V)} (T : Txt K mg) (h__law_of : Gf P w K mg base "_law_of" 3 (c__law_of) b__law_of) (h__law_word : Gf P w K mg base "_law_word" 4 (c__law_word) b__law_word) (F : FnZ K "_law_some" "_law_some" s__law_some dvs kws f fd) : FnOk P w K mg base (L2.CX P w) 5 f fd ["_law_hand_here", "_law_peak"] (spC K (["_law_hand_here", "_law_peak"] : List Str).length (c__law_some)) := by
  have hnd := sc__law_some.nd
  refine fnD F sc__law_some (c__law_some) fun cdv A outer s H E B Ξ hr z => ⟨_, (dss_one (ds_ret (de_add (de_call h__law_of hr z (List.Mem.head _) (da_cons (de_var (i := 0)) (da_cons de_str da_nil))) (de_call h__law_word hr z (List.Mem.head _) (da_cons (de_var (i := 0)) (da_cons (de_sub (de_var (i := 1)) de_int) da_nil)))))), fun ds Ψ hl hc => ?_⟩
  obtain ⟨p, n, rfl, hh, n0, n1, q⟩ := hc
  refine ⟨rfl, rfl, p, _, _, rfl, hh, rfl, (by decide), (by decide), fun d M1 hd d1 => ?_⟩
  obtain ⟨c, hc, rfl⟩ := signs_mem hd
  have hc := lr_mem.mp hc
  refine ⟨rfl, rfl, p, n - 1, rfl, d1.1, by omega, by omega, fun w M2 lw hw d2 => ?_⟩
  rw [one_w]
  refine add_w (by show 1 ≤ 400000; decide) (by omega) ?_
  exact ⟨_, _, .same, q _ _ (LR.app (fun x hx => by have : x = c := by simpa using hx
                                                    rw [this]; exact hc) lw) (by simp) (by rw [List.length_append]; show ((1 + w.length : Nat) : Int) ≤ n; omega) (d1.trans d2)⟩
def c__law_barred : Ct := fun ds M Ψ _ => ∃ (p : Addr) (n m : Int), ds = [.ref p, .int n, .int m] ∧ HandAt M p ∧ 0 ≤ n ∧ n ≤ 10 ∧ 1 ≤ m ∧ m ≤ 20 ∧ ∀ (bars : List (List Nat)) (M' : Sto) (q : Addr), (∀ b ∈ bars, LR b ∧ b ≠ [] ∧ (b.length : Int) ≤ m) → (bars.length : Int) ≤ n → Dr p M M' → M' q = none → Ψ (.ref q) (updM M' q (.lst (bars.map wdD)))
theorem ok__law_barred {f : Addr} {fd : FuncData} {dvs : List V} {kws : List (Str × V)} (T : Txt K mg) (h__law_pick : Gf P w K mg base "_law_pick" 2 (c__law_pick) b__law_pick) (h__law_some : Gf P w K mg base "_law_some" 5 (c__law_some) b__law_some) (F : FnZ K "_law_barred" "_law_barred" s__law_barred dvs kws f fd) : FnOk P w K mg base (L2.CX P w) 6 f fd ["_law_hand_here", "_law_many", "_law_size"] (spC K (["_law_hand_here", "_law_many", "_law_size"] : List Str).length (c__law_barred)) := by
  have hnd := sc__law_barred.nd
  refine fnD F sc__law_barred (c__law_barred) fun cdv A outer s H E B Ξ hr z => ⟨_, (dss_one (ds_ret (de_lcM rfl hnd (di_range1 T.n_range (da_cons (de_call h__law_pick hr z (List.Mem.head _) (da_cons (de_var (i := 0)) (da_cons (de_add (de_var (i := 1)) de_int) da_nil))) da_nil)) (blkOk_by (own := [("_law_k", 3)]) (by rfl)) (tg_name (i := 3) (by decide)) (fun _ _ _ _ _ => (pg_name (i := 3) hnd rfl (by first | exact Or.inl rfl | exact Or.inr rfl) (by first | exact .inl rfl | exact .inr rfl))) (fun _ _ _ _ _ _ => dts_nil) (fun _ _ _ _ _ _ => (de_call h__law_some hr zx_blk (List.Mem.head _) (da_cons (de_var (i := 0)) (da_cons (de_var (i := 2)) da_nil))))))), fun ds Ψ hl hc => ?_⟩
  obtain ⟨p, n, m, rfl, hh, n0, n1, m0, m1, q⟩ := hc
  rw [show ent (["_law_hand_here", "_law_many", "_law_size", "_law_k"] : List Str).length [.ref p, .int n, .int m] = [some (.ref p), some (.int n), some (.int m), none] from rfl]
  try dsimp only [List.set, getS_z, getS_s, bin2, bin2T, ltD, leD, gtD, geD, cmp_i, add_i, sub_i, min2_i, max2_i]
  refine compD_of (fun xs S M1 => ∃ k : Int, 0 ≤ k ∧ k ≤ n ∧ xs = rngD 0 k.toNat ∧ S = (fun _ => True) ∧ Dr p B.M M1) (fun K h => ?_) (fun xs S M1 ⟨k, k0, k1, e1, e2, dr⟩ => ?_)
  · exact ⟨rfl, rfl, p, _, rfl, hh, by omega, by omega, fun k M' k0 k1 dr => ⟨⟨by omega, by omega⟩, h _ _ _ ⟨k, k0, by omega, rfl, rfl, dr⟩⟩⟩
  subst e1 e2
  refine comp_st (Dr p B.M) (fun _ y => ∃ w : List Nat, (LR w ∧ w ≠ [] ∧ (w.length : Int) ≤ m) ∧ y = wdD w) dr (fun _ _ => trivial) (by rw [rng_len]; exact Nat.le_trans (by omega) big_ok) (fun d hd M' I Q hQ => ?_) (fun acc M' I hl hy => ?_)
  · exact ⟨rfl, rfl, p, m, rfl, I.1, m0, by omega, fun w M4 lw hw hl dr' => hQ _ _ (I.trans dr') ⟨w, ⟨lw, hw, hl⟩, rfl⟩⟩
  · have hall : ∀ y ∈ acc, ∃ w : List Nat, (LR w ∧ w ≠ [] ∧ (w.length : Int) ≤ m) ∧ y = wdD w := fun y hm => by
      obtain ⟨i, hi, e⟩ := List.getElem_of_mem hm
      have hi2 : i < (rngD 0 k.toNat).length := hl ▸ hi
      exact hy i _ y (List.getElem?_eq_getElem hi2) (by rw [List.getElem?_eq_getElem hi, e])
    obtain ⟨bars, hb, rfl⟩ := words_of hall
    rw [rng_len, List.length_map] at hl
    intro q' hq'
    exact ⟨_, _, .same, q bars M' q' hb (by omega) I hq'⟩
def c__law_goes : Ct := fun ds M Ψ _ => ∃ (dB : D) (bars bs3 : List (List Nat)) (w : List Nat), ds = [dB, wdD w] ∧ lstOf M dB = some (bars.map wdD) ∧ B3 bs3 ∧ (∀ u, NoBar bars u ↔ NoBar bs3 u) ∧ bars.length ≤ 20 ∧ LR w ∧ w.length ≤ 1000 ∧ ∀ b : Bool, (b = true ↔ Ext (NoBar bs3) w) → Ψ (.bl b) M
theorem ok__law_goes {f : Addr} {fd : FuncData} {dvs : List V} {kws : List (Str × V)} (T : Txt K mg)  (F : FnZ K "_law_goes" "_law_goes" s__law_goes dvs kws f fd) : FnOk P w K mg base (L2.CX P w) 2 f fd ["_law_banned", "_law_token"] (spC K (["_law_banned", "_law_token"] : List Str).length (c__law_goes)) := by
  have hnd := sc__law_goes.nd
  refine fnD F sc__law_goes (c__law_goes) fun cdv A outer s H E B Ξ hr z => ⟨_, (dss_cons (ds_if (dt_val (de_any1 rfl T.n_any (da_cons (de_lc rfl hnd (di_list (de_var (i := 0))) (blkOk_by (own := [("_law_one", 5)]) (by rfl)) (tg_name (i := 5) (by decide)) (fun _ _ _ _ _ => (pg_name (i := 5) hnd rfl (by first | exact Or.inl rfl | exact Or.inr rfl) (by first | exact .inl rfl | exact .inr rfl))) (fun _ _ _ _ _ _ => dts_nil) (fun _ _ _ _ _ _ => (de_inTx (de_var (i := 5)) (de_var (i := 1))))) da_nil))) (dss_one (ds_ret de_bl)) dss_nil)
    (dss_cons (ds_set (i := 2) hnd (de_lst (da_cons (de_slice (de_var (i := 1)) (do_some (de_neg de_int)) do_none) da_nil)))
    (dss_cons (ds_for z.po rfl (di_range1 T.n_range (da_cons de_int da_nil)) (dg_name (i := 3) hnd) (dss_cons (ds_set (i := 4) hnd (de_add (de_lc rfl hnd (di_list (de_var (i := 2))) (blkOk_by (own := [("_law_end", 6)]) (by rfl)) (tg_name (i := 6) (by decide)) (fun _ _ _ _ _ => (pg_name (i := 6) hnd rfl (by first | exact Or.inl rfl | exact Or.inr rfl) (by first | exact .inl rfl | exact .inr rfl))) (fun _ _ _ _ _ _ => dts_nil) (fun _ _ _ _ _ _ => (de_add (de_var (i := 6)) de_str))) (de_lc rfl hnd (di_list (de_var (i := 2))) (blkOk_by (own := [("_law_end", 6)]) (by rfl)) (tg_name (i := 6) (by decide)) (fun _ _ _ _ _ => (pg_name (i := 6) hnd rfl (by first | exact Or.inl rfl | exact Or.inr rfl) (by first | exact .inl rfl | exact .inr rfl))) (fun _ _ _ _ _ _ => dts_nil) (fun _ _ _ _ _ _ => (de_add (de_var (i := 6)) de_str)))))
    (dss_one (ds_set (i := 2) hnd (de_sortSet rfl hr T.n_sorted T.n_set (da_cons (de_lc rfl hnd (di_list (de_var (i := 4))) (blkOk_by (own := [("_law_one", 5)]) (by rfl)) (tg_name (i := 5) (by decide)) (fun _ _ _ _ _ => (pg_name (i := 5) hnd rfl (by first | exact Or.inl rfl | exact Or.inr rfl) (by first | exact .inl rfl | exact .inr rfl))) (fun _ _ _ _ _ _ => (dts_one (dt_not (dt_val (de_any1 rfl T.n_any (da_cons (de_lc rfl hnd (di_list (de_var (i := 0))) (blkOk_by (own := [("_law_late", 7)]) (by rfl)) (tg_name (i := 7) (by decide)) (fun _ _ _ _ _ => (pg_name (i := 7) hnd rfl (by first | exact Or.inl rfl | exact Or.inr rfl) (by first | exact .inl rfl | exact .inr rfl))) (fun _ _ _ _ _ _ => dts_nil) (fun _ _ _ _ _ _ => (de_inTx (de_var (i := 7)) (de_var (i := 5))))) da_nil)))))) (fun _ _ _ _ _ _ => (de_slice (de_var (i := 5)) (do_some (de_neg de_int)) do_none))) da_nil))))))
    (dss_one (ds_ret (de_neN hr (de_var (i := 2)) (de_lst da_nil))))))), fun ds Ψ hl hc => ?_⟩
  obtain ⟨dB, bars, bs3, w, rfl, hLs, hb, hbb, hbl, lw, sw, q⟩ := hc
  have kb : kpW bars = kpW bs3 := funext fun u => Bool.eq_iff_iff.mpr (kpW_ok.trans ((hbb u).trans kpW_ok.symm))
  rw [show ent (["_law_banned", "_law_token", "_law_ends", "_law_step", "_law_more", "_law_one", "_law_end", "_law_late"] : List Str).length [dB, wdD w] = [some dB, some (wdD w), none, none, none, none, none, none] from rfl]
  try dsimp only [List.set, getS_z, getS_s, bin2, bin2T, ltD, leD, gtD, geD, cmp_i, add_i, sub_i, min2_i, max2_i]
  have big1 : ∀ n : Nat, n ≤ 1000000 → n ≤ sizeLine := fun n h => Nat.le_trans h big_ok
  refine compD_two (xs := bars.map wdD) (ys := (bars.map fun b => !(Builtin.Str.occurrences ⟨w.toArray⟩ ⟨b.toArray⟩ 0 (⟨w.toArray⟩ : Str).length 1).isEmpty).map .bl) (S := fun M => lstOf M dB = some (bars.map wdD)) (fun K h => ⟨_, hLs, h⟩) hLs (by rw [List.length_map]; exact big1 _ (by omega)) ?_ ?_
  · rw [List.map_map]
    refine two_map fun b hb Q hQ => ?_
    dsimp only [asN, wipeD, List.map, List.set]
    try dsimp only [List.set, getS_z, getS_s, bin2, bin2T, ltD, leD, gtD, geD, cmp_i, add_i, sub_i, min2_i, max2_i]
    exact hQ
  refine ⟨_, rfl, ?_⟩
  have kw : kpW bars w = !((bars.map fun b => !(Builtin.Str.occurrences ⟨w.toArray⟩ ⟨b.toArray⟩ 0 (⟨w.toArray⟩ : Str).length 1).isEmpty).any id) := rfl
  generalize ((bars.map fun b => !(Builtin.Str.occurrences ⟨w.toArray⟩ ⟨b.toArray⟩ 0 (⟨w.toArray⟩ : Str).length 1).isEmpty).any id) = bad at kw
  cases bad with
  | true =>
    refine bl_t rfl (ite_t rfl ⟨_, _, .same, q _ ⟨(fun z => nomatch z), fun z => ?_⟩⟩)
    have := kpW_ok.mpr ((hbb w).mpr z.here)
    rw [kw] at this
    cases this
  | false =>
    have nw : NoBar bs3 w := (hbb w).mp (kpW_ok.mp kw)
    refine bl_f rfl (ite_f rfl (inKI (sl_la2 (by omega) ⟨ln (n := 1) rfl (by decide), ?_⟩)))
    refine forD_n (xs := rngD 0 10) (S := fun _ => True) (fun K h => ⟨⟨by decide, by decide⟩, h⟩) (fun i r M' => M' = B.M ∧ ∃ (l : List (List Nat)) (o3 o4 o5 o6 o7 : Option D), Ends bs3 w i l ∧ l.Nodup ∧ r = [some dB, some (wdD w), some (.lst (l.map wdD)), o3, o4, o5, o6, o7]) ⟨rfl, [la2 w], _, _, _, _, _, Ends.start nw, by simp, rfl⟩ (fun _ _ _ _ => trivial) (fun i d r M' hd hI => ?_) (fun r M' hI => ?_)
    · obtain ⟨rfl, l, o3, o4, o5, o6, o7, E, nd, rfl⟩ := hI
      have few := ends_few nd (E.lr lw)
      have elr := E.lr lw
      try dsimp only [List.set, getS_z, getS_s, bin2, bin2T, ltD, leD, gtD, geD, cmp_i, add_i, sub_i, min2_i, max2_i]
      refine compD_two (xs := l.map wdD) (ys := (l.map (· ++ [76])).map wdD) (S := fun M => lstOf M (.lst (l.map wdD)) = some (l.map wdD)) (fun K h => ⟨_, rfl, h⟩) rfl (by rw [List.length_map]; exact big1 _ (by omega)) ?_ ?_
      · rw [List.map_map]
        refine two_map fun b hb Q hQ => ?_
        dsimp only [asN, wipeD, List.map, List.set]
        try dsimp only [List.set, getS_z, getS_s, bin2, bin2T, ltD, leD, gtD, geD, cmp_i, add_i, sub_i, min2_i, max2_i]
        exact add_w (u := [76]) (by have := (elr b hb).2; omega) (by simp) hQ
      refine compD_two (xs := l.map wdD) (ys := (l.map (· ++ [82])).map wdD) (S := fun M => lstOf M (.lst (l.map wdD)) = some (l.map wdD)) (fun K h => ⟨_, rfl, h⟩) rfl (by rw [List.length_map]; exact big1 _ (by omega)) ?_ ?_
      · rw [List.map_map]
        refine two_map fun b hb Q hQ => ?_
        dsimp only [asN, wipeD, List.map, List.set]
        try dsimp only [List.set, getS_z, getS_s, bin2, bin2T, ltD, leD, gtD, geD, cmp_i, add_i, sub_i, min2_i, max2_i]
        exact add_w (u := [82]) (by have := (elr b hb).2; omega) (by simp) hQ
      refine add_LL rfl rfl (by simp; exact big1 _ (by omega)) ?_
      rw [← List.map_append, show l.map (· ++ [76]) ++ l.map (· ++ [82]) = mvs l from rfl]
      have mlen : (mvs l).length ≤ 14 := by unfold mvs; rw [List.length_append, List.length_map, List.length_map]; omega
      have mlr : ∀ u ∈ mvs l, u.length ≤ 3 := fun u hu => by
        obtain ⟨c, hc, e⟩ := mvs_mem.mp hu
        have := (elr c hc).2
        rcases e with rfl | rfl <;> (rw [List.length_append, List.length_singleton]; omega)
      refine compD_fm (xs := (mvs l).map wdD) (S := fun M => lstOf M (.lst ((mvs l).map wdD)) = some ((mvs l).map wdD)) (fun K h => ⟨_, rfl, h⟩) (fun d => kpW bars (unW d)) (fun d => wdD (la2 (unW d))) rfl (by rw [List.length_map]; exact big1 _ (by omega)) ?_ ?_
      · intro d hd Q R hQ
        obtain ⟨u, hu, rfl⟩ := List.mem_map.mp hd
        dsimp only [asN, wipeD, List.map, List.set]
        try dsimp only [List.set, getS_z, getS_s, bin2, bin2T, ltD, leD, gtD, geD, cmp_i, add_i, sub_i, min2_i, max2_i]
        refine compD_two (xs := bars.map wdD) (ys := (bars.map fun b => !(Builtin.Str.occurrences ⟨u.toArray⟩ ⟨b.toArray⟩ 0 (⟨u.toArray⟩ : Str).length 1).isEmpty).map .bl) (S := fun M => lstOf M dB = some (bars.map wdD)) (fun K h => ⟨_, hLs, h⟩) hLs (by rw [List.length_map]; exact big1 _ (by omega)) ?_ ?_
        · rw [List.map_map]
          refine two_map fun b hb Q hQ => ?_
          dsimp only [asN, wipeD, List.map, List.set]
          try dsimp only [List.set, getS_z, getS_s, bin2, bin2T, ltD, leD, gtD, geD, cmp_i, add_i, sub_i, min2_i, max2_i]
          exact hQ
        refine ⟨_, rfl, ?_⟩
        have ku : kpW bars u = !((bars.map fun b => !(Builtin.Str.occurrences ⟨u.toArray⟩ ⟨b.toArray⟩ 0 (⟨u.toArray⟩ : Str).length 1).isEmpty).any id) := rfl
        generalize ((bars.map fun b => !(Builtin.Str.occurrences ⟨u.toArray⟩ ⟨b.toArray⟩ 0 (⟨u.toArray⟩ : Str).length 1).isEmpty).any id) = bad at ku
        rw [unW_wd, ku] at hQ
        cases bad with
        | true => exact bl_t rfl hQ
        | false => exact bl_f rfl (ite_t rfl (inKI (sl_la2 (by have := mlr u hu; omega) hQ)))
      · rw [ends_fm, kb]
        refine ⟨_, rfl, ?_, fun l' hm nd' => ?_⟩
        · rw [List.length_map, List.length_map]
          exact Nat.le_trans (List.length_filter_le _ _) (by omega)
        · obtain ⟨L2, eL, ndL, EL⟩ := ends_set hb E hm nd'
          rw [eL]
          exact .of ⟨rfl, L2, _, _, _, _, _, EL, ndL, rfl⟩
    · obtain ⟨rfl, l, o3, o4, o5, o6, o7, E, nd, rfl⟩ := hI
      rw [rng_len] at E
      try dsimp only [List.set, getS_z, getS_s, bin2, bin2T, ltD, leD, gtD, geD, cmp_i, add_i, sub_i, min2_i, max2_i]
      refine ⟨ln (n := 0) rfl (by decide), neN_nil rfl ⟨_, _, .same, q _ ?_⟩⟩
      rw [decide_eq_true_iff]
      refine Iff.trans ?_ (Ends.fin hb E)
      exact not_congr List.map_eq_nil_iff
def c__law_all : Ct := fun ds M Ψ _ => ∃ n : Nat, ds = [.int (n : Nat)] ∧ n ≤ 10 ∧ Ψ (.lst ((allW n).map wdD)) M
theorem ok__law_all {f : Addr} {fd : FuncData} {dvs : List V} {kws : List (Str × V)} (T : Txt K mg)  (F : FnZ K "_law_all" "_law_all" s__law_all dvs kws f fd) : FnOk P w K mg base (L2.CX P w) 2 f fd ["_law_length"] (spC K (["_law_length"] : List Str).length (c__law_all)) := by
  have hnd := sc__law_all.nd
  refine fnD F sc__law_all (c__law_all) fun cdv A outer s H E B Ξ hr z => ⟨_, (dss_cons (ds_set (i := 1) hnd (de_lst (da_cons de_str da_nil)))
    (dss_cons (ds_for z.po rfl (di_range1 T.n_range (da_cons (de_var (i := 0)) da_nil)) (dg_name (i := 2) hnd) (dss_cons (ds_set (i := 3) hnd (de_lst da_nil))
    (dss_cons (ds_for z.po rfl (di_list (de_var (i := 1))) (dg_name (i := 4) hnd) (dss_one (ds_set (i := 3) hnd (de_add (de_var (i := 3)) (de_lc rfl hnd (di_str de_str) (blkOk_by (own := [("_law_side", 5)]) (by rfl)) (tg_name (i := 5) (by decide)) (fun _ _ _ _ _ => (pg_name (i := 5) hnd rfl (by first | exact Or.inl rfl | exact Or.inr rfl) (by first | exact .inl rfl | exact .inr rfl))) (fun _ _ _ _ _ _ => dts_nil) (fun _ _ _ _ _ _ => (de_add (de_var (i := 4)) (de_var (i := 5)))))))))
    (dss_one (ds_set (i := 1) hnd (de_var (i := 3)))))))
    (dss_one (ds_ret (de_var (i := 1)))))), fun ds Ψ hl hc => ?_⟩
  obtain ⟨n, rfl, hn, q⟩ := hc
  rw [show ent (["_law_length", "_law_found", "_law_step", "_law_more", "_law_token", "_law_side"] : List Str).length [.int (n : Nat)] = [some (.int (n : Nat)), none, none, none, none, none] from rfl]
  try dsimp only [List.set, getS_z, getS_s, bin2, bin2T, ltD, leD, gtD, geD, cmp_i, add_i, sub_i, min2_i, max2_i]
  have big1 : ∀ n : Nat, n ≤ 1000000 → n ≤ sizeLine := fun n h => Nat.le_trans h big_ok
  have al : ∀ i, i ≤ 10 → (allW i).length ≤ 1024 := fun i hi => by
    rw [allW_len]
    exact Nat.le_trans (Nat.pow_le_pow_right (by decide) hi) (by decide)
  refine ⟨ln (n := 1) rfl (by decide), ?_⟩
  refine forD_n (xs := rngD 0 n) (S := fun _ => True) (fun K h => ⟨⟨by omega, by omega⟩, h⟩) (fun i r M' => M' = B.M ∧ i ≤ n ∧ ∃ o2 o3 o4 o5 : Option D, r = [some (.int (n : Nat)), some (.lst ((allW i).map wdD)), o2, o3, o4, o5]) ⟨rfl, Nat.zero_le _, _, _, _, _, rfl⟩ (fun _ _ _ _ => trivial) (fun i d r M' hd hI => ?_) (fun r M' hI => ?_)
  · obtain ⟨rfl, hi, o2, o3, o4, o5, rfl⟩ := hI
    have hi : i < n := by
      have := (List.getElem?_eq_some_iff.mp hd).1
      rwa [rng_len] at this
    try dsimp only [List.set, getS_z, getS_s, bin2, bin2T, ltD, leD, gtD, geD, cmp_i, add_i, sub_i, min2_i, max2_i]
    have ai := al i (by omega)
    refine ⟨ln (n := 0) rfl (by decide), ?_⟩
    refine forD_n (xs := (allW i).map wdD) (S := fun M => lstOf M (.lst ((allW i).map wdD)) = some ((allW i).map wdD)) (fun K h => ⟨_, rfl, h⟩) (fun j r M' => M' = B.M ∧ ∃ o4 o5 : Option D, r = [some (.int (n : Nat)), some (.lst ((allW i).map wdD)), some d, some (.lst ((((allW i).take j).flatMap fun w => [w ++ [76], w ++ [82]]).map wdD)), o4, o5]) ⟨rfl, _, _, rfl⟩ (fun _ _ _ _ => rfl) (fun j d2 r M' hd2 hI => ?_) (fun r M' hI => ?_)
    · obtain ⟨rfl, o4, o5, rfl⟩ := hI
      rw [List.getElem?_map] at hd2
      obtain ⟨w, hw, rfl⟩ := Option.map_eq_some_iff.mp hd2
      have hwl := allW_mem.mp (List.mem_of_getElem? hw)
      have tl : (((allW i).take j).flatMap fun w => [w ++ [76], w ++ [82]]).length ≤ 2048 := by
        have gen : ∀ l : List (List Nat), (l.flatMap fun w => [w ++ [76], w ++ [82]]).length = 2 * l.length := by
          intro l
          induction l with
          | nil => rfl
          | cons a l ih => rw [List.flatMap_cons, List.length_append, ih, List.length_cons]; simp; omega
        rw [gen, List.length_take]
        omega
      try dsimp only [List.set, getS_z, getS_s, bin2, bin2T, ltD, leD, gtD, geD, cmp_i, add_i, sub_i, min2_i, max2_i]
      refine compD_two (xs := [76, 82].map fun c => D.str ⟨#[c]⟩) (ys := ([76, 82].map fun c => wdD (w ++ [c]))) (S := fun _ => True) (fun K h => h) trivial (big1 _ (by decide)) ?_ ?_
      · refine two_map fun c hc Q hQ => ?_
        dsimp only [asN, wipeD, List.map, List.set]
        try dsimp only [List.set, getS_z, getS_s, bin2, bin2T, ltD, leD, gtD, geD, cmp_i, add_i, sub_i, min2_i, max2_i]
        exact add_w (u := [c]) (by omega) (by simp) hQ
      refine add_LL rfl rfl (by rw [List.length_map, List.length_map]; exact big1 _ (by have : ([76, 82] : List Nat).length = 2 := rfl; omega)) ?_
      have e2 : (((allW i).take (j + 1)).flatMap fun w => [w ++ [76], w ++ [82]]) = (((allW i).take j).flatMap fun w => [w ++ [76], w ++ [82]]) ++ [w ++ [76], w ++ [82]] := by
        rw [List.take_add_one, hw, List.flatMap_append]
        simp
      refine .of ⟨rfl, some (wdD w), o5, ?_⟩
      rw [e2, List.map_append]
      rfl
    · obtain ⟨rfl, o4, o5, rfl⟩ := hI
      rw [List.length_map, List.take_length]
      try dsimp only [List.set, getS_z, getS_s, bin2, bin2T, ltD, leD, gtD, geD, cmp_i, add_i, sub_i, min2_i, max2_i]
      exact .of ⟨rfl, hi, _, _, _, _, rfl⟩
  · obtain ⟨rfl, hi, o2, o3, o4, o5, rfl⟩ := hI
    rw [rng_len]
    try dsimp only [List.set, getS_z, getS_s, bin2, bin2T, ltD, leD, gtD, geD, cmp_i, add_i, sub_i, min2_i, max2_i]
    exact ⟨_, _, .same, q⟩
def c__law_sign_of : Ct := fun ds M Ψ _ => ∃ (dB : D) (bars bs3 : List (List Nat)) (w : List Nat), ds = [dB, wdD w] ∧ lstOf M dB = some (bars.map wdD) ∧ B3 bs3 ∧ (∀ u, NoBar bars u ↔ NoBar bs3 u) ∧ bars.length ≤ 20 ∧ LR w ∧ w.length ≤ 900 ∧ Ψ (.lst ((sgW bs3 w).map .bl)) M
theorem ok__law_sign_of {f : Addr} {fd : FuncData} {dvs : List V} {kws : List (Str × V)} (T : Txt K mg) (h__law_all : Gf P w K mg base "_law_all" 2 (c__law_all) b__law_all) (h__law_goes : Gf P w K mg base "_law_goes" 2 (c__law_goes) b__law_goes) (F : FnZ K "_law_sign_of" "_law_sign_of" s__law_sign_of dvs kws f fd) : FnOk P w K mg base (L2.CX P w) 3 f fd ["_law_banned", "_law_token"] (spC K (["_law_banned", "_law_token"] : List Str).length (c__law_sign_of)) := by
  have hnd := sc__law_sign_of.nd
  refine fnD F sc__law_sign_of (c__law_sign_of) fun cdv A outer s H E B Ξ hr z => ⟨_, (dss_cons (ds_set (i := 2) hnd (de_lst da_nil))
    (dss_cons (ds_for z.po rfl (di_range1 T.n_range (da_cons de_int da_nil)) (dg_name (i := 3) hnd) (dss_one (ds_set (i := 2) hnd (de_add (de_var (i := 2)) (de_lc rfl hnd (di_list (de_call h__law_all hr z (List.Mem.head _) (da_cons (de_var (i := 3)) da_nil))) (blkOk_by (own := [("_law_late", 4)]) (by rfl)) (tg_name (i := 4) (by decide)) (fun _ _ _ _ _ => (pg_name (i := 4) hnd rfl (by first | exact Or.inl rfl | exact Or.inr rfl) (by first | exact .inl rfl | exact .inr rfl))) (fun _ _ _ _ _ _ => dts_nil) (fun _ _ _ _ _ _ => (de_call h__law_goes hr zx_blk (List.Mem.head _) (da_cons (de_var (i := 0)) (da_cons (de_add (de_var (i := 1)) (de_var (i := 4))) da_nil)))))))))
    (dss_one (ds_ret (de_var (i := 2)))))), fun ds Ψ hl hc => ?_⟩
  obtain ⟨dB, bars, bs3, w, rfl, hLs, hb, hbb, hbl, lw, sw, q⟩ := hc
  rw [show ent (["_law_banned", "_law_token", "_law_found", "_law_size", "_law_late"] : List Str).length [dB, wdD w] = [some dB, some (wdD w), none, none, none] from rfl]
  try dsimp only [List.set, getS_z, getS_s, bin2, bin2T, ltD, leD, gtD, geD, cmp_i, add_i, sub_i, min2_i, max2_i]
  have big1 : ∀ n : Nat, n ≤ 1000000 → n ≤ sizeLine := fun n h => Nat.le_trans h big_ok
  have ul : ∀ i, i ≤ 7 → (allU i).length ≤ 127 := by decide
  refine ⟨ln (n := 0) rfl (by decide), ?_⟩
  refine forD_n (xs := rngD 0 7) (S := fun _ => True) (fun K h => ⟨⟨by decide, by decide⟩, h⟩) (fun i r M' => M' = B.M ∧ i ≤ 7 ∧ ∃ o3 o4 : Option D, r = [some dB, some (wdD w), some (.lst (((allU i).map fun v => exB bs3 (w ++ v)).map .bl)), o3, o4]) ⟨rfl, Nat.zero_le _, _, _, rfl⟩ (fun _ _ _ _ => trivial) (fun i d r M' hd hI => ?_) (fun r M' hI => ?_)
  · obtain ⟨rfl, hi, o3, o4, rfl⟩ := hI
    have hi : i < 7 := by
      have := (List.getElem?_eq_some_iff.mp hd).1
      rwa [rng_len] at this
    obtain rfl : d = .int (i : Nat) := by
      rw [rng_get hi] at hd
      cases hd
      rw [Int.zero_add]
    try dsimp only [List.set, getS_z, getS_s, bin2, bin2T, ltD, leD, gtD, geD, cmp_i, add_i, sub_i, min2_i, max2_i]
    have wl : (allW i).length ≤ 64 := by
      rw [allW_len]
      exact Nat.le_trans (Nat.pow_le_pow_right (by decide) (show i ≤ 6 by omega)) (by decide)
    have u1 := ul i (by omega)
    refine compD_two (xs := (allW i).map wdD) (ys := ((allW i).map fun v => exB bs3 (w ++ v)).map .bl) (S := fun M => lstOf M (.lst ((allW i).map wdD)) = some ((allW i).map wdD)) (fun K h => ⟨rfl, rfl, i, rfl, by omega, ⟨_, rfl, h⟩⟩) rfl (by rw [List.length_map]; exact big1 _ (by omega)) ?_ ?_
    · rw [show ((allW i).map fun v => exB bs3 (w ++ v)).map D.bl = (allW i).map (fun v => D.bl (exB bs3 (w ++ v))) from List.map_map ..]
      refine two_map fun v hv Q hQ => ?_
      obtain ⟨a1, a2⟩ := allW_mem.mp hv
      dsimp only [asN, wipeD, List.map, List.set]
      try dsimp only [List.set, getS_z, getS_s, bin2, bin2T, ltD, leD, gtD, geD, cmp_i, add_i, sub_i, min2_i, max2_i]
      refine add_w (u := v) (by omega) (by omega) ⟨rfl, rfl, dB, bars, bs3, w ++ v, rfl, hLs, hb, hbb, hbl, lr_app lw a1, by rw [List.length_append]; omega, fun b hb => ?_⟩
      rw [exB_is hb]
      exact hQ
    refine add_LL rfl rfl (by rw [List.length_map, List.length_map, List.length_map, List.length_map]; exact big1 _ (by omega)) (.of ⟨rfl, hi, some (.int (i : Nat)), o4, ?_⟩)
    rw [allU_suc, List.map_append, List.map_append]
  · obtain ⟨rfl, hi, o3, o4, rfl⟩ := hI
    rw [rng_len]
    try dsimp only [List.set, getS_z, getS_s, bin2, bin2T, ltD, leD, gtD, geD, cmp_i, add_i, sub_i, min2_i, max2_i]
    exact ⟨_, _, .same, q⟩
def c__law_habit : Ct := fun ds M Ψ _ => ∃ (dB : D) (bars bs3 : List (List Nat)), ds = [dB] ∧ lstOf M dB = some (bars.map wdD) ∧ B3 bs3 ∧ (∀ u, NoBar bars u ↔ NoBar bs3 u) ∧ bars.length ≤ 20 ∧ ∀ S, Hm S (Ext (NoBar bs3)) → S.length ≤ 7 → Ψ (.lst (S.map hrD)) M
theorem ok__law_habit {f : Addr} {fd : FuncData} {dvs : List V} {kws : List (Str × V)} (T : Txt K mg) (h__law_goes : Gf P w K mg base "_law_goes" 2 (c__law_goes) b__law_goes) (h__law_sign_of : Gf P w K mg base "_law_sign_of" 3 (c__law_sign_of) b__law_sign_of) (F : FnZ K "_law_habit" "_law_habit" s__law_habit dvs kws f fd) : FnOk P w K mg base (L2.CX P w) 4 f fd ["_law_banned"] (spC K (["_law_banned"] : List Str).length (c__law_habit)) := by
  have hnd := sc__law_habit.nd
  refine fnD F sc__law_habit (c__law_habit) fun cdv A outer s H E B Ξ hr z => ⟨_, (dss_cons (ds_if (dt_not (dt_val (de_call h__law_goes hr z (List.Mem.head _) (da_cons (de_var (i := 0)) (da_cons de_str da_nil))))) (dss_one (ds_ret (de_lstM da_nil))) dss_nil)
    (dss_cons (ds_par3 (i := 1) (j := 2) (l := 3) rfl hnd (da_cons (de_lstM (da_cons de_str da_nil)) (da_cons (de_lstM (da_cons (de_call h__law_sign_of hr z (List.Mem.head _) (da_cons (de_var (i := 0)) (da_cons de_str da_nil))) da_nil)) (da_cons (de_lstM da_nil) da_nil))))
    (dss_cons (ds_for z.po rfl (di_range1 T.n_range (da_cons de_int da_nil)) (dg_name (i := 4) hnd) (dss_one (ds_if (dt_lt (de_var (i := 4)) (de_len T.n_len (da_cons (de_var (i := 1)) da_nil))) (dss_cons (ds_set (i := 5) hnd (de_lstM da_nil))
    (dss_cons (ds_for z.po rfl (di_str de_str) (dg_name (i := 6) hnd) (dss_cons (ds_set (i := 7) hnd (de_add (de_ix (de_var (i := 1)) (de_var (i := 4))) (de_var (i := 6))))
    (dss_one (ds_if (dt_not (dt_val (de_call h__law_goes hr z (List.Mem.head _) (da_cons (de_var (i := 0)) (da_cons (de_var (i := 7)) da_nil))))) (dss_one (ds_expr (de_append (de_var (i := 5)) (da_cons de_non da_nil)))) (dss_cons (ds_set (i := 8) hnd (de_call h__law_sign_of hr z (List.Mem.head _) (da_cons (de_var (i := 0)) (da_cons (de_var (i := 7)) da_nil))))
    (dss_cons (ds_if (dt_nin hr (de_var (i := 8)) (de_var (i := 2))) (dss_cons (ds_expr (de_append (de_var (i := 1)) (da_cons (de_var (i := 7)) da_nil)))
    (dss_one (ds_expr (de_append (de_var (i := 2)) (da_cons (de_var (i := 8)) da_nil))))) dss_nil)
    (dss_one (ds_expr (de_append (de_var (i := 5)) (da_cons (de_lidx hr (de_var (i := 2)) (da_cons (de_var (i := 8)) da_nil)) da_nil))))))))))
    (dss_one (ds_expr (de_append (de_var (i := 3)) (da_cons (de_tup (da_cons (de_ix (de_var (i := 5)) de_int) (da_cons (de_ix (de_var (i := 5)) de_int) da_nil))) da_nil)))))) dss_nil)))
    (dss_one (ds_ret (de_var (i := 3))))))), fun ds Ψ hl hc => ?_⟩
  obtain ⟨dB, bars, bs3, rfl, hLs, hb, hbb, hbl, q⟩ := hc
  rw [show ent (["_law_banned", "_law_words", "_law_signs", "_law_steps", "_law_at", "_law_goals", "_law_side", "_law_late", "_law_sign"] : List Str).length [dB] = [some dB, none, none, none, none, none, none, none, none] from rfl]
  try dsimp only [List.set, getS_z, getS_s, bin2, bin2T, ltD, leD, gtD, geD, cmp_i, add_i, sub_i, min2_i, max2_i]
  have big1 : ∀ n : Nat, n ≤ 100000 → n < sizeLine := fun n h => Nat.lt_of_lt_of_le (show n < 1000000 by omega) big_ok
  have ni : LR ([] : List Nat) := fun _ z => nomatch z
  have keep : ∀ {M4 : Sto} {a' : Addr} {c : Cell}, B.M a' = none → (∀ a, B.M a ≠ none → M4 a = B.M a) → ∀ a, B.M a ≠ none → updM M4 a' c a = B.M a := fun {M4 a' c} ha' h a ha => by
    rw [updM_ne (fun z => ha (by rw [z]; exact ha'))]; exact h a ha
  have kL : ∀ {M4 : Sto}, (∀ a, B.M a ≠ none → M4 a = B.M a) → lstOf M4 dB = some (bars.map wdD) := fun {M4} h => by
    cases dB with
    | ref a => exact lstOf_at (by rw [h a (by rw [lstOf_ref hLs]; exact fun z => nomatch z)]; exact lstOf_ref hLs)
    | _ => exact hLs
  refine ⟨rfl, rfl, dB, bars, bs3, [], rfl, hLs, hb, hbb, hbl, ni, by decide, fun b0 hb0 => ?_⟩
  rw [exB_is hb0]
  cases e0 : exB bs3 [] with
  | false =>
    refine bl_f rfl (ite_t rfl ⟨ln (n := 0) rfl (by decide), fun pe hpe => ⟨_, _, .frz 1, ?_⟩⟩)
    rw [rs_same (keep hpe (fun _ _ => rfl))]
    show Ψ (fzA B.M _ 1 pe) B.M
    have : fzA B.M (updM B.M pe (.lst [])) 1 pe = .lst [] := by
      unfold fzA
      rw [hpe, updM_same]
      rfl
    rw [this]
    refine q [] (hm_nil fun w lw z => ?_) (Nat.zero_le _)
    have := exB_ok.mpr ((nobar_pc bs3).ext [] w lw z)
    rw [e0] at this
    cases this
  | true =>
    refine bl_t rfl (ite_f rfl ⟨ln (n := 1) rfl (by decide), fun pw hpw => ?_⟩)
    have kB1 := keep (c := Cell.lst [D.str ""]) hpw (fun _ _ => rfl)
    refine ⟨rfl, rfl, dB, bars, bs3, [], rfl, kL kB1, hb, hbb, hbl, ni, by decide, ⟨ln (n := 1) rfl (by decide), fun ps hps => ⟨ln (n := 0) rfl (by decide), fun pt hpt => ?_⟩⟩⟩
    have n1 : pw ≠ ps := fun z => by rw [← z, updM_same] at hps; cases hps
    have hps' : B.M ps = none := by rw [updM_ne (Ne.symm n1)] at hps; exact hps
    have n2 : ps ≠ pt := fun z => by rw [← z, updM_same] at hpt; cases hpt
    have n3 : pw ≠ pt := fun z => by rw [← z, updM_ne n1, updM_same] at hpt; cases hpt
    have hpt' : B.M pt = none := by rw [updM_ne (Ne.symm n2), updM_ne (Ne.symm n3)] at hpt; exact hpt
    let sL : List (List Nat) → List D := fun line => (line.map (sgW bs3)).map blL
    let W : List (List Nat) → Hst → Sto → Prop := fun line S M4 => (∀ a, B.M a ≠ none → M4 a = B.M a) ∧ M4 pw = some (.lst (line.map wdD)) ∧ M4 ps = some (.lst (sL line)) ∧ M4 pt = some (.lst (S.map hrD))
    refine forD_n (xs := rngD 0 20) (S := fun _ => True) (fun K h => ⟨⟨by decide, by decide⟩, h⟩) (fun i r M' => ∃ (line : List (List Nat)) (S : Hst) (o4 o5 o6 o7 o8 : Option D), W line S M' ∧ Bfs (nxW bs3) (sgW bs3) [] line S ∧ S.length = min i line.length ∧ (∀ w ∈ line, w.length ≤ i) ∧ r = [some dB, some (.ref pw), some (.ref ps), some (.ref pt), o4, o5, o6, o7, o8]) ⟨[[]], [], _, _, _, _, _, ⟨keep hpt' (keep hps' kB1), by rw [updM_ne n3, updM_ne n1, updM_same]; rfl, by rw [updM_ne n2, updM_same]; rfl, updM_same⟩, Bfs.start _ _ _, rfl, (fun w m => by rw [List.mem_singleton.mp m]; exact Nat.le_refl _), rfl⟩ (fun _ _ _ _ => trivial) (fun i d r M' hd hI => ?_) (fun r M' hI => ?_)
    · obtain ⟨line, S, o4, o5, o6, o7, o8, w, F, hSl, hlen, rfl⟩ := hI
      have hi : i < 20 := by
        have := (List.getElem?_eq_some_iff.mp hd).1
        rwa [rng_len] at this
      obtain rfl : d = .int (i : Nat) := by
        rw [rng_get hi] at hd
        cases hd
        rw [Int.zero_add]
      obtain ⟨few, mem⟩ := sign_few hb e0 F
      try dsimp only [List.set, getS_z, getS_s, bin2, bin2T, ltD, leD, gtD, geD, cmp_i, add_i, sub_i, min2_i, max2_i]
      refine len_at w.2.1 ?_
      rw [List.length_map]
      by_cases hlt : i < line.length
      · have hS : S.length = i := by omega
        obtain ⟨x, hx⟩ : ∃ x, line[i]? = some x := ⟨_, List.getElem?_eq_getElem hlt⟩
        obtain ⟨lx, ax⟩ := mem x (List.mem_of_getElem? hx)
        refine bl_t (decide_eq_true (by omega)) (ite_t rfl ⟨ln (n := 0) rfl (by decide), fun pr hpr => ?_⟩)
        have hxl := hlen x (List.mem_of_getElem? hx)
        have npr : pw ≠ pr ∧ ps ≠ pr ∧ pt ≠ pr := ⟨(fun z => by rw [← z, w.2.1] at hpr; cases hpr), (fun z => by rw [← z, w.2.2.1] at hpr; cases hpr), (fun z => by rw [← z, w.2.2.2] at hpr; cases hpr)⟩
        have Bpr : B.M pr = none := Classical.byContradiction fun z => by have := w.1 pr z; rw [hpr] at this; exact z this.symm
        have appW : ∀ {lq M5} {rl : List (Option Nat)} (o : Option Nat), W lq S M5 → W lq S (updM M5 pr (.lst (hoL rl ++ [hoD o]))) ∧ updM M5 pr (.lst (hoL rl ++ [hoD o])) pr = some (.lst (hoL (rl ++ [o]))) := fun {lq M5 rl} o ⟨h0, h1, h2, h3⟩ =>
          ⟨⟨keep Bpr h0, by rw [updM_ne npr.1]; exact h1, by rw [updM_ne npr.2.1]; exact h2, by rw [updM_ne npr.2.2]; exact h3⟩, by rw [updM_same, hoL_snoc]⟩
        have W0 : W line S (updM M' pr (.lst [])) := ⟨keep Bpr w.1, by rw [updM_ne npr.1]; exact w.2.1, by rw [updM_ne npr.2.1]; exact w.2.2.1, by rw [updM_ne npr.2.2]; exact w.2.2.2⟩
        refine forD_n (xs := Z.signs "LR") (S := fun _ => True) (fun K h => h) (fun j r M'' => W (prtB (nxW bs3) (sgW bs3) line x j).1 S M'' ∧ M'' pr = some (.lst (hoL (prtB (nxW bs3) (sgW bs3) line x j).2)) ∧ (∀ w ∈ (prtB (nxW bs3) (sgW bs3) line x j).1, w.length ≤ i + 1) ∧ (prtB (nxW bs3) (sgW bs3) line x j).1.length ≤ line.length + j ∧ (prtB (nxW bs3) (sgW bs3) line x j).2.length = j ∧ (prtB (nxW bs3) (sgW bs3) line x j).1[i]? = some x ∧ ∃ (o6 o7 o8 : Option D), r = [some dB, some (.ref pw), some (.ref ps), some (.ref pt), some (.int (i : Nat)), some (.ref pr), o6, o7, o8]) ⟨W0, updM_same, fun w m => Nat.le_succ_of_le (hlen w m), Nat.le_refl _, rfl, hx, _, _, _, rfl⟩ (fun _ _ _ _ => trivial) (fun j d r M'' hd h => ?_) (fun r M'' h => ?_)
        · obtain ⟨v, vr, vl, kn1, kn2, vx, o6', o7', o8', rfl⟩ := h
          have hj2 : j = 0 ∨ j = 1 := by
            have := (List.getElem?_eq_some_iff.mp hd).1
            have e : (Z.signs "LR").length = 2 := rfl
            omega
          obtain ⟨t, ht, hd2, hte⟩ : ∃ t, (t = 76 ∨ t = 82) ∧ d = .str ⟨[t].toArray⟩ ∧ t = (if j = 0 then 76 else 82) := by
            rcases hj2 with rfl | rfl
            · cases hd; exact ⟨76, .inl rfl, rfl, rfl⟩
            · cases hd; exact ⟨82, .inr rfl, rfl, rfl⟩
          subst hd2
          have hst : prtB (nxW bs3) (sgW bs3) line x (j + 1) = ((stB (sgW bs3) (prtB (nxW bs3) (sgW bs3) line x j).1 (nxW bs3 x t)).1, (prtB (nxW bs3) (sgW bs3) line x j).2 ++ [(stB (sgW bs3) (prtB (nxW bs3) (sgW bs3) line x j).1 (nxW bs3 x t)).2]) := by rw [hte]; rfl
          generalize prtB (nxW bs3) (sgW bs3) line x j = P at v vr vl kn1 kn2 vx hst
          obtain ⟨lq, rl⟩ := P
          dsimp only at v vr vl kn1 kn2 vx hst
          rw [hst]
          have hrl : (hoL rl).length < sizeLine := by rw [show (hoL rl).length = rl.length from List.length_map ..]; exact big1 _ (by omega)
          have lxt : LR (x ++ [t]) := lr_snoc lx ht
          have nxt : (x ++ [t]).length ≤ i + 1 := by rw [List.length_append, List.length_singleton]; omega
          have hn : nxW bs3 x t = if exB bs3 (x ++ [t]) = true then some (x ++ [t]) else none := rfl
          try dsimp only [List.set, getS_z, getS_s, bin2, bin2T, ltD, leD, gtD, geD, cmp_i, add_i, sub_i, min2_i, max2_i]
          refine ix_at v.2.1 (show (lq.map wdD)[i]? = some (wdD x) from by rw [List.getElem?_map, vx]; rfl) (add_w (u := [t]) (by omega) (by simp) ?_)
          refine ⟨rfl, rfl, dB, bars, bs3, x ++ [t], rfl, kL v.1, hb, hbb, hbl, lxt, by omega, fun b1 hb1 => ?_⟩
          rw [exB_is hb1]
          cases e1 : exB bs3 (x ++ [t]) with
          | false =>
            rw [e1, if_neg (by simp)] at hn
            rw [hn]
            exact bl_f rfl (ite_t rfl ⟨⟨_, lstOf_at vr⟩, append_of vr hrl (.of ⟨(appW (rl := rl) none v).1, (appW (rl := rl) none v).2, vl, by show lq.length ≤ _; omega, by simp [kn2], vx, _, _, _, rfl⟩)⟩)
          | true =>
            rw [e1, if_pos rfl] at hn
            rw [hn]
            refine bl_t rfl (ite_f rfl ⟨rfl, rfl, dB, bars, bs3, x ++ [t], rfl, kL v.1, hb, hbb, hbl, lxt, by omega, ?_⟩)
            try dsimp only [List.set, getS_z, getS_s, bin2, bin2T, ltD, leD, gtD, geD, cmp_i, add_i, sub_i, min2_i, max2_i]
            rw [show D.lst ((sgW bs3 (x ++ [t])).map .bl) = blL (sgW bs3 (x ++ [t])) from rfl]
            refine in_blL (lstOf_at v.2.2.1) fun b2 hb2 => ?_
            have hllw : (lq.map wdD).length < sizeLine := by rw [List.length_map]; exact big1 _ (by omega)
            have hlls : (sL lq).length < sizeLine := by show ((lq.map (sgW bs3)).map blL).length < _; rw [List.length_map, List.length_map]; exact big1 _ (by omega)
            by_cases mem2 : sgW bs3 (x ++ [t]) ∈ lq.map (sgW bs3)
            · rw [hb2.mpr mem2]
              refine bl_f rfl (ite_f rfl ⟨⟨_, lstOf_at vr⟩, ⟨_, lstOf_at v.2.2.1⟩, lidx_blL (lstOf_at v.2.2.1) mem2 (append_of vr hrl (.of ⟨?_, (appW (rl := rl) (some _) v).2, ?_, ?_, by simp [kn2], ?_, _, _, _, rfl⟩))⟩)
              all_goals (try rw [show (stB (sgW bs3) lq (some (x ++ [t]))).1 = lq from insB_pos mem2])
              · exact (appW (rl := rl) (some _) v).1
              · exact vl
              · omega
              · exact vx
            · have eb : b2 = false := Bool.eq_false_iff.mpr fun z => mem2 (hb2.mp z)
              rw [eb]
              have en : (stB (sgW bs3) lq (some (x ++ [t]))).1 = lq ++ [x ++ [t]] := insB_neg mem2
              have k1 : updM M'' pw (.lst (lq.map wdD ++ [wdD (x ++ [t])])) ps = some (.lst (sL lq)) := by rw [updM_ne (Ne.symm n1)]; exact v.2.2.1
              have v2 : W (lq ++ [x ++ [t]]) S (updM (updM M'' pw (.lst (lq.map wdD ++ [wdD (x ++ [t])]))) ps (.lst (sL lq ++ [blL (sgW bs3 (x ++ [t]))]))) :=
                ⟨keep hps' (keep hpw v.1), by rw [updM_ne n1, updM_same, List.map_append]; rfl, by show _ = some (Cell.lst (((lq ++ [x ++ [t]]).map (sgW bs3)).map blL)); rw [updM_same, List.map_append, List.map_append]; rfl, by rw [updM_ne (Ne.symm n2), updM_ne (Ne.symm n3)]; exact v.2.2.2⟩
              have vr2 : updM (updM M'' pw (.lst (lq.map wdD ++ [wdD (x ++ [t])]))) ps (.lst (sL lq ++ [blL (sgW bs3 (x ++ [t]))])) pr = some (.lst (hoL rl)) := by rw [updM_ne (Ne.symm npr.2.1), updM_ne (Ne.symm npr.1)]; exact vr
              have ix : @List.idxOf _ instBEqOfDecidableEq (sgW bs3 (x ++ [t])) ((lq ++ [x ++ [t]]).map (sgW bs3)) = posB (sgW bs3) lq (x ++ [t]) := by
                rw [List.map_append]
                exact idx_new mem2
              refine bl_t rfl (ite_t rfl ⟨⟨_, lstOf_at v.2.1⟩, append_of v.2.1 hllw ⟨⟨_, lstOf_at k1⟩, append_of k1 hlls ⟨⟨_, lstOf_at vr2⟩, ⟨_, lstOf_at v2.2.2.1⟩, lidx_blL (lstOf_at v2.2.2.1) (by simp) ?_⟩⟩⟩)
              rw [ix]
              refine append_of vr2 hrl (.of ⟨?_, (appW (rl := rl) (some _) v2).2, ?_, ?_, by simp [kn2], ?_, _, _, _, rfl⟩)
              all_goals (try rw [en])
              · exact (appW (rl := rl) (some _) v2).1
              · exact fun w m => (List.mem_append.mp m).elim (vl w) fun z => by rw [List.mem_singleton.mp z]; exact nxt
              · rw [List.length_append, List.length_singleton]; omega
              · rw [List.getElem?_append_left (List.getElem?_eq_some_iff.mp vx).1]; exact vx
        · obtain ⟨v, vr, vl, kn1, kn2, vx, o6', o7', o8', rfl⟩ := h
          rw [show (Z.signs "LR").length = 2 from rfl, prtB_two] at v vr vl
          try dsimp only [List.set, getS_z, getS_s, bin2, bin2T, ltD, leD, gtD, geD, cmp_i, add_i, sub_i, min2_i, max2_i]
          have F' := F.row (by rw [hS]; exact hx)
          refine ⟨⟨_, lstOf_at v.2.2.2⟩, ix_at vr rfl (ix_at vr rfl ⟨ln (n := 2) rfl (by decide), append_of v.2.2.2 (by rw [List.length_map]; exact big1 _ (by omega)) (.of ⟨(rowB (nxW bs3) (sgW bs3) line x).1, S ++ [(rowB (nxW bs3) (sgW bs3) line x).2], _, _, _, _, _, ⟨keep hpt' v.1, by rw [updM_ne n3]; exact v.2.1, by rw [updM_ne n2]; exact v.2.2.1, by rw [updM_same, List.map_append]; rfl⟩, F', ?_, vl, rfl⟩)⟩)⟩
          have := F'.le
          rw [List.length_append, List.length_singleton] at this ⊢
          omega
      · refine bl_f (decide_eq_false (by omega)) (ite_f rfl (.of ⟨line, S, _, _, _, _, _, w, F, by omega, fun w m => Nat.le_succ_of_le (hlen w m), rfl⟩))
    · obtain ⟨line, S, o4, o5, o6, o7, o8, w, F, hSl, hlen, rfl⟩ := hI
      rw [rng_len] at hSl
      obtain ⟨few, mem⟩ := sign_few hb e0 F
      have hS : S.length = line.length := by omega
      try dsimp only [List.set, getS_z, getS_s, bin2, bin2T, ltD, leD, gtD, geD, cmp_i, add_i, sub_i, min2_i, max2_i]
      refine ⟨_, _, .frz 1, ?_⟩
      rw [rs_same w.1]
      show Ψ (fzA B.M M' 1 pt) B.M
      have : fzA B.M M' 1 pt = .lst (S.map hrD) := by
        unfold fzA
        rw [hpt', w.2.2.2]
        show D.lst (sbL _ _) = _
        rw [sb_hrL]
      rw [this]
      exact q S (sign_hm hb e0 F hS) (by omega)
def c_is_word : Ct := fun ds M Ψ _ => ∃ d t, ds = [d] ∧ tyN M d = some t ∧ (∀ x, d = .str x → x.cps.size ≤ 1000000) ∧ Ψ (.bl (wB d)) M
theorem ok_is_word {f : Addr} {fd : FuncData} {dvs : List V} {kws : List (Str × V)} (T : Txt K mg)  (F : FnZ K "is_word" "is_word" s_is_word dvs kws f fd) : FnOk P w K mg base (L2.CX P w) 2 f fd ["value"] (spC K (["value"] : List Str).length (c_is_word)) := by
  have hnd := sc_is_word.nd
  refine fnD F sc_is_word (c_is_word) fun cdv A outer s H E B Ξ hr z => ⟨_, (dss_one (ds_ret (de_and (de_isi T.n_isinstance (da_cons (de_var (i := 0)) (da_cons (de_ty (n := "str") T.n_str (by decide +kernel)) da_nil))) (de_and1 (de_all1 rfl T.n_all (da_cons (de_lc rfl hnd (di_str (de_var (i := 0))) (blkOk_by (own := [("turn", 1)]) (by rfl)) (tg_name (i := 1) (by decide)) (fun _ _ _ _ _ => (pg_name (i := 1) hnd rfl (by first | exact Or.inl rfl | exact Or.inr rfl) (by first | exact .inl rfl | exact .inr rfl))) (fun _ _ _ _ _ _ => dts_nil) (fun _ _ _ _ _ _ => (de_in hr (de_var (i := 1)) (de_gstr T.k_TURNS)))) da_nil)))))), fun ds Ψ hl hc => ?_⟩
  obtain ⟨d, t, rfl, ht, hz, q⟩ := hc
  refine ⟨by decide, t, ht, ?_⟩
  by_cases e : t = "str"
  · subst e
    obtain ⟨x, rfl⟩ := ty_str ht
    refine bl_t (by rfl) ?_
    refine compD_map (xs := Z.signs x) (fun K h => h) (fun d => match d with | .str z => .bl (decide ((z.cps.toList.headD 0) ∈ ("LR" : Str).cps.toList)) | _ => .non) trivial (by rw [signs_len]; exact Nat.le_trans (hz x rfl) big_ok) (fun d hd Q q => ?_) ?_
    · obtain ⟨c, _, rfl⟩ := signs_mem hd
      exact ⟨c, rfl, q⟩
    · refine ⟨x.cps.toList.map fun c => decide (c ∈ ("LR" : Str).cps.toList), ?_, _, _, .same, ?_⟩
      · show some _ = some _
        unfold Z.signs
        rw [List.map_map, List.map_map]
        rfl
      · rw [List.all_map]
        exact q
  · have e0 : isB t "str" = false := by
      have h7 := tyN_ok ht
      simp only [okTy, List.mem_cons, List.not_mem_nil, or_false] at h7
      rcases h7 with rfl | rfl | rfl | rfl | rfl | rfl | rfl
      all_goals first
        | rfl
        | exact absurd rfl e
    refine bl_f e0 ?_
    refine ⟨_, _, .same, ?_⟩
    have e2 : wB d = false := by
      cases d <;> first | rfl | (cases ht; exact absurd rfl e)
    rw [e2] at q
    exact q
def c_living : Ct := fun ds M Ψ _ => ∃ T : Hst, ds = [.lst (T.map hrD)] ∧ Rng T ∧ T.length ≤ 4000 ∧ ∀ al, Lvg T al → Ψ (.lst (al.map .bl)) M
theorem ok_living {f : Addr} {fd : FuncData} {dvs : List V} {kws : List (Str × V)} (T : Txt K mg)  (F : FnZ K "living" "living" s_living dvs kws f fd) : FnOk P w K mg base (L2.CX P w) 2 f fd ["steps"] (spC K (["steps"] : List Str).length (c_living)) := by
  have hnd := sc_living.nd
  refine fnD F sc_living (c_living) fun cdv A outer s H E B Ξ hr z => ⟨_, (dss_cons (ds_set (i := 1) hnd (de_lc rfl hnd (di_list (de_var (i := 0))) (blkOk_by (own := [("row", 4)]) (by rfl)) (tg_name (i := 4) (by decide)) (fun _ _ _ _ _ => (pg_name (i := 4) hnd rfl (by first | exact Or.inl rfl | exact Or.inr rfl) (by first | exact .inl rfl | exact .inr rfl))) (fun _ _ _ _ _ _ => dts_nil) (fun _ _ _ _ _ _ => de_bl)))
    (dss_cons (ds_set (i := 2) hnd de_bl)
    (dss_cons (ds_while z.po (dt_val (de_var (i := 2))) (dss_cons (ds_setLc (i := 3) rfl hnd (sw_true rfl rfl rfl rfl) (di_zip T.n_zip (da_cons (de_var (i := 1)) (da_cons (de_var (i := 0)) da_nil))) (blkOk_by (own := [("one", 5), ("row", 4)]) (by rfl)) (tg_tup2 (by decide) (by decide)) (fun _ _ _ _ _ => (pg_tup rfl (pgs_cons (pg_name (i := 5) hnd rfl (by first | exact Or.inl rfl | exact Or.inr rfl) (by first | exact .inl rfl | exact .inr rfl)) (pgs_cons (pg_name (i := 4) hnd rfl (by first | exact Or.inl rfl | exact Or.inr rfl) (by first | exact .inl rfl | exact .inr rfl)) pgs_nil)))) (fun _ _ _ _ _ _ => dts_nil) (fun _ _ _ _ _ _ => (de_and (de_var (i := 5)) (de_and1 (de_any1 rfl T.n_any (da_cons (de_lc rfl hnd (di_tup (de_var (i := 4))) (blkOk_by (own := [("goal", 6)]) (by rfl)) (tg_name (i := 6) (by decide)) (fun _ _ _ _ _ => (pg_name (i := 6) hnd rfl (by first | exact Or.inl rfl | exact Or.inr rfl) (by first | exact .inl rfl | exact .inr rfl))) (fun _ _ _ _ _ _ => dts_nil) (fun _ _ _ _ _ _ => (de_and (de_isnt (de_var (i := 6)) de_non) (de_and1 (de_ix (de_var (i := 1)) (de_var (i := 6))))))) da_nil))))))
    (dss_cons (ds_set (i := 2) hnd (de_ne hr (de_var (i := 3)) (de_var (i := 1))))
    (dss_one (ds_set (i := 1) hnd (de_var (i := 3)))))))
    (dss_one (ds_ret (de_var (i := 1))))))), fun ds Ψ hl hc => ?_⟩
  obtain ⟨T, rfl, R, hl, q⟩ := hc
  rw [show ent (["steps", "alive", "searching", "later", "row", "one", "goal"] : List Str).length [.lst (T.map hrD)] = [some (.lst (T.map hrD)), none, none, none, none, none, none] from rfl]
  try dsimp only [List.set, getS_z, getS_s, bin2, bin2T, ltD, leD, gtD, geD, cmp_i, add_i, sub_i, min2_i, max2_i]
  have small : ∀ n : Nat, n ≤ 4000 → n ≤ sizeLine := fun n h => Nat.le_trans (show n ≤ 1000000 by omega) big_ok
  refine compD_map (xs := T.map hrD) (S := fun M => lstOf M (.lst (T.map hrD)) = some (T.map hrD)) (fun K h => ⟨_, rfl, h⟩) (fun _ => .bl true) rfl (by rw [List.length_map]; exact small _ hl) (fun d hd Q hQ => hQ) ?_
  rw [show (T.map hrD).map (fun _ => D.bl true) = (lvS T 0).map .bl from by unfold lvS; rw [List.map_map, List.map_map]; rfl]
  let J : Nat → En → Sto → Prop := fun n r M' => M' = B.M ∧ ∃ (al : List Bool) (b : Bool) (o3 : Option D), r = [some (.lst (T.map hrD)), some (.lst (al.map .bl)), some (.bl b), o3, none, none, none] ∧ al.length = T.length ∧ (b = true → (∃ k, al = lvS T k) ∧ n = lvC al + 1) ∧ (b = false → Lvg T al ∧ n = 0)
  refine ⟨fun r M' => ∃ n, J n r M', muJ J, .of ⟨_, rfl, lvS T 0, true, none, rfl, lvS_len T 0, fun _ => ⟨⟨0, rfl⟩, rfl⟩, fun h => by cases h⟩, fun r M' h => ?_⟩
  obtain ⟨n, ⟨rfl, al, b, o3, rfl, hal, h1, h2⟩, hmu⟩ := muJ_at h
  generalize hmM : muJ J [some (.lst (T.map hrD)), some (.lst (al.map .bl)), some (.bl b), o3, none, none, none] B.M = mm at *
  try dsimp only [List.set, getS_z, getS_s, bin2, bin2T, ltD, leD, gtD, geD, cmp_i, add_i, sub_i, min2_i, max2_i]
  cases b with
  | false =>
    refine bl_f rfl (ite_f rfl ⟨_, _, .same, q al (h2 rfl).1⟩)
  | true =>
    obtain ⟨⟨k, hk⟩, hn⟩ := h1 rfl
    refine bl_t rfl (ite_t rfl ?_)
    refine compD_two (xs := zipD (al.map .bl) (T.map hrD)) (ys := (lvN T al).map .bl) (S := fun M => lstOf M (.lst (al.map .bl)) = some (al.map .bl) ∧ lstOf M (.lst (T.map hrD)) = some (T.map hrD)) (fun K h => ⟨_, _, rfl, rfl, h⟩) ⟨rfl, rfl⟩ ?_ ?_ ?_
    · rw [zip_bm, List.length_map, List.length_zip]
      exact small _ (by omega)
    · rw [zip_bm]
      unfold lvN
      rw [List.map_map]
      refine two_map fun p hp Q hQ => ?_
      dsimp only [asT2, wipeD, List.map, List.set]
      try dsimp only [List.set, getS_z, getS_s, bin2, bin2T, ltD, leD, gtD, geD, cmp_i, add_i, sub_i, min2_i, max2_i]
      obtain ⟨x, o1, o2⟩ := p
      cases x with
      | false => exact bl_f rfl (ite_f rfl hQ)
      | true =>
        refine bl_t rfl (ite_t rfl ?_)
        refine compD_map (xs := [hoD o1, hoD o2]) (S := fun _ => True) (fun K h => ⟨_, rfl, h⟩) (alD al) trivial (ln (n := 2) rfl (by decide)) (fun d hd Q hQ => ?_) ?_
        · dsimp only [asN, wipeD, List.map, List.set]
          try dsimp only [List.set, getS_z, getS_s, bin2, bin2T, ltD, leD, gtD, geD, cmp_i, add_i, sub_i, min2_i, max2_i]
          obtain ⟨i, hi⟩ := List.getElem?_of_mem hp
          have hT := (List.getElem?_zip_eq_some.mp hi).2
          have hiT := (List.getElem?_eq_some_iff.mp hT).1
          have eT := (List.getElem?_eq_some_iff.mp hT).2
          have item : ∀ o : Option Nat, (∀ j, o = some j → j < al.length) → Q (alD al (hoD o)) B.M → isntD B.M (hoD o) D.non fun z => blD (fun c => if c = true then ixD B.M (.lst (al.map .bl)) (hoD o) fun z => Q z B.M else Q (D.bl false) B.M) z := fun o ho hQ => by
            cases o with
            | none => exact bl_f rfl (ite_f rfl hQ)
            | some j =>
              have hj := ho j rfl
              refine bl_t rfl (ite_t rfl (ix_l (at_nat rfl (show (al.map D.bl)[j]? = some (.bl al[j]) from by rw [List.getElem?_map, List.getElem?_eq_getElem hj]; rfl)) ?_))
              have e : alD al (hoD (some j)) = .bl al[j] := by rw [alD_ho]; show D.bl (al.getD j false) = _; rw [List.getD_eq_getElem?_getD, List.getElem?_eq_getElem hj]; rfl
              rw [e] at hQ
              exact hQ
          have r1 : ∀ j, o1 = some j → j < al.length := fun j e => by rw [hal]; exact R i 76 j (by rw [hnx_l hiT, eT]; exact e)
          have r2 : ∀ j, o2 = some j → j < al.length := fun j e => by rw [hal]; exact R i 82 j (by rw [hnx_r hiT, eT]; exact e)
          rcases List.mem_cons.mp hd with e | hd
          · rw [e] at hQ ⊢
            exact item o1 r1 hQ
          · rw [List.mem_singleton.mp hd] at hQ ⊢
            exact item o2 r2 hQ
        · rw [List.map_cons, List.map_cons, List.map_nil, alD_ho, alD_ho]
          refine ⟨[gl al o1, gl al o2], rfl, ?_⟩
          rw [show [gl al o1, gl al o2].any id = (gl al o1 || gl al o2) from by simp]
          exact hQ
    · refine ne_bls ?_
      have hlN := lvN_len T al hal
      by_cases e : lvN T al = al
      · have hJ : J 0 [some (.lst (T.map hrD)), some (.lst ((lvN T al).map .bl)), some (.bl (decide (lvN T al ≠ al))), some (.lst ((lvN T al).map .bl)), none, none, none] B.M := by
          refine ⟨rfl, _, _, _, rfl, hlN, fun z => absurd e (of_decide_eq_true z), fun _ => ⟨?_, rfl⟩⟩
          rw [e, hk]
          refine lv_fix R (k := k) ?_
          show lvN T (lvS T k) = lvS T k
          rw [← hk]; exact e
        exact .of ⟨⟨_, hJ⟩, Nat.lt_of_le_of_lt (muJ_le hJ) (by rw [hmu, hn]; omega)⟩
      · have hJ : J (lvC (lvN T al) + 1) [some (.lst (T.map hrD)), some (.lst ((lvN T al).map .bl)), some (.bl (decide (lvN T al ≠ al))), some (.lst ((lvN T al).map .bl)), none, none, none] B.M :=
          ⟨rfl, _, _, _, rfl, hlN, fun _ => ⟨⟨k + 1, by rw [hk]; rfl⟩, rfl⟩, fun z => absurd e (of_decide_eq_false z)⟩
        have := lvC_lt hal e
        exact .of ⟨⟨_, hJ⟩, Nat.lt_of_le_of_lt (muJ_le hJ) (by rw [hmu, hn]; omega)⟩
def c_classes_of : Ct := fun ds M Ψ _ => ∃ (T : Hst) (al : List Bool), ds = [.lst (T.map hrD), .lst (al.map .bl)] ∧ Rng T ∧ Lvg T al ∧ T.length ≤ 4000 ∧ ∀ kd, Kds T kd → Ψ (.lst (kd.map hoD)) M
theorem ok_classes_of {f : Addr} {fd : FuncData} {dvs : List V} {kws : List (Str × V)} (T : Txt K mg)  (F : FnZ K "classes_of" "classes_of" s_classes_of dvs kws f fd) : FnOk P w K mg base (L2.CX P w) 2 f fd ["steps", "alive"] (spC K (["steps", "alive"] : List Str).length (c_classes_of)) := by
  have hnd := sc_classes_of.nd
  refine fnD F sc_classes_of (c_classes_of) fun cdv A outer s H E B Ξ hr z => ⟨_, (dss_cons (ds_set (i := 2) hnd (de_lc rfl hnd (di_list (de_var (i := 1))) (blkOk_by (own := [("one", 9)]) (by rfl)) (tg_name (i := 9) (by decide)) (fun _ _ _ _ _ => (pg_name (i := 9) hnd rfl (by first | exact Or.inl rfl | exact Or.inr rfl) (by first | exact .inl rfl | exact .inr rfl))) (fun _ _ _ _ _ _ => dts_nil) (fun _ _ _ _ _ _ => (de_if (dt_val (de_var (i := 9))) de_int de_non))))
    (dss_cons (ds_set (i := 3) hnd de_bl)
    (dss_cons (ds_while z.po (dt_val (de_var (i := 3))) (dss_cons (ds_set (i := 4) hnd de_onew)
    (dss_cons (ds_set (i := 5) hnd (de_lstM da_nil))
    (dss_cons (ds_for z.po rfl (di_enum T.n_enumerate (da_cons (de_var (i := 0)) da_nil)) (dg_tup (n := 2) rfl (dgs_cons (dg_name (i := 6) hnd) (dgs_cons (dg_name (i := 7) hnd) dgs_nil))) (dss_cons (ds_set (i := 8) hnd (de_tpl (da_cons (de_ix (de_var (i := 2)) (de_var (i := 6))) (da_star (de_lc rfl hnd (di_tup (de_var (i := 7))) (blkOk_by (own := [("goal", 10)]) (by rfl)) (tg_name (i := 10) (by decide)) (fun _ _ _ _ _ => (pg_name (i := 10) hnd rfl (by first | exact Or.inl rfl | exact Or.inr rfl) (by first | exact .inl rfl | exact .inr rfl))) (fun _ _ _ _ _ _ => dts_nil) (fun _ _ _ _ _ _ => (de_if (dt_is (de_var (i := 10)) de_non) de_non (de_ix (de_var (i := 2)) (de_var (i := 10)))))) da_nil))))
    (dss_cons (ds_if (dw_and (dt_val (de_ix (de_var (i := 1)) (de_var (i := 6)))) (dw_and1 (dt_onin hr (de_var (i := 8)) (de_var (i := 4))))).pt (dss_one (ds_oput hr (de_olen T.n_len (da_cons (de_var (i := 4)) da_nil)) (de_var (i := 4)) (de_var (i := 8)))) dss_nil)
    (dss_one (ds_expr (de_append (de_var (i := 5)) (da_cons (de_if (dt_val (de_ix (de_var (i := 1)) (de_var (i := 6)))) (de_oget hr (de_var (i := 4)) (de_var (i := 8))) de_non) da_nil)))))))
    (dss_cons (ds_set (i := 3) hnd (de_ne hr (de_lenSc T.n_len rfl hnd (di_list (de_var (i := 5))) (blkOk_by (own := [("one", 9)]) (by rfl)) (tg_name (i := 9) (by decide)) (fun _ _ _ _ _ => (pg_name (i := 9) hnd rfl (by first | exact Or.inl rfl | exact Or.inr rfl) (by first | exact .inl rfl | exact .inr rfl))) (fun _ _ _ _ _ _ => dts_nil) (fun _ _ _ _ _ _ => (de_var (i := 9)))) (de_lenSc T.n_len rfl hnd (di_list (de_var (i := 2))) (blkOk_by (own := [("one", 9)]) (by rfl)) (tg_name (i := 9) (by decide)) (fun _ _ _ _ _ => (pg_name (i := 9) hnd rfl (by first | exact Or.inl rfl | exact Or.inr rfl) (by first | exact .inl rfl | exact .inr rfl))) (fun _ _ _ _ _ _ => dts_nil) (fun _ _ _ _ _ _ => (de_var (i := 9))))))
    (dss_one (ds_set (i := 2) hnd (de_var (i := 5)))))))))
    (dss_one (ds_ret (de_var (i := 2))))))), fun ds Ψ hl hc => ?_⟩
  obtain ⟨T, al, rfl, R, L, hl, q⟩ := hc
  rw [show ent (["steps", "alive", "found", "searching", "places", "later", "room", "row", "key", "one", "goal"] : List Str).length [.lst (T.map hrD), .lst (al.map .bl)] = [some (.lst (T.map hrD)), some (.lst (al.map .bl)), none, none, none, none, none, none, none, none, none] from rfl]
  try dsimp only [List.set, getS_z, getS_s, bin2, bin2T, ltD, leD, gtD, geD, cmp_i, add_i, sub_i, min2_i, max2_i]
  have small : ∀ n : Nat, n ≤ 4000 → n ≤ sizeLine := fun n h => Nat.le_trans (show n ≤ 1000000 by omega) big_ok
  refine compD_map (xs := al.map .bl) (S := fun M => lstOf M (.lst (al.map .bl)) = some (al.map .bl)) (fun K h => ⟨_, rfl, h⟩) (fun d => match d with | .bl true => .int 0 | _ => .non) rfl (by rw [List.length_map, L.len]; exact small _ hl) (fun d hd Q hQ => ?_) ?_
  · obtain ⟨x, _, rfl⟩ := List.mem_map.mp hd
    dsimp only [asN, wipeD, List.map, List.set]
    try dsimp only [List.set, getS_z, getS_s, bin2, bin2T, ltD, leD, gtD, geD, cmp_i, add_i, sub_i, min2_i, max2_i]
    cases x with
    | false => exact bl_f rfl (ite_f rfl hQ)
    | true => exact bl_t rfl (ite_t rfl hQ)
  rw [show (al.map D.bl).map (fun d => match d with | .bl true => D.int 0 | _ => .non) = hoL (al.map fun b => if b = true then some 0 else none) from by
    unfold hoL
    rw [List.map_map, List.map_map]
    refine List.map_congr_left fun b _ => ?_
    cases b <;> rfl]
  have S0 := Sem.start L
  let J : Nat → En → Sto → Prop := fun n r M' => (∀ a, B.M a ≠ none → M' a = B.M a) ∧ ∃ (f : List (Option Nat)) (fd : D) (b : Bool) (o4 o5 o6 o7 o8 : Option D), r = [some (.lst (T.map hrD)), some (.lst (al.map .bl)), some fd, some (.bl b), o4, o5, o6, o7, o8, none, none] ∧ LstIs B.M M' fd (hoL f) ∧ (b = true → (∃ k, Sem T k f) ∧ n = T.length + 1 - (dsc f).length) ∧ (b = false → Kds T f ∧ n = 0)
  refine ⟨fun r M' => ∃ n, J n r M', muJ J, .of ⟨_, fun _ _ => rfl, _, _, true, none, none, none, none, none, rfl, .inl rfl, fun _ => ⟨⟨0, S0⟩, rfl⟩, fun h => by cases h⟩, fun r M' h => ?_⟩
  obtain ⟨n, ⟨hB, f, fd, b, o4, o5, o6, o7, o8, rfl, hf, h1, h2⟩, hmu⟩ := muJ_at h
  generalize hmM : muJ J [some (.lst (T.map hrD)), some (.lst (al.map .bl)), some fd, some (.bl b), o4, o5, o6, o7, o8, none, none] M' = mm at *
  try dsimp only [List.set, getS_z, getS_s, bin2, bin2T, ltD, leD, gtD, geD, cmp_i, add_i, sub_i, min2_i, max2_i]
  cases b with
  | false => exact bl_f rfl (ite_f rfl (ret_hoL hB hf (q f (h2 rfl).1)))
  | true =>
    obtain ⟨⟨k, hS⟩, hn⟩ := h1 rfl
    refine bl_t rfl (ite_t rfl fun p c hp hc => ⟨ln (n := 0) rfl (by decide), fun pl hpl => ?_⟩)
    try dsimp only [List.set, getS_z, getS_s, bin2, bin2T, ltD, leD, gtD, geD, cmp_i, add_i, sub_i, min2_i, max2_i]
    have npl : p ≠ pl := fun z => by rw [← z, updM_same] at hpl; cases hpl
    have hpl' : M' pl = none := by rw [updM_ne (Ne.symm npl)] at hpl; exact hpl
    have Bp : B.M p = none := Classical.byContradiction fun z => by have := hB p z; rw [hp] at this; exact z this.symm
    have Bpl : B.M pl = none := Classical.byContradiction fun z => by have := hB pl z; rw [hpl'] at this; exact z this.symm
    refine forD_n (xs := enumD (T.map hrD)) (S := fun M => lstOf M (.lst (T.map hrD)) = some (T.map hrD)) (fun K h => ⟨_, rfl, h⟩) (fun i r M'' => (∀ a, B.M a ≠ none → M'' a = B.M a) ∧ LstIs B.M M'' fd (hoL f) ∧ fd ≠ .ref p ∧ fd ≠ .ref pl ∧ DioAt M'' p (plO (clF T al f i).1) ∧ M'' pl = some (.lst (hoL (clF T al f i).2)) ∧ ∃ (o6 o7 o8 : Option D), r = [some (.lst (T.map hrD)), some (.lst (al.map .bl)), some fd, some (.bl true), some (.ref p), some (.ref pl), o6, o7, o8, none, none]) ⟨?_, ?_, ?_, ?_, ?_, ?_, _, _, _, rfl⟩ (fun _ _ _ _ => rfl) (fun i d r M'' hd h => ?_) (fun r M'' h => ?_)
    · intro a ha
      rw [updM_ne (fun z => ha (by rw [z]; exact Bpl)), updM_ne (fun z => ha (by rw [z]; exact Bp))]
      exact hB a ha
    · exact (hf.upd (.inl hp)).upd (.inl hpl)
    · rintro rfl
      rcases hf with z | ⟨q', z, _, e⟩
      · cases z
      · cases z; rw [hp] at e; cases e
    · rintro rfl
      rcases hf with z | ⟨q', z, _, e⟩
      · cases z
      · cases z; rw [hpl'] at e; cases e
    · exact hc.upd npl
    · exact updM_same
    · obtain ⟨kB, kf, nf1, nf2, kd, kl, o6, o7, o8, rfl⟩ := h
      obtain ⟨x, hx, rfl⟩ := enum_get hd
      rw [List.getElem?_map] at hx
      obtain ⟨row, hrow, rfl⟩ := Option.map_eq_some_iff.mp hx
      have hi : i < T.length := (List.getElem?_eq_some_iff.mp hrow).1
      have eT := (List.getElem?_eq_some_iff.mp hrow).2
      have hfl := hS.len
      refine ⟨rfl, rfl, ?_⟩
      try dsimp only [List.set, getS_z, getS_s, bin2, bin2T, ltD, leD, gtD, geD, cmp_i, add_i, sub_i, min2_i, max2_i]
      refine ix_is kf (hoL_at (show i < f.length by omega)) ?_
      have item : ∀ (o : Option Nat) (Q : D → Sto → Prop), (∀ j, o = some j → j < f.length) → Q (fkD f (hoD o)) M'' → isD M'' (hoD o) D.non fun z => blD (fun b => if b = true then Q D.non M'' else ixD M'' fd (hoD o) fun z => Q z M'') z := fun o Q ho hQ => by
        cases o with
        | none => exact bl_t rfl (ite_t rfl hQ)
        | some j =>
          refine bl_f rfl (ite_f rfl (ix_is kf (hoL_at (ho j rfl)) ?_))
          rw [fkD_ho] at hQ
          exact hQ
      refine compD_map (xs := [hoD row.1, hoD row.2]) (S := fun _ => True) (fun K h => ⟨_, rfl, h⟩) (fkD f) trivial (ln (n := 2) rfl (by decide)) (fun d hd Q hQ => ?_) ?_
      · dsimp only [asN, wipeD, List.map, List.set]
        try dsimp only [List.set, getS_z, getS_s, bin2, bin2T, ltD, leD, gtD, geD, cmp_i, add_i, sub_i, min2_i, max2_i]
        have r1 : ∀ j, row.1 = some j → j < f.length := fun j e => by rw [hfl]; exact R i 76 j (by rw [hnx_l hi, eT]; exact e)
        have r2 : ∀ j, row.2 = some j → j < f.length := fun j e => by rw [hfl]; exact R i 82 j (by rw [hnx_r hi, eT]; exact e)
        rcases List.mem_cons.mp hd with e | hd
        · rw [e] at hQ ⊢
          exact item _ _ r1 hQ
        · rw [List.mem_singleton.mp hd] at hQ ⊢
          exact item _ _ r2 hQ
      · rw [List.map_cons, List.map_cons, List.map_nil, fkD_ho, fkD_ho]
        refine ⟨_, rfl, ln (n := 3) rfl (by decide), ?_⟩
        try dsimp only [List.set, getS_z, getS_s, bin2, bin2T, ltD, leD, gtD, geD, cmp_i, add_i, sub_i, min2_i, max2_i]
        have ek : D.tpl (hoD (f.getD i none) :: ([hoD (fkx f row.1), hoD (fkx f row.2)] ++ [])) = .tpl (((clK T f i).map oI).map oiD) := by
          unfold clK
          rw [hnx_l hi, hnx_r hi, eT]
          simp only [List.map_cons, List.map_nil, oiD_oI, List.append_nil]
        rw [ek]
        have hal : al.length = T.length := L.len
        refine ix_ln (show (al.map D.bl)[i]? = some (.bl (al.getD i false)) from by rw [List.getElem?_map, List.getElem?_eq_getElem (by omega), List.getD_eq_getElem?_getD, List.getElem?_eq_getElem (by omega)]; rfl) ?_
        have hq : (clF T al f i).1.length ≤ 4000 := Nat.le_trans (clF_le T al f i) (by omega)
        have hq2 : (hoL (clF T al f i).2).length < sizeLine := by
          unfold hoL
          rw [List.length_map, clF_len]
          exact Nat.lt_of_lt_of_le (show i < 1000000 by omega) big_ok
        have hix : (al.map D.bl)[i]? = some (.bl (al.getD i false)) := by rw [List.getElem?_map, List.getElem?_eq_getElem (by omega), List.getD_eq_getElem?_getD, List.getElem?_eq_getElem (by omega)]; rfl
        have kB' : ∀ (M4 : Sto) (c : Cell), (∀ a, B.M a ≠ none → M4 a = B.M a) → ∀ a, B.M a ≠ none → updM M4 pl c a = B.M a := fun M4 c h a ha => by
          rw [updM_ne (fun z => ha (by rw [z]; exact Bpl))]; exact h a ha
        have kfl : ∀ (M4 : Sto) (c : Cell), LstIs B.M M4 fd (hoL f) → LstIs B.M (updM M4 pl c) fd (hoL f) := fun M4 c h => by
          rcases h with h | ⟨p', h, h0, e⟩
          · exact .inl h
          · exact .inr ⟨p', h, h0, by rw [updM_ne (fun z => nf2 (by rw [h, z]))]; exact e⟩
        have kfp : ∀ (M4 : Sto) (c : Cell), LstIs B.M M4 fd (hoL f) → LstIs B.M (updM M4 p c) fd (hoL f) := fun M4 c h => by
          rcases h with h | ⟨p', h, h0, e⟩
          · exact .inl h
          · exact .inr ⟨p', h, h0, by rw [updM_ne (fun z => nf1 (by rw [h, z]))]; exact e⟩
        cases ha : al.getD i false with
        | false =>
          rw [ha] at hix
          refine bl_f rfl (ite_f rfl ⟨⟨_, lstOf_at kl⟩, ix_ln hix (bl_f rfl (ite_f rfl (append_of kl hq2 (.of ⟨kB' _ _ kB, kfl _ _ kf, nf1, nf2, ?_, ?_, _, _, _, rfl⟩))))⟩)
          · rw [clF_f ha]
            exact kd.upd npl
          · rw [clF_f ha, updM_same]
            show some (Cell.lst (hoL (clF T al f i).2 ++ [hoD none])) = _
            rw [← hoL_snoc]
        | true =>
          rw [ha] at hix
          refine bl_t rfl ⟨p, plO (clF T al f i).1, (clK T f i).map oI, rfl, kd, rfl, ?_⟩
          by_cases hk : clK T f i ∈ (clF T al f i).1
          · rw [lkO_in hk]
            refine ite_f rfl ⟨⟨_, lstOf_at kl⟩, ix_ln hix (bl_t rfl (ite_t rfl ⟨p, plO (clF T al f i).1, (clK T f i).map oI, _, rfl, kd, rfl, lkO_in hk, append_of kl hq2 (.of ⟨kB' _ _ kB, kfl _ _ kf, nf1, nf2, ?_, ?_, _, _, _, rfl⟩)⟩))⟩
            · rw [clF_t ha]
              dsimp only
              rw [insB_in hk]
              exact kd.upd npl
            · rw [clF_t ha, updM_same]
              show some (Cell.lst (hoL (clF T al f i).2 ++ [hoD (some (posB id (clF T al f i).1 (clK T f i)))])) = _
              rw [← hoL_snoc]
          · rw [lkO_out hk]
            obtain ⟨po1, po2, po3⟩ := posB_out hk
            refine ite_t rfl ⟨p, plO (clF T al f i).1, rfl, kd, p, plO (clF T al f i).1, (clK T f i).map oI, rfl, kd, rfl, by rw [plG_len]; exact Nat.lt_of_lt_of_le (show (clF T al f i).1.length < 1000000 by omega) big_ok, rfl, fun c2 hc2 => ?_⟩
            rw [plG_len, putO_pl hk] at hc2
            have kl2 : updM M'' p c2 pl = some (.lst (hoL (clF T al f i).2)) := by rw [updM_ne (Ne.symm npl)]; exact kl
            have kB2 : ∀ a, B.M a ≠ none → updM M'' p c2 a = B.M a := fun a ha => by
              rw [updM_ne (fun z => ha (by rw [z]; exact Bp))]; exact kB a ha
            refine ⟨⟨_, lstOf_at kl2⟩, ix_ln hix (bl_t rfl (ite_t rfl ⟨p, plO ((clF T al f i).1 ++ [clK T f i]), (clK T f i).map oI, _, rfl, hc2, rfl, lkO_in (by simp), append_of kl2 hq2 (.of ⟨kB' _ _ kB2, kfl _ _ (kfp _ _ kf), nf1, nf2, ?_, ?_, _, _, _, rfl⟩)⟩))⟩
            · rw [clF_t ha]
              dsimp only
              rw [po3]
              exact hc2.upd npl
            · rw [clF_t ha, updM_same]
              dsimp only
              rw [po1, po2, hoL_snoc]
              rfl
    · obtain ⟨kB, kf, nf1, nf2, kd, kl, o6, o7, o8, rfl⟩ := h
      try dsimp only [List.set, getS_z, getS_s, bin2, bin2T, ltD, leD, gtD, geD, cmp_i, add_i, sub_i, min2_i, max2_i]
      have hlN := clN_len T al f
      have eN : (clF T al f (enumD (T.map hrD)).length).2 = clN T al f := by rw [enum_len, List.length_map]; rfl
      rw [eN] at kl
      have S' := hS.next R L
      refine compS_hoL (f := clN T al f) (S := fun M => lstOf M (.ref pl) = some (hoL (clN T al f))) (fun K h => ⟨_, lstOf_at kl, h⟩) (lstOf_at kl) (by omega) (fun d Q hQ => ?_) (fun d p q h z => ?_) ⟨by rw [List.length_map]; have : scanBound = 4096 := rfl; omega, ?_⟩
      · dsimp only [asN, wipeD, List.map, List.set]
        try dsimp only [List.set, getS_z, getS_s, bin2, bin2T, ltD, leD, gtD, geD, cmp_i, add_i, sub_i, min2_i, max2_i]
        exact hQ
      · exact h _ z
      refine compS_hoL (f := f) (S := fun M => lstOf M fd = some (hoL f)) (fun K h => ⟨_, kf.lst, h⟩) kf.lst (by rw [hS.len]; exact hl) (fun d Q hQ => ?_) (fun d p q h z => ?_) ⟨by rw [List.length_map, hS.len]; have : scanBound = 4096 := rfl; omega, ?_⟩
      · dsimp only [asN, wipeD, List.map, List.set]
        try dsimp only [List.set, getS_z, getS_s, bin2, bin2T, ltD, leD, gtD, geD, cmp_i, add_i, sub_i, min2_i, max2_i]
        exact hQ
      · exact h _ z
      rw [dsc_oI, dsc_oI]
      have le := Sem.dsc_le L hS S'
      have le2 := dsc_le (clN T al f)
      have le3 := dsc_le f
      have hfl := hS.len
      by_cases e : (dsc (clN T al f)).length = (dsc f).length
      · refine neI ?_
        rw [show (!decide (((dsc (clN T al f)).length : Int) = ((dsc f).length : Int))) = false from by simp [e]]
        have hJ : J 0 [some (.lst (T.map hrD)), some (.lst (al.map .bl)), some (.ref pl), some (.bl false), some (.ref p), some (.ref pl), o6, o7, o8, none, none] M'' :=
          ⟨kB, _, _, _, _, _, _, _, _, rfl, .inr ⟨pl, rfl, Bpl, kl⟩, (fun h => by cases h), fun _ => ⟨hS.done R L S' e, rfl⟩⟩
        exact .of ⟨⟨_, hJ⟩, Nat.lt_of_le_of_lt (muJ_le hJ) (by rw [hmu, hn]; omega)⟩
      · refine neI ?_
        rw [show (!decide (((dsc (clN T al f)).length : Int) = ((dsc f).length : Int))) = true from by rw [decide_eq_false (by omega)]; rfl]
        have hJ : J (T.length + 1 - (dsc (clN T al f)).length) [some (.lst (T.map hrD)), some (.lst (al.map .bl)), some (.ref pl), some (.bl true), some (.ref p), some (.ref pl), o6, o7, o8, none, none] M'' :=
          ⟨kB, _, _, _, _, _, _, _, _, rfl, .inr ⟨pl, rfl, Bpl, kl⟩, fun _ => ⟨⟨_, S'⟩, rfl⟩, fun h => by cases h⟩
        exact .of ⟨⟨_, hJ⟩, Nat.lt_of_le_of_lt (muJ_le hJ) (by rw [hmu, hn]; omega)⟩
def c_least_steps (C : Addr) : Ct := fun ds M Ψ _ => ∃ T : Hst, ds = [.lst (T.map hrD)] ∧ Rng T ∧ T.length ≤ 4000 ∧ (∀ S, Hm S (fun w => T ≠ [] ∧ Alive (hnx T) (hgo T (some 0) w)) → S.length ≤ T.length → S.length ≤ 300) ∧ ∀ S, Hm S (fun w => T ≠ [] ∧ Alive (hnx T) (hgo T (some 0) w)) → S.length ≤ T.length → Ψ (.tup (S.map hrD)) M
theorem ok_least_steps {f : Addr} {fd : FuncData} {dvs : List V} {kws : List (Str × V)} (T : Txt K mg) (h_living : Gf P w K mg base "living" 2 (c_living) b_living) (h_classes_of : Gf P w K mg base "classes_of" 2 (c_classes_of) b_classes_of) (x_TooManyRooms : Xf P w K mg base "TooManyRooms" (He.ga K "TooManyRooms") 1 (tag2 "TooManyRooms" "most")) (F : FnZ K "least_steps" "least_steps" s_least_steps dvs kws f fd) : FnOk P w K mg base (L2.CX P w) 3 f fd ["steps"] (spC K (["steps"] : List Str).length (c_least_steps (He.ga K "TooManyRooms"))) := by
  have hnd := sc_least_steps.nd
  refine fnD F sc_least_steps (c_least_steps (He.ga K "TooManyRooms")) fun cdv A outer s H E B Ξ hr z => ⟨_, (dss_cons (ds_set (i := 1) hnd (de_call h_living hr z (List.Mem.head _) (da_cons (de_var (i := 0)) da_nil)))
    (dss_cons (ds_if (dw_or (dt_eqN hr (de_var (i := 0)) (de_lst da_nil)) (dw_or1 (dt_not (dt_val (de_ix (de_var (i := 1)) de_int))))).pt (dss_one (ds_ret (de_tup da_nil))) dss_nil)
    (dss_cons (ds_set (i := 2) hnd (de_call h_classes_of hr z (List.Mem.head _) (da_cons (de_var (i := 0)) (da_cons (de_var (i := 1)) da_nil))))
    (dss_cons (ds_set (i := 3) hnd (de_lstM (da_cons de_int da_nil)))
    (dss_cons (ds_set (i := 4) hnd (de_disp1K (de_ix (de_var (i := 2)) de_int) de_int))
    (dss_cons (ds_set (i := 5) hnd (de_lstM da_nil))
    (dss_cons (ds_set (i := 6) hnd de_int)
    (dss_cons (ds_while z.po (dt_lt (de_var (i := 6)) (de_len T.n_len (da_cons (de_var (i := 3)) da_nil))) (dss_cons (ds_set (i := 7) hnd (de_lstM da_nil))
    (dss_cons (ds_for z.po rfl (di_tup (de_ix (de_var (i := 0)) (de_ix (de_var (i := 3)) (de_var (i := 6))))) (dg_name (i := 8) hnd) (dss_cons (ds_set (i := 9) hnd (de_if (dt_is (de_var (i := 8)) de_non) de_non (de_ix (de_var (i := 2)) (de_var (i := 8)))))
    (dss_cons (ds_if (dw_and (dt_isnt (de_var (i := 9)) de_non) (dw_and1 (dt_dnin hr (de_var (i := 9)) (de_var (i := 4))))).pt (dss_cons (ds_dput hr (de_len T.n_len (da_cons (de_var (i := 3)) da_nil)) (de_var (i := 4)) (de_var (i := 9)))
    (dss_one (ds_expr (de_append (de_var (i := 3)) (da_cons (de_var (i := 8)) da_nil))))) dss_nil)
    (dss_one (ds_expr (de_append (de_var (i := 7)) (da_cons (de_if (dt_is (de_var (i := 9)) de_non) de_non (de_dget hr (de_var (i := 4)) (de_var (i := 9)))) da_nil)))))))
    (dss_cons (ds_expr (de_append (de_var (i := 5)) (da_cons (de_tuple1 T.n_tuple (da_cons (de_var (i := 7)) da_nil)) da_nil)))
    (dss_one (ds_iadd (i := 6) hnd de_int))))))
    (dss_cons (ds_if (dt_gt (de_len T.n_len (da_cons (de_var (i := 5)) da_nil)) (de_gint T.k_MOST_ROOMS)) (dss_one (ds_raise1 x_TooManyRooms hr z rfl (da_cons (de_gint T.k_MOST_ROOMS) da_nil))) dss_nil)
    (dss_one (ds_ret (de_tuple1 T.n_tuple (da_cons (de_var (i := 5)) da_nil))))))))))))), fun ds Ψ hl hc => ?_⟩
  obtain ⟨T, rfl, R, hl, q3, q⟩ := hc
  rw [show ent (["steps", "alive", "kinds", "line", "places", "found", "at", "row", "goal", "kind"] : List Str).length [.lst (T.map hrD)] = [some (.lst (T.map hrD)), none, none, none, none, none, none, none, none, none] from rfl]
  try dsimp only [List.set, getS_z, getS_s, bin2, bin2T, ltD, leD, gtD, geD, cmp_i, add_i, sub_i, min2_i, max2_i]
  have big1 : ∀ n : Nat, n ≤ 100000 → n < sizeLine := fun n h => Nat.lt_of_lt_of_le (show n < 1000000 by omega) big_ok
  have fin0 : ∀ {Ψ' : D → Sto → Prop} {M' : Sto} {l : List D}, (∀ a, B.M a ≠ none → M' a = B.M a) → Ψ' (.tup l) B.M → rtF B.M Ψ' (.tup l) M' := fun hB q => ⟨_, _, .drop, by rw [rs_same hB]; exact q⟩
  refine ⟨rfl, rfl, T, rfl, R, by omega, fun al L => ?_⟩
  try dsimp only [List.set, getS_z, getS_s, bin2, bin2T, ltD, leD, gtD, geD, cmp_i, add_i, sub_i, min2_i, max2_i]
  refine ⟨ln (n := 0) rfl (by decide), eqN_nil rfl ?_⟩
  by_cases hT : T = []
  · refine bl_t (by rw [hT]; rfl) (ite_t rfl (ite_t rfl ⟨ln (n := 0) rfl (by decide), fin0 (fun _ _ => rfl) (q [] (hm_nil fun w lw z => z.1 hT) (Nat.zero_le _))⟩))
  refine bl_f (by rw [decide_eq_false]; intro z; exact hT (List.map_eq_nil_iff.mp z)) (ite_f rfl ?_)
  have hp0 : 0 < T.length := List.length_pos_iff.mpr hT
  have hal : al.length = T.length := L.len
  refine ix_ln (k := 0) (show (al.map D.bl)[0]? = some (.bl (al.getD 0 false)) from by rw [List.getElem?_map, List.getElem?_eq_getElem (by omega), List.getD_eq_getElem?_getD, List.getElem?_eq_getElem (by omega)]; rfl) ?_
  have a0 := L.at_ 0 hp0
  cases ha : al.getD 0 false with
  | false =>
    rw [ha] at a0
    refine bl_f rfl (ite_t rfl ⟨ln (n := 0) rfl (by decide), fin0 (fun _ _ => rfl) (q [] (hm_nil fun w lw z => ?_) (Nat.zero_le _))⟩)
    exact absurd (a0.mpr (alive_pre lw z.2)) (by simp)
  | true =>
    have A0 := a0.mp ha
    refine bl_t rfl (ite_f rfl ⟨rfl, rfl, T, al, rfl, R, L, by omega, fun kd K0 => ?_⟩)
    try dsimp only [List.set, getS_z, getS_s, bin2, bin2T, ltD, leD, gtD, geD, cmp_i, add_i, sub_i, min2_i, max2_i]
    refine ⟨ln (n := 1) rfl (by decide), fun p hp p1 hp1 => ?_⟩
    have kl := K0.len
    have hk0 : (hoL kd)[0]? = some (hoD (kd.getD 0 none)) := hoL_at (by omega)
    obtain ⟨v0, ev0⟩ : ∃ v, kd.getD 0 none = some v := by
      have := (kdS_iff R K0 hp0).mpr A0
      cases e : kd.getD 0 none with
      | none => rw [e] at this; cases this
      | some v => exact ⟨v, rfl⟩
    refine ix_ln (k := 0) hk0 ⟨updM_same, ⟨_, by rw [ev0]; rfl⟩, ln (n := 0) rfl (by decide), fun p2 hp2 => ?_⟩
    have n1 : p ≠ p1 := fun z => by rw [← z, updM_same] at hp1; cases hp1
    have hp1' : B.M p1 = none := by rw [updM_ne (Ne.symm n1)] at hp1; exact hp1
    have n2 : p1 ≠ p2 := fun z => by rw [← z, updM_same] at hp2; cases hp2
    have hp2a : updM B.M p (Cell.lst [.int 0]) p2 = none := by rw [updM_ne (Ne.symm n2), updM_ne (Ne.symm n2)] at hp2; exact hp2
    have n3 : p ≠ p2 := fun z => by rw [← z, updM_same] at hp2a; cases hp2a
    have hp2' : B.M p2 = none := by rw [updM_ne (Ne.symm n3)] at hp2a; exact hp2a
    let J : Nat → En → Sto → Prop := fun n r M' => (∀ a, B.M a ≠ none → M' a = B.M a) ∧ ∃ (line : List Nat) (S : Hst) (o7 o8 o9 : Option D), Bfs (kn T kd) (ke kd) 0 line S ∧ M' p = some (.lst (inL line)) ∧ M' p1 = some (.dic (plG hoD (line.map (ke kd)))) ∧ M' p2 = some (.lst (S.map hrD)) ∧ r = [some (.lst (T.map hrD)), some (.lst (al.map .bl)), some (.lst (hoL kd)), some (.ref p), some (.ref p1), some (.ref p2), some (.int (S.length : Nat)), o7, o8, o9] ∧ n = T.length - S.length
    refine ⟨fun r M' => ∃ n, J n r M', muJ J, .of ⟨_, fun a ha => ?_, [0], [], none, none, none, Bfs.start _ _ _, ?_, ?_, updM_same, rfl, rfl⟩, fun r M' h => ?_⟩
    · rw [updM_ne (fun z => ha (by rw [z]; exact hp2')), updM_ne (fun z => ha (by rw [z]; exact hp1')), updM_ne (fun z => ha (by rw [z]; exact hp1')), updM_ne (fun z => ha (by rw [z]; exact hp))]
    · rw [updM_ne n3, updM_ne n1, updM_ne n1, updM_same]; rfl
    · rw [updM_ne n2, updM_same]
      rfl
    obtain ⟨n, ⟨hB, line, S, o7, o8, o9, F, e0, e1, e2, rfl, hn⟩, hmu⟩ := muJ_at h
    generalize hmM : muJ J [some (.lst (T.map hrD)), some (.lst (al.map .bl)), some (.lst (hoL kd)), some (.ref p), some (.ref p1), some (.ref p2), some (.int (S.length : Nat)), o7, o8, o9] M' = mm at *
    try dsimp only [List.set, getS_z, getS_s, bin2, bin2T, ltD, leD, gtD, geD, cmp_i, add_i, sub_i, min2_i, max2_i]
    have ll := least_len R K0 hT F
    have lsl := F.le
    refine len_at e0 ?_
    rw [show (inL line).length = line.length from List.length_map ..]
    by_cases hlt : S.length < line.length
    · refine bl_t (decide_eq_true (by omega)) (ite_t rfl ⟨ln (n := 0) rfl (by decide), fun pr hpr => ?_⟩)
      obtain ⟨x, hx⟩ : ∃ x, line[S.length]? = some x := ⟨_, List.getElem?_eq_getElem hlt⟩
      have hxT : x < T.length := least_mem R hT F x (List.mem_of_getElem? hx)
      have npr : p ≠ pr ∧ p1 ≠ pr ∧ p2 ≠ pr := ⟨(fun z => by rw [← z, e0] at hpr; cases hpr), (fun z => by rw [← z, e1] at hpr; cases hpr), (fun z => by rw [← z, e2] at hpr; cases hpr)⟩
      have Bpr : B.M pr = none := Classical.byContradiction fun z => by have := hB pr z; rw [hpr] at this; exact z this.symm
      have keep : ∀ {M4 : Sto} {a' : Addr} {c : Cell}, B.M a' = none → (∀ a, B.M a ≠ none → M4 a = B.M a) → ∀ a, B.M a ≠ none → updM M4 a' c a = B.M a := fun {M4 a' c} ha' h a ha => by
        rw [updM_ne (fun z => ha (by rw [z]; exact ha'))]; exact h a ha
      let W : List Nat → List (Option Nat) → Sto → Prop := fun ln rl M4 => (∀ a, B.M a ≠ none → M4 a = B.M a) ∧ M4 p = some (.lst (inL ln)) ∧ M4 p1 = some (.dic (plG hoD (ln.map (ke kd)))) ∧ M4 p2 = some (.lst (S.map hrD)) ∧ M4 pr = some (.lst (hoL rl))
      have appW : ∀ {ln rl M4} (o : Option Nat), W ln rl M4 → W ln (rl ++ [o]) (updM M4 pr (.lst (hoL rl ++ [hoD o]))) := fun {ln rl M4} o ⟨h0, h1, h2, h3, h4⟩ => ⟨keep Bpr h0, by rw [updM_ne npr.1]; exact h1, by rw [updM_ne npr.2.1]; exact h2, by rw [updM_ne npr.2.2]; exact h3, by rw [updM_same, hoL_snoc]⟩
      have newW : ∀ {ln rl M4} (g : Nat), W ln rl M4 → W (ln ++ [g]) rl (updM (updM M4 p1 (.dic (plG hoD (ln.map (ke kd) ++ [ke kd g])))) p (.lst (inL ln ++ [.int (g : Nat)]))) := fun {ln rl M4} g ⟨h0, h1, h2, h3, h4⟩ =>
        ⟨keep hp (keep hp1' h0), by rw [updM_same, inL_snoc], by rw [updM_ne (Ne.symm n1), updM_same, List.map_append]; rfl, by rw [updM_ne (Ne.symm n3), updM_ne (Ne.symm n2)]; exact h3, by rw [updM_ne (Ne.symm npr.1), updM_ne (Ne.symm npr.2.1)]; exact h4⟩
      have W0 : W line [] (updM M' pr (.lst [])) := ⟨keep Bpr hB, by rw [updM_ne npr.1]; exact e0, by rw [updM_ne npr.2.1]; exact e1, by rw [updM_ne npr.2.2]; exact e2, updM_same⟩
      refine forD_n (xs := [hoD (T[x]).1, hoD (T[x]).2]) (S := fun _ => True) (fun K h => ix_at W0.2.1 (show (inL line)[S.length]? = some (.int (x : Nat)) from by rw [List.getElem?_map, hx]; rfl) (ix_ln (show (T.map hrD)[x]? = some (hrD T[x]) from by rw [List.getElem?_map, List.getElem?_eq_getElem hxT]; rfl) ⟨_, rfl, h⟩)) (fun i r M'' => W (prtB (kn T kd) (ke kd) line x i).1 (prtB (kn T kd) (ke kd) line x i).2 M'' ∧ (prtB (kn T kd) (ke kd) line x i).1.length ≤ line.length + i ∧ (prtB (kn T kd) (ke kd) line x i).2.length = i ∧ ∃ (o8 o9 : Option D), r = [some (.lst (T.map hrD)), some (.lst (al.map .bl)), some (.lst (hoL kd)), some (.ref p), some (.ref p1), some (.ref p2), some (.int (S.length : Nat)), some (.ref pr), o8, o9]) ⟨W0, Nat.le_refl _, rfl, _, _, rfl⟩ (fun _ _ _ _ => trivial) (fun i d r M'' hd h => ?_) (fun r M'' h => ?_)
      · obtain ⟨w, kn1, kn2, o8', o9', rfl⟩ := h
        have hi : i < 2 := (List.getElem?_eq_some_iff.mp hd).1
        have hd' : d = hoD (hnx T x (if i = 0 then 76 else 82)) := by
          have : i = 0 ∨ i = 1 := by omega
          rcases this with rfl | rfl
          · cases hd; rw [if_pos rfl, hnx_l hxT]
          · cases hd; rw [if_neg (by decide), hnx_r hxT]
        have hkn : kn T kd x (if i = 0 then 76 else 82) = (hnx T x (if i = 0 then 76 else 82)).bind fun g => if (kd.getD g none).isSome = true then some g else none := rfl
        have hRg := R x (if i = 0 then 76 else 82)
        have hst : prtB (kn T kd) (ke kd) line x (i + 1) = ((stB (ke kd) (prtB (kn T kd) (ke kd) line x i).1 (kn T kd x (if i = 0 then 76 else 82))).1, (prtB (kn T kd) (ke kd) line x i).2 ++ [(stB (ke kd) (prtB (kn T kd) (ke kd) line x i).1 (kn T kd x (if i = 0 then 76 else 82))).2]) := rfl
        generalize hnx T x (if i = 0 then 76 else 82) = o at hd' hkn hRg
        generalize kn T kd x (if i = 0 then 76 else 82) = n0 at hkn hst
        generalize prtB (kn T kd) (ke kd) line x i = P at w kn1 kn2 hst
        obtain ⟨ln, rl⟩ := P
        dsimp only at w kn1 kn2 hst
        rw [hst]
        clear hst hd
        subst hd'
        try dsimp only [List.set, getS_z, getS_s, bin2, bin2T, ltD, leD, gtD, geD, cmp_i, add_i, sub_i, min2_i, max2_i]
        have hrl : (hoL rl).length < sizeLine := by rw [show (hoL rl).length = rl.length from List.length_map ..]; exact big1 _ (by omega)
        have hln : (inL ln).length < sizeLine := by rw [show (inL ln).length = ln.length from List.length_map ..]; exact big1 _ (by omega)
        have inj : ∀ a b : Option Nat, hoD a = hoD b → a = b := fun a b => hoD_inj
        cases o with
        | none =>
          have hn0 : n0 = none := hkn
          subst hn0
          exact bl_t rfl (ite_t rfl (bl_f rfl (ite_f rfl ⟨⟨_, lstOf_at w.2.2.2.2⟩, bl_t rfl (ite_t rfl (append_of w.2.2.2.2 hrl (.of ⟨appW none w, by show ln.length ≤ _; omega, by simp [kn2], _, _, rfl⟩)))⟩)))
        | some g =>
          have hg := hRg g rfl
          have hkn : n0 = if (kd.getD g none).isSome = true then some g else none := hkn
          refine bl_f rfl (ite_f rfl (ix_ln (hoL_at (show g < kd.length by omega)) ?_))
          cases ev : kd.getD g none with
          | none =>
            rw [ev] at hkn
            have hn0 : n0 = none := hkn
            subst hn0
            exact bl_f rfl (ite_f rfl ⟨⟨_, lstOf_at w.2.2.2.2⟩, bl_t rfl (ite_t rfl (append_of w.2.2.2.2 hrl (.of ⟨appW none w, by show ln.length ≤ _; omega, by simp [kn2], _, _, rfl⟩)))⟩)
          | some v =>
            rw [ev] at hkn
            have hn0 : n0 = some g := hkn
            subst hn0
            have ek : ke kd g = some v := ev
            refine bl_t rfl ⟨p1, _, rfl, .inl ⟨w.2.2.1, _, rfl⟩, ?_⟩
            show (if (!(dlook (plG hoD (ln.map (ke kd))) (hoD (some v))).isSome) = true then _ else _)
            rw [← ek]
            by_cases mem : ke kd g ∈ ln.map (ke kd)
            · rw [dlk_in inj mem]
              have key : dlook (plG hoD (ln.map (ke kd))) (.int (v : Nat)) = some (.int (posB (ke kd) ln g : Nat)) := by
                have := dlk_in inj mem
                rw [posB_map, ek] at this
                exact this
              refine ite_f rfl ⟨⟨_, lstOf_at w.2.2.2.2⟩, ?_⟩
              rw [show hoD (ke kd g) = .int (v : Nat) from by rw [ek]; rfl]
              refine bl_f rfl (ite_f rfl ⟨_, _, dcAt w.2.2.1, key, .inl ⟨_, rfl⟩, append_of w.2.2.2.2 hrl (.of ⟨?_, ?_, by simp [kn2], _, _, rfl⟩)⟩)
              · show W (insB (ke kd) ln g) (rl ++ [some (posB (ke kd) ln g)]) _
                rw [insB_pos mem]
                exact appW (some _) w
              · show (insB (ke kd) ln g).length ≤ _
                rw [insB_pos mem]; omega
            · rw [dlk_out inj mem]
              obtain ⟨po1, po2, po3⟩ := posB_out mem
              have key : dlook (plG hoD ((ln ++ [g]).map (ke kd))) (.int (v : Nat)) = some (.int (posB (ke kd) ln g : Nat)) := by
                have := dlk_in inj (ks := ln.map (ke kd) ++ [ke kd g]) (k := ke kd g) (by simp)
                rw [po2, ← po1, posB_map] at this
                rw [List.map_append, List.map_cons, List.map_nil, ← this, ek]
                rfl
              have w1 := newW g w
              refine ite_t rfl (len_at w.2.1 ⟨p1, _, rfl, by rw [plG_len, List.length_map]; exact big1 _ (by omega), .inl ⟨w.2.2.1, ⟨_, by rw [ek]; rfl⟩, ?_⟩⟩)
              rw [show (((inL ln).length : Nat) : Int) = ((ln.map (ke kd)).length : Nat) from by rw [List.length_map, List.length_map], dput_pl inj mem]
              have k0' : updM M'' p1 (.dic (plG hoD (ln.map (ke kd) ++ [ke kd g]))) p = some (.lst (inL ln)) := by rw [updM_ne n1]; exact w.2.1
              refine ⟨⟨_, lstOf_at k0'⟩, append_of k0' hln ⟨⟨_, lstOf_at w1.2.2.2.2⟩, ?_⟩⟩
              rw [show hoD (ke kd g) = .int (v : Nat) from by rw [ek]; rfl]
              refine bl_f rfl (ite_f rfl ⟨_, _, dcAt w1.2.2.1, key, .inl ⟨_, rfl⟩, append_of w1.2.2.2.2 hrl (.of ⟨?_, ?_, by simp [kn2], _, _, rfl⟩)⟩)
              · show W (insB (ke kd) ln g) (rl ++ [some (posB (ke kd) ln g)]) _
                rw [insB_neg mem]
                exact appW (some _) w1
              · show (insB (ke kd) ln g).length ≤ _
                rw [insB_neg mem, List.length_append, List.length_singleton]; omega
      · obtain ⟨w, kn1, kn2, o8', o9', rfl⟩ := h
        rw [show ([hoD (T[x]).1, hoD (T[x]).2] : List D).length = 2 from rfl, prtB_two] at w
        try dsimp only [List.set, getS_z, getS_s, bin2, bin2T, ltD, leD, gtD, geD, cmp_i, add_i, sub_i, min2_i, max2_i]
        have F' := F.row hx
        refine ⟨⟨_, lstOf_at w.2.2.2.1⟩, _, lstOf_at w.2.2.2.2, append_of w.2.2.2.1 (by rw [List.length_map]; exact big1 _ (by omega)) ?_⟩
        show Z.Cl B.M _ [_, _, _, _, _, _, some (.int ((S.length : Nat) + 1)), _, _, _] _
        have hJ : J (T.length - (S ++ [(rowB (kn T kd) (ke kd) line x).2]).length) [some (.lst (T.map hrD)), some (.lst (al.map .bl)), some (.lst (hoL kd)), some (.ref p), some (.ref p1), some (.ref p2), some (.int ((S.length : Nat) + 1)), some (.ref pr), o8', o9'] (updM M'' p2 (.lst (S.map hrD ++ [.tup (hoL [(rowB (kn T kd) (ke kd) line x).2.1, (rowB (kn T kd) (ke kd) line x).2.2])]))) := by
          refine ⟨keep hp2' w.1, _, _, some (.ref pr), o8', o9', F', by rw [updM_ne n3]; exact w.2.1, by rw [updM_ne n2]; exact w.2.2.1, by rw [updM_same, List.map_append]; rfl, ?_, rfl⟩
          rw [List.length_append, List.length_singleton]
          rfl
        exact .of ⟨⟨_, hJ⟩, Nat.lt_of_le_of_lt (muJ_le hJ) (by rw [hmu, hn, List.length_append, List.length_singleton]; omega)⟩
    · refine bl_f (decide_eq_false (by omega)) (ite_f rfl ?_)
      refine len_at e2 ?_
      rw [List.length_map]
      have hmS : Hm S (fun w => T ≠ [] ∧ Alive (hnx T) (hgo T (some 0) w)) := (least_hm R K0 hT A0 F (by omega)).congr fun w lw => ⟨fun z => ⟨hT, z⟩, fun z => z.2⟩
      have h300 := q3 S hmS (by omega)
      refine bl_f (decide_eq_false (by omega)) (ite_f rfl ⟨_, lstOf_at e2, ?_⟩)
      exact fin0 hB (q S hmS (by omega))
def c_barred_steps : Ct := fun ds M Ψ _ => ∃ bars : List (List Nat), ds = [.lst (bars.map wdD)] ∧ (∀ b ∈ bars, LR b ∧ b ≠ []) ∧ (bars.map List.length).sum ≤ 250 ∧ ∀ line T, Bfs (bnx bars) id [] line T → T.length = line.length → Ψ (.lst (T.map hrD)) M
theorem ok_barred_steps {f : Addr} {fd : FuncData} {dvs : List V} {kws : List (Str × V)} (T : Txt K mg)  (F : FnZ K "barred_steps" "barred_steps" s_barred_steps dvs kws f fd) : FnOk P w K mg base (L2.CX P w) 2 f fd ["barred"] (spC K (["barred"] : List Str).length (c_barred_steps)) := by
  have hnd := sc_barred_steps.nd
  refine fnD F sc_barred_steps (c_barred_steps) fun cdv A outer s H E B Ξ hr z => ⟨_, (dss_cons (ds_set (i := 1) hnd (de_disp1K de_str de_bl))
    (dss_cons (ds_for z.po rfl (di_list (de_var (i := 0))) (dg_name (i := 2) hnd) (dss_one (ds_for z.po rfl (di_range1 T.n_range (da_cons (de_len T.n_len (da_cons (de_var (i := 2)) da_nil)) da_nil)) (dg_name (i := 3) hnd) (dss_one (ds_dput hr de_bl (de_var (i := 1)) (de_slice (de_var (i := 2)) do_none (do_some (de_var (i := 3)))))))))
    (dss_cons (ds_set (i := 4) hnd (de_disp1K de_str de_int))
    (dss_cons (ds_set (i := 5) hnd (de_lstM (da_cons de_str da_nil)))
    (dss_cons (ds_set (i := 6) hnd (de_lstM da_nil))
    (dss_cons (ds_set (i := 7) hnd de_int)
    (dss_cons (ds_while z.po (dt_lt (de_var (i := 7)) (de_len T.n_len (da_cons (de_var (i := 5)) da_nil))) (dss_cons (ds_set (i := 8) hnd (de_lstM da_nil))
    (dss_cons (ds_for z.po rfl (di_str (de_gstr T.k_TURNS)) (dg_name (i := 9) hnd) (dss_cons (ds_set (i := 2) hnd (de_add (de_ix (de_var (i := 5)) (de_var (i := 7))) (de_var (i := 9))))
    (dss_cons (ds_if (dt_val (de_any1 rfl T.n_any (da_cons (de_lc rfl hnd (di_list (de_var (i := 0))) (blkOk_by (own := [("one", 11)]) (by rfl)) (tg_name (i := 11) (by decide)) (fun _ _ _ _ _ => (pg_name (i := 11) hnd rfl (by first | exact Or.inl rfl | exact Or.inr rfl) (by first | exact .inl rfl | exact .inr rfl))) (fun _ _ _ _ _ _ => dts_nil) (fun _ _ _ _ _ _ => (de_smN PySem.F.slot_str_endswith PySem.F.type_str_endswith mt_endswith ok_ends (de_var (i := 2)) (da_cons (de_var (i := 11)) da_nil)))) da_nil))) (dss_cons (ds_expr (de_append (de_var (i := 8)) (da_cons de_non da_nil)))
    (dss_one ds_cont)) dss_nil)
    (dss_cons (ds_set (i := 10) hnd de_int)
    (dss_cons (ds_while z.po (dt_dnin hr (de_slice (de_var (i := 2)) (do_some (de_var (i := 10))) do_none) (de_var (i := 1))) (dss_one (ds_iadd (i := 10) hnd de_int)))
    (dss_cons (ds_if (dt_dnin hr (de_slice (de_var (i := 2)) (do_some (de_var (i := 10))) do_none) (de_var (i := 4))) (dss_cons (ds_dput hr (de_len T.n_len (da_cons (de_var (i := 5)) da_nil)) (de_var (i := 4)) (de_slice (de_var (i := 2)) (do_some (de_var (i := 10))) do_none))
    (dss_one (ds_expr (de_append (de_var (i := 5)) (da_cons (de_slice (de_var (i := 2)) (do_some (de_var (i := 10))) do_none) da_nil))))) dss_nil)
    (dss_one (ds_expr (de_append (de_var (i := 8)) (da_cons (de_dget hr (de_var (i := 4)) (de_slice (de_var (i := 2)) (do_some (de_var (i := 10))) do_none)) da_nil))))))))))
    (dss_cons (ds_expr (de_append (de_var (i := 6)) (da_cons (de_tuple1 T.n_tuple (da_cons (de_var (i := 8)) da_nil)) da_nil)))
    (dss_one (ds_iadd (i := 7) hnd de_int))))))
    (dss_one (ds_ret (de_var (i := 6))))))))))), fun ds Ψ hl hc => ?_⟩
  obtain ⟨bars, rfl, hb, hs, q⟩ := hc
  rw [show ent (["barred", "starts", "word", "size", "known", "line", "steps", "at", "row", "turn", "cut", "one"] : List Str).length [.lst (bars.map wdD)] = [some (.lst (bars.map wdD)), none, none, none, none, none, none, none, none, none, none, none] from rfl]
  try dsimp only [List.set, getS_z, getS_s, bin2, bin2T, ltD, leD, gtD, geD, cmp_i, add_i, sub_i, min2_i, max2_i]
  have big1 : ∀ n : Nat, n ≤ 4000 → n < sizeLine := fun n h => Nat.lt_of_lt_of_le (show n < 1000000 by omega) big_ok
  have hsum : ∀ b ∈ bars, b.length ≤ 250 := fun b m => Nat.le_trans (mem_sum m) hs
  have hbl : bars.length ≤ 250 := Nat.le_trans (sum_ge hb) hs
  intro ps hps
  refine ⟨updM_same, ⟨_, rfl⟩, ?_⟩
  refine forD_n (xs := bars.map wdD) (S := fun M => lstOf M (.lst (bars.map wdD)) = some (bars.map wdD)) (fun K h => ⟨_, rfl, h⟩) (fun i r M' => ∃ (l : List (D × D)) (o2 o3 : Option D), (∀ a, B.M a ≠ none → M' a = B.M a) ∧ M' ps = some (.dic l) ∧ StIs l (fun w => isSt (bars.take i) w = true) ∧ l.length ≤ 1 + ((bars.take i).map List.length).sum ∧ r = [some (.lst (bars.map wdD)), some (.ref ps), o2, o3, none, none, none, none, none, none, none, none]) ⟨[(.str "", .bl true)], none, none, ?_, ?_, ?_, ?_, rfl⟩ (fun _ _ _ _ => rfl) (fun i d r M' hd h => ?_) (fun r M' h => ?_)
  · intro a ha
    rw [updM_ne (fun z => ha (by rw [z]; exact hps)), updM_ne (fun z => ha (by rw [z]; exact hps))]
  · exact updM_same
  · intro w
    have e : D.str "" = wdD [] := rfl
    by_cases z : w = []
    · subst z; rw [dlook_pos (q := (D.str "", D.bl true)) e]
      exact ⟨fun _ => rfl, fun _ => rfl⟩
    · rw [dlook_neg (q := (D.str "", D.bl true)) (fun y => z (wdD_inj (e.symm.trans y)).symm)]
      constructor
      · intro k; cases k
      · intro k
        rcases isSt_iff.mp k with k | ⟨b, m, _⟩
        · exact absurd k z
        · cases m
  · simp
  · obtain ⟨l, o2, o3, hB, e1, st, ll, rfl⟩ := h
    rw [List.getElem?_map] at hd
    obtain ⟨b, hb', rfl⟩ := Option.map_eq_some_iff.mp hd
    have mb := List.mem_of_getElem? hb'
    have bl := hsum b mb
    try dsimp only [List.set, getS_z, getS_s, bin2, bin2T, ltD, leD, gtD, geD, cmp_i, add_i, sub_i, min2_i, max2_i]
    refine forD_n (xs := rngD 0 b.length) (S := fun _ => True) (fun K h => ?_) (fun k r M' => ∃ (l : List (D × D)) (o3 : Option D), (∀ a, B.M a ≠ none → M' a = B.M a) ∧ M' ps = some (.dic l) ∧ StIs l (fun w => isSt (bars.take i) w = true ∨ ∃ k' < k, w = b.take k') ∧ l.length ≤ 1 + ((bars.take i).map List.length).sum + k ∧ r = [some (.lst (bars.map wdD)), some (.ref ps), some (wdD b), o3, none, none, none, none, none, none, none, none]) ⟨l, o3, hB, e1, st.congr fun w => ⟨.inl, fun z => z.elim id fun ⟨k', hk, _⟩ => by omega⟩, ll, rfl⟩ (fun _ _ _ _ => trivial) (fun k d r M' hd h => ?_) (fun r M' h => ?_)
    · try dsimp only [List.set, getS_z, getS_s, bin2, bin2T, ltD, leD, gtD, geD, cmp_i, add_i, sub_i, min2_i, max2_i]
      exact len_w (by omega) ⟨⟨by omega, by omega⟩, h⟩
    · obtain ⟨l, o3, hB, e1, st, ll, rfl⟩ := h
      obtain ⟨hk, rfl⟩ := rng_at hd
      try dsimp only [List.set, getS_z, getS_s, bin2, bin2T, ltD, leD, gtD, geD, cmp_i, add_i, sub_i, min2_i, max2_i]
      have tk := sum_take bars i
      rw [show (0 : Int) + (k : Nat) = (k : Nat) by omega]
      refine inKI (sl_take (by omega) ⟨ps, l, rfl, big1 _ (by omega), .inl ⟨e1, ⟨_, rfl⟩, .of ⟨_, _, fun a ha => ?_, updM_same, st.put.congr fun w => ?_, Nat.le_trans (dput_le _ _ _) (by omega), rfl⟩⟩⟩)
      · rw [updM_ne (fun z => ha (by rw [z]; exact hps))]; exact hB a ha
      · constructor
        · rintro ((z | ⟨k', hk', e⟩) | e)
          · exact .inl z
          · exact .inr ⟨k', by omega, e⟩
          · exact .inr ⟨k, by omega, e⟩
        · rintro (z | ⟨k', hk', e⟩)
          · exact .inl (.inl z)
          · by_cases c : k' = k
            · exact .inr (by rw [← c]; exact e)
            · exact .inl (.inr ⟨k', by omega, e⟩)
    · obtain ⟨l, o3, hB, e1, st, ll, rfl⟩ := h
      rw [rng_len] at st ll
      refine .of ⟨l, _, _, hB, e1, st.congr fun w => (isSt_take hb' w).symm, ?_, rfl⟩
      rw [sum_step hb']; omega
  obtain ⟨l, o2, o3, hB, e1, st, ll, rfl⟩ := h
  rw [List.length_map, List.take_length] at st
  try dsimp only [List.set, getS_z, getS_s, bin2, bin2T, ltD, leD, gtD, geD, cmp_i, add_i, sub_i, min2_i, max2_i]
  intro p hp
  refine ⟨updM_same, ⟨_, rfl⟩, ln (n := 1) rfl (by decide), fun pl hpl => ⟨ln (n := 0) rfl (by decide), fun pt hpt => ?_⟩⟩
  have nB : ∀ {a : Addr}, M' a = none → B.M a = none := fun {a} h => Classical.byContradiction fun z => by have := hB a z; rw [h] at this; exact z this.symm
  have n1 : p ≠ pl := fun z => by rw [← z, updM_same] at hpl; cases hpl
  have hpl' : M' pl = none := by rw [updM_ne (Ne.symm n1), updM_ne (Ne.symm n1)] at hpl; exact hpl
  have n2 : pl ≠ pt := fun z => by rw [← z, updM_same] at hpt; cases hpt
  have n3 : p ≠ pt := fun z => by rw [← z, updM_ne n1, updM_same] at hpt; cases hpt
  have hpt' : M' pt = none := by rw [updM_ne (Ne.symm n2), updM_ne (Ne.symm n3), updM_ne (Ne.symm n3)] at hpt; exact hpt
  have s1 : ps ≠ p := fun z => by rw [z, hp] at e1; cases e1
  have s2 : ps ≠ pl := fun z => by rw [z, hpl'] at e1; cases e1
  have s3 : ps ≠ pt := fun z => by rw [z, hpt'] at e1; cases e1
  let W : List (List Nat) → Hst → Sto → Prop := fun line S M4 => (∀ a, B.M a ≠ none → M4 a = B.M a) ∧ M4 ps = some (.dic l) ∧ M4 p = some (.dic (plG wdD line)) ∧ M4 pl = some (.lst (line.map wdD)) ∧ M4 pt = some (.lst (S.map hrD))
  have keep : ∀ {M4 : Sto} {a' : Addr} {c : Cell}, B.M a' = none → (∀ a, B.M a ≠ none → M4 a = B.M a) → ∀ a, B.M a ≠ none → updM M4 a' c a = B.M a := fun {M4 a' c} ha' h a ha => by
    rw [updM_ne (fun z => ha (by rw [z]; exact ha'))]; exact h a ha
  let J : Nat → En → Sto → Prop := fun n r M4 => ∃ (line : List (List Nat)) (S : Hst) (o2 o3 o8 o9 o10 o11 : Option D), W line S M4 ∧ Bfs (bnx bars) id [] line S ∧ r = [some (.lst (bars.map wdD)), some (.ref ps), o2, o3, some (.ref p), some (.ref pl), some (.ref pt), some (.int (S.length : Nat)), o8, o9, o10, o11] ∧ n = 251 - S.length
  refine ⟨fun r M' => ∃ n, J n r M', muJ J, .of ⟨_, [[]], [], _, _, _, _, _, _, ⟨keep (nB hpt') (keep (nB hpl') (keep (nB hp) (keep (nB hp) hB))), ?_, ?_, ?_, updM_same⟩, Bfs.start _ _ _, rfl, rfl⟩, fun r M4 h => ?_⟩
  · rw [updM_ne s3, updM_ne s2, updM_ne s1, updM_ne s1]; exact e1
  · rw [updM_ne n3, updM_ne n1, updM_same]; rfl
  · rw [updM_ne n2, updM_same]; rfl
  obtain ⟨n, ⟨line, S, o2, o3, o8, o9, o10, o11, w, F, rfl, hn⟩, hmu⟩ := muJ_at h
  generalize hmM : muJ J [some (.lst (bars.map wdD)), some (.ref ps), o2, o3, some (.ref p), some (.ref pl), some (.ref pt), some (.int (S.length : Nat)), o8, o9, o10, o11] M4 = mm at *
  try dsimp only [List.set, getS_z, getS_s, bin2, bin2T, ltD, leD, gtD, geD, cmp_i, add_i, sub_i, min2_i, max2_i]
  have hb' : ∀ b ∈ bars, b ≠ [] := fun b m => (hb b m).2
  have lle := bfs_bar_le F
  have lsl := F.le
  refine len_at w.2.2.2.1 ?_
  rw [List.length_map]
  by_cases hlt : S.length < line.length
  rotate_left
  · refine bl_f (decide_eq_false (by omega)) (ite_f rfl ⟨_, _, .frz 1, ?_⟩)
    rw [rs_same w.1]
    show Ψ (fzA B.M M4 1 pt) B.M
    have : fzA B.M M4 1 pt = .lst (S.map hrD) := by
      unfold fzA
      rw [nB hpt', w.2.2.2.2]
      show D.lst (sbL _ _) = _
      rw [sb_hrL]
    rw [this]
    exact q line S F (by omega)
  refine bl_t (decide_eq_true (by omega)) (ite_t rfl ⟨ln (n := 0) rfl (by decide), fun pr hpr => ?_⟩)
  obtain ⟨x, hx⟩ : ∃ x, line[S.length]? = some x := ⟨_, List.getElem?_eq_getElem hlt⟩
  have hxs := bfs_starts F x (List.mem_of_getElem? hx)
  have hxl := isSt_len hxs hsum
  have Bpr : B.M pr = none := Classical.byContradiction fun z => by have := w.1 pr z; rw [hpr] at this; exact z this.symm
  have npr : ps ≠ pr ∧ p ≠ pr ∧ pl ≠ pr ∧ pt ≠ pr := ⟨(fun z => by rw [← z, w.2.1] at hpr; cases hpr), (fun z => by rw [← z, w.2.2.1] at hpr; cases hpr), (fun z => by rw [← z, w.2.2.2.1] at hpr; cases hpr), (fun z => by rw [← z, w.2.2.2.2] at hpr; cases hpr)⟩
  have appW : ∀ {ln M5} {rl : List (Option Nat)} (o : Option Nat), W ln S M5 → W ln S (updM M5 pr (.lst (hoL rl ++ [hoD o]))) ∧ updM M5 pr (.lst (hoL rl ++ [hoD o])) pr = some (.lst (hoL (rl ++ [o]))) := fun {ln M5 rl} o ⟨h0, h1, h2, h3, h4⟩ =>
    ⟨⟨keep Bpr h0, by rw [updM_ne npr.1]; exact h1, by rw [updM_ne npr.2.1]; exact h2, by rw [updM_ne npr.2.2.1]; exact h3, by rw [updM_ne npr.2.2.2]; exact h4⟩, by rw [updM_same, hoL_snoc]⟩
  have W0 : W line S (updM M4 pr (.lst [])) := ⟨keep Bpr w.1, by rw [updM_ne npr.1]; exact w.2.1, by rw [updM_ne npr.2.1]; exact w.2.2.1, by rw [updM_ne npr.2.2.1]; exact w.2.2.2.1, by rw [updM_ne npr.2.2.2]; exact w.2.2.2.2⟩
  refine forD_n (xs := Z.signs "LR") (S := fun _ => True) (fun K h => h) (fun i r M'' => W (prtB (bnx bars) id line x i).1 S M'' ∧ M'' pr = some (.lst (hoL (prtB (bnx bars) id line x i).2)) ∧ (∃ m, (prtB (bnx bars) id line x i).1 = line ++ m) ∧ (prtB (bnx bars) id line x i).1.length ≤ line.length + i ∧ (prtB (bnx bars) id line x i).2.length = i ∧ ∃ (o2 o3 o9 o10 o11 : Option D), r = [some (.lst (bars.map wdD)), some (.ref ps), o2, o3, some (.ref p), some (.ref pl), some (.ref pt), some (.int (S.length : Nat)), some (.ref pr), o9, o10, o11]) ⟨W0, updM_same, ⟨[], by simp [prtB]⟩, Nat.le_refl _, rfl, _, _, _, _, _, rfl⟩ (fun _ _ _ _ => trivial) (fun i d r M'' hd h => ?_) (fun r M'' h => ?_)
  · obtain ⟨v, vr, ⟨m, vm⟩, kn1, kn2, o2', o3', o9', o10', o11', rfl⟩ := h
    rw [signs_LR] at hd
    have hi : i < 2 := (List.getElem?_eq_some_iff.mp hd).1
    obtain ⟨t, ht, rfl, htt⟩ : ∃ t, (t = 76 ∨ t = 82) ∧ d = wdD [t] ∧ t = if i = 0 then 76 else 82 := by
      have : i = 0 ∨ i = 1 := by omega
      rcases this with rfl | rfl
      · cases hd; exact ⟨76, .inl rfl, rfl, rfl⟩
      · cases hd; exact ⟨82, .inr rfl, rfl, rfl⟩
    have hst : prtB (bnx bars) id line x (i + 1) = ((stB id (prtB (bnx bars) id line x i).1 (bnx bars x t)).1, (prtB (bnx bars) id line x i).2 ++ [(stB id (prtB (bnx bars) id line x i).1 (bnx bars x t)).2]) := by rw [htt]; rfl
    generalize prtB (bnx bars) id line x i = P at v vr vm kn1 kn2 hst
    obtain ⟨ln, rl⟩ := P
    dsimp only at v vr vm kn1 kn2 hst
    rw [hst]
    have hx' : (ln.map wdD)[S.length]? = some (wdD x) := by rw [List.getElem?_map, vm, List.getElem?_append_left hlt, hx]; rfl
    clear hst hd htt
    try dsimp only [List.set, getS_z, getS_s, bin2, bin2T, ltD, leD, gtD, geD, cmp_i, add_i, sub_i, min2_i, max2_i]
    refine ix_at v.2.2.2.1 hx' (addW rfl rfl (by simp; omega) ?_)
    generalize hw : x ++ [t] = wd
    have hwl : wd.length ≤ 251 := by rw [← hw]; simp; omega
    have hbx : bnx bars x t = if hitB bars wd = true then none else some (cutS bars wd) := by rw [← hw]; rfl
    have hrl : (hoL rl).length < sizeLine := by rw [show (hoL rl).length = rl.length from List.length_map ..]; exact big1 _ (by omega)
    have hll : (ln.map wdD).length < sizeLine := by rw [List.length_map]; exact big1 _ (by omega)
    have inj : ∀ a b : List Nat, wdD a = wdD b → a = b := fun a b => wdD_inj
    refine compD_two (xs := bars.map wdD) (ys := (bars.map fun b => b.isSuffixOf wd).map .bl) (S := fun M => lstOf M (.lst (bars.map wdD)) = some (bars.map wdD)) (fun K h => ⟨_, rfl, h⟩) rfl (by rw [List.length_map]; exact Nat.le_of_lt (big1 _ (by omega))) ?_ ⟨bars.map fun b => b.isSuffixOf wd, rfl, ?_⟩
    · rw [List.map_map]
      refine two_map fun b hb Q hQ => ?_
      dsimp only [asN, wipeD, List.map, List.set]
      try dsimp only [List.set, getS_z, getS_s, bin2, bin2T, ltD, leD, gtD, geD, cmp_i, add_i, sub_i, min2_i, max2_i]
      refine ⟨trivial, ?_⟩
      show Q (.bl (Txt.endswith _ _)) _
      rw [ends_w]
      exact hQ
    rw [show (bars.map fun b => b.isSuffixOf wd).any id = hitB bars wd from by unfold hitB; rw [List.any_map]; rfl]
    cases hh : hitB bars wd with
    | true =>
      rw [hh, if_pos rfl] at hbx
      rw [hbx]
      refine bl_t rfl ⟨⟨_, lstOf_at vr⟩, append_of vr hrl (.of ⟨(appW (rl := rl) none v).1, (appW (rl := rl) none v).2, ⟨m, vm⟩, ?_, by simp [kn2], _, _, _, _, _, rfl⟩)⟩
      show ln.length ≤ _
      omega
    | false =>
      rw [hh, if_neg (by simp)] at hbx
      rw [hbx]
      let J2 : Nat → En → Sto → Prop := fun n r M5 => ∃ k : Nat, M5 = M'' ∧ k ≤ wd.length ∧ cutS bars (wd.drop k) = cutS bars wd ∧ r = [some (.lst (bars.map wdD)), some (.ref ps), some (wdD wd), o3', some (.ref p), some (.ref pl), some (.ref pt), some (.int (S.length : Nat)), some (.ref pr), some (wdD [t]), some (.int (k : Nat)), o11'] ∧ n = wd.length - k
      refine bl_f rfl ⟨fun r M' => ∃ n, J2 n r M', muJ J2, .of ⟨_, 0, rfl, Nat.zero_le _, rfl, rfl, rfl⟩, fun r M5 h => ?_⟩
      obtain ⟨n5, ⟨k, rfl, hk, hc, rfl, hn5⟩, hmu5⟩ := muJ_at h
      generalize hmM5 : muJ J2 [some (.lst (bars.map wdD)), some (.ref ps), some (wdD wd), o3', some (.ref p), some (.ref pl), some (.ref pt), some (.int (S.length : Nat)), some (.ref pr), some (wdD [t]), some (.int (k : Nat)), o11'] M5 = mm5 at *
      try dsimp only [List.set, getS_z, getS_s, bin2, bin2T, ltD, leD, gtD, geD, cmp_i, add_i, sub_i, min2_i, max2_i]
      refine inKI (sl_drop (by omega) ⟨ps, l, rfl, .inl ⟨v.2.1, ⟨_, rfl⟩⟩, ?_⟩)
      show (if (!(dlook l (wdD (wd.drop k))).isSome) = true then _ else _)
      have stk := st (wd.drop k)
      by_cases hs' : isSt bars (wd.drop k) = true
      · rw [stk.mpr hs']
        refine ite_f rfl ?_
        have hu : cutS bars wd = wd.drop k := by rw [← hc]; exact cutS_here hs'
        rw [hu]
        refine inKI (sl_drop (by omega) ⟨p, _, rfl, .inl ⟨v.2.2.1, ⟨_, rfl⟩⟩, ?_⟩)
        show (if (!(dlook (plG wdD ln) (wdD (wd.drop k))).isSome) = true then _ else _)
        by_cases mem : wd.drop k ∈ ln
        · rw [dlk_in inj mem]
          refine ite_f rfl ⟨⟨_, lstOf_at vr⟩, inKI (sl_drop (by omega) ⟨_, _, dcAt v.2.2.1, dlk_in inj mem, .inl ⟨_, rfl⟩, append_of vr hrl (.of ⟨?_, (appW (rl := rl) (some _) v).2, ?_, ?_, by simp [kn2], _, _, _, _, _, rfl⟩)⟩)⟩
          · show W (insB id ln (wd.drop k)) S _
            rw [insB_in mem]
            exact (appW (rl := rl) (some _) v).1
          · show ∃ m, insB id ln (wd.drop k) = line ++ m
            rw [insB_in mem]; exact ⟨m, vm⟩
          · show (insB id ln (wd.drop k)).length ≤ _
            rw [insB_in mem]; omega
        · rw [dlk_out inj mem]
          obtain ⟨po1, po2, po3⟩ := posB_out mem
          refine ite_t rfl (len_at v.2.2.2.1 (inKI (sl_drop (by omega) ⟨p, _, rfl, by rw [plG_len]; exact big1 _ (by omega), .inl ⟨v.2.2.1, ⟨_, rfl⟩, ?_⟩⟩)))
          rw [show (((ln.map wdD).length : Nat) : Int) = (ln.length : Nat) from by rw [List.length_map]]
          rw [show dput (plG wdD ln) (D.str ⟨(wd.drop k).toArray⟩) (.int (ln.length : Nat)) = plG wdD (ln ++ [wd.drop k]) from dput_pl inj mem]
          have k3 : updM M5 p (.dic (plG wdD (ln ++ [wd.drop k]))) pl = some (.lst (ln.map wdD)) := by rw [updM_ne (Ne.symm n1)]; exact v.2.2.2.1
          have k2 : updM (updM M5 p (.dic (plG wdD (ln ++ [wd.drop k])))) pl (.lst (ln.map wdD ++ [wdD (wd.drop k)])) p = some (.dic (plG wdD (ln ++ [wd.drop k]))) := by rw [updM_ne n1, updM_same]
          have vr2 : updM (updM M5 p (.dic (plG wdD (ln ++ [wd.drop k])))) pl (.lst (ln.map wdD ++ [wdD (wd.drop k)])) pr = some (.lst (hoL rl)) := by rw [updM_ne (Ne.symm npr.2.2.1), updM_ne (Ne.symm npr.2.1)]; exact vr
          have v2 : W (ln ++ [wd.drop k]) S (updM (updM M5 p (.dic (plG wdD (ln ++ [wd.drop k])))) pl (.lst (ln.map wdD ++ [wdD (wd.drop k)]))) :=
            ⟨keep (nB hpl') (keep (nB hp) v.1), by rw [updM_ne s2, updM_ne s1]; exact v.2.1, k2, by rw [updM_same, wdL_snoc], by rw [updM_ne (Ne.symm n2), updM_ne (Ne.symm n3)]; exact v.2.2.2.2⟩
          have key := dlk_in inj (ks := ln ++ [wd.drop k]) (k := wd.drop k) (by simp)
          rw [po2, ← po1] at key
          refine ⟨⟨_, lstOf_at k3⟩, inKI (sl_drop (by omega) (append_of k3 hll ⟨⟨_, lstOf_at vr2⟩, inKI (sl_drop (by omega) ⟨_, _, dcAt k2, key, .inl ⟨_, rfl⟩, append_of vr2 hrl (.of ⟨?_, (appW (rl := rl) (some _) v2).2, ?_, ?_, by simp [kn2], _, _, _, _, _, rfl⟩)⟩)⟩))⟩
          · show W (insB id ln (wd.drop k)) S _
            rw [po3]
            exact (appW (rl := rl) (some _) v2).1
          · show ∃ m, insB id ln (wd.drop k) = line ++ m
            rw [po3]; exact ⟨m ++ [wd.drop k], by rw [vm, List.append_assoc]⟩
          · show (insB id ln (wd.drop k)).length ≤ _
            rw [po3, List.length_append, List.length_singleton]; omega
      · have e : (dlook l (wdD (wd.drop k))).isSome = false := by
          cases z : (dlook l (wdD (wd.drop k))).isSome with
          | false => rfl
          | true => exact absurd (stk.mp z) hs'
        rw [e]
        refine ite_t rfl ?_
        have hk2 : k < wd.length := by
          apply Classical.byContradiction
          intro z
          rw [List.drop_of_length_le (by omega)] at hs'
          exact hs' rfl
        have hJ2 : J2 (wd.length - (k + 1)) [some (.lst (bars.map wdD)), some (.ref ps), some (wdD wd), o3', some (.ref p), some (.ref pl), some (.ref pt), some (.int (S.length : Nat)), some (.ref pr), some (wdD [t]), some (.int ((k : Nat) + 1)), o11'] M5 :=
          ⟨k + 1, rfl, hk2, (cutS_drop hk2 (by simpa using hs')).symm.trans hc, rfl, rfl⟩
        exact .of ⟨⟨_, hJ2⟩, Nat.lt_of_le_of_lt (muJ_le hJ2) (by rw [hmu5, hn5]; omega)⟩
  · obtain ⟨v, vr, _, kn1, kn2, o2', o3', o9', o10', o11', rfl⟩ := h
    rw [show (Z.signs "LR").length = 2 from rfl, prtB_two] at v vr
    try dsimp only [List.set, getS_z, getS_s, bin2, bin2T, ltD, leD, gtD, geD, cmp_i, add_i, sub_i, min2_i, max2_i]
    have F' := F.row hx
    refine ⟨⟨_, lstOf_at v.2.2.2.2⟩, _, lstOf_at vr, append_of v.2.2.2.2 (by rw [List.length_map]; exact big1 _ (by omega)) ?_⟩
    show Z.Cl B.M _ [_, _, _, _, _, _, _, some (.int ((S.length : Nat) + 1)), _, _, _, _] _
    have hJ : J (251 - (S ++ [(rowB (bnx bars) id line x).2]).length) [some (.lst (bars.map wdD)), some (.ref ps), o2', o3', some (.ref p), some (.ref pl), some (.ref pt), some (.int ((S.length : Nat) + 1)), some (.ref pr), o9', o10', o11'] (updM M'' pt (.lst (S.map hrD ++ [.tup (hoL [(rowB (bnx bars) id line x).2.1, (rowB (bnx bars) id line x).2.2])]))) := by
      refine ⟨_, _, o2', o3', some (.ref pr), o9', o10', o11', ⟨keep (nB hpt') v.1, by rw [updM_ne s3]; exact v.2.1, by rw [updM_ne n3]; exact v.2.2.1, by rw [updM_ne n2]; exact v.2.2.2.1, by rw [updM_same, List.map_append]; rfl⟩, F', ?_, rfl⟩
      rw [List.length_append, List.length_singleton]
      rfl
    exact .of ⟨⟨_, hJ⟩, Nat.lt_of_le_of_lt (muJ_le hJ) (by rw [hmu, hn, List.length_append, List.length_singleton]; omega)⟩
def c_Habitd_initd (C CT CI : Addr) : Ct := fun ds M Ψ _ => ∃ (p : Addr) (dB : D) (bars : List (List Nat)), ds = [.ref p, dB] ∧ M p = some (.ins C []) ∧ (lstOf M dB = some (bars.map wdD) ∨ dB = .tup (bars.map wdD)) ∧ (∀ b ∈ bars, LR b ∧ b ≠ [] ∧ b.length ≤ 20) ∧ (bars.map List.length).sum ≤ 250 ∧ ∀ S, Hm S (Ext (NoBar bars)) → S.length ≤ 251 → Ψ .non (updM M p (.ins C [("rows_by_room", .tup (S.map hrD))]))
theorem ok_Habitd_initd {f : Addr} {fd : FuncData} {dvs : List V} {kws : List (Str × V)} (T : Txt K mg) (h_is_word : Gf P w K mg base "is_word" 2 (c_is_word) b_is_word) (h_least_steps : Gf P w K mg base "least_steps" 3 (c_least_steps (He.ga K "TooManyRooms")) b_least_steps) (h_barred_steps : Gf P w K mg base "barred_steps" 2 (c_barred_steps) b_barred_steps) (x_InvalidWord : Xf P w K mg base "InvalidWord" (He.ga K "InvalidWord") 1 (tag2 "InvalidWord" "given")) (F : FnZ K "__init__" "Habit.__init__" s_Habitd_initd dvs kws f fd) : FnOk P w K mg base (L2.CX P w) 4 f fd ["self", "barred"] (spC K (["self", "barred"] : List Str).length (c_Habitd_initd (He.ga K "Habit") (He.ga K "TooManyRooms") (He.ga K "InvalidWord"))) := by
  have hnd := sc_Habitd_initd.nd
  refine fnD F sc_Habitd_initd (c_Habitd_initd (He.ga K "Habit") (He.ga K "TooManyRooms") (He.ga K "InvalidWord")) fun cdv A outer s H E B Ξ hr z => ⟨_, (dss_cons (ds_for z.po rfl (di_seq (de_var (i := 1))) (dg_name (i := 2) hnd) (dss_one (ds_if (dw_or (dt_not (dt_val (de_call h_is_word hr z (List.Mem.head _) (da_cons (de_var (i := 2)) da_nil)))) (dw_or1 (dt_not (dt_chain oc_le oc_le de_int (de_len T.n_len (da_cons (de_var (i := 2)) da_nil)) (de_gint T.k_MOST_BARRED))))).pt (dss_one (ds_raise1 x_InvalidWord hr z rfl (da_cons (de_var (i := 2)) da_nil))) dss_nil)))
    (dss_one (ds_fld T.cl_Habit T.na_Habit_rows_by_room (de_call h_least_steps hr z (List.Mem.head _) (da_cons (de_call h_barred_steps hr z (List.Mem.head _) (da_cons (de_list1 T.n_list (da_cons (de_var (i := 1)) da_nil)) da_nil)) da_nil)) (de_var (i := 0))))), fun ds Ψ hl hc => ?_⟩
  obtain ⟨p, dB, bars, rfl, hp, hs, hb, hsum, q⟩ := hc
  rw [show ent (["self", "barred", "word"] : List Str).length [.ref p, dB] = [some (.ref p), some dB, none] from rfl]
  try dsimp only [List.set, getS_z, getS_s, bin2, bin2T, ltD, leD, gtD, geD, cmp_i, add_i, sub_i, min2_i, max2_i]
  have hb2 : ∀ b ∈ bars, LR b ∧ b ≠ [] := fun b m => ⟨(hb b m).1, (hb b m).2.1⟩
  have hbe : ∀ b ∈ bars, b ≠ [] := fun b m => (hb b m).2.1
  have rest : ∀ o2 : Option D, listD B.M [dB] fun d M1 => callD 1 0 (fun ds x => ds) c_barred_steps (exF B.M Ξ) [d] [] [some (.ref p), some dB, o2] M1 fun d M1 => callD 1 0 (fun ds x => ds) (c_least_steps (He.ga K "TooManyRooms")) (exF B.M Ξ) [d] [] [some (.ref p), some dB, o2] M1 fun d M1 => match M1 p with | some (Cell.ins C' fs) => C' = He.ga K "Habit" ∧ fs.length < 1000 ∧ rtF B.M Ψ D.non (updM M1 p (Cell.ins (He.ga K "Habit") (putD "rows_by_room" d fs))) | x => False := fun o2 => by
    have core : ∀ M1 : Sto, M1 = B.M → callD 1 0 (fun ds x => ds) c_barred_steps (exF B.M Ξ) [.lst (bars.map wdD)] [] [some (.ref p), some dB, o2] M1 fun d M1 => callD 1 0 (fun ds x => ds) (c_least_steps (He.ga K "TooManyRooms")) (exF B.M Ξ) [d] [] [some (.ref p), some dB, o2] M1 fun d M1 => match M1 p with | some (Cell.ins C' fs) => C' = He.ga K "Habit" ∧ fs.length < 1000 ∧ rtF B.M Ψ D.non (updM M1 p (Cell.ins (He.ga K "Habit") (putD "rows_by_room" d fs))) | x => False := fun M1 e => by
      subst e
      refine ⟨rfl, rfl, bars, rfl, hb2, hsum, fun line T F hl => ⟨rfl, rfl, T, rfl, F.rng hl, ?_, (fun S _ hS => by have := bfs_bar_le F; omega), fun S hm hS => ?_⟩⟩
      · have := bfs_bar_le F; omega
      · dsimp only
        rw [hp]
        have lang : ∀ w, LR w → (hgo T (some 0) w ≠ none ↔ NoBar bars w) := fun w lw => (bfs_lang F hl w lw).trans (bar_lang hbe w)
        have hT : T ≠ [] := fun e => by
          have := (List.getElem?_eq_some_iff.mp F.s0).1
          rw [e] at hl; simp at hl; omega
        refine ⟨rfl, (show 0 < 1000 by decide), _, _, .same, q S (hm.congr fun w lw => ?_) (by have := bfs_bar_le F; omega)⟩
        rw [alive_ext lang lw]
        exact ⟨fun z => z.2, fun z => ⟨hT, z⟩⟩
    rcases hs with hs | hs
    · unfold listD
      split
      · rename_i l e
        cases e
        cases hs
      · rename_i d _ e
        cases e
        exact ⟨_, hs, core _ rfl⟩
      · rename_i n1 n2
        exact absurd rfl (n2 dB)
    · rw [hs]
      exact core _ rfl
  rcases hs with hs | hs
  · refine forD_n (xs := bars.map wdD) (S := fun M => lstOf M dB = some (bars.map wdD)) (fun K h => .inl ⟨_, hs, h⟩) (fun i r M' => M' = B.M ∧ ∃ o2 : Option D, r = [some (.ref p), some dB, o2]) ⟨rfl, _, rfl⟩ (fun _ _ _ h => by rw [h.1]; exact hs) (fun i d r M' hd h => ?_) (fun r M' h => ?_)
    · obtain ⟨rfl, o2, rfl⟩ := h
      rw [List.getElem?_map] at hd
      obtain ⟨b, hb', rfl⟩ := Option.map_eq_some_iff.mp hd
      obtain ⟨b1, b2, b3⟩ := hb b (List.mem_of_getElem? hb')
      try dsimp only [List.set, getS_z, getS_s, bin2, bin2T, ltD, leD, gtD, geD, cmp_i, add_i, sub_i, min2_i, max2_i]
      refine ⟨rfl, rfl, wdD b, "str", rfl, rfl, fun x e => by cases e; simp; omega, ?_⟩
      rw [show wB (wdD b) = true from wB_LR b1]
      have l1 : 0 < b.length := List.length_pos_iff.mpr b2
      refine bl_t rfl (ite_f rfl ?_)
      unfold chainD
      try dsimp only [List.set, getS_z, getS_s, bin2, bin2T, ltD, leD, gtD, geD, cmp_i, add_i, sub_i, min2_i, max2_i]
      refine len_w (by omega) (bl_t (decide_eq_true (by omega)) (ite_t rfl (bl_v (ite_f (by show (!decide ((b.length : Int) ≤ 20)) = false; rw [decide_eq_true (by omega)]; rfl) (.of ⟨rfl, _, rfl⟩)))))
    · obtain ⟨rfl, o2, rfl⟩ := h
      try dsimp only [List.set, getS_z, getS_s, bin2, bin2T, ltD, leD, gtD, geD, cmp_i, add_i, sub_i, min2_i, max2_i]
      exact rest _
  · refine forD_n (xs := bars.map wdD) (S := fun _ => True) (fun K h => .inr ⟨_, by rw [hs]; rfl, h⟩) (fun i r M' => M' = B.M ∧ ∃ o2 : Option D, r = [some (.ref p), some dB, o2]) ⟨rfl, _, rfl⟩ (fun _ _ _ _ => trivial) (fun i d r M' hd h => ?_) (fun r M' h => ?_)
    · obtain ⟨rfl, o2, rfl⟩ := h
      rw [List.getElem?_map] at hd
      obtain ⟨b, hb', rfl⟩ := Option.map_eq_some_iff.mp hd
      obtain ⟨b1, b2, b3⟩ := hb b (List.mem_of_getElem? hb')
      try dsimp only [List.set, getS_z, getS_s, bin2, bin2T, ltD, leD, gtD, geD, cmp_i, add_i, sub_i, min2_i, max2_i]
      refine ⟨rfl, rfl, wdD b, "str", rfl, rfl, fun x e => by cases e; simp; omega, ?_⟩
      rw [show wB (wdD b) = true from wB_LR b1]
      have l1 : 0 < b.length := List.length_pos_iff.mpr b2
      refine bl_t rfl (ite_f rfl ?_)
      unfold chainD
      try dsimp only [List.set, getS_z, getS_s, bin2, bin2T, ltD, leD, gtD, geD, cmp_i, add_i, sub_i, min2_i, max2_i]
      refine len_w (by omega) (bl_t (decide_eq_true (by omega)) (ite_t rfl (bl_v (ite_f (by show (!decide ((b.length : Int) ≤ 20)) = false; rw [decide_eq_true (by omega)]; rfl) (.of ⟨rfl, _, rfl⟩)))))
    · obtain ⟨rfl, o2, rfl⟩ := h
      try dsimp only [List.set, getS_z, getS_s, bin2, bin2T, ltD, leD, gtD, geD, cmp_i, add_i, sub_i, min2_i, max2_i]
      exact rest _
def c__law_same (n : Nat) : Ct := fun ds M Ψ _ => ∃ x y, ds = [x, y] ∧ Same M n x y ∧ Ψ (.bl true) M
theorem no__law_same : ∀ ds M Ψ Ξ, ¬ c__law_same 0 ds M Ψ Ξ := fun ds M Ψ Ξ ⟨_, _, _, h, _⟩ => h
theorem ok__law_same {f : Addr} {fd : FuncData} {dvs : List V} {kws : List (Str × V)} (T : Txt K mg) {lv dp : Nat} (hlv : 1 ≤ lv) (h__law_same : Gf P w K mg base "_law_same" lv (c__law_same dp) b__law_same) (F : FnZ K "_law_same" "_law_same" s__law_same dvs kws f fd) : FnOk P w K mg base (L2.CX P w) (lv + 1) f fd ["_law_found", "_law_due"] (spC K (["_law_found", "_law_due"] : List Str).length (c__law_same (dp + 1))) := by
  have hnd := sc__law_same.nd
  refine fnD F sc__law_same (c__law_same (dp + 1)) fun cdv A outer s H E B Ξ hr z => ⟨_, (dss_cons (ds_if (dt_is (de_var (i := 1)) de_non) (dss_one (ds_ret (de_is (de_var (i := 0)) de_non))) dss_nil)
    (dss_cons (ds_if (dw_or (dt_val (de_isi T.n_isinstance (da_cons (de_var (i := 1)) (da_cons (de_ty (n := "bool") T.n_bool (by decide +kernel)) da_nil)))) (dw_or1 (dt_val (de_isi T.n_isinstance (da_cons (de_var (i := 0)) (da_cons (de_ty (n := "bool") T.n_bool (by decide +kernel)) da_nil)))))).pt (dss_one (ds_ret (de_and (de_isi T.n_isinstance (da_cons (de_var (i := 1)) (da_cons (de_ty (n := "bool") T.n_bool (by decide +kernel)) da_nil))) (de_and (de_isi T.n_isinstance (da_cons (de_var (i := 0)) (da_cons (de_ty (n := "bool") T.n_bool (by decide +kernel)) da_nil))) (de_and1 (de_eq hr (de_var (i := 0)) (de_var (i := 1)))))))) dss_nil)
    (dss_cons (ds_if (dt_val (de_isi T.n_isinstance (da_cons (de_var (i := 1)) (da_cons (de_tup (da_cons (de_ty (n := "int") T.n_int (by decide +kernel)) (da_cons (de_ty (n := "str") T.n_str (by decide +kernel)) da_nil))) da_nil)))) (dss_one (ds_ret (de_and (de_isi T.n_isinstance (da_cons (de_var (i := 0)) (da_cons (de_tup (da_cons (de_ty (n := "int") T.n_int (by decide +kernel)) (da_cons (de_ty (n := "str") T.n_str (by decide +kernel)) da_nil))) da_nil))) (de_and (de_eq hr (de_isi T.n_isinstance (da_cons (de_var (i := 0)) (da_cons (de_ty (n := "int") T.n_int (by decide +kernel)) da_nil))) (de_isi T.n_isinstance (da_cons (de_var (i := 1)) (da_cons (de_ty (n := "int") T.n_int (by decide +kernel)) da_nil)))) (de_and1 (de_eq hr (de_var (i := 0)) (de_var (i := 1)))))))) dss_nil)
    (dss_cons (ds_if (dw_or (dt_ne hr (de_isi T.n_isinstance (da_cons (de_var (i := 1)) (da_cons (de_ty (n := "list") T.n_list (by decide +kernel)) da_nil))) (de_isi T.n_isinstance (da_cons (de_var (i := 0)) (da_cons (de_ty (n := "list") T.n_list (by decide +kernel)) da_nil)))) (dw_or1 (dt_ne hr (de_isi T.n_isinstance (da_cons (de_var (i := 1)) (da_cons (de_ty (n := "tuple") T.n_tuple (by decide +kernel)) da_nil))) (de_isi T.n_isinstance (da_cons (de_var (i := 0)) (da_cons (de_ty (n := "tuple") T.n_tuple (by decide +kernel)) da_nil)))))).pt (dss_one (ds_ret de_bl)) dss_nil)
    (dss_one (ds_ret (de_and (de_eq hr (de_len T.n_len (da_cons (de_var (i := 0)) da_nil)) (de_len T.n_len (da_cons (de_var (i := 1)) da_nil))) (de_and1 (de_all1 rfl T.n_all (da_cons (de_lc rfl hnd (di_zip T.n_zip (da_cons (de_var (i := 0)) (da_cons (de_var (i := 1)) da_nil))) (blkOk_by (own := [("_law_one", 2), ("_law_two", 3)]) (by rfl)) (tg_tup2 (by decide) (by decide)) (fun _ _ _ _ _ => (pg_tup rfl (pgs_cons (pg_name (i := 2) hnd rfl (by first | exact Or.inl rfl | exact Or.inr rfl) (by first | exact .inl rfl | exact .inr rfl)) (pgs_cons (pg_name (i := 3) hnd rfl (by first | exact Or.inl rfl | exact Or.inr rfl) (by first | exact .inl rfl | exact .inr rfl)) pgs_nil)))) (fun _ _ _ _ _ _ => dts_nil) (fun _ _ _ _ _ _ => (de_call (hj := by omega) h__law_same hr zx_blk (List.Mem.head _) (da_cons (de_var (i := 2)) (da_cons (de_var (i := 3)) da_nil))))) da_nil)))))))))), fun ds Ψ hl hc => ?_⟩
  obtain ⟨x, y, rfl, hs, q⟩ := hc
  rcases hs with ⟨rfl, rfl⟩ | ⟨b, rfl, rfl⟩ | ⟨i, rfl, rfl⟩ | ⟨s, rfl, rfl⟩ | ⟨xs, ys, hxy, hl, hl2, hs⟩
  · refine bl_t rfl ?_
    exact ⟨_, _, .same, q⟩
  · refine bl_f rfl ?_
    refine ⟨by decide, "bool", rfl, ?_⟩
    refine bl_t rfl ?_
    refine ⟨by decide, "bool", rfl, ?_⟩
    refine bl_t rfl ?_
    refine ⟨by decide, "bool", rfl, ?_⟩
    refine bl_t rfl ?_
    refine eqB ?_
    refine ⟨_, _, .same, ?_⟩
    rw [decide_eq_true rfl]
    exact q
  · refine bl_f rfl ?_
    refine ⟨by decide, "int", rfl, ?_⟩
    refine bl_f rfl ?_
    refine ⟨by decide, "int", rfl, ?_⟩
    refine bl_f rfl ?_
    refine ⟨ln (n := 2) rfl (by decide), ?_⟩
    refine ⟨["int", "str"], rfl, by decide, "int", rfl, ?_⟩
    refine bl_t rfl ?_
    refine ⟨ln (n := 2) rfl (by decide), ?_⟩
    refine ⟨["int", "str"], rfl, by decide, "int", rfl, ?_⟩
    refine bl_t rfl ?_
    refine ⟨by decide, "int", rfl, ?_⟩
    refine ⟨by decide, "int", rfl, ?_⟩
    refine eqB ?_
    refine bl_t rfl ?_
    refine eqI ?_
    refine ⟨_, _, .same, ?_⟩
    rw [decide_eq_true rfl]
    exact q
  · refine bl_f rfl ?_
    refine ⟨by decide, "str", rfl, ?_⟩
    refine bl_f rfl ?_
    refine ⟨by decide, "str", rfl, ?_⟩
    refine bl_f rfl ?_
    refine ⟨ln (n := 2) rfl (by decide), ?_⟩
    refine ⟨["int", "str"], rfl, by decide, "str", rfl, ?_⟩
    refine bl_t rfl ?_
    refine ⟨ln (n := 2) rfl (by decide), ?_⟩
    refine ⟨["int", "str"], rfl, by decide, "str", rfl, ?_⟩
    refine bl_t rfl ?_
    refine ⟨by decide, "str", rfl, ?_⟩
    refine ⟨by decide, "str", rfl, ?_⟩
    refine eqB ?_
    refine bl_t rfl ?_
    refine eqS ?_
    refine ⟨_, _, .same, ?_⟩
    rw [decide_eq_true rfl]
    exact q
  · rcases hxy with ⟨hx, hy⟩ | ⟨rfl, rfl⟩
    · have tx := lst_ty hx
      have ty := lst_ty hy
      have ny : isN y = false := by rcases lst_cs hy with rfl | ⟨p, rfl, _⟩ <;> rfl
      refine bl_f ny ?_
      refine ⟨by decide, _, ty, ?_⟩
      refine bl_f rfl ?_
      refine ⟨by decide, _, tx, ?_⟩
      refine bl_f rfl ?_
      refine ⟨ln (n := 2) rfl (by decide), ?_⟩
      refine ⟨["int", "str"], rfl, by decide, _, ty, ?_⟩
      refine bl_f rfl ?_
      refine ⟨by decide, _, ty, ?_⟩
      refine ⟨by decide, _, tx, ?_⟩
      refine neB ?_
      refine bl_f rfl ?_
      refine ⟨by decide, _, ty, ?_⟩
      refine ⟨by decide, _, tx, ?_⟩
      refine neB ?_
      refine bl_f rfl ?_
      rcases lst_cs hx with rfl | ⟨p, rfl, hp⟩
      · rcases lst_cs hy with rfl | ⟨p', rfl, hp'⟩
        · refine eqI ?_
          refine bl_t (decide_eq_true (by omega)) ?_
          refine compD_map (xs := zipD xs ys) (S := fun M => lstOf M _ = some xs ∧ lstOf M _ = some ys) (fun K h => ⟨_, _, hx, hy, h⟩) (fun _ => .bl true) ⟨hx, hy⟩ (by rw [zip_len]; exact Nat.le_trans (by omega) big_ok) (fun d hd Q h => ?_) ?_
          · obtain ⟨i, a, b, e1, e2, rfl⟩ := zip_mem hd
            exact ⟨rfl, rfl, a, b, rfl, hs i a b e1 e2, h⟩
          · rw [all_bl]
            refine ⟨_, rfl, ?_⟩
            rw [all_tt]
            exact ⟨_, _, .same, q⟩
        · refine ⟨_, hy, ?_⟩
          refine eqI ?_
          refine bl_t (decide_eq_true (by omega)) ?_
          refine compD_map (xs := zipD xs ys) (S := fun M => lstOf M _ = some xs ∧ lstOf M _ = some ys) (fun K h => ⟨_, _, hx, hy, h⟩) (fun _ => .bl true) ⟨hx, hy⟩ (by rw [zip_len]; exact Nat.le_trans (by omega) big_ok) (fun d hd Q h => ?_) ?_
          · obtain ⟨i, a, b, e1, e2, rfl⟩ := zip_mem hd
            exact ⟨rfl, rfl, a, b, rfl, hs i a b e1 e2, h⟩
          · rw [all_bl]
            refine ⟨_, rfl, ?_⟩
            rw [all_tt]
            exact ⟨_, _, .same, q⟩
      · rcases lst_cs hy with rfl | ⟨p', rfl, hp'⟩
        · refine ⟨_, hx, ?_⟩
          refine eqI ?_
          refine bl_t (decide_eq_true (by omega)) ?_
          refine compD_map (xs := zipD xs ys) (S := fun M => lstOf M _ = some xs ∧ lstOf M _ = some ys) (fun K h => ⟨_, _, hx, hy, h⟩) (fun _ => .bl true) ⟨hx, hy⟩ (by rw [zip_len]; exact Nat.le_trans (by omega) big_ok) (fun d hd Q h => ?_) ?_
          · obtain ⟨i, a, b, e1, e2, rfl⟩ := zip_mem hd
            exact ⟨rfl, rfl, a, b, rfl, hs i a b e1 e2, h⟩
          · rw [all_bl]
            refine ⟨_, rfl, ?_⟩
            rw [all_tt]
            exact ⟨_, _, .same, q⟩
        · refine ⟨_, hx, _, hy, ?_⟩
          refine eqI ?_
          refine bl_t (decide_eq_true (by omega)) ?_
          refine compD_map (xs := zipD xs ys) (S := fun M => lstOf M _ = some xs ∧ lstOf M _ = some ys) (fun K h => ⟨_, _, hx, hy, h⟩) (fun _ => .bl true) ⟨hx, hy⟩ (by rw [zip_len]; exact Nat.le_trans (by omega) big_ok) (fun d hd Q h => ?_) ?_
          · obtain ⟨i, a, b, e1, e2, rfl⟩ := zip_mem hd
            exact ⟨rfl, rfl, a, b, rfl, hs i a b e1 e2, h⟩
          · rw [all_bl]
            refine ⟨_, rfl, ?_⟩
            rw [all_tt]
            exact ⟨_, _, .same, q⟩
    · refine bl_f rfl ?_
      refine ⟨by decide, "tuple", rfl, ?_⟩
      refine bl_f rfl ?_
      refine ⟨by decide, "tuple", rfl, ?_⟩
      refine bl_f rfl ?_
      refine ⟨ln (n := 2) rfl (by decide), ?_⟩
      refine ⟨["int", "str"], rfl, by decide, "tuple", rfl, ?_⟩
      refine bl_f rfl ?_
      refine ⟨by decide, "tuple", rfl, ?_⟩
      refine ⟨by decide, "tuple", rfl, ?_⟩
      refine neB ?_
      refine bl_f rfl ?_
      refine ⟨by decide, "tuple", rfl, ?_⟩
      refine ⟨by decide, "tuple", rfl, ?_⟩
      refine neB ?_
      refine bl_f rfl ?_
      refine eqI ?_
      refine bl_t (decide_eq_true (by omega)) ?_
      refine compD_map (xs := zipD xs ys) (S := fun _ => True) (fun K h => h) (fun _ => .bl true) trivial (by rw [zip_len]; exact Nat.le_trans (by omega) big_ok) (fun d hd Q h => ?_) ?_
      · obtain ⟨i, a, b, e1, e2, rfl⟩ := zip_mem hd
        exact ⟨rfl, rfl, a, b, rfl, hs i a b e1 e2, h⟩
      · rw [all_bl]
        refine ⟨_, rfl, ?_⟩
        rw [all_tt]
        exact ⟨_, _, .same, q⟩
def c_Habitd_lend (C : Addr) : Ct := fun ds M Ψ _ => ∃ S : Hst, ds = [hbt C S] ∧ Ψ (.int (S.length : Nat)) M
theorem ok_Habitd_lend {f : Addr} {fd : FuncData} {dvs : List V} {kws : List (Str × V)} (T : Txt K mg)  (F : FnZ K "__len__" "Habit.__len__" s_Habitd_lend dvs kws f fd) : FnOk P w K mg base (L2.CX P w) 2 f fd ["self"] (spC K (["self"] : List Str).length (c_Habitd_lend (He.ga K "Habit"))) := by
  have hnd := sc_Habitd_lend.nd
  refine fnD F sc_Habitd_lend (c_Habitd_lend (He.ga K "Habit")) fun cdv A outer s H E B Ξ hr z => ⟨_, (dss_one (ds_ret (de_len T.n_len (da_cons (de_fld T.cl_Habit T.na_Habit_rows_by_room (de_var (i := 0))) da_nil)))), fun ds Ψ hl hc => ?_⟩
  obtain ⟨S, rfl, q⟩ := hc
  rw [show ent (["self"] : List Str).length [hbt (He.ga K "Habit") S] = [some (hbt (He.ga K "Habit") S)] from rfl]
  try dsimp only [List.set, getS_z, getS_s, bin2, bin2T, ltD, leD, gtD, geD, cmp_i, add_i, sub_i, min2_i, max2_i]
  refine ⟨rfl, fld_hd ?_⟩
  dsimp only [lenD]
  rw [List.length_map]
  exact ⟨_, _, .same, q⟩
def c_is_integer : Ct := fun ds M Ψ _ => ∃ d t, ds = [d] ∧ tyN M d = some t ∧ Ψ (.bl (isIn M d)) M
theorem ok_is_integer {f : Addr} {fd : FuncData} {dvs : List V} {kws : List (Str × V)} (T : Txt K mg)  (F : FnZ K "is_integer" "is_integer" s_is_integer dvs kws f fd) : FnOk P w K mg base (L2.CX P w) 2 f fd ["value"] (spC K (["value"] : List Str).length (c_is_integer)) := by
  have hnd := sc_is_integer.nd
  refine fnD F sc_is_integer (c_is_integer) fun cdv A outer s H E B Ξ hr z => ⟨_, (dss_one (ds_ret (de_and (de_isi T.n_isinstance (da_cons (de_var (i := 0)) (da_cons (de_ty (n := "int") T.n_int (by decide +kernel)) da_nil))) (de_and1 (de_not (de_isi T.n_isinstance (da_cons (de_var (i := 0)) (da_cons (de_ty (n := "bool") T.n_bool (by decide +kernel)) da_nil)))))))), fun ds Ψ hl hc => ?_⟩
  obtain ⟨d, t, rfl, ht, q⟩ := hc
  refine ⟨by decide, t, ht, ?_⟩
  unfold isIn at q
  rw [ht] at q
  have h7 := tyN_ok ht
  simp only [okTy, List.mem_cons, List.not_mem_nil, or_false] at h7
  rcases h7 with rfl | rfl | rfl | rfl | rfl | rfl | rfl
  all_goals first
    | exact bl_f rfl ⟨_, _, .same, q⟩
    | exact bl_t rfl ⟨by decide, _, ht, bl_t rfl ⟨_, _, .same, q⟩⟩
    | exact bl_t rfl ⟨by decide, _, ht, bl_f rfl ⟨_, _, .same, q⟩⟩
def c_is_within : Ct := fun ds M Ψ _ => ∃ d t a b, ds = [d, .int a, .int b] ∧ tyN M d = some t ∧ Ψ (.bl (inB d a b)) M
theorem ok_is_within {f : Addr} {fd : FuncData} {dvs : List V} {kws : List (Str × V)} (T : Txt K mg) (h_is_integer : Gf P w K mg base "is_integer" 2 (c_is_integer) b_is_integer) (F : FnZ K "is_within" "is_within" s_is_within dvs kws f fd) : FnOk P w K mg base (L2.CX P w) 3 f fd ["value", "least", "most"] (spC K (["value", "least", "most"] : List Str).length (c_is_within)) := by
  have hnd := sc_is_within.nd
  refine fnD F sc_is_within (c_is_within) fun cdv A outer s H E B Ξ hr z => ⟨_, (dss_one (ds_ret (de_and (de_call h_is_integer hr z (List.Mem.head _) (da_cons (de_var (i := 0)) da_nil)) (de_and1 (de_chain oc_le oc_le (de_var (i := 1)) (de_var (i := 0)) (de_var (i := 2))))))), fun ds Ψ hl hc => ?_⟩
  obtain ⟨d, t, a, b, rfl, ht, q⟩ := hc
  refine ⟨rfl, rfl, d, t, rfl, ht, ?_⟩
  by_cases e : t = "int"
  · subst e
    obtain ⟨i, rfl⟩ := ty_int ht
    refine bl_t (decide_eq_true ht) ?_
    by_cases h1 : a ≤ i
    · have e : inB (.int i) a b = decide (i ≤ b) := by show (decide (a ≤ i) && decide (i ≤ b)) = _; rw [decide_eq_true h1]; rfl
      refine bl_t (decide_eq_true h1) ?_
      refine bl_c (fun h2 => ?_) (fun h2 => ?_)
      · rw [e, show decide (i ≤ b) = true from h2] at q
        exact ⟨_, _, .same, q⟩
      · rw [e, show decide (i ≤ b) = false from h2] at q
        exact ⟨_, _, .same, q⟩
    · refine bl_f (decide_eq_false h1) ?_
      refine ⟨_, _, .same, ?_⟩
      have e : inB (.int i) a b = false := by show (decide (a ≤ i) && decide (i ≤ b)) = _; rw [decide_eq_false h1]; rfl
      rw [e] at q
      exact q
  · have e0 : isIn B.M d = false := decide_eq_false (by rw [ht]; simp [e])
    refine bl_f e0 ?_
    refine ⟨_, _, .same, ?_⟩
    have e2 : inB d a b = false := by
      cases d <;> first | rfl | (cases ht; exact absurd rfl e)
    rw [e2] at q
    exact q
theorem hb_nat {d : D} {n : Nat} (h : inB d 0 ((n : Int) - 1) = true) : ∃ i : Nat, d = .int i ∧ i < n := by
  unfold inB at h
  split at h
  · rename_i j
    obtain ⟨a, b⟩ := Bool.and_eq_true_iff.mp h
    have a := of_decide_eq_true a
    have b := of_decide_eq_true b
    exact ⟨j.toNat, by rw [Int.toNat_of_nonneg a], by omega⟩
  · cases h
def c_Habit_check_room (C CR : Addr) : Ct := fun ds M Ψ Ξ => ∃ (S : Hst) (d : D) (t : String), ds = [hbt C S, d] ∧ S.length ≤ 4000 ∧ tyN M d = some t ∧ (inB d 0 ((S.length : Int) - 1) = true → Ψ .non M) ∧ (inB d 0 ((S.length : Int) - 1) = false → Ξ (CR, [("given", d), ("tag", .str "InvalidRoom")]) M)
theorem ok_Habit_check_room {f : Addr} {fd : FuncData} {dvs : List V} {kws : List (Str × V)} (T : Txt K mg) (h_is_within : Gf P w K mg base "is_within" 3 (c_is_within) b_is_within) (x_InvalidRoom : Xf P w K mg base "InvalidRoom" (He.ga K "InvalidRoom") 1 (tag2 "InvalidRoom" "given")) (F : FnZ K "check_room" "Habit.check_room" s_Habit_check_room dvs kws f fd) : FnOk P w K mg base (L2.CX P w) 4 f fd ["self", "room"] (spC K (["self", "room"] : List Str).length (c_Habit_check_room (He.ga K "Habit") (He.ga K "InvalidRoom"))) := by
  have hnd := sc_Habit_check_room.nd
  refine fnD F sc_Habit_check_room (c_Habit_check_room (He.ga K "Habit") (He.ga K "InvalidRoom")) fun cdv A outer s H E B Ξ hr z => ⟨_, (dss_one (ds_if (dt_not (dt_val (de_call h_is_within hr z (List.Mem.head _) (da_cons (de_var (i := 1)) (da_cons de_int (da_cons (de_sub (de_len T.n_len (da_cons (de_fld T.cl_Habit T.na_Habit_rows_by_room (de_var (i := 0))) da_nil)) de_int) da_nil)))))) (dss_one (ds_raise1 x_InvalidRoom hr z rfl (da_cons (de_var (i := 1)) da_nil))) dss_nil)), fun ds Ψ hl hc => ?_⟩
  obtain ⟨S, d, t, rfl, hl, ht, q1, q2⟩ := hc
  rw [show ent (["self", "room"] : List Str).length [hbt (He.ga K "Habit") S, d] = [some (hbt (He.ga K "Habit") S), some d] from rfl]
  try dsimp only [List.set, getS_z, getS_s, bin2, bin2T, ltD, leD, gtD, geD, cmp_i, add_i, sub_i, min2_i, max2_i]
  refine ⟨rfl, fld_hd ?_⟩
  dsimp only [lenD]
  rw [List.length_map]
  refine ⟨rfl, rfl, d, t, _, _, rfl, ht, ?_⟩
  cases e : inB d 0 ((S.length : Int) - 1) with
  | true => exact bl_t rfl (ite_f rfl ⟨_, _, .same, q1 e⟩)
  | false => exact bl_f rfl (ite_t rfl ⟨_, .same, q2 e⟩)
def tuB (d : D) : Bool := match d with
  | .str x => wB (.str x) && decide ((x.length : Int) = 1)
  | _ => false
def c_is_turn : Ct := fun ds M Ψ _ => ∃ d t, ds = [d] ∧ tyN M d = some t ∧ (∀ x, d = .str x → x.cps.size ≤ 1000000) ∧ Ψ (.bl (tuB d)) M
theorem ok_is_turn {f : Addr} {fd : FuncData} {dvs : List V} {kws : List (Str × V)} (T : Txt K mg) (h_is_word : Gf P w K mg base "is_word" 2 (c_is_word) b_is_word) (F : FnZ K "is_turn" "is_turn" s_is_turn dvs kws f fd) : FnOk P w K mg base (L2.CX P w) 3 f fd ["value"] (spC K (["value"] : List Str).length (c_is_turn)) := by
  have hnd := sc_is_turn.nd
  refine fnD F sc_is_turn (c_is_turn) fun cdv A outer s H E B Ξ hr z => ⟨_, (dss_one (ds_ret (de_and (de_call h_is_word hr z (List.Mem.head _) (da_cons (de_var (i := 0)) da_nil)) (de_and1 (de_eq hr (de_len T.n_len (da_cons (de_var (i := 0)) da_nil)) de_int))))), fun ds Ψ hl hc => ?_⟩
  obtain ⟨d, t, rfl, ht, hz, q⟩ := hc
  refine ⟨rfl, rfl, d, t, rfl, ht, hz, ?_⟩
  refine bl_c (fun e => ?_) (fun e => ?_)
  · match d, e, hz, q with
    | .str x, e, hz, q =>
      refine ⟨one_le_size (hz x rfl), ?_⟩
      have et : tuB (.str x) = decide ((x.length : Int) = 1) := by
        show (wB (.str x) && decide ((x.length : Int) = 1)) = _
        rw [e, Bool.true_and]
      rw [et] at q
      refine eqI ?_
      exact ⟨_, _, .same, q⟩
  · have : tuB d = false := by
      unfold tuB
      split
      · rw [e]; rfl
      · rfl
    rw [this] at q
    refine ite_f rfl ?_
    exact ⟨_, _, .same, q⟩
def c_check_turn (CW : Addr) : Ct := fun ds M Ψ Ξ => ∃ d t, ds = [d] ∧ tyN M d = some t ∧ (∀ x, d = .str x → x.cps.size ≤ 1000000) ∧ (tuB d = true → Ψ .non M) ∧ (tuB d = false → Ξ (CW, [("given", d), ("tag", .str "InvalidWord")]) M)
theorem ok_check_turn {f : Addr} {fd : FuncData} {dvs : List V} {kws : List (Str × V)} (T : Txt K mg) (h_is_turn : Gf P w K mg base "is_turn" 3 (c_is_turn) b_is_turn) (x_InvalidWord : Xf P w K mg base "InvalidWord" (He.ga K "InvalidWord") 1 (tag2 "InvalidWord" "given")) (F : FnZ K "check_turn" "check_turn" s_check_turn dvs kws f fd) : FnOk P w K mg base (L2.CX P w) 4 f fd ["value"] (spC K (["value"] : List Str).length (c_check_turn (He.ga K "InvalidWord"))) := by
  have hnd := sc_check_turn.nd
  refine fnD F sc_check_turn (c_check_turn (He.ga K "InvalidWord")) fun cdv A outer s H E B Ξ hr z => ⟨_, (dss_one (ds_if (dt_not (dt_val (de_call h_is_turn hr z (List.Mem.head _) (da_cons (de_var (i := 0)) da_nil)))) (dss_one (ds_raise1 x_InvalidWord hr z rfl (da_cons (de_var (i := 0)) da_nil))) dss_nil)), fun ds Ψ hl hc => ?_⟩
  obtain ⟨d, t, rfl, ht, hz, q1, q2⟩ := hc
  refine ⟨rfl, rfl, d, t, rfl, ht, hz, ?_⟩
  refine bl_c (fun e => ?_) (fun e => ?_)
  · exact ⟨_, _, .same, q1 e⟩
  · exact ⟨_, .same, q2 e⟩
theorem hb_tu {e : D} (h : tuB e = true) : ∃ c, (c = 76 ∨ c = 82) ∧ e = .str ⟨#[c]⟩ := by
  unfold tuB at h
  split at h
  · rename_i x
    obtain ⟨a, b⟩ := Bool.and_eq_true_iff.mp h
    have b := of_decide_eq_true b
    obtain ⟨⟨cs⟩⟩ := x
    have hl : cs.length = 1 := by
      have : ((⟨⟨cs⟩⟩ : Str).length : Int) = 1 := b
      have : (cs.length : Int) = 1 := this
      omega
    match cs, hl with
    | [c], _ =>
      refine ⟨c, ?_, rfl⟩
      unfold wB at a
      have a2 := List.all_eq_true.mp a c (by simp)
      have a3 := of_decide_eq_true a2
      have e3 : (("LR" : Str)).cps.toList = [76, 82] := by decide +kernel
      rw [e3] at a3
      simpa using a3
  · cases h
def c_Habit_step (C CR CW : Addr) : Ct := fun ds M Ψ Ξ => ∃ (S : Hst) (d e : D) (td te : String), ds = [hbt C S, d, e] ∧ S.length ≤ 4000 ∧ tyN M d = some td ∧ tyN M e = some te ∧ (∀ x, e = .str x → x.cps.size ≤ 1000000) ∧
  (inB d 0 ((S.length : Int) - 1) = false → Ξ (CR, [("given", d), ("tag", .str "InvalidRoom")]) M) ∧ (inB d 0 ((S.length : Int) - 1) = true → tuB e = false → Ξ (CW, [("given", e), ("tag", .str "InvalidWord")]) M) ∧
  ∀ (i : Nat) c, d = .int i → i < S.length → c = 76 ∨ c = 82 → e = .str ⟨#[c]⟩ → Ψ (hoD (hnx S i c)) M
theorem ok_Habit_step {f : Addr} {fd : FuncData} {dvs : List V} {kws : List (Str × V)} (T : Txt K mg) (h_Habit_check_room : Mf P w K mg base (He.ga K "Habit") "check_room" 4 (c_Habit_check_room (He.ga K "Habit") (He.ga K "InvalidRoom")) b_Habit_check_room) (h_check_turn : Gf P w K mg base "check_turn" 4 (c_check_turn (He.ga K "InvalidWord")) b_check_turn) (F : FnZ K "step" "Habit.step" s_Habit_step dvs kws f fd) : FnOk P w K mg base (L2.CX P w) 5 f fd ["self", "room", "turn"] (spC K (["self", "room", "turn"] : List Str).length (c_Habit_step (He.ga K "Habit") (He.ga K "InvalidRoom") (He.ga K "InvalidWord"))) := by
  have hnd := sc_Habit_step.nd
  refine fnD F sc_Habit_step (c_Habit_step (He.ga K "Habit") (He.ga K "InvalidRoom") (He.ga K "InvalidWord")) fun cdv A outer s H E B Ξ hr z => ⟨_, (dss_cons (ds_expr (de_meth h_Habit_check_room T.cl_Habit hr z (List.Mem.head _) (de_var (i := 0)) (da_cons (de_var (i := 1)) da_nil)))
    (dss_cons (ds_expr (de_call h_check_turn hr z (List.Mem.head _) (da_cons (de_var (i := 2)) da_nil)))
    (dss_one (ds_ret (de_ix (de_ix (de_fld T.cl_Habit T.na_Habit_rows_by_room (de_var (i := 0))) (de_var (i := 1))) (de_sidx (de_gstr T.k_TURNS) (da_cons (de_var (i := 2)) da_nil))))))), fun ds Ψ hl hc => ?_⟩
  obtain ⟨S, d, e, td, te, rfl, hl, hd, he, hz, q1, q2, q3⟩ := hc
  rw [show ent (["self", "room", "turn"] : List Str).length [hbt (He.ga K "Habit") S, d, e] = [some (hbt (He.ga K "Habit") S), some d, some e] from rfl]
  try dsimp only [List.set, getS_z, getS_s, bin2, bin2T, ltD, leD, gtD, geD, cmp_i, add_i, sub_i, min2_i, max2_i]
  refine ⟨rfl, rfl, rfl, rfl, S, d, td, rfl, hl, hd, fun h1 => ?_, fun h1 => ⟨_, .same, q1 h1⟩⟩
  refine ⟨rfl, rfl, e, te, rfl, he, hz, fun h2 => ?_, fun h2 => ⟨_, .same, q2 h1 h2⟩⟩
  obtain ⟨i, rfl, hi⟩ := hb_nat h1
  obtain ⟨c, hc, rfl⟩ := hb_tu h2
  have q3 := q3 i c rfl hi hc rfl
  refine ⟨rfl, fld_hd (ix_t (at_nat (j := i) rfl (show (S.map hrD)[i]? = some (hrD S[i]) from by rw [List.getElem?_map, List.getElem?_eq_getElem hi]; rfl)) ⟨trivial, sidx_LR hc ?_⟩)⟩
  rcases hc with rfl | rfl
  · rw [if_pos rfl]
    rw [hnx_l hi] at q3
    exact ix_t (at_nat (j := 0) rfl rfl) ⟨_, _, .same, q3⟩
  · rw [if_neg (by decide)]
    rw [hnx_r hi] at q3
    exact ix_t (at_nat (j := 1) rfl rfl) ⟨_, _, .same, q3⟩
def c__law_steps_told (C : Addr) : Ct := fun ds M Ψ _ => ∃ (S : Hst), ds = [hbt C S] ∧ Rng S ∧ S.length ≤ 100 ∧ Ψ (.lst (S.map hrD)) M
theorem ok__law_steps_told {f : Addr} {fd : FuncData} {dvs : List V} {kws : List (Str × V)} (T : Txt K mg) (h_Habitd_lend : Mf P w K mg base (He.ga K "Habit") "__len__" 2 (c_Habitd_lend (He.ga K "Habit")) b_Habitd_lend) (h_Habit_step : Mf P w K mg base (He.ga K "Habit") "step" 5 (c_Habit_step (He.ga K "Habit") (He.ga K "InvalidRoom") (He.ga K "InvalidWord")) b_Habit_step) (F : FnZ K "_law_steps_told" "_law_steps_told" s__law_steps_told dvs kws f fd) : FnOk P w K mg base (L2.CX P w) 6 f fd ["_law_custom"] (spC K (["_law_custom"] : List Str).length (c__law_steps_told (He.ga K "Habit"))) := by
  have hnd := sc__law_steps_told.nd
  refine fnD F sc__law_steps_told (c__law_steps_told (He.ga K "Habit")) fun cdv A outer s H E B Ξ hr z => ⟨_, (dss_one (ds_ret (de_lc rfl hnd (di_range1 T.n_range (da_cons (de_lenO h_Habitd_lend T.n_len hr (List.Mem.head _) (da_cons (de_var (i := 0)) da_nil)) da_nil)) (blkOk_by (own := [("_law_place", 1)]) (by rfl)) (tg_name (i := 1) (by decide)) (fun _ _ _ _ _ => (pg_name (i := 1) hnd rfl (by first | exact Or.inl rfl | exact Or.inr rfl) (by first | exact .inl rfl | exact .inr rfl))) (fun _ _ _ _ _ _ => dts_nil) (fun _ _ _ _ _ _ => (de_tup (da_cons (de_meth h_Habit_step T.cl_Habit hr zx_blk (List.Mem.tail _ (List.Mem.head _)) (de_var (i := 0)) (da_cons (de_var (i := 1)) (da_cons de_str da_nil))) (da_cons (de_meth h_Habit_step T.cl_Habit hr zx_blk (List.Mem.tail _ (List.Mem.head _)) (de_var (i := 0)) (da_cons (de_var (i := 1)) (da_cons de_str da_nil))) da_nil))))))), fun ds Ψ hl hc => ?_⟩
  obtain ⟨S, rfl, R, hl, q⟩ := hc
  rw [show ent (["_law_custom", "_law_place"] : List Str).length [hbt (He.ga K "Habit") S] = [some (hbt (He.ga K "Habit") S), none] from rfl]
  try dsimp only [List.set, getS_z, getS_s, bin2, bin2T, ltD, leD, gtD, geD, cmp_i, add_i, sub_i, min2_i, max2_i]
  have big1 : ∀ n : Nat, n ≤ 1000000 → n ≤ sizeLine := fun n h => Nat.le_trans h big_ok
  rw [rows_rng] at q
  refine compD_two (xs := (List.range S.length).map fun i => D.int (i : Nat)) (ys := (List.range S.length).map fun i => D.tup [hoD (hnx S i 76), hoD (hnx S i 82)]) (S := fun _ => True) (fun K h => ?_) trivial (by rw [List.length_map, List.length_range]; exact big1 _ (by omega)) ?_ ?_
  · refine ⟨rfl, S, rfl, (show (0 : Int) ≤ (S.length : Nat) ∧ ((S.length : Nat) : Int) < 2 ^ 63 from ⟨by omega, by omega⟩), ?_⟩
    refine ⟨⟨by omega, by omega⟩, ?_⟩
    rw [Int.toNat_natCast, rng_int]
    exact h
  · refine two_map fun i hi Q hQ => ?_
    have hi : i < S.length := List.mem_range.mp hi
    have ok : inB (.int (i : Nat)) 0 ((S.length : Int) - 1) = true := by unfold inB; simp; omega
    dsimp only [asN, wipeD, List.map, List.set]
    try dsimp only [List.set, getS_z, getS_s, bin2, bin2T, ltD, leD, gtD, geD, cmp_i, add_i, sub_i, min2_i, max2_i]
    refine ⟨rfl, rfl, rfl, rfl, S, .int (i : Nat), .str "L", "int", "str", rfl, by omega, rfl, rfl, (fun x e => by cases e; decide), (fun z => by rw [ok] at z; cases z), (fun _ z => absurd z (show ¬ tuB (.str "L") = false by decide +kernel)), fun i2 c e h2 hc e2 => ?_⟩
    have ei : i2 = i := by injection e with e; omega
    have ec : c = 76 := str_L hc e2
    subst ei ec
    refine ⟨rfl, rfl, rfl, rfl, S, .int (i2 : Nat), .str "R", "int", "str", rfl, by omega, rfl, rfl, (fun x e => by cases e; decide), (fun z => by rw [ok] at z; cases z), (fun _ z => absurd z (show ¬ tuB (.str "R") = false by decide +kernel)), fun i3 c3 e3 h3 hc3 e4 => ?_⟩
    have ei3 : i3 = i2 := by injection e3 with e3; omega
    have ec3 : c3 = 82 := str_R hc3 e4
    subst ei3 ec3
    exact ⟨ln (n := 2) rfl (by decide), hQ⟩
  · exact ⟨_, _, .same, q⟩
def c_check_word (CW : Addr) : Ct := fun ds M Ψ Ξ => ∃ d t, ds = [d] ∧ tyN M d = some t ∧ (∀ x, d = .str x → x.cps.size ≤ 1000000) ∧ (wB d = true → Ψ .non M) ∧ (wB d = false → Ξ (CW, [("given", d), ("tag", .str "InvalidWord")]) M)
theorem ok_check_word {f : Addr} {fd : FuncData} {dvs : List V} {kws : List (Str × V)} (T : Txt K mg) (h_is_word : Gf P w K mg base "is_word" 2 (c_is_word) b_is_word) (x_InvalidWord : Xf P w K mg base "InvalidWord" (He.ga K "InvalidWord") 1 (tag2 "InvalidWord" "given")) (F : FnZ K "check_word" "check_word" s_check_word dvs kws f fd) : FnOk P w K mg base (L2.CX P w) 3 f fd ["value"] (spC K (["value"] : List Str).length (c_check_word (He.ga K "InvalidWord"))) := by
  have hnd := sc_check_word.nd
  refine fnD F sc_check_word (c_check_word (He.ga K "InvalidWord")) fun cdv A outer s H E B Ξ hr z => ⟨_, (dss_one (ds_if (dt_not (dt_val (de_call h_is_word hr z (List.Mem.head _) (da_cons (de_var (i := 0)) da_nil)))) (dss_one (ds_raise1 x_InvalidWord hr z rfl (da_cons (de_var (i := 0)) da_nil))) dss_nil)), fun ds Ψ hl hc => ?_⟩
  obtain ⟨d, t, rfl, ht, hz, q1, q2⟩ := hc
  refine ⟨rfl, rfl, d, t, rfl, ht, hz, ?_⟩
  refine bl_c (fun e => ?_) (fun e => ?_)
  · exact ⟨_, _, .same, q1 e⟩
  · exact ⟨_, .same, q2 e⟩
def c_Habit_gone (C : Addr) : Ct := fun ds M Ψ _ => ∃ (S : Hst) (o : Option Nat) (w : List Nat), ds = [hbt C S, hoD o, wdD w] ∧ Rng S ∧ S.length ≤ 4000 ∧ (∀ j, o = some j → j < S.length) ∧ LR w ∧ w.length ≤ 20000 ∧ Ψ (hoD (hgo S o w)) M
theorem ok_Habit_gone {f : Addr} {fd : FuncData} {dvs : List V} {kws : List (Str × V)} (T : Txt K mg)  (F : FnZ K "gone" "Habit.gone" s_Habit_gone dvs kws f fd) : FnOk P w K mg base (L2.CX P w) 2 f fd ["self", "room", "word"] (spC K (["self", "room", "word"] : List Str).length (c_Habit_gone (He.ga K "Habit"))) := by
  have hnd := sc_Habit_gone.nd
  refine fnD F sc_Habit_gone (c_Habit_gone (He.ga K "Habit")) fun cdv A outer s H E B Ξ hr z => ⟨_, (dss_cons (ds_for z.po rfl (di_str (de_var (i := 2))) (dg_name (i := 3) hnd) (dss_cons (ds_if (dt_is (de_var (i := 1)) de_non) (dss_one (ds_ret de_non)) dss_nil)
    (dss_one (ds_set (i := 1) hnd (de_ix (de_ix (de_fld T.cl_Habit T.na_Habit_rows_by_room (de_var (i := 0))) (de_var (i := 1))) (de_sidx (de_gstr T.k_TURNS) (da_cons (de_var (i := 3)) da_nil)))))))
    (dss_one (ds_ret (de_var (i := 1))))), fun ds Ψ hl hc => ?_⟩
  obtain ⟨S, o, w, rfl, R, hl, ho, lw, sw, q⟩ := hc
  rw [show ent (["self", "room", "word", "turn"] : List Str).length [hbt (He.ga K "Habit") S, hoD o, wdD w] = [some (hbt (He.ga K "Habit") S), some (hoD o), some (wdD w), none] from rfl]
  try dsimp only [List.set, getS_z, getS_s, bin2, bin2T, ltD, leD, gtD, geD, cmp_i, add_i, sub_i, min2_i, max2_i]
  have inr : ∀ (u : List Nat) (o : Option Nat), (∀ j, o = some j → j < S.length) → ∀ j, hgo S o u = some j → j < S.length := by
    intro u
    induction u with
    | nil => intro o ho j e; exact ho j e
    | cons t u ih =>
      intro o ho j e
      refine ih (o.bind fun x => hnx S x t) (fun k hk => ?_) j e
      cases o with
      | none => cases hk
      | some x => exact R _ _ _ hk
  refine forD_n (xs := Z.signs ⟨w.toArray⟩) (S := fun _ => True) (fun K h => h) (fun i r M' => M' = B.M ∧ ∃ o3 : Option D, r = [some (hbt (He.ga K "Habit") S), some (hoD (hgo S o (w.take i))), some (wdD w), o3]) ⟨rfl, _, rfl⟩ (fun _ _ _ _ => trivial) (fun i d r M' hd h => ?_) (fun r M' h => ?_)
  · obtain ⟨rfl, o3, rfl⟩ := h
    obtain ⟨hi, rfl⟩ : ∃ hi : i < w.length, d = .str ⟨#[w[i]]⟩ := by
      unfold Z.signs at hd
      rw [List.getElem?_map] at hd
      obtain ⟨c, hc, rfl⟩ := Option.map_eq_some_iff.mp hd
      have hc : w[i]? = some c := by simpa using hc
      obtain ⟨h1, h2⟩ := List.getElem?_eq_some_iff.mp hc
      exact ⟨h1, by rw [h2]⟩
    try dsimp only [List.set, getS_z, getS_s, bin2, bin2T, ltD, leD, gtD, geD, cmp_i, add_i, sub_i, min2_i, max2_i]
    have et : w.take (i + 1) = w.take i ++ [w[i]] := by rw [List.take_add_one, List.getElem?_eq_getElem hi]; rfl
    have eh : hgo S o (w.take (i + 1)) = (hgo S o (w.take i)).bind fun x => hnx S x w[i] := by rw [et, hgo_app]; rfl
    cases e : hgo S o (w.take i) with
    | none =>
      refine bl_t rfl (ite_t rfl ?_)
      have : hgo S o w = none := by
        have ew : w = w.take i ++ w.drop i := (List.take_append_drop i w).symm
        rw [ew, hgo_app, e]
        exact runO_none _ _
      rw [this] at q
      exact ⟨_, _, .same, q⟩
    | some x =>
      rw [e] at eh
      have hx := inr (w.take i) o ho x e
      have eh : hgo S o (w.take (i + 1)) = hnx S x w[i] := eh
      refine bl_f rfl (ite_f rfl ⟨rfl, fld_hd (ix_t (at_nat (j := x) rfl (show (S.map hrD)[x]? = some (hrD S[x]) from by rw [List.getElem?_map, List.getElem?_eq_getElem hx]; rfl)) ⟨trivial, sidx_LR (lw _ (List.getElem_mem hi)) ?_⟩)⟩)
      rcases lw _ (List.getElem_mem hi) with z | z
      · rw [z, if_pos rfl]
        rw [z, hnx_l hx] at eh
        exact ix_t (at_nat (j := 0) rfl rfl) (.of ⟨rfl, _, by rw [eh]⟩)
      · rw [z, if_neg (by decide)]
        rw [z, hnx_r hx] at eh
        exact ix_t (at_nat (j := 1) rfl rfl) (.of ⟨rfl, _, by rw [eh]⟩)
  · obtain ⟨rfl, o3, rfl⟩ := h
    rw [signs_len, List.take_of_length_le (by simp)]
    exact ⟨_, _, .same, q⟩
theorem hb_word {e : D} (h : wB e = true) : ∃ w : List Nat, LR w ∧ e = wdD w := by
  unfold wB at h
  split at h
  · rename_i x
    obtain ⟨⟨cs⟩⟩ := x
    refine ⟨cs, fun c hc => ?_, rfl⟩
    have a2 := List.all_eq_true.mp h c (by simpa using hc)
    have a3 := of_decide_eq_true a2
    have e3 : (("LR" : Str)).cps.toList = [76, 82] := by decide +kernel
    rw [e3] at a3
    simpa using a3
  · cases h
def c_Habit_goes (C CR CW : Addr) : Ct := fun ds M Ψ Ξ => ∃ (S : Hst) (d e : D) (td te : String), ds = [hbt C S, e, d] ∧ Rng S ∧ S.length ≤ 4000 ∧ tyN M d = some td ∧ tyN M e = some te ∧ (∀ x, e = .str x → x.cps.size ≤ 20000) ∧
  (inB d 0 ((S.length : Int) - 1) = false → Ξ (CR, [("given", d), ("tag", .str "InvalidRoom")]) M) ∧ (inB d 0 ((S.length : Int) - 1) = true → wB e = false → Ξ (CW, [("given", e), ("tag", .str "InvalidWord")]) M) ∧
  ∀ (i : Nat) (w : List Nat), d = .int i → i < S.length → LR w → e = wdD w → Ψ (hoD (hgo S (some i) w)) M
theorem ok_Habit_goes {f : Addr} {fd : FuncData} {dvs : List V} {kws : List (Str × V)} (T : Txt K mg) (h_Habit_check_room : Mf P w K mg base (He.ga K "Habit") "check_room" 4 (c_Habit_check_room (He.ga K "Habit") (He.ga K "InvalidRoom")) b_Habit_check_room) (h_check_word : Gf P w K mg base "check_word" 3 (c_check_word (He.ga K "InvalidWord")) b_check_word) (h_Habit_gone : Mf P w K mg base (He.ga K "Habit") "gone" 2 (c_Habit_gone (He.ga K "Habit")) b_Habit_gone) (F : FnZ K "goes" "Habit.goes" s_Habit_goes dvs kws f fd) : FnOk P w K mg base (L2.CX P w) 5 f fd ["self", "word", "room"] (spC K (["self", "word", "room"] : List Str).length (c_Habit_goes (He.ga K "Habit") (He.ga K "InvalidRoom") (He.ga K "InvalidWord"))) := by
  have hnd := sc_Habit_goes.nd
  refine fnD F sc_Habit_goes (c_Habit_goes (He.ga K "Habit") (He.ga K "InvalidRoom") (He.ga K "InvalidWord")) fun cdv A outer s H E B Ξ hr z => ⟨_, (dss_cons (ds_expr (de_meth h_Habit_check_room T.cl_Habit hr z (List.Mem.head _) (de_var (i := 0)) (da_cons (de_var (i := 2)) da_nil)))
    (dss_cons (ds_expr (de_call h_check_word hr z (List.Mem.head _) (da_cons (de_var (i := 1)) da_nil)))
    (dss_one (ds_ret (de_meth h_Habit_gone T.cl_Habit hr z (List.Mem.head _) (de_var (i := 0)) (da_cons (de_var (i := 2)) (da_cons (de_var (i := 1)) da_nil))))))), fun ds Ψ hl hc => ?_⟩
  obtain ⟨S, d, e, td, te, rfl, R, hl4, hd, he, hz, q1, q2, q3⟩ := hc
  rw [show ent (["self", "word", "room"] : List Str).length [hbt (He.ga K "Habit") S, e, d] = [some (hbt (He.ga K "Habit") S), some e, some d] from rfl]
  try dsimp only [List.set, getS_z, getS_s, bin2, bin2T, ltD, leD, gtD, geD, cmp_i, add_i, sub_i, min2_i, max2_i]
  refine ⟨rfl, rfl, rfl, rfl, S, d, td, rfl, hl4, hd, fun h1 => ?_, fun h1 => ⟨_, .same, q1 h1⟩⟩
  refine ⟨rfl, rfl, e, te, rfl, he, (fun x ex => Nat.le_trans (hz x ex) (by decide)), fun h2 => ?_, fun h2 => ⟨_, .same, q2 h1 h2⟩⟩
  obtain ⟨i, rfl, hi⟩ := hb_nat h1
  obtain ⟨w, lw, rfl⟩ := hb_word h2
  have hw := hz _ rfl
  refine ⟨rfl, rfl, rfl, rfl, S, some i, w, rfl, R, hl4, (fun j ej => by cases ej; exact hi), lw, by simpa using hw, _, _, .same, q3 i w rfl hi lw rfl⟩
def c__law_goal : Ct := fun ds M Ψ _ => ∃ (S : Hst) (o : Option Nat) (w : List Nat), ds = [.lst (S.map hrD), hoD o, wdD w] ∧ Rng S ∧ S.length ≤ 100 ∧ (∀ j, o = some j → j < S.length) ∧ LR w ∧ w.length ≤ 1000 ∧ Ψ (hoD (hgo S o w)) M
theorem ok__law_goal {f : Addr} {fd : FuncData} {dvs : List V} {kws : List (Str × V)} (T : Txt K mg)  (F : FnZ K "_law_goal" "_law_goal" s__law_goal dvs kws f fd) : FnOk P w K mg base (L2.CX P w) 2 f fd ["_law_steps", "_law_place", "_law_token"] (spC K (["_law_steps", "_law_place", "_law_token"] : List Str).length (c__law_goal)) := by
  have hnd := sc__law_goal.nd
  refine fnD F sc__law_goal (c__law_goal) fun cdv A outer s H E B Ξ hr z => ⟨_, (dss_cons (ds_for z.po rfl (di_str (de_var (i := 2))) (dg_name (i := 3) hnd) (dss_cons (ds_if (dt_is (de_var (i := 1)) de_non) (dss_one (ds_ret de_non)) dss_nil)
    (dss_one (ds_set (i := 1) hnd (de_ix (de_ix (de_var (i := 0)) (de_var (i := 1))) (de_sidx de_str (da_cons (de_var (i := 3)) da_nil)))))))
    (dss_one (ds_ret (de_var (i := 1))))), fun ds Ψ hl hc => ?_⟩
  obtain ⟨S, o, w, rfl, R, hl, ho, lw, sw, q⟩ := hc
  rw [show ent (["_law_steps", "_law_place", "_law_token", "_law_side"] : List Str).length [.lst (S.map hrD), hoD o, wdD w] = [some (.lst (S.map hrD)), some (hoD o), some (wdD w), none] from rfl]
  try dsimp only [List.set, getS_z, getS_s, bin2, bin2T, ltD, leD, gtD, geD, cmp_i, add_i, sub_i, min2_i, max2_i]
  have inr : ∀ (u : List Nat) (o : Option Nat), (∀ j, o = some j → j < S.length) → ∀ j, hgo S o u = some j → j < S.length := by
    intro u
    induction u with
    | nil => intro o ho j e; exact ho j e
    | cons t u ih =>
      intro o ho j e
      refine ih (o.bind fun x => hnx S x t) (fun k hk => ?_) j e
      cases o with
      | none => cases hk
      | some x => exact R _ _ _ hk
  refine forD_n (xs := Z.signs ⟨w.toArray⟩) (S := fun _ => True) (fun K h => h) (fun i r M' => M' = B.M ∧ ∃ o3 : Option D, r = [some (.lst (S.map hrD)), some (hoD (hgo S o (w.take i))), some (wdD w), o3]) ⟨rfl, _, rfl⟩ (fun _ _ _ _ => trivial) (fun i d r M' hd h => ?_) (fun r M' h => ?_)
  · obtain ⟨rfl, o3, rfl⟩ := h
    obtain ⟨hi, rfl⟩ : ∃ hi : i < w.length, d = .str ⟨#[w[i]]⟩ := by
      unfold Z.signs at hd
      rw [List.getElem?_map] at hd
      obtain ⟨c, hc, rfl⟩ := Option.map_eq_some_iff.mp hd
      have hc : w[i]? = some c := by simpa using hc
      obtain ⟨h1, h2⟩ := List.getElem?_eq_some_iff.mp hc
      exact ⟨h1, by rw [h2]⟩
    try dsimp only [List.set, getS_z, getS_s, bin2, bin2T, ltD, leD, gtD, geD, cmp_i, add_i, sub_i, min2_i, max2_i]
    have et : w.take (i + 1) = w.take i ++ [w[i]] := by rw [List.take_add_one, List.getElem?_eq_getElem hi]; rfl
    have eh : hgo S o (w.take (i + 1)) = (hgo S o (w.take i)).bind fun x => hnx S x w[i] := by rw [et, hgo_app]; rfl
    cases e : hgo S o (w.take i) with
    | none =>
      refine bl_t rfl (ite_t rfl ?_)
      have : hgo S o w = none := by
        have ew : w = w.take i ++ w.drop i := (List.take_append_drop i w).symm
        rw [ew, hgo_app, e]
        exact runO_none _ _
      rw [this] at q
      exact ⟨_, _, .same, q⟩
    | some x =>
      rw [e] at eh
      have hx := inr (w.take i) o ho x e
      have eh : hgo S o (w.take (i + 1)) = hnx S x w[i] := eh
      refine bl_f rfl (ite_f rfl (ix_ln (show (S.map hrD)[x]? = some (hrD S[x]) from by rw [List.getElem?_map, List.getElem?_eq_getElem hx]; rfl) ⟨trivial, sidx_LR (lw _ (List.getElem_mem hi)) ?_⟩))
      rcases lw _ (List.getElem_mem hi) with z | z
      · rw [z, if_pos rfl]
        rw [z, hnx_l hx] at eh
        exact ix_t (at_nat (j := 0) rfl rfl) (.of ⟨rfl, _, by rw [eh]⟩)
      · rw [z, if_neg (by decide)]
        rw [z, hnx_r hx] at eh
        exact ix_t (at_nat (j := 1) rfl rfl) (.of ⟨rfl, _, by rw [eh]⟩)
  · obtain ⟨rfl, o3, rfl⟩ := h
    have hw : (Z.signs ⟨w.toArray⟩).length = w.length := by unfold Z.signs; simp
    rw [hw, List.take_length]
    try dsimp only [List.set, getS_z, getS_s, bin2, bin2T, ltD, leD, gtD, geD, cmp_i, add_i, sub_i, min2_i, max2_i]
    exact ⟨_, _, .same, q⟩
def c_Habitd_eqd (C CH CC : Addr) : Ct := fun ds M Ψ _ => (∃ (C2 : Addr) (A1 A2 : Hst), ds = [hbt C A1, hbt C2 A2] ∧ (C2 = CH ∨ C2 = CC) ∧ A1.length ≤ 300 ∧ A2.length ≤ 300 ∧ ∀ b : Bool, (b = true ↔ A1 = A2) → Ψ (.bl b) M) ∨ ∃ (A1 : Hst) (d : D) (t : String), ds = [hbt C A1, d] ∧ tyN M d = some t ∧ Ψ (.bl false) M
theorem mono_Habitd_eqd {C CH CC : Addr} : Mono (c_Habitd_eqd C CH CC) := fun ds M Ψ Ψ' Ξ Ξ' h _ hc => hc.imp (fun ⟨C2, A1, A2, e, hC, l1, l2, q⟩ => ⟨C2, A1, A2, e, hC, l1, l2, fun b hb => h _ _ (q b hb)⟩) fun ⟨A1, d, t, e, ht, q⟩ => ⟨A1, d, t, e, ht, h _ _ q⟩
theorem ok_Habitd_eqd {f : Addr} {fd : FuncData} {dvs : List V} {kws : List (Str × V)} (T : Txt K mg)  (F : FnZ K "__eq__" "Habit.__eq__" s_Habitd_eqd dvs kws f fd) : FnOk P w K mg base (L2.CX P w) 2 f fd ["self", "other"] (spC K (["self", "other"] : List Str).length (c_Habitd_eqd (He.ga K "Habit") (He.ga K "Habit") (He.ga K "Combined"))) := by
  have hnd := sc_Habitd_eqd.nd
  refine fnD F sc_Habitd_eqd (c_Habitd_eqd (He.ga K "Habit") (He.ga K "Habit") (He.ga K "Combined")) fun cdv A outer s H E B Ξ hr z => ⟨_, (dss_one (ds_ret (de_and (de_isis T.n_isinstance T.os_Habit_Combined (da_cons (de_var (i := 1)) (da_cons (de_glob T.gl_Habit (v := .ref (He.ga _ "Habit")) rfl (fun _ => .ref)) da_nil))) (de_and1 (de_eq hr (de_fld T.cl_Habit T.na_Habit_rows_by_room (de_var (i := 0))) (de_alt (de_fld T.cl_Habit T.na_Habit_rows_by_room (de_var (i := 1))) (de_fld T.cl_Combined T.na_Combined_rows_by_room (de_var (i := 1))))))))), fun ds Ψ hl hc => ?_⟩
  rcases hc with ⟨C2, A1, A2, rfl, hC, l1, l2, q⟩ | ⟨A1, d, t, rfl, ht, q⟩
  · rw [show ent (["self", "other"] : List Str).length [hbt (He.ga K "Habit") A1, hbt C2 A2] = [some (hbt (He.ga K "Habit") A1), some (hbt C2 A2)] from rfl]
    try dsimp only [List.set, getS_z, getS_s, bin2, bin2T, ltD, leD, gtD, geD, cmp_i, add_i, sub_i, min2_i, max2_i]
    rcases hC with rfl | rfl
    all_goals
      first | refine ⟨rfl, .inl ⟨_, rfl, bl_t rfl (ite_t rfl ⟨rfl, fld_hd ?_⟩)⟩⟩ | refine ⟨rfl, .inr (.inl ⟨_, rfl, bl_t rfl (ite_t rfl ⟨rfl, fld_hd ?_⟩)⟩)⟩
      first | refine .inl ⟨rfl, fld_hd ?_⟩ | refine .inr ⟨rfl, fld_hd ?_⟩
      exact eqPl (pl_rows (n := 0) A1) (pl_rows (n := 0) A2) fun b hb => ⟨_, _, .same, q b (hb.trans rows_inj)⟩
  · rw [show ent (["self", "other"] : List Str).length [hbt (He.ga K "Habit") A1, d] = [some (hbt (He.ga K "Habit") A1), some d] from rfl]
    try dsimp only [List.set, getS_z, getS_s, bin2, bin2T, ltD, leD, gtD, geD, cmp_i, add_i, sub_i, min2_i, max2_i]
    exact ⟨rfl, .inr (.inr ⟨t, ht, bl_f rfl (ite_f rfl ⟨_, _, .same, q⟩)⟩)⟩
def c_Habitd_reprd (C : Addr) : Ct := fun ds M Ψ _ => ∃ (S : Hst), ds = [hbt C S] ∧ S.length ≤ 20 ∧ Ψ (.str (rpH S.length)) M
theorem ok_Habitd_reprd {f : Addr} {fd : FuncData} {dvs : List V} {kws : List (Str × V)} (T : Txt K mg)  (F : FnZ K "__repr__" "Habit.__repr__" s_Habitd_reprd dvs kws f fd) : FnOk P w K mg base (L2.CX P w) 2 f fd ["self"] (spC K (["self"] : List Str).length (c_Habitd_reprd (He.ga K "Habit"))) := by
  have hnd := sc_Habitd_reprd.nd
  refine fnD F sc_Habitd_reprd (c_Habitd_reprd (He.ga K "Habit")) fun cdv A outer s H E B Ξ hr z => ⟨_, (dss_one (ds_ret (de_joined (.cons de_str (.cons (de_fmt (de_len T.n_len (da_cons (de_fld T.cl_Habit T.na_Habit_rows_by_room (de_var (i := 0))) da_nil))) (.cons de_str .nil)))))), fun ds Ψ hl hc => ?_⟩
  obtain ⟨S, rfl, hl, q⟩ := hc
  rw [show ent (["self"] : List Str).length [hbt (He.ga K "Habit") S] = [some (hbt (He.ga K "Habit") S)] from rfl]
  try dsimp only [List.set, getS_z, getS_s, bin2, bin2T, ltD, leD, gtD, geD, cmp_i, add_i, sub_i, min2_i, max2_i]
  obtain ⟨r1, r2⟩ := rpH_ok S.length hl
  have big : ∀ n : Nat, n ≤ 100 → n ≤ sizeLine := fun n h => Nat.le_trans (show n ≤ 1000000 by omega) big_ok
  refine ⟨big _ (by decide +kernel), rfl, fld_hd ?_⟩
  dsimp only [lenD]
  rw [List.length_map]
  refine ⟨?_, big _ r1, big _ r2, ⟨_, _, .same, q⟩⟩
  have : ∀ m : Fin 21, ((m.1 : Nat) : Int).natAbs.log2 < 1920 := by decide +kernel
  exact this ⟨S.length, by omega⟩
def c_law : Ct := fun ds M Ψ _ => ∃ ns, ds = [scr ns] ∧ ns.length ≤ 63 ∧ M = noM ∧ ∀ M', Ψ (.bl true) M'
theorem ok_law {f : Addr} {fd : FuncData} {dvs : List V} {kws : List (Str × V)} (T : Txt K mg) (h__law_hand : Gf P w K mg base "_law_hand" 2 (c__law_hand) b__law_hand) (h__law_barred : Gf P w K mg base "_law_barred" 6 (c__law_barred) b__law_barred) (h__law_habit : Gf P w K mg base "_law_habit" 4 (c__law_habit) b__law_habit) (c_Habit : Cf P w K mg base "Habit" (He.ga K "Habit") 4 (c_Habitd_initd (He.ga K "Habit") (He.ga K "TooManyRooms") (He.ga K "InvalidWord")) b_Habitd_initd) (h__law_same : Gf P w K mg base "_law_same" 5 (c__law_same 4) b__law_same) (h__law_steps_told : Gf P w K mg base "_law_steps_told" 6 (c__law_steps_told (He.ga K "Habit")) b__law_steps_told) (h_Habitd_lend : Mf P w K mg base (He.ga K "Habit") "__len__" 2 (c_Habitd_lend (He.ga K "Habit")) b_Habitd_lend) (h__law_pick : Gf P w K mg base "_law_pick" 2 (c__law_pick) b__law_pick) (h__law_word : Gf P w K mg base "_law_word" 4 (c__law_word) b__law_word) (h_Habit_goes : Mf P w K mg base (He.ga K "Habit") "goes" 5 (c_Habit_goes (He.ga K "Habit") (He.ga K "InvalidRoom") (He.ga K "InvalidWord")) b_Habit_goes) (h_Habit_step : Mf P w K mg base (He.ga K "Habit") "step" 5 (c_Habit_step (He.ga K "Habit") (He.ga K "InvalidRoom") (He.ga K "InvalidWord")) b_Habit_step) (h__law_goal : Gf P w K mg base "_law_goal" 2 (c__law_goal) b__law_goal) (h__law_of : Gf P w K mg base "_law_of" 3 (c__law_of) b__law_of) (h_Habitd_eqd : Mf P w K mg base (He.ga K "Habit") "__eq__" 2 (c_Habitd_eqd (He.ga K "Habit") (He.ga K "Habit") (He.ga K "Combined")) b_Habitd_eqd) (h_Habitd_reprd : Mf P w K mg base (He.ga K "Habit") "__repr__" 2 (c_Habitd_reprd (He.ga K "Habit")) b_Habitd_reprd) (F : FnZ K "law" "law" s_law dvs kws f fd) : FnOk P w K mg base (L2.CX P w) 7 f fd ["_law_script"] (spC K (["_law_script"] : List Str).length (c_law)) := by
  have hnd := sc_law.nd
  refine fnD F sc_law (c_law) fun cdv A outer s H E B Ξ hr z => ⟨_, (dss_cons (ds_set (i := 1) hnd (de_call h__law_hand hr z (List.Mem.head _) (da_cons (de_var (i := 0)) da_nil)))
    (dss_cons (ds_for z.po rfl (di_range1 T.n_range (da_cons de_int da_nil)) (dg_name (i := 2) hnd) (dss_cons (ds_set (i := 3) hnd (de_call h__law_barred hr z (List.Mem.head _) (da_cons (de_var (i := 1)) (da_cons de_int (da_cons de_int da_nil)))))
    (dss_cons (ds_par (i := 4) (j := 5) rfl hnd (da_cons (de_call h__law_habit hr z (List.Mem.head _) (da_cons (de_var (i := 3)) da_nil)) (da_cons (de_make c_Habit hr z (List.Mem.head _) (da_cons (de_var (i := 3)) da_nil)) da_nil)))
    (dss_cons (ds_if (dt_not (dt_val (de_call h__law_same hr z (List.Mem.head _) (da_cons (de_lst (da_cons (de_call h__law_steps_told hr z (List.Mem.head _) (da_cons (de_var (i := 5)) da_nil)) (da_cons (de_lenO h_Habitd_lend T.n_len hr (List.Mem.head _) (da_cons (de_var (i := 5)) da_nil)) da_nil))) (da_cons (de_lst (da_cons (de_var (i := 4)) (da_cons (de_len T.n_len (da_cons (de_var (i := 4)) da_nil)) da_nil))) da_nil))))) (dss_one (ds_ret de_bl)) dss_nil)
    (dss_cons (ds_for z.po rfl (di_range1 T.n_range (da_cons de_int da_nil)) (dg_name (i := 6) hnd) (dss_cons (ds_if (dt_eqN hr (de_var (i := 4)) (de_lst da_nil)) (dss_one ds_break) dss_nil)
    (dss_cons (ds_par (i := 7) (j := 8) rfl hnd (da_cons (de_call h__law_pick hr z (List.Mem.head _) (da_cons (de_var (i := 1)) (da_cons (de_len T.n_len (da_cons (de_var (i := 4)) da_nil)) da_nil))) (da_cons (de_call h__law_word hr z (List.Mem.head _) (da_cons (de_var (i := 1)) (da_cons de_int da_nil))) da_nil)))
    (dss_cons (ds_set (i := 9) hnd (de_lst (da_cons (de_meth h_Habit_goes T.cl_Habit hr z (List.Mem.head _) (de_var (i := 5)) (da_cons (de_var (i := 8)) da_nil)) (da_cons (de_methK0 h_Habit_goes T.cl_Habit hr z (List.Mem.tail _ (List.Mem.head _)) (de_var (i := 5)) (dk_cons (de_var (i := 7)) (dk_cons (de_var (i := 8)) dk_nil))) (da_cons (de_methK0 h_Habit_step T.cl_Habit hr z (List.Mem.head _) (de_var (i := 5)) (dk_cons de_str (dk_cons (de_var (i := 7)) dk_nil))) da_nil)))))
    (dss_one (ds_if (dt_not (dt_val (de_call h__law_same hr z (List.Mem.head _) (da_cons (de_var (i := 9)) (da_cons (de_lst (da_cons (de_call h__law_goal hr z (List.Mem.head _) (da_cons (de_var (i := 4)) (da_cons de_int (da_cons (de_var (i := 8)) da_nil)))) (da_cons (de_call h__law_goal hr z (List.Mem.head _) (da_cons (de_var (i := 4)) (da_cons (de_var (i := 7)) (da_cons (de_var (i := 8)) da_nil)))) (da_cons (de_ix (de_ix (de_var (i := 4)) (de_var (i := 7))) de_int) da_nil)))) da_nil))))) (dss_one (ds_ret de_bl)) dss_nil))))))
    (dss_cons (ds_set (i := 10) hnd (de_call h__law_of hr z (List.Mem.head _) (da_cons (de_var (i := 1)) (da_cons (de_lst (da_cons (de_call h__law_barred hr z (List.Mem.head _) (da_cons (de_var (i := 1)) (da_cons de_int (da_cons de_int da_nil)))) (da_cons (de_revL (de_var (i := 3))) (da_cons (de_add (de_var (i := 3)) (de_lc rfl hnd (di_list (de_var (i := 3))) (blkOk_by (own := [("_law_one", 12)]) (by rfl)) (tg_name (i := 12) (by decide)) (fun _ _ _ _ _ => (pg_name (i := 12) hnd rfl (by first | exact Or.inl rfl | exact Or.inr rfl) (by first | exact .inl rfl | exact .inr rfl))) (fun _ _ _ _ _ _ => dts_nil) (fun _ _ _ _ _ _ => (de_add (de_var (i := 12)) de_str)))) da_nil)))) da_nil))))
    (dss_cons (ds_set (i := 11) hnd (de_eq hr (de_call h__law_habit hr z (List.Mem.head _) (da_cons (de_var (i := 10)) da_nil)) (de_var (i := 4))))
    (dss_cons (ds_if (dt_not (dt_val (de_call h__law_same hr z (List.Mem.head _) (da_cons (de_lst (da_cons (de_ownEq h_Habitd_eqd mono_Habitd_eqd hr (List.Mem.head _) (de_make c_Habit hr z (List.Mem.head _) (da_cons (de_var (i := 10)) da_nil)) (de_var (i := 5))) (da_cons (de_ownNe h_Habitd_eqd T.cf_Habit mono_Habitd_eqd hr (List.Mem.head _) (de_make c_Habit hr z (List.Mem.head _) (da_cons (de_var (i := 10)) da_nil)) (de_var (i := 5))) (da_cons (de_ownEq h_Habitd_eqd mono_Habitd_eqd hr (List.Mem.head _) (de_var (i := 5)) (de_var (i := 4))) da_nil)))) (da_cons (de_lst (da_cons (de_var (i := 11)) (da_cons (de_not (de_var (i := 11))) (da_cons de_bl da_nil)))) da_nil))))) (dss_one (ds_ret de_bl)) dss_nil)
    (dss_one (ds_if (dt_ne hr (de_reprO h_Habitd_reprd T.n_repr hr (List.Mem.head _) (da_cons (de_var (i := 5)) da_nil)) (de_add (de_add de_str (de_str1 T.n_str (da_cons (de_len T.n_len (da_cons (de_var (i := 4)) da_nil)) da_nil))) de_str)) (dss_one (ds_ret de_bl)) dss_nil))))))))))
    (dss_one (ds_ret (de_and (de_eq hr (de_lenO h_Habitd_lend T.n_len hr (List.Mem.head _) (da_cons (de_make c_Habit hr z (List.Mem.head _) (da_cons (de_lst (da_cons de_str (da_cons de_str da_nil))) da_nil)) da_nil)) de_int) (de_and1 (de_eq hr (de_lenO h_Habitd_lend T.n_len hr (List.Mem.head _) (da_cons (de_make c_Habit hr z (List.Mem.head _) (da_cons (de_lst (da_cons de_str (da_cons de_str da_nil))) da_nil)) da_nil)) de_int))))))), fun ds Ψ hl hc => ?_⟩
  obtain ⟨ns, rfl, hl, hM, q⟩ := hc
  refine ⟨rfl, rfl, ns, rfl, hl, fun p h hp hc0 hi0 => ?_⟩
  have h0 : HandAt (updM B.M p (hd h)) p := ⟨h, updM_same, hc0, hi0⟩
  have big1 : ∀ n : Nat, n ≤ 1000000 → n ≤ sizeLine := fun n h => Nat.le_trans h big_ok
  have len_ls : ∀ {M : Sto} {l : List D} {φ : PD}, φ (.int (l.length : Nat)) M → lenD M [.lst l] φ := fun q => q
  have mk3 : ∀ {bs : List (List Nat)}, (∀ b ∈ bs, LR b ∧ b ≠ [] ∧ (b.length : Int) ≤ 3) → (bs.length : Int) ≤ 3 → B3 bs ∧ BB 9 bs := fun {bs} h l => by
    have h3 : B3 bs := fun b m => ⟨(h b m).1, (h b m).2.1, by have := (h b m).2.2; omega⟩
    refine ⟨h3, fun b m => ⟨(h3 b m).1, (h3 b m).2.1, by have := (h3 b m).2.2; omega⟩, by omega, ?_⟩
    have := len_sumB (bars := bs) (m := 3) fun b m => (h3 b m).2.2
    omega
  try dsimp only [List.set, getS_z, getS_s, bin2, bin2T, ltD, leD, gtD, geD, cmp_i, add_i, sub_i, min2_i, max2_i]
  refine forD_n (xs := rngD 0 2) (S := fun _ => True) (fun K h => ⟨⟨by decide, by decide⟩, h⟩) (fun i r M' => HandAt M' p ∧ ∃ o2 o3 o4 o5 o6 o7 o8 o9 o10 o11 o12, r = [some (scr ns), some (.ref p), o2, o3, o4, o5, o6, o7, o8, o9, o10, o11, o12]) ⟨h0, _, _, _, _, _, _, _, _, _, _, _, rfl⟩ (fun _ _ _ _ => trivial) (fun i d r M' hd' hI => ?_) (fun r M' hI => ?_)
  · obtain ⟨hh, o2, o3, o4, o5, o6, o7, o8, o9, o10, o11, o12, rfl⟩ := hI
    refine ⟨rfl, rfl, p, 3, 3, rfl, hh, by decide, by decide, by decide, by decide, fun bars M1 q1 hb hbl d1 hq1 => ?_⟩
    obtain ⟨h3, B9⟩ := mk3 hb hbl
    have npq := d1.1.ne hq1
    have n1 : (D.ref q1) ≠ .ref p := fun z => npq (by cases z; rfl)
    have h2 := d1.1.upd (c := Cell.lst (bars.map wdD)) hq1
    have kB : lstOf (updM M1 q1 (Cell.lst (bars.map wdD))) (.ref q1) = some (bars.map wdD) := lstOf_at updM_same
    generalize updM M1 q1 (Cell.lst (bars.map wdD)) = M2 at h2 kB
    have hl20 := B9.len
    have hl3 : bars.length ≤ 3 := by omega
    try dsimp only [List.set, getS_z, getS_s, bin2, bin2T, ltD, leD, gtD, geD, cmp_i, add_i, sub_i, min2_i, max2_i]
    have s250 : (bars.map List.length).sum ≤ 250 := Nat.le_trans B9.sum (by decide)
    refine ⟨rfl, rfl, .ref q1, bars, bars, rfl, kB, h3, fun _ => Iff.rfl, hl20, fun S hm hS7 => ?_⟩
    refine ⟨rfl, rfl, fun a ha => ⟨a, _, bars, rfl, updM_same, .inl (lst_upd kB ha), B9.ok, s250, fun S' hm' _ => ⟨rfl, _, updM_updM, ?_⟩⟩⟩
    cases Hm.uniq hm' hm
    try dsimp only [List.set, getS_z, getS_s, bin2, bin2T, ltD, leD, gtD, geD, cmp_i, add_i, sub_i, min2_i, max2_i]
    have bnd : (0 : Int) ≤ (S.length : Nat) ∧ ((S.length : Nat) : Int) < 2 ^ 63 := ⟨by omega, by omega⟩
    refine ⟨rfl, rfl, S, rfl, hm.ok, by omega, ⟨rfl, S, rfl, bnd, ln (n := 2) rfl (by decide), len_ls ⟨ln (n := 2) rfl (by decide), ?_⟩⟩⟩
    rw [List.length_map]
    refine ⟨rfl, rfl, _, _, rfl, Same.l (.cons (same_rows (n := 0) S (by omega)) (.cons (.i _) .nil)) (show 2 ≤ 1000000 by decide), bl_t rfl (ite_f rfl ?_)⟩
    refine forD_b (xs := rngD 0 6) (S := fun _ => True) (fun K h => ⟨⟨by decide, by decide⟩, h⟩) (fun i r M' => HandAt M' p ∧ lstOf M' (.ref q1) = some (bars.map wdD) ∧ ∃ (o6 o7 o8 o9 o10 o11 o12 : Option D), r = [some (scr ns), some (.ref p), some d, some (.ref q1), some (.lst (S.map hrD)), some (hbt (He.ga K "Habit") S), o6, o7, o8, o9, o10, o11, o12]) (fun r M' => HandAt M' p ∧ lstOf M' (.ref q1) = some (bars.map wdD) ∧ ∃ (o6 o7 o8 o9 o10 o11 o12 : Option D), r = [some (scr ns), some (.ref p), some d, some (.ref q1), some (.lst (S.map hrD)), some (hbt (He.ga K "Habit") S), o6, o7, o8, o9, o10, o11, o12]) ⟨h2, kB, _, _, _, _, _, _, _, rfl⟩ (fun _ _ _ _ => trivial) (fun r M3 hI => ?_) (fun tl i d3 r M3 hd3 hI => ?_) (fun r M3 hI => hI)
    · obtain ⟨hh3, kB3, o6, o7, o8, o9, o10, o11, o12, rfl⟩ := hI
      try dsimp only [List.set, getS_z, getS_s, bin2, bin2T, ltD, leD, gtD, geD, cmp_i, add_i, sub_i, min2_i, max2_i]
      refine ⟨rfl, rfl, p, 3, 3, rfl, hh3, by decide, by decide, by decide, by decide, fun late M5 q2 hb2 hbl2 d5 hq2 => ?_⟩
      obtain ⟨h32, B92⟩ := mk3 hb2 hbl2
      have hl32 : late.length ≤ 3 := by omega
      have npq2 := d5.1.ne hq2
      have n2 : (D.ref q2) ≠ .ref p := fun z => npq2 (by cases z; rfl)
      have h6 := d5.1.upd (c := Cell.lst (late.map wdD)) hq2
      have kB6 : lstOf (updM M5 q2 (Cell.lst (late.map wdD))) (.ref q1) = some (bars.map wdD) := lst_upd (lst_dr kB3 n1 d5) hq2
      have kC6 : lstOf (updM M5 q2 (Cell.lst (late.map wdD))) (.ref q2) = some (late.map wdD) := lstOf_at updM_same
      generalize updM M5 q2 (Cell.lst (late.map wdD)) = M6 at h6 kB6 kC6
      try dsimp only [List.set, getS_z, getS_s, bin2, bin2T, ltD, leD, gtD, geD, cmp_i, add_i, sub_i, min2_i, max2_i]
      refine ⟨_, kB6, ?_⟩
      refine compD_two (xs := bars.map wdD) (ys := (bars.map (· ++ [76])).map wdD) (S := fun M => lstOf M (.ref q1) = some (bars.map wdD)) (fun K h => ⟨_, kB6, h⟩) kB6 (by rw [List.length_map]; exact big1 _ (by omega)) ?_ ?_
      · rw [List.map_map]
        refine two_map fun b hb Q hQ => ?_
        dsimp only [asN, wipeD, List.map, List.set]
        try dsimp only [List.set, getS_z, getS_s, bin2, bin2T, ltD, leD, gtD, geD, cmp_i, add_i, sub_i, min2_i, max2_i]
        exact add_w (u := [76]) (by have := (h3 b hb).2.2; omega) (by simp) hQ
      refine add_LL kB6 rfl (by simp; exact big1 _ (by omega)) ⟨ln (n := 3) rfl (by decide), ?_⟩
      refine ⟨rfl, rfl, p, _, _, rfl, h6, rfl, (show 0 < 3 by decide), (show 3 ≤ 1000000 by decide), fun y M7 hy d7 => ?_⟩
      have hy2 : ∃ lw bs3 : List (List Nat), lstOf M7 y = some (lw.map wdD) ∧ B3 bs3 ∧ (∀ u, NoBar lw u ↔ NoBar bs3 u) ∧ lw.length ≤ 20 ∧ (∀ b ∈ lw, LR b ∧ b ≠ [] ∧ b.length ≤ 20) ∧ (lw.map List.length).sum ≤ 250 := by
        simp only [List.mem_cons, List.not_mem_nil, or_false] at hy
        rcases hy with rfl | rfl | rfl
        · exact ⟨late, late, lst_dr kC6 n2 d7, h32, fun _ => Iff.rfl, by omega, B92.ok, Nat.le_trans B92.sum (by decide)⟩
        · refine ⟨bars.reverse, bars, by rw [List.map_reverse]; rfl, h3, noBar_rev, by rw [List.length_reverse]; omega, fun b m => B9.ok b (List.mem_reverse.mp m), ?_⟩
          rw [List.map_reverse, List.sum_reverse]
          exact s250
        · refine ⟨bars ++ bars.map (· ++ [76]), bars, by rw [List.map_append]; rfl, h3, noBar_ext, by rw [List.length_append, List.length_map]; omega, fun b m => ?_, ?_⟩
          · rcases List.mem_append.mp m with z | z
            · exact B9.ok b z
            · obtain ⟨c, hc, rfl⟩ := List.mem_map.mp z
              obtain ⟨a1, a2, a3⟩ := h3 c hc
              exact ⟨lr_snoc a1 (.inl rfl), by simp, by rw [List.length_append, List.length_singleton]; omega⟩
          · have := len_sumB (bars := bars ++ bars.map (· ++ [76])) (m := 4) fun b m => by
              rcases List.mem_append.mp m with z | z
              · have := (h3 b z).2.2; omega
              · obtain ⟨c, hc, rfl⟩ := List.mem_map.mp z
                have := (h3 c hc).2.2
                rw [List.length_append, List.length_singleton]; omega
            rw [List.length_append, List.length_map] at this
            omega
      obtain ⟨lw, bs3, kY, hb3, hbb, hlw, okw, suw⟩ := hy2
      try dsimp only [List.set, getS_z, getS_s, bin2, bin2T, ltD, leD, gtD, geD, cmp_i, add_i, sub_i, min2_i, max2_i]
      refine ⟨rfl, rfl, y, lw, bs3, rfl, kY, hb3, hbb, hlw, fun S2 hm2 hS27 => ?_⟩
      refine eqPl (pl_rowsL (n := 0) S2) (pl_rowsL (n := 0) S) fun b0 hb0 => ?_
      have hb0 : b0 = true ↔ S2 = S := hb0.trans rowsL_inj
      have hm3 : Hm S2 (Ext (NoBar lw)) := hm2.ext_congr fun w _ => (hbb w).symm
      refine ⟨rfl, rfl, fun a ha => ⟨a, _, lw, rfl, updM_same, .inl (lst_upd kY ha), okw, suw, fun T1 t1 _ => ⟨rfl, _, updM_updM, ?_⟩⟩⟩
      cases Hm.uniq t1 hm3
      refine ⟨rfl, .inl ⟨_, rfl⟩, .inl ⟨_, S2, S, rfl, .inl rfl, by omega, by omega, fun b1 hb1 => bl_v ?_⟩⟩
      refine ⟨rfl, rfl, fun a ha => ⟨a, _, lw, rfl, updM_same, .inl (lst_upd kY ha), okw, suw, fun T2 t2 _ => ⟨rfl, _, updM_updM, ?_⟩⟩⟩
      cases Hm.uniq t2 hm3
      refine ⟨rfl, .inl ⟨_, rfl⟩, .inl ⟨_, S2, S, rfl, .inl rfl, by omega, by omega, fun b2 hb2 => bl_v ?_⟩⟩
      have e10 : b1 = b0 := Bool.eq_iff_iff.mpr (hb1.trans hb0.symm)
      have e20 : b2 = b0 := Bool.eq_iff_iff.mpr (hb2.trans hb0.symm)
      subst e10 e20
      refine ⟨rfl, .inr ⟨"list", rfl, T.nf_Habit_list⟩, .inr ⟨S, _, "list", rfl, rfl, bl_v ?_⟩⟩
      refine ⟨ln (n := 3) rfl (by decide), bl_v ⟨ln (n := 3) rfl (by decide), rfl, rfl, _, _, rfl, Same.l (.cons (.b _) (.cons (.b _) (.cons (.b _) .nil))) (show 3 ≤ 1000000 by decide), bl_t rfl (ite_f rfl ?_)⟩⟩
      refine ⟨rfl, S, rfl, by omega, ?_⟩
      have big : ∀ n : Nat, n ≤ 100 → n ≤ sizeLine := fun n h => Nat.le_trans (show n ≤ 1000000 by omega) big_ok
      have lg2 : ∀ m : Fin 21, ((m.1 : Nat) : Int).natAbs.log2 < 1920 := by decide +kernel
      have er : ∀ m : Fin 21, ("Habit(" : Str).length + (toString ((m.1 : Nat) : Int) : Str).length ≤ 100 ∧ (("Habit(" : Str) ++ (toString ((m.1 : Nat) : Int) : Str)).length + (" rooms)" : Str).length ≤ 100 ∧ (("Habit(" : Str) ++ (toString ((m.1 : Nat) : Int) : Str)) ++ (" rooms)" : Str) = rpH m.1 := by decide +kernel
      have er1 := (er ⟨S.length, by omega⟩).1
      have er2 := (er ⟨S.length, by omega⟩).2.1
      have er3 : (("Habit(" : Str) ++ (toString ((S.length : Nat) : Int) : Str)) ++ (" rooms)" : Str) = rpH S.length := (er ⟨S.length, by omega⟩).2.2
      refine ⟨trivial, len_ls ?_⟩
      rw [List.length_map]
      refine ⟨lg2 ⟨S.length, by omega⟩, big _ er1, big _ er2, neS (bl_f (by rw [er3]; simp) (ite_f rfl (.of ⟨d7.1, _, _, _, _, _, _, _, _, _, _, _, rfl⟩)))⟩
    · obtain ⟨hh3, kB3, o6, o7, o8, o9, o10, o11, o12, rfl⟩ := hI
      try dsimp only [List.set, getS_z, getS_s, bin2, bin2T, ltD, leD, gtD, geD, cmp_i, add_i, sub_i, min2_i, max2_i]
      refine ⟨ln (n := 0) rfl (by decide), eqN_nil rfl ?_⟩
      by_cases eS : S = []
      · exact bl_t (by rw [eS]; rfl) (ite_t rfl (tl _ _ ⟨hh3, kB3, _, _, _, _, _, _, _, rfl⟩))
      · refine bl_f (by simp [eS]) (ite_f rfl (len_ls ?_))
        rw [List.length_map]
        have h0S : 0 < S.length := List.length_pos_iff.mpr eS
        have inr : ∀ (u : List Nat) (o : Option Nat), (∀ j, o = some j → j < S.length) → ∀ j, hgo S o u = some j → j < S.length := fun u => by
          induction u with
          | nil => exact fun o ho j e => ho j e
          | cons t u ih =>
            intro o ho j e
            refine ih (o.bind fun x => hnx S x t) (fun k hk => ?_) j e
            cases o with
            | none => cases hk
            | some x => exact hm.ok _ _ _ hk
        refine ⟨rfl, rfl, p, (S.length : Nat), rfl, hh3, by omega, by omega, fun k M4 k0 k1 d4 => ?_⟩
        obtain ⟨j, rfl⟩ : ∃ j : Nat, k = (j : Nat) := ⟨k.toNat, by omega⟩
        have hj : j < S.length := by omega
        have kB4 := lst_dr kB3 n1 d4
        refine ⟨rfl, rfl, p, 8, rfl, d4.1, by decide, by decide, fun w M5 lw hwl d5 => ?_⟩
        have kB5 := lst_dr kB4 n1 d5
        try dsimp only [List.set, getS_z, getS_s, bin2, bin2T, ltD, leD, gtD, geD, cmp_i, add_i, sub_i, min2_i, max2_i]
        have inj : ∀ i : Nat, i < S.length → inB (.int (i : Nat)) 0 ((S.length : Int) - 1) = true := fun i h => by unfold inB; simp; omega
        have wsz : ∀ x : Str, wdD w = .str x → x.cps.size ≤ 20000 := fun x e => by cases e; simp; omega
        have wok : ¬ wB (wdD w) = false := fun z => by
          have : wB (wdD w) = true := by
            show (w.toArray.toList.all fun c => decide (c ∈ ("LR" : Str).cps.toList)) = true
            rw [List.all_eq_true]
            intro c hc
            have := lw c (by simpa using hc)
            rcases this with rfl | rfl <;> decide +kernel
          rw [this] at z
          cases z
        have wj : ∀ {w' : List Nat}, wdD w = wdD w' → w' = w := fun e => (congrArg unW e).symm
        refine ⟨rfl, rfl, rfl, rfl, S, .int (0 : Nat), wdD w, "int", "str", rfl, hm.ok, by omega, rfl, rfl, wsz, (fun z => by rw [inj 0 h0S] at z; cases z), (fun _ z => absurd z wok), fun i1 w1 ei _ _ ew => ?_⟩
        obtain rfl := wj ew
        have ei1 : i1 = 0 := by injection ei with ei; omega
        subst ei1
        refine ⟨rfl, rfl, rfl, rfl, S, .int (j : Nat), wdD w1, "int", "str", rfl, hm.ok, by omega, rfl, rfl, wsz, (fun z => by rw [inj j hj] at z; cases z), (fun _ z => absurd z wok), fun i2 w2 ei2 _ _ ew2 => ?_⟩
        obtain rfl := wj ew2
        have ei3 : i2 = j := by injection ei2 with ei2; omega
        subst ei3
        refine ⟨rfl, rfl, rfl, rfl, S, .int (i2 : Nat), .str "R", "int", "str", rfl, by omega, rfl, rfl, (fun x e => by cases e; decide), (fun z => by rw [inj i2 hj] at z; cases z), (fun _ z => absurd z (show ¬ tuB (.str "R") = false by decide +kernel)), fun i4 c4 e4 h4 hc4 e5 => ?_⟩
        have ei5 : i4 = i2 := by injection e4 with e4; omega
        have ec4 : c4 = 82 := str_R hc4 e5
        subst ei5 ec4
        refine ⟨ln (n := 3) rfl (by decide), ?_⟩
        try dsimp only [List.set, getS_z, getS_s, bin2, bin2T, ltD, leD, gtD, geD, cmp_i, add_i, sub_i, min2_i, max2_i]
        refine ⟨rfl, rfl, S, some 0, w2, rfl, hm.ok, by omega, (fun j e => by cases e; exact h0S), lw, by omega, ?_⟩
        refine ⟨rfl, rfl, S, some i4, w2, rfl, hm.ok, by omega, (fun j e => by cases e; exact hj), lw, by omega, ?_⟩
        refine ix_ln (show (S.map hrD)[i4]? = some (hrD S[i4]) from by rw [List.getElem?_map, List.getElem?_eq_getElem hj]; rfl) (ix_t (at_nat (j := 1) rfl rfl) ⟨ln (n := 3) rfl (by decide), ?_⟩)
        rw [hnx_r hj]
        exact ⟨rfl, rfl, _, _, rfl, Same.l (.cons (same_ho _) (.cons (same_ho _) (.cons (same_ho _) .nil))) (show 3 ≤ 1000000 by decide), bl_t rfl (ite_f rfl (.of ⟨d5.1, kB5, _, _, _, _, _, _, _, rfl⟩))⟩
  · obtain ⟨hh, o2, o3, o4, o5, o6, o7, o8, o9, o10, o11, o12, rfl⟩ := hI
    try dsimp only [List.set, getS_z, getS_s, bin2, bin2T, ltD, leD, gtD, geD, cmp_i, add_i, sub_i, min2_i, max2_i]
    have b4 : ∀ b ∈ bs22, LR b ∧ b ≠ [] ∧ b.length ≤ 20 := fun b m => by
      simp only [List.mem_cons, List.not_mem_nil, or_false] at m
      rcases m with rfl | rfl
      · exact ⟨lr_rep (n := 2) (.inl rfl), by simp, by decide⟩
      · exact ⟨lr_rep (n := 2) (.inr rfl), by simp, by decide⟩
    have hLR : ∀ b ∈ [[76], [82]], LR b ∧ b ≠ [] ∧ b.length ≤ 20 := fun b m => by
      simp only [List.mem_cons, List.not_mem_nil, or_false] at m
      rcases m with rfl | rfl
      · exact ⟨lr_rep (n := 1) (.inl rfl), by simp, by decide⟩
      · exact ⟨lr_rep (n := 1) (.inr rfl), by simp, by decide⟩
    refine ⟨ln (n := 2) rfl (by decide), rfl, rfl, fun a ha => ⟨a, _, bs22, rfl, updM_same, .inl rfl, b4, by decide, fun SA hA lA => ⟨rfl, _, updM_updM, ?_⟩⟩⟩
    refine ⟨rfl, SA, rfl, ⟨by omega, by omega⟩, ?_⟩
    rw [len3d hA]
    refine eqI (bl_t rfl (ite_t rfl ?_))
    refine ⟨ln (n := 2) rfl (by decide), rfl, rfl, fun a ha => ⟨a, _, [[76], [82]], rfl, updM_same, .inl rfl, hLR, by decide, fun SB hB lB => ⟨rfl, _, updM_updM, ?_⟩⟩⟩
    have eB : SB = [] := (hm_empty hB).mpr (no_rows (by simp) (by simp))
    subst eB
    refine ⟨rfl, [], rfl, ⟨by decide, by decide⟩, ?_⟩
    exact eqI ⟨_, _, .same, q _⟩
end
def fn : List DefZ := [⟨.g "_law_hand", "_law_hand", "_law_hand", s__law_hand, [], [], false⟩,
  ⟨.g "_law_pick", "_law_pick", "_law_pick", s__law_pick, [], [], false⟩,
  ⟨.g "_law_of", "_law_of", "_law_of", s__law_of, [], [], false⟩,
  ⟨.g "_law_word", "_law_word", "_law_word", s__law_word, [], [], false⟩,
  ⟨.g "_law_some", "_law_some", "_law_some", s__law_some, [], [], false⟩,
  ⟨.g "_law_barred", "_law_barred", "_law_barred", s__law_barred, [], [], false⟩,
  ⟨.g "_law_goes", "_law_goes", "_law_goes", s__law_goes, [], [], false⟩,
  ⟨.g "_law_all", "_law_all", "_law_all", s__law_all, [], [], false⟩,
  ⟨.g "_law_sign_of", "_law_sign_of", "_law_sign_of", s__law_sign_of, [], [], false⟩,
  ⟨.g "_law_habit", "_law_habit", "_law_habit", s__law_habit, [], [], false⟩,
  ⟨.g "is_word", "is_word", "is_word", s_is_word, [], [], false⟩,
  ⟨.g "living", "living", "living", s_living, [], [], false⟩,
  ⟨.g "classes_of", "classes_of", "classes_of", s_classes_of, [], [], false⟩,
  ⟨.g "least_steps", "least_steps", "least_steps", s_least_steps, [], [], false⟩,
  ⟨.g "barred_steps", "barred_steps", "barred_steps", s_barred_steps, [], [], false⟩,
  ⟨.mt "Habit" "__init__", "__init__", "Habit.__init__", s_Habitd_initd, [.adr (dfltA (.mt "Habit" "__init__") 0)], [], false⟩,
  ⟨.g "_law_same", "_law_same", "_law_same", s__law_same, [], [], false⟩,
  ⟨.mt "Habit" "__len__", "__len__", "Habit.__len__", s_Habitd_lend, [], [], false⟩,
  ⟨.g "is_integer", "is_integer", "is_integer", s_is_integer, [], [], false⟩,
  ⟨.g "is_within", "is_within", "is_within", s_is_within, [], [], false⟩,
  ⟨.mt "Habit" "check_room", "check_room", "Habit.check_room", s_Habit_check_room, [], [], false⟩,
  ⟨.g "is_turn", "is_turn", "is_turn", s_is_turn, [], [], false⟩,
  ⟨.g "check_turn", "check_turn", "check_turn", s_check_turn, [], [], false⟩,
  ⟨.mt "Habit" "step", "step", "Habit.step", s_Habit_step, [], [], false⟩,
  ⟨.g "_law_steps_told", "_law_steps_told", "_law_steps_told", s__law_steps_told, [], [], false⟩,
  ⟨.g "check_word", "check_word", "check_word", s_check_word, [], [], false⟩,
  ⟨.mt "Habit" "gone", "gone", "Habit.gone", s_Habit_gone, [], [], false⟩,
  ⟨.mt "Habit" "goes", "goes", "Habit.goes", s_Habit_goes, [], [("room", .int 0)], false⟩,
  ⟨.g "_law_goal", "_law_goal", "_law_goal", s__law_goal, [], [], false⟩,
  ⟨.mt "Habit" "__eq__", "__eq__", "Habit.__eq__", s_Habitd_eqd, [], [], false⟩,
  ⟨.mt "Habit" "__repr__", "__repr__", "Habit.__repr__", s_Habitd_reprd, [], [], false⟩,
  ⟨.g "law", "law", "law", s_law, [], [], false⟩,
  ⟨.mt "InvalidRoom" "__init__", "__init__", "InvalidRoom.__init__", s_InvalidRoom, [], [], false⟩,
  ⟨.mt "InvalidWord" "__init__", "__init__", "InvalidWord.__init__", s_InvalidWord, [], [], false⟩,
  ⟨.mt "TooManyRooms" "__init__", "__init__", "TooManyRooms.__init__", s_TooManyRooms, [], [], false⟩]
def fa : List FF := [isF (.free "range"),
  isF (.free "len"),
  isF (.cls "Habit"),
  cmpF "Habit",
  isF (.free "repr"),
  isF (.free "str"),
  isF (.noat "Habit" "rows_by_room"),
  isF (.cls "Combined"),
  isF (.noat "Combined" "rows_by_room"),
  isF (.free "isinstance"),
  ownS "Habit" "Combined",
  isF (.glo "Habit"),
  isF (.free "int"),
  isF (.str "TURNS" "LR"),
  isF (.free "all"),
  isF (.free "bool"),
  isF (.free "tuple"),
  isF (.free "list"),
  isF (.free "zip"),
  isF (.int "MOST_BARRED" 20),
  isF (.free "any"),
  isF (.int "MOST_ROOMS" 300),
  isF (.free "enumerate"),
  isF (.free "sorted"),
  isF (.free "set"),
  emtF (.mt "Habit" "__init__") 0,
  notF "Habit" "list",
  isF (.glo "law"),
  excF "InvalidRoom",
  isF (.glo "InvalidRoom"),
  isF (.meth "InvalidRoom" "__init__"),
  isF (.noat "InvalidRoom" "tag"),
  isF (.noat "InvalidRoom" "given"),
  excF "InvalidWord",
  isF (.glo "InvalidWord"),
  isF (.meth "InvalidWord" "__init__"),
  isF (.noat "InvalidWord" "tag"),
  isF (.noat "InvalidWord" "given"),
  excF "TooManyRooms",
  isF (.glo "TooManyRooms"),
  isF (.meth "TooManyRooms" "__init__"),
  isF (.noat "TooManyRooms" "tag"),
  isF (.noat "TooManyRooms" "most"),
  isF (.glo "_law_hand"),
  isF (.glo "_law_pick"),
  isF (.glo "_law_of"),
  isF (.glo "_law_word"),
  isF (.glo "_law_some"),
  isF (.glo "_law_barred"),
  isF (.glo "_law_goes"),
  isF (.glo "_law_all"),
  isF (.glo "_law_sign_of"),
  isF (.glo "_law_habit"),
  isF (.glo "is_word"),
  isF (.glo "living"),
  isF (.glo "classes_of"),
  isF (.glo "least_steps"),
  isF (.glo "barred_steps"),
  isF (.mkr "Habit"),
  isF (.glo "_law_same"),
  isF (.meth "Habit" "__len__"),
  isF (.glo "is_integer"),
  isF (.glo "is_within"),
  isF (.meth "Habit" "check_room"),
  isF (.glo "is_turn"),
  isF (.glo "check_turn"),
  isF (.meth "Habit" "step"),
  isF (.glo "_law_steps_told"),
  isF (.glo "check_word"),
  isF (.meth "Habit" "gone"),
  isF (.meth "Habit" "goes"),
  isF (.glo "_law_goal"),
  isF (.meth "Habit" "__eq__"),
  isF (.meth "Habit" "__repr__")]
structure Xx (l : PySem.W.OpenLaw) (w : World) (K : PySem.W.Frag) (h : Heap) (mg : Str → Option Value) (base : Heap) : Prop where
  KX : K.In h
  G : h.Ns mainGlobals mg
  c : SaysZ fa fn K
section
variable {l : PySem.W.OpenLaw} {w : World} {K : PySem.W.Frag} {h : Heap} {mg : Str → Option Value} {base : Heap}
theorem N_T (X : Xx l w K h mg base) : Txt K mg := {n_range := He.free_ok X.KX X.G (X.c.fact 0), n_len := He.free_ok X.KX X.G (X.c.fact 1), cl_Habit := He.cls_ok (X.c.fact 2), cf_Habit := cmpF_ok (X.c.fact 3), n_repr := He.free_ok X.KX X.G (X.c.fact 4), n_str := He.free_ok X.KX X.G (X.c.fact 5), na_Habit_rows_by_room := He.noat_ok (X.c.fact 6), cl_Combined := He.cls_ok (X.c.fact 7), na_Combined_rows_by_room := He.noat_ok (X.c.fact 8), n_isinstance := He.free_ok X.KX X.G (X.c.fact 9), os_Habit_Combined := ownS_ok (X.c.fact 10), gl_Habit := He.glo_ok X.KX X.G (X.c.fact 11), n_int := He.free_ok X.KX X.G (X.c.fact 12), k_TURNS := He.str_ok X.KX X.G (X.c.fact 13), n_all := He.free_ok X.KX X.G (X.c.fact 14), n_bool := He.free_ok X.KX X.G (X.c.fact 15), n_tuple := He.free_ok X.KX X.G (X.c.fact 16), n_list := He.free_ok X.KX X.G (X.c.fact 17), n_zip := He.free_ok X.KX X.G (X.c.fact 18), k_MOST_BARRED := He.int_ok X.KX X.G (X.c.fact 19), n_any := He.free_ok X.KX X.G (X.c.fact 20), k_MOST_ROOMS := He.int_ok X.KX X.G (X.c.fact 21), n_enumerate := He.free_ok X.KX X.G (X.c.fact 22), n_sorted := He.free_ok X.KX X.G (X.c.fact 23), n_set := He.free_ok X.KX X.G (X.c.fact 24), emT_Habitd_initd_0 := emtF_ok (X.c.fact 25), nf_Habit_list := X.c.fact 26}
theorem N_x_InvalidRoom (X : Xx l w K h mg base) : Xf l.prog w K mg base "InvalidRoom" (He.ga K "InvalidRoom") 1 (tag2 "InvalidRoom" "given") := by
  obtain ⟨fd_InvalidRoom, F_InvalidRoom⟩ := X.c.def_ 32 (by rfl)
  exact ⟨excF_ok (X.c.fact 28), He.glo_ok X.KX X.G (X.c.fact 29), _, fd_InvalidRoom, _, (methF_ok (X.c.fact 30)).at_, beq_iff_eq.mp (methF_ok (X.c.fact 30)).fn, (x1_ok (fun_of F_InvalidRoom) (excF_ok (X.c.fact 28)) (He.noat_ok (X.c.fact 31)) (He.noat_ok (X.c.fact 32)) rfl rfl sc_InvalidRoom rfl rfl (by decide) (by decide)), (FunD.bindsN F_InvalidRoom (fun _ _ _ _ _ _ us h => match us, h with | [_, _], _ => rfl)), rfl⟩
theorem N_x_InvalidWord (X : Xx l w K h mg base) : Xf l.prog w K mg base "InvalidWord" (He.ga K "InvalidWord") 1 (tag2 "InvalidWord" "given") := by
  obtain ⟨fd_InvalidWord, F_InvalidWord⟩ := X.c.def_ 33 (by rfl)
  exact ⟨excF_ok (X.c.fact 33), He.glo_ok X.KX X.G (X.c.fact 34), _, fd_InvalidWord, _, (methF_ok (X.c.fact 35)).at_, beq_iff_eq.mp (methF_ok (X.c.fact 35)).fn, (x1_ok (fun_of F_InvalidWord) (excF_ok (X.c.fact 33)) (He.noat_ok (X.c.fact 36)) (He.noat_ok (X.c.fact 37)) rfl rfl sc_InvalidWord rfl rfl (by decide) (by decide)), (FunD.bindsN F_InvalidWord (fun _ _ _ _ _ _ us h => match us, h with | [_, _], _ => rfl)), rfl⟩
theorem N_x_TooManyRooms (X : Xx l w K h mg base) : Xf l.prog w K mg base "TooManyRooms" (He.ga K "TooManyRooms") 1 (tag2 "TooManyRooms" "most") := by
  obtain ⟨fd_TooManyRooms, F_TooManyRooms⟩ := X.c.def_ 34 (by rfl)
  exact ⟨excF_ok (X.c.fact 38), He.glo_ok X.KX X.G (X.c.fact 39), _, fd_TooManyRooms, _, (methF_ok (X.c.fact 40)).at_, beq_iff_eq.mp (methF_ok (X.c.fact 40)).fn, (x1_ok (fun_of F_TooManyRooms) (excF_ok (X.c.fact 38)) (He.noat_ok (X.c.fact 41)) (He.noat_ok (X.c.fact 42)) rfl rfl sc_TooManyRooms rfl rfl (by decide) (by decide)), (FunD.bindsN F_TooManyRooms (fun _ _ _ _ _ _ us h => match us, h with | [_, _], _ => rfl)), rfl⟩
theorem N_h__law_hand (X : Xx l w K h mg base) : Gf l.prog w K mg base "_law_hand" 2 (c__law_hand) b__law_hand := by
  obtain ⟨fd__law_hand, F__law_hand⟩ := X.c.def_ 0 (by rfl)
  exact gf_mk (He.glo_ok X.KX X.G (X.c.fact 43)) F__law_hand (ok__law_hand (N_T X) F__law_hand) (all_cons (bind0 F__law_hand 1 rfl (fun _ _ _ _ _ _ us h => match us, h with | [_], _ => rfl)) all_nil)
theorem N_h__law_pick (X : Xx l w K h mg base) : Gf l.prog w K mg base "_law_pick" 2 (c__law_pick) b__law_pick := by
  obtain ⟨fd__law_pick, F__law_pick⟩ := X.c.def_ 1 (by rfl)
  exact gf_mk (He.glo_ok X.KX X.G (X.c.fact 44)) F__law_pick (ok__law_pick (N_T X) F__law_pick) (all_cons (bind0 F__law_pick 2 rfl (fun _ _ _ _ _ _ us h => match us, h with | [_, _], _ => rfl)) all_nil)
theorem N_h__law_of (X : Xx l w K h mg base) : Gf l.prog w K mg base "_law_of" 3 (c__law_of) b__law_of := by
  obtain ⟨fd__law_of, F__law_of⟩ := X.c.def_ 2 (by rfl)
  exact gf_mk (He.glo_ok X.KX X.G (X.c.fact 45)) F__law_of (ok__law_of (N_T X) (N_h__law_pick X) F__law_of) (all_cons (bind0 F__law_of 2 rfl (fun _ _ _ _ _ _ us h => match us, h with | [_, _], _ => rfl)) all_nil)
theorem N_h__law_word (X : Xx l w K h mg base) : Gf l.prog w K mg base "_law_word" 4 (c__law_word) b__law_word := by
  obtain ⟨fd__law_word, F__law_word⟩ := X.c.def_ 3 (by rfl)
  exact gf_mk (He.glo_ok X.KX X.G (X.c.fact 46)) F__law_word (ok__law_word (N_T X) (N_h__law_pick X) (N_h__law_of X) F__law_word) (all_cons (bind0 F__law_word 2 rfl (fun _ _ _ _ _ _ us h => match us, h with | [_, _], _ => rfl)) all_nil)
theorem N_h__law_some (X : Xx l w K h mg base) : Gf l.prog w K mg base "_law_some" 5 (c__law_some) b__law_some := by
  obtain ⟨fd__law_some, F__law_some⟩ := X.c.def_ 4 (by rfl)
  exact gf_mk (He.glo_ok X.KX X.G (X.c.fact 47)) F__law_some (ok__law_some (N_T X) (N_h__law_of X) (N_h__law_word X) F__law_some) (all_cons (bind0 F__law_some 2 rfl (fun _ _ _ _ _ _ us h => match us, h with | [_, _], _ => rfl)) all_nil)
theorem N_h__law_barred (X : Xx l w K h mg base) : Gf l.prog w K mg base "_law_barred" 6 (c__law_barred) b__law_barred := by
  obtain ⟨fd__law_barred, F__law_barred⟩ := X.c.def_ 5 (by rfl)
  exact gf_mk (He.glo_ok X.KX X.G (X.c.fact 48)) F__law_barred (ok__law_barred (N_T X) (N_h__law_pick X) (N_h__law_some X) F__law_barred) (all_cons (bind0 F__law_barred 3 rfl (fun _ _ _ _ _ _ us h => match us, h with | [_, _, _], _ => rfl)) all_nil)
theorem N_h__law_goes (X : Xx l w K h mg base) : Gf l.prog w K mg base "_law_goes" 2 (c__law_goes) b__law_goes := by
  obtain ⟨fd__law_goes, F__law_goes⟩ := X.c.def_ 6 (by rfl)
  exact gf_mk (He.glo_ok X.KX X.G (X.c.fact 49)) F__law_goes (ok__law_goes (N_T X) F__law_goes) (all_cons (bind0 F__law_goes 2 rfl (fun _ _ _ _ _ _ us h => match us, h with | [_, _], _ => rfl)) all_nil)
theorem N_h__law_all (X : Xx l w K h mg base) : Gf l.prog w K mg base "_law_all" 2 (c__law_all) b__law_all := by
  obtain ⟨fd__law_all, F__law_all⟩ := X.c.def_ 7 (by rfl)
  exact gf_mk (He.glo_ok X.KX X.G (X.c.fact 50)) F__law_all (ok__law_all (N_T X) F__law_all) (all_cons (bind0 F__law_all 1 rfl (fun _ _ _ _ _ _ us h => match us, h with | [_], _ => rfl)) all_nil)
theorem N_h__law_sign_of (X : Xx l w K h mg base) : Gf l.prog w K mg base "_law_sign_of" 3 (c__law_sign_of) b__law_sign_of := by
  obtain ⟨fd__law_sign_of, F__law_sign_of⟩ := X.c.def_ 8 (by rfl)
  exact gf_mk (He.glo_ok X.KX X.G (X.c.fact 51)) F__law_sign_of (ok__law_sign_of (N_T X) (N_h__law_all X) (N_h__law_goes X) F__law_sign_of) (all_cons (bind0 F__law_sign_of 2 rfl (fun _ _ _ _ _ _ us h => match us, h with | [_, _], _ => rfl)) all_nil)
theorem N_h__law_habit (X : Xx l w K h mg base) : Gf l.prog w K mg base "_law_habit" 4 (c__law_habit) b__law_habit := by
  obtain ⟨fd__law_habit, F__law_habit⟩ := X.c.def_ 9 (by rfl)
  exact gf_mk (He.glo_ok X.KX X.G (X.c.fact 52)) F__law_habit (ok__law_habit (N_T X) (N_h__law_goes X) (N_h__law_sign_of X) F__law_habit) (all_cons (bind0 F__law_habit 1 rfl (fun _ _ _ _ _ _ us h => match us, h with | [_], _ => rfl)) all_nil)
theorem N_h_is_word (X : Xx l w K h mg base) : Gf l.prog w K mg base "is_word" 2 (c_is_word) b_is_word := by
  obtain ⟨fd_is_word, F_is_word⟩ := X.c.def_ 10 (by rfl)
  exact gf_mk (He.glo_ok X.KX X.G (X.c.fact 53)) F_is_word (ok_is_word (N_T X) F_is_word) (all_cons (bind0 F_is_word 1 rfl (fun _ _ _ _ _ _ us h => match us, h with | [_], _ => rfl)) all_nil)
theorem N_h_living (X : Xx l w K h mg base) : Gf l.prog w K mg base "living" 2 (c_living) b_living := by
  obtain ⟨fd_living, F_living⟩ := X.c.def_ 11 (by rfl)
  exact gf_mk (He.glo_ok X.KX X.G (X.c.fact 54)) F_living (ok_living (N_T X) F_living) (all_cons (bind0 F_living 1 rfl (fun _ _ _ _ _ _ us h => match us, h with | [_], _ => rfl)) all_nil)
theorem N_h_classes_of (X : Xx l w K h mg base) : Gf l.prog w K mg base "classes_of" 2 (c_classes_of) b_classes_of := by
  obtain ⟨fd_classes_of, F_classes_of⟩ := X.c.def_ 12 (by rfl)
  exact gf_mk (He.glo_ok X.KX X.G (X.c.fact 55)) F_classes_of (ok_classes_of (N_T X) F_classes_of) (all_cons (bind0 F_classes_of 2 rfl (fun _ _ _ _ _ _ us h => match us, h with | [_, _], _ => rfl)) all_nil)
theorem N_h_least_steps (X : Xx l w K h mg base) : Gf l.prog w K mg base "least_steps" 3 (c_least_steps (He.ga K "TooManyRooms")) b_least_steps := by
  obtain ⟨fd_least_steps, F_least_steps⟩ := X.c.def_ 13 (by rfl)
  exact gf_mk (He.glo_ok X.KX X.G (X.c.fact 56)) F_least_steps (ok_least_steps (N_T X) (N_h_living X) (N_h_classes_of X) (N_x_TooManyRooms X) F_least_steps) (all_cons (bind0 F_least_steps 1 rfl (fun _ _ _ _ _ _ us h => match us, h with | [_], _ => rfl)) all_nil)
theorem N_h_barred_steps (X : Xx l w K h mg base) : Gf l.prog w K mg base "barred_steps" 2 (c_barred_steps) b_barred_steps := by
  obtain ⟨fd_barred_steps, F_barred_steps⟩ := X.c.def_ 14 (by rfl)
  exact gf_mk (He.glo_ok X.KX X.G (X.c.fact 57)) F_barred_steps (ok_barred_steps (N_T X) F_barred_steps) (all_cons (bind0 F_barred_steps 1 rfl (fun _ _ _ _ _ _ us h => match us, h with | [_], _ => rfl)) all_nil)
theorem N_c_Habit (X : Xx l w K h mg base) : Cf l.prog w K mg base "Habit" (He.ga K "Habit") 4 (c_Habitd_initd (He.ga K "Habit") (He.ga K "TooManyRooms") (He.ga K "InvalidWord")) b_Habitd_initd := by
  obtain ⟨fd_Habitd_initd, F_Habitd_initd⟩ := X.c.def_ 15 (by rfl)
  exact cf_mk (He.glo_ok X.KX X.G (X.c.fact 11)) (mkrF_ok (X.c.fact 58)) (ok_Habitd_initd (N_T X) (N_h_is_word X) (N_h_least_steps X) (N_h_barred_steps X) (N_x_InvalidWord X) F_Habitd_initd) (all_cons (bindd F_Habitd_initd 2 [] _ [.tup []] (fun Gz => (.cons ((N_T X).emT_Habitd_initd_0 Gz) .nil)) (List.cons_ne_nil _ _) (fun us its ws h1 h2 h3 => match us, its, ws, h1, h2, h3 with | [_, _], [_], [], _, _, _ => rfl) (fun _ _ _ _ _ _ _ us its ws h1 h2 h3 => match us, its, ws, h1, h2, h3 with | [_, _], [_], [], _, _, _ => ⟨_, rfl, rfl⟩)) all_nil)
theorem N_h__law_same_0 (X : Xx l w K h mg base) : Gf l.prog w K mg base "_law_same" 1 (c__law_same 0) b__law_same := by
  obtain ⟨fd__law_same, F__law_same⟩ := X.c.def_ 16 (by rfl)
  exact gf_mk (ps := ["_law_found", "_law_due"]) (He.glo_ok X.KX X.G (X.c.fact 59)) F__law_same (fn_no no__law_same) (all_cons (bind0 F__law_same 2 rfl (fun _ _ _ _ _ _ us h => match us, h with | [_, _], _ => rfl)) all_nil)
theorem N_h__law_same_1 (X : Xx l w K h mg base) : Gf l.prog w K mg base "_law_same" 2 (c__law_same 1) b__law_same := by
  obtain ⟨fd__law_same, F__law_same⟩ := X.c.def_ 16 (by rfl)
  exact gf_mk (ps := ["_law_found", "_law_due"]) (He.glo_ok X.KX X.G (X.c.fact 59)) F__law_same (ok__law_same (N_T X) (by decide) (N_h__law_same_0 X) F__law_same) (all_cons (bind0 F__law_same 2 rfl (fun _ _ _ _ _ _ us h => match us, h with | [_, _], _ => rfl)) all_nil)
theorem N_h__law_same_2 (X : Xx l w K h mg base) : Gf l.prog w K mg base "_law_same" 3 (c__law_same 2) b__law_same := by
  obtain ⟨fd__law_same, F__law_same⟩ := X.c.def_ 16 (by rfl)
  exact gf_mk (ps := ["_law_found", "_law_due"]) (He.glo_ok X.KX X.G (X.c.fact 59)) F__law_same (ok__law_same (N_T X) (by decide) (N_h__law_same_1 X) F__law_same) (all_cons (bind0 F__law_same 2 rfl (fun _ _ _ _ _ _ us h => match us, h with | [_, _], _ => rfl)) all_nil)
theorem N_h__law_same_3 (X : Xx l w K h mg base) : Gf l.prog w K mg base "_law_same" 4 (c__law_same 3) b__law_same := by
  obtain ⟨fd__law_same, F__law_same⟩ := X.c.def_ 16 (by rfl)
  exact gf_mk (ps := ["_law_found", "_law_due"]) (He.glo_ok X.KX X.G (X.c.fact 59)) F__law_same (ok__law_same (N_T X) (by decide) (N_h__law_same_2 X) F__law_same) (all_cons (bind0 F__law_same 2 rfl (fun _ _ _ _ _ _ us h => match us, h with | [_, _], _ => rfl)) all_nil)
theorem N_h__law_same_4 (X : Xx l w K h mg base) : Gf l.prog w K mg base "_law_same" 5 (c__law_same 4) b__law_same := by
  obtain ⟨fd__law_same, F__law_same⟩ := X.c.def_ 16 (by rfl)
  exact gf_mk (ps := ["_law_found", "_law_due"]) (He.glo_ok X.KX X.G (X.c.fact 59)) F__law_same (ok__law_same (N_T X) (by decide) (N_h__law_same_3 X) F__law_same) (all_cons (bind0 F__law_same 2 rfl (fun _ _ _ _ _ _ us h => match us, h with | [_, _], _ => rfl)) all_nil)
theorem N_h_Habitd_lend (X : Xx l w K h mg base) : Mf l.prog w K mg base (He.ga K "Habit") "__len__" 2 (c_Habitd_lend (He.ga K "Habit")) b_Habitd_lend := by
  obtain ⟨fd_Habitd_lend, F_Habitd_lend⟩ := X.c.def_ 17 (by rfl)
  exact mf_mk (methF_ok (X.c.fact 60)) (ok_Habitd_lend (N_T X) F_Habitd_lend) (all_cons (bind0 F_Habitd_lend 1 rfl (fun _ _ _ _ _ _ us h => match us, h with | [_], _ => rfl)) all_nil)
theorem N_h_is_integer (X : Xx l w K h mg base) : Gf l.prog w K mg base "is_integer" 2 (c_is_integer) b_is_integer := by
  obtain ⟨fd_is_integer, F_is_integer⟩ := X.c.def_ 18 (by rfl)
  exact gf_mk (He.glo_ok X.KX X.G (X.c.fact 61)) F_is_integer (ok_is_integer (N_T X) F_is_integer) (all_cons (bind0 F_is_integer 1 rfl (fun _ _ _ _ _ _ us h => match us, h with | [_], _ => rfl)) all_nil)
theorem N_h_is_within (X : Xx l w K h mg base) : Gf l.prog w K mg base "is_within" 3 (c_is_within) b_is_within := by
  obtain ⟨fd_is_within, F_is_within⟩ := X.c.def_ 19 (by rfl)
  exact gf_mk (He.glo_ok X.KX X.G (X.c.fact 62)) F_is_within (ok_is_within (N_T X) (N_h_is_integer X) F_is_within) (all_cons (bind0 F_is_within 3 rfl (fun _ _ _ _ _ _ us h => match us, h with | [_, _, _], _ => rfl)) all_nil)
theorem N_h_Habit_check_room (X : Xx l w K h mg base) : Mf l.prog w K mg base (He.ga K "Habit") "check_room" 4 (c_Habit_check_room (He.ga K "Habit") (He.ga K "InvalidRoom")) b_Habit_check_room := by
  obtain ⟨fd_Habit_check_room, F_Habit_check_room⟩ := X.c.def_ 20 (by rfl)
  exact mf_mk (methF_ok (X.c.fact 63)) (ok_Habit_check_room (N_T X) (N_h_is_within X) (N_x_InvalidRoom X) F_Habit_check_room) (all_cons (bind0 F_Habit_check_room 2 rfl (fun _ _ _ _ _ _ us h => match us, h with | [_, _], _ => rfl)) all_nil)
theorem N_h_is_turn (X : Xx l w K h mg base) : Gf l.prog w K mg base "is_turn" 3 (c_is_turn) b_is_turn := by
  obtain ⟨fd_is_turn, F_is_turn⟩ := X.c.def_ 21 (by rfl)
  exact gf_mk (He.glo_ok X.KX X.G (X.c.fact 64)) F_is_turn (ok_is_turn (N_T X) (N_h_is_word X) F_is_turn) (all_cons (bind0 F_is_turn 1 rfl (fun _ _ _ _ _ _ us h => match us, h with | [_], _ => rfl)) all_nil)
theorem N_h_check_turn (X : Xx l w K h mg base) : Gf l.prog w K mg base "check_turn" 4 (c_check_turn (He.ga K "InvalidWord")) b_check_turn := by
  obtain ⟨fd_check_turn, F_check_turn⟩ := X.c.def_ 22 (by rfl)
  exact gf_mk (He.glo_ok X.KX X.G (X.c.fact 65)) F_check_turn (ok_check_turn (N_T X) (N_h_is_turn X) (N_x_InvalidWord X) F_check_turn) (all_cons (bind0 F_check_turn 1 rfl (fun _ _ _ _ _ _ us h => match us, h with | [_], _ => rfl)) all_nil)
theorem N_h_Habit_step (X : Xx l w K h mg base) : Mf l.prog w K mg base (He.ga K "Habit") "step" 5 (c_Habit_step (He.ga K "Habit") (He.ga K "InvalidRoom") (He.ga K "InvalidWord")) b_Habit_step := by
  obtain ⟨fd_Habit_step, F_Habit_step⟩ := X.c.def_ 23 (by rfl)
  exact mf_mk (methF_ok (X.c.fact 66)) (ok_Habit_step (N_T X) (N_h_Habit_check_room X) (N_h_check_turn X) F_Habit_step) (all_cons (bind0k F_Habit_step 1 ["turn", "room"] _ (fun us its ws h1 h2 h3 => match us, its, ws, h1, h2, h3 with | [_], [], [_, _], _, _, _ => rfl) (fun _ _ _ _ _ _ us ws h1 h2 => match us, ws, h1, h2 with | [_], [_, _], _, _ => rfl)) (all_cons (bind0 F_Habit_step 3 rfl (fun _ _ _ _ _ _ us h => match us, h with | [_, _, _], _ => rfl)) all_nil))
theorem N_h__law_steps_told (X : Xx l w K h mg base) : Gf l.prog w K mg base "_law_steps_told" 6 (c__law_steps_told (He.ga K "Habit")) b__law_steps_told := by
  obtain ⟨fd__law_steps_told, F__law_steps_told⟩ := X.c.def_ 24 (by rfl)
  exact gf_mk (He.glo_ok X.KX X.G (X.c.fact 67)) F__law_steps_told (ok__law_steps_told (N_T X) (N_h_Habitd_lend X) (N_h_Habit_step X) F__law_steps_told) (all_cons (bind0 F__law_steps_told 1 rfl (fun _ _ _ _ _ _ us h => match us, h with | [_], _ => rfl)) all_nil)
theorem N_h_check_word (X : Xx l w K h mg base) : Gf l.prog w K mg base "check_word" 3 (c_check_word (He.ga K "InvalidWord")) b_check_word := by
  obtain ⟨fd_check_word, F_check_word⟩ := X.c.def_ 25 (by rfl)
  exact gf_mk (He.glo_ok X.KX X.G (X.c.fact 68)) F_check_word (ok_check_word (N_T X) (N_h_is_word X) (N_x_InvalidWord X) F_check_word) (all_cons (bind0 F_check_word 1 rfl (fun _ _ _ _ _ _ us h => match us, h with | [_], _ => rfl)) all_nil)
theorem N_h_Habit_gone (X : Xx l w K h mg base) : Mf l.prog w K mg base (He.ga K "Habit") "gone" 2 (c_Habit_gone (He.ga K "Habit")) b_Habit_gone := by
  obtain ⟨fd_Habit_gone, F_Habit_gone⟩ := X.c.def_ 26 (by rfl)
  exact mf_mk (methF_ok (X.c.fact 69)) (ok_Habit_gone (N_T X) F_Habit_gone) (all_cons (bind0 F_Habit_gone 3 rfl (fun _ _ _ _ _ _ us h => match us, h with | [_, _, _], _ => rfl)) all_nil)
theorem N_h_Habit_goes (X : Xx l w K h mg base) : Mf l.prog w K mg base (He.ga K "Habit") "goes" 5 (c_Habit_goes (He.ga K "Habit") (He.ga K "InvalidRoom") (He.ga K "InvalidWord")) b_Habit_goes := by
  obtain ⟨fd_Habit_goes, F_Habit_goes⟩ := X.c.def_ 27 (by rfl)
  exact mf_mk (methF_ok (X.c.fact 70)) (ok_Habit_goes (N_T X) (N_h_Habit_check_room X) (N_h_check_word X) (N_h_Habit_gone X) F_Habit_goes) (all_cons (bindk0 F_Habit_goes 2 [] _ [.int 0] [("room", .int 0)] (fun G => (.cons .int .nil)) (List.cons_ne_nil _ _) (fun q h => h) (fun us its ws h1 h2 h3 => match us, its, ws, h1, h2, h3 with | [_, _], [_], [], _, _, _ => rfl) (fun _ _ _ _ _ _ us mv ws h1 h3 h4 => match us, mv, ws, h1, h3, h4 with | [_, _], [_], [], _, _, _ => ⟨_, _, _, _, _, _, rfl, rfl, rfl⟩)) (all_cons (bindk0 F_Habit_goes 1 ["room", "word"] _ [] [] (fun G => .nil) (List.cons_ne_nil _ _) (fun q h => nomatch h) (fun us its ws h1 h2 h3 => match us, its, ws, h1, h2, h3 with | [_], [], [_, _], _, _, _ => rfl) (fun _ _ _ _ _ _ us mv ws h1 h3 h4 => match us, mv, ws, h1, h3, h4 with | [_], [], [_, _], _, _, _ => rfl)) all_nil))
theorem N_h__law_goal (X : Xx l w K h mg base) : Gf l.prog w K mg base "_law_goal" 2 (c__law_goal) b__law_goal := by
  obtain ⟨fd__law_goal, F__law_goal⟩ := X.c.def_ 28 (by rfl)
  exact gf_mk (He.glo_ok X.KX X.G (X.c.fact 71)) F__law_goal (ok__law_goal (N_T X) F__law_goal) (all_cons (bind0 F__law_goal 3 rfl (fun _ _ _ _ _ _ us h => match us, h with | [_, _, _], _ => rfl)) all_nil)
theorem N_h_Habitd_eqd (X : Xx l w K h mg base) : Mf l.prog w K mg base (He.ga K "Habit") "__eq__" 2 (c_Habitd_eqd (He.ga K "Habit") (He.ga K "Habit") (He.ga K "Combined")) b_Habitd_eqd := by
  obtain ⟨fd_Habitd_eqd, F_Habitd_eqd⟩ := X.c.def_ 29 (by rfl)
  exact mf_mk (methF_ok (X.c.fact 72)) (ok_Habitd_eqd (N_T X) F_Habitd_eqd) (all_cons (bind0 F_Habitd_eqd 2 rfl (fun _ _ _ _ _ _ us h => match us, h with | [_, _], _ => rfl)) all_nil)
theorem N_h_Habitd_reprd (X : Xx l w K h mg base) : Mf l.prog w K mg base (He.ga K "Habit") "__repr__" 2 (c_Habitd_reprd (He.ga K "Habit")) b_Habitd_reprd := by
  obtain ⟨fd_Habitd_reprd, F_Habitd_reprd⟩ := X.c.def_ 30 (by rfl)
  exact mf_mk (methF_ok (X.c.fact 73)) (ok_Habitd_reprd (N_T X) F_Habitd_reprd) (all_cons (bind0 F_Habitd_reprd 1 rfl (fun _ _ _ _ _ _ us h => match us, h with | [_], _ => rfl)) all_nil)
end
theorem all {l : PySem.W.OpenLaw} {w : World} {K : PySem.W.Frag} {h : Heap} {mg : Str → Option Value} {f : Addr} (KX : K.In h) (G : h.Ns mainGlobals mg) (hfa : mg ("law" : Str) = some (.ref f)) (c : SaysZ fa fn K) : LamX.LawAtS l w K (L2.CX l.prog w) 7 63 "_law_script" mg f h := by
  obtain ⟨fd_law, F_law⟩ := c.def_ 31 (by rfl)
  have e0 := hfa.symm.trans (He.glo_ok KX G (c.fact 27))
  cases e0
  refine law_at (c := c_law) (fd := fd_law) (fun s u => FunD.bindsA (ps := ["_law_script"]) F_law (fun _ _ _ _ _ _ us h => match us, h with | [_], _ => rfl) s [u] rfl) (fun base _ _ => ?_) (fun ns hl _ => ⟨ns, rfl, hl, rfl, fun _ => rfl⟩)
  have X : Xx l w K h mg base := ⟨KX, G, c⟩
  exact ok_law (N_T X) (N_h__law_hand X) (N_h__law_barred X) (N_h__law_habit X) (N_c_Habit X) ((N_h__law_same_4 X)) (N_h__law_steps_told X) (N_h_Habitd_lend X) (N_h__law_pick X) (N_h__law_word X) (N_h_Habit_goes X) (N_h_Habit_step X) (N_h__law_goal X) (N_h__law_of X) (N_h_Habitd_eqd X) (N_h_Habitd_reprd X) F_law
def nms : List Str := (["_wall", "__name__", "MillError", "InvalidWord", "InvalidTable", "InvalidNumber", "InvalidRing", "InvalidRoom", "InvalidCount", "InvalidIndex", "TooLong", "TooManyRooms", "ParseError", "TURNS", "MOST_TURNS", "LEFT"] : List Str) ++ (["RIGHT", "NEUTRAL", "is_integer", "is_within", "is_word", "is_turn", "check_word", "check_turn", "divisor_of", "product", "word_table", "divided", "least_times", "runs_taken", "word_taken", "Table"] : List Str) ++ (["table_with", "root_floor", "sign_of", "root_sign", "Number", "number_led", "FAR", "MOST_RUNS", "least_ring", "Row", "MOST_ROOMS", "MOST_BARRED", "barred_steps", "living", "classes_of", "least_steps"] : List Str) ++ (["paired_steps", "Habit", "Combined", "_law_hand", "_law_pick", "_law_of", "_law_same", "_law_word", "_law_some", "_law_all", "_law_barred", "_law_goes", "_law_sign_of", "_law_habit", "_law_goal", "_law_steps_told"] : List Str)
abbrev R : PySem.W.OpenRow := PySem.W.OpenLaw.row PySem.Challenge.rw_turnmill_k37_whole_least_machines_of_hab
def adrs : List PySem.Addr := [3, 31, 51, 127, 203, 234, 241, 246, 253, 260, 267, 712, 717, 722, 729, 871, 894, 901, 908, 915, 920, 925, 932, 937, 942, 947, 952, 959, 966, 971, 976, 30, 50, 126, 202, 233, 240, 245, 252, 259, 266, 711, 716, 721, 728, 870, 893, 900, 907, 914, 919, 924, 931, 936, 941, 946, 951, 958, 965, 970, 975, 48, 124, 200, 752, 769, 776, 783, 791, 854, 861, 868, 47, 123, 199, 751, 745, 768, 775, 782, 790, 784, 853, 860, 867, 744]
abbrev hk : PySem.W.Hook := hookE adrs fa fn
def ob (s : PySem.W.SharedT) : He.AlD := obsE adrs fa fn (HandSHeadRun.getT s)
theorem ob_eq (s : PySem.W.SharedT) : ob s = hk.obs s.abs := obsE_eq (HandSHeadRun.getT_eq s)
noncomputable section
open Z
open PySem PySem.W PySem.Calls PyProof.Rows HandSHeadRun
abbrev kH := PyData.keyHash
abbrev eT (P : Params) (s : Str) (n : Nat) (v : Value) : DictEntry := .mk (PyData.keyHash P s) (.str s n) v
abbrev Q0 := Obj
abbrev eO : Obj := .mk .none none (.fields #[]) #[]
abbrev tO (l : List Value) : Obj := .mk (.type "tuple") none (.seq l.toArray 0) #[]
abbrev dO (l : List DictEntry) (n : Nat) : Obj := .mk (.type "dict") none (.dict l.toArray n) #[]
abbrev fO (a b : Str) (s : Stmt) (k : Nat) : Obj := ⟨.none, none, .func ⟨a, b, L2.defArgs s, .stmts (L2.defBody s), L2.defScope s, k, [], .none, .none, .none, .none, none, .none, .none, 0⟩, #[]⟩
abbrev gO (a b : Str) (s : Stmt) (k : Nat) (m : Str) (n r : Nat) : Obj := ⟨.type "function", none, .func ⟨a, b, L2.defArgs s, .stmts (L2.defBody s), L2.defScope s, k, [], .none, .none, .none, .str m n, none, .ref r, .none, 0⟩, #[]⟩
abbrev cO (a b : Str) (n x1 x2 x3 x4 x5 r : Nat) (t : Bool) (y h : Nat) (A B C : Value) (i j k : Nat) : Obj := .mk (.type "code") none (.fields #[.str a n, .str b (n + 1), .str "/claim/cut.py" (n + 2), .int x1 0, .int x2 0, .int x3 0, .int x4 0, .int x5 0, .ref r, .bool t, .int y 0, .ref h, .none, A, B, C, .int i 0, .int j 0, .str "/claim/cut.py" k]) #[]
abbrev rO (a b c : Nat) (m : Str) (n d : Nat) : Obj := .mk (.type "frame") none .plain #[some (.ref a), some (.ref b), some (.ref c), none, some (.str m n), none, some (.ref d)]
abbrev kO (b : Value) (r : List Value) (m : Str) (d a n1 n2 : Nat) (w : String) : Obj := .mk (.type "type") none (.cls (.mk m [b] r d m true [] [] false none false)) #[some (.ref a), none, some (.str m n1), some (.str m n2), some (.builtin w), some (.bool true)]
abbrev bO (s : String) (v : Value) : Obj := .mk (.type "builtin_function_or_method") none (.fields #[.builtin s, v]) #[]
abbrev nO (o : Obj) (a b : BT) : BT := .node o a b
abbrev lO (o : Obj) : BT := .node o .nil .nil
def o1_3 (P : Params) : Q0 := dO [(eT P "__name__" 165 (.str "turnmill.errors" 194)), (eT P "__doc__" 166 .none), (eT P "__package__" 167 .none), (eT P "__loader__" 168 (.builtin "__main__.__loader__#opaque")), (eT P "__spec__" 169 .none), (eT P "__annotations__" 170 (.ref 6)), (eT P "__builtins__" 171 (.ref 4)), (eT P "__file__" 173 (.str "/claim/cut.py" 172)), (eT P "__cached__" 174 .none), (eT P "_wall" 193 (.ref 21)), (eT P "MillError" 213 (.ref 31)), (eT P "InvalidWord" 239 (.ref 51)), (eT P "InvalidTable" 263 (.ref 70)), (eT P "InvalidNumber" 287 (.ref 89)), (eT P "InvalidRing" 313 (.ref 108)), (eT P "InvalidRoom" 339 (.ref 127)), (eT P "InvalidCount" 365 (.ref 146)), (eT P "InvalidIndex" 391 (.ref 165)), (eT P "TooLong" 417 (.ref 184)), (eT P "TooManyRooms" 443 (.ref 203)), (eT P "ParseError" 469 (.ref 222))] 21
def o1_11 : Q0 := tO []
def o1_12 : Q0 := (.mk .none none (.fields #[(.int 1 0), (.int 0 0), (.ref 20), (.int 5 0), (.int 0 0), (.ref 27), (.int 7 0), (.int 0 0), (.ref 40), (.int 12 0), (.int 0 0), (.ref 59), (.int 16 0), (.int 0 0), (.ref 78), (.int 20 0), (.int 0 0), (.ref 97), (.int 25 0), (.int 0 0), (.ref 116), (.int 30 0), (.int 0 0), (.ref 135), (.int 35 0), (.int 0 0), (.ref 154), (.int 40 0), (.int 0 0), (.ref 173), (.int 45 0), (.int 0 0), (.ref 192), (.int 50 0), (.int 0 0), (.ref 211)]) #[])
def o1_13 : Q0 := cO "<module>" "<module>" 182 1 0 0 0 0 11 false 181 12 .none .none .none 185 1 186
def o1_14 : Q0 := rO 13 3 3 "__main__" 164 0
def o1_15 : Q0 := tO []
def o1_16 : Q0 := eO
def o1_17 : Q0 := tO [(.str "k" 190)]
def o1_18 : Q0 := tO []
def o1_19 : Q0 := fO "_wall" "_wall" (top 0) 0
def o1_20 : Q0 := cO "_wall" "_wall" 187 1 1 0 0 3 15 true 181 16 (.ref 17) (.ref 18) (.ref 19) 191 1 192
def o1_21 : Q0 := gO "_wall" "_wall" (top 0) 3 "__main__" 164 20
def o1_22 : Q0 := tO [(.type "ValueError")]
def o1_23 : Q0 := bO "type.__prepare__" (.type "type")
def o1_24 (P : Params) : Q0 := dO [(eT P "__module__" 203 (.str "turnmill.errors" 194)), (eT P "__qualname__" 205 (.str "MillError" 204)), (eT P "__firstlineno__" 207 (.int 5 206)), (eT P "__static_attributes__" 208 (.ref 29))] 4
def o1_25 : Q0 := tO []
def o1_26 : Q0 := eO
def o1_27 : Q0 := cO "MillError" "MillError" 198 5 0 0 0 0 25 false 181 26 .none .none .none 201 5 202
def o1_28 : Q0 := rO 27 3 24 "turnmill.errors" 194 0
def o1_29 : Q0 := tO []
def o1_30 (P : Params) : Q0 := dO [(eT P "__module__" 203 (.str "turnmill.errors" 194)), (eT P "__firstlineno__" 207 (.int 5 206)), (eT P "__static_attributes__" 208 (.ref 29)), (eT P "__weakref__" 210 (.ref 32)), (eT P "__doc__" 211 .none)] 3
def o1_31 : Q0 := (.mk (.type "type") none (.cls (.mk "MillError" [(.type "ValueError")] [(.ref 31), (.type "ValueError"), (.type "Exception"), (.type "BaseException"), (.type "object")] 30 "MillError" true [] [(.ref 51), (.ref 70), (.ref 89), (.ref 108), (.ref 127), (.ref 146), (.ref 165), (.ref 184), (.ref 203), (.ref 222)] false none false)) #[(some (.ref 22)), none, (some (.str "MillError" 196)), (some (.str "MillError" 204)), (some (.builtin "ValueError.__new__")), (some (.bool true))])
def o1_32 : Q0 := (.mk (.type "getset_descriptor") none (.fields #[(.str "__weakref__" 209), (.ref 31), (.builtin "ExceptionGroup.__weakref__"), .none]) #[])
def o1_33 : Q0 := (.mk (.type "super") none (.fields #[(.ref 31), (.ref 31), (.ref 31)]) #[])
def o1_34 : Q0 := bO "object.__init_subclass__" (.ref 31)
def o1_35 : Q0 := tO [(.ref 31)]
def o1_36 : Q0 := bO "type.__prepare__" (.type "type")
def o1_37 (P : Params) : Q0 := dO [(eT P "__module__" 221 (.str "turnmill.errors" 194)), (eT P "__qualname__" 223 (.str "InvalidWord" 222)), (eT P "__firstlineno__" 225 (.int 7 224)), (eT P "__init__" 233 (.ref 48)), (eT P "__static_attributes__" 236 (.ref 49))] 5
def o1_38 : Q0 := tO []
def o1_39 : Q0 := (.mk .none none (.fields #[(.int 9 0), (.int 4 0), (.ref 47)]) #[])
def o1_40 : Q0 := cO "InvalidWord" "InvalidWord" 216 7 0 0 0 0 38 false 181 39 .none .none .none 219 7 220
def o1_41 : Q0 := rO 40 3 37 "turnmill.errors" 194 0
def o1_42 : Q0 := tO []
def o1_43 : Q0 := eO
def o1_44 : Q0 := tO [(.str "self" 229), (.str "given" 230)]
def o1_45 : Q0 := tO []
def o1_46 : Q0 := fO "__init__" "InvalidWord.__init__" (L2.inClass (top 3) 0) 0
def o1_47 : Q0 := cO "__init__" "InvalidWord.__init__" 226 9 2 0 0 3 42 true 181 43 (.ref 44) (.ref 45) (.ref 46) 231 9 232
def o1_48 : Q0 := gO "__init__" "InvalidWord.__init__" (L2.inClass (top 3) 0) 3 "turnmill.errors" 194 47
def o1_49 : Q0 := tO [(.str "given" 234), (.str "tag" 235)]
def o1_50 (P : Params) : Q0 := dO [(eT P "__module__" 221 (.str "turnmill.errors" 194)), (eT P "__firstlineno__" 225 (.int 7 224)), (eT P "__init__" 233 (.ref 48)), (eT P "__static_attributes__" 236 (.ref 49)), (eT P "__doc__" 237 .none)] 2
def o1_51 : Q0 := kO (.ref 31) [(.ref 51), (.ref 31), (.type "ValueError"), (.type "Exception"), (.type "BaseException"), (.type "object")] "InvalidWord" 50 35 214 222 "ValueError.__new__"
def o1_52 : Q0 := (.mk (.type "super") none (.fields #[(.ref 51), (.ref 51), (.ref 51)]) #[])
def o1_53 : Q0 := bO "object.__init_subclass__" (.ref 51)
def o1_54 : Q0 := tO [(.ref 31)]
def o1_55 : Q0 := bO "type.__prepare__" (.type "type")
def o1_56 (P : Params) : Q0 := dO [(eT P "__module__" 247 (.str "turnmill.errors" 194)), (eT P "__qualname__" 249 (.str "InvalidTable" 248)), (eT P "__firstlineno__" 251 (.int 12 250)), (eT P "__init__" 258 (.ref 67)), (eT P "__static_attributes__" 260 (.ref 68))] 5
def o1_57 : Q0 := tO []
def o1_58 : Q0 := (.mk .none none (.fields #[(.int 14 0), (.int 4 0), (.ref 66)]) #[])
def o1_59 : Q0 := cO "InvalidTable" "InvalidTable" 242 12 0 0 0 0 57 false 181 58 .none .none .none 245 12 246
def o1_60 : Q0 := rO 59 3 56 "turnmill.errors" 194 0
def o1_61 : Q0 := tO []
def o1_62 : Q0 := eO
def o1_63 : Q0 := tO [(.str "self" 255)]
def o1_64 : Q0 := tO []
def o1_65 : Q0 := fO "__init__" "InvalidTable.__init__" (L2.inClass (top 4) 0) 0
def o1_66 : Q0 := cO "__init__" "InvalidTable.__init__" 252 14 1 0 0 3 61 true 181 62 (.ref 63) (.ref 64) (.ref 65) 256 14 257
def o1_67 : Q0 := gO "__init__" "InvalidTable.__init__" (L2.inClass (top 4) 0) 3 "turnmill.errors" 194 66
def o1_68 : Q0 := tO [(.str "tag" 259)]
def o1_69 (P : Params) : Q0 := dO [(eT P "__module__" 247 (.str "turnmill.errors" 194)), (eT P "__firstlineno__" 251 (.int 12 250)), (eT P "__init__" 258 (.ref 67)), (eT P "__static_attributes__" 260 (.ref 68)), (eT P "__doc__" 261 .none)] 2
def o1_70 : Q0 := kO (.ref 31) [(.ref 70), (.ref 31), (.type "ValueError"), (.type "Exception"), (.type "BaseException"), (.type "object")] "InvalidTable" 69 54 240 248 "ValueError.__new__"
def o1_71 : Q0 := (.mk (.type "super") none (.fields #[(.ref 70), (.ref 70), (.ref 70)]) #[])
def o1_72 : Q0 := bO "object.__init_subclass__" (.ref 70)
def o1_73 : Q0 := tO [(.ref 31)]
def o1_74 : Q0 := bO "type.__prepare__" (.type "type")
def o1_75 (P : Params) : Q0 := dO [(eT P "__module__" 271 (.str "turnmill.errors" 194)), (eT P "__qualname__" 273 (.str "InvalidNumber" 272)), (eT P "__firstlineno__" 275 (.int 16 274)), (eT P "__init__" 282 (.ref 86)), (eT P "__static_attributes__" 284 (.ref 87))] 5
def o1_76 : Q0 := tO []
def o1_77 : Q0 := (.mk .none none (.fields #[(.int 18 0), (.int 4 0), (.ref 85)]) #[])
def o1_78 : Q0 := cO "InvalidNumber" "InvalidNumber" 266 16 0 0 0 0 76 false 181 77 .none .none .none 269 16 270
def o1_79 : Q0 := rO 78 3 75 "turnmill.errors" 194 0
def o1_80 : Q0 := tO []
def o1_81 : Q0 := eO
def o1_82 : Q0 := tO [(.str "self" 279)]
def o1_83 : Q0 := tO []
def o1_84 : Q0 := fO "__init__" "InvalidNumber.__init__" (L2.inClass (top 5) 0) 0
def o1_85 : Q0 := cO "__init__" "InvalidNumber.__init__" 276 18 1 0 0 3 80 true 181 81 (.ref 82) (.ref 83) (.ref 84) 280 18 281
def o1_86 : Q0 := gO "__init__" "InvalidNumber.__init__" (L2.inClass (top 5) 0) 3 "turnmill.errors" 194 85
def o1_87 : Q0 := tO [(.str "tag" 283)]
def o1_88 (P : Params) : Q0 := dO [(eT P "__module__" 271 (.str "turnmill.errors" 194)), (eT P "__firstlineno__" 275 (.int 16 274)), (eT P "__init__" 282 (.ref 86)), (eT P "__static_attributes__" 284 (.ref 87)), (eT P "__doc__" 285 .none)] 2
def o1_89 : Q0 := kO (.ref 31) [(.ref 89), (.ref 31), (.type "ValueError"), (.type "Exception"), (.type "BaseException"), (.type "object")] "InvalidNumber" 88 73 264 272 "ValueError.__new__"
def o1_90 : Q0 := (.mk (.type "super") none (.fields #[(.ref 89), (.ref 89), (.ref 89)]) #[])
def o1_91 : Q0 := bO "object.__init_subclass__" (.ref 89)
def o1_92 : Q0 := tO [(.ref 31)]
def o1_93 : Q0 := bO "type.__prepare__" (.type "type")
def o1_94 (P : Params) : Q0 := dO [(eT P "__module__" 295 (.str "turnmill.errors" 194)), (eT P "__qualname__" 297 (.str "InvalidRing" 296)), (eT P "__firstlineno__" 299 (.int 20 298)), (eT P "__init__" 307 (.ref 105)), (eT P "__static_attributes__" 310 (.ref 106))] 5
def o1_95 : Q0 := tO []
def o1_96 : Q0 := (.mk .none none (.fields #[(.int 22 0), (.int 4 0), (.ref 104)]) #[])
def o1_97 : Q0 := cO "InvalidRing" "InvalidRing" 290 20 0 0 0 0 95 false 181 96 .none .none .none 293 20 294
def o1_98 : Q0 := rO 97 3 94 "turnmill.errors" 194 0
def o1_99 : Q0 := tO []
def o1_100 : Q0 := eO
def o1_101 : Q0 := tO [(.str "self" 303), (.str "given" 304)]
def o1_102 : Q0 := tO []
def o1_103 : Q0 := fO "__init__" "InvalidRing.__init__" (L2.inClass (top 6) 0) 0
def o1_104 : Q0 := cO "__init__" "InvalidRing.__init__" 300 22 2 0 0 3 99 true 181 100 (.ref 101) (.ref 102) (.ref 103) 305 22 306
def o1_105 : Q0 := gO "__init__" "InvalidRing.__init__" (L2.inClass (top 6) 0) 3 "turnmill.errors" 194 104
def o1_106 : Q0 := tO [(.str "given" 308), (.str "tag" 309)]
def o1_107 (P : Params) : Q0 := dO [(eT P "__module__" 295 (.str "turnmill.errors" 194)), (eT P "__firstlineno__" 299 (.int 20 298)), (eT P "__init__" 307 (.ref 105)), (eT P "__static_attributes__" 310 (.ref 106)), (eT P "__doc__" 311 .none)] 2
def o1_108 : Q0 := kO (.ref 31) [(.ref 108), (.ref 31), (.type "ValueError"), (.type "Exception"), (.type "BaseException"), (.type "object")] "InvalidRing" 107 92 288 296 "ValueError.__new__"
def o1_109 : Q0 := (.mk (.type "super") none (.fields #[(.ref 108), (.ref 108), (.ref 108)]) #[])
def o1_110 : Q0 := bO "object.__init_subclass__" (.ref 108)
def o1_111 : Q0 := tO [(.ref 31)]
def o1_112 : Q0 := bO "type.__prepare__" (.type "type")
def o1_113 (P : Params) : Q0 := dO [(eT P "__module__" 321 (.str "turnmill.errors" 194)), (eT P "__qualname__" 323 (.str "InvalidRoom" 322)), (eT P "__firstlineno__" 325 (.int 25 324)), (eT P "__init__" 333 (.ref 124)), (eT P "__static_attributes__" 336 (.ref 125))] 5
def o1_114 : Q0 := tO []
def o1_115 : Q0 := (.mk .none none (.fields #[(.int 27 0), (.int 4 0), (.ref 123)]) #[])
def o1_116 : Q0 := cO "InvalidRoom" "InvalidRoom" 316 25 0 0 0 0 114 false 181 115 .none .none .none 319 25 320
def o1_117 : Q0 := rO 116 3 113 "turnmill.errors" 194 0
def o1_118 : Q0 := tO []
def o1_119 : Q0 := eO
def o1_120 : Q0 := tO [(.str "self" 329), (.str "given" 330)]
def o1_121 : Q0 := tO []
def o1_122 : Q0 := fO "__init__" "InvalidRoom.__init__" (L2.inClass (top 7) 0) 0
def o1_123 : Q0 := cO "__init__" "InvalidRoom.__init__" 326 27 2 0 0 3 118 true 181 119 (.ref 120) (.ref 121) (.ref 122) 331 27 332
def o1_124 : Q0 := gO "__init__" "InvalidRoom.__init__" (L2.inClass (top 7) 0) 3 "turnmill.errors" 194 123
def o1_125 : Q0 := tO [(.str "given" 334), (.str "tag" 335)]
def o1_126 (P : Params) : Q0 := dO [(eT P "__module__" 321 (.str "turnmill.errors" 194)), (eT P "__firstlineno__" 325 (.int 25 324)), (eT P "__init__" 333 (.ref 124)), (eT P "__static_attributes__" 336 (.ref 125)), (eT P "__doc__" 337 .none)] 2
def o1_127 : Q0 := kO (.ref 31) [(.ref 127), (.ref 31), (.type "ValueError"), (.type "Exception"), (.type "BaseException"), (.type "object")] "InvalidRoom" 126 111 314 322 "ValueError.__new__"
def o1_128 : Q0 := (.mk (.type "super") none (.fields #[(.ref 127), (.ref 127), (.ref 127)]) #[])
def o1_129 : Q0 := bO "object.__init_subclass__" (.ref 127)
def o1_130 : Q0 := tO [(.ref 31)]
def o1_131 : Q0 := bO "type.__prepare__" (.type "type")
def o1_132 (P : Params) : Q0 := dO [(eT P "__module__" 347 (.str "turnmill.errors" 194)), (eT P "__qualname__" 349 (.str "InvalidCount" 348)), (eT P "__firstlineno__" 351 (.int 30 350)), (eT P "__init__" 359 (.ref 143)), (eT P "__static_attributes__" 362 (.ref 144))] 5
def o1_133 : Q0 := tO []
def o1_134 : Q0 := (.mk .none none (.fields #[(.int 32 0), (.int 4 0), (.ref 142)]) #[])
def o1_135 : Q0 := cO "InvalidCount" "InvalidCount" 342 30 0 0 0 0 133 false 181 134 .none .none .none 345 30 346
def o1_136 : Q0 := rO 135 3 132 "turnmill.errors" 194 0
def o1_137 : Q0 := tO []
def o1_138 : Q0 := eO
def o1_139 : Q0 := tO [(.str "self" 355), (.str "given" 356)]
def o1_140 : Q0 := tO []
def o1_141 : Q0 := fO "__init__" "InvalidCount.__init__" (L2.inClass (top 8) 0) 0
def o1_142 : Q0 := cO "__init__" "InvalidCount.__init__" 352 32 2 0 0 3 137 true 181 138 (.ref 139) (.ref 140) (.ref 141) 357 32 358
def o1_143 : Q0 := gO "__init__" "InvalidCount.__init__" (L2.inClass (top 8) 0) 3 "turnmill.errors" 194 142
def o1_144 : Q0 := tO [(.str "given" 360), (.str "tag" 361)]
def o1_145 (P : Params) : Q0 := dO [(eT P "__module__" 347 (.str "turnmill.errors" 194)), (eT P "__firstlineno__" 351 (.int 30 350)), (eT P "__init__" 359 (.ref 143)), (eT P "__static_attributes__" 362 (.ref 144)), (eT P "__doc__" 363 .none)] 2
def o1_146 : Q0 := kO (.ref 31) [(.ref 146), (.ref 31), (.type "ValueError"), (.type "Exception"), (.type "BaseException"), (.type "object")] "InvalidCount" 145 130 340 348 "ValueError.__new__"
def o1_147 : Q0 := (.mk (.type "super") none (.fields #[(.ref 146), (.ref 146), (.ref 146)]) #[])
def o1_148 : Q0 := bO "object.__init_subclass__" (.ref 146)
def o1_149 : Q0 := tO [(.ref 31)]
def o1_150 : Q0 := bO "type.__prepare__" (.type "type")
def o1_151 (P : Params) : Q0 := dO [(eT P "__module__" 373 (.str "turnmill.errors" 194)), (eT P "__qualname__" 375 (.str "InvalidIndex" 374)), (eT P "__firstlineno__" 377 (.int 35 376)), (eT P "__init__" 385 (.ref 162)), (eT P "__static_attributes__" 388 (.ref 163))] 5
def o1_152 : Q0 := tO []
def o1_153 : Q0 := (.mk .none none (.fields #[(.int 37 0), (.int 4 0), (.ref 161)]) #[])
def o1_154 : Q0 := cO "InvalidIndex" "InvalidIndex" 368 35 0 0 0 0 152 false 181 153 .none .none .none 371 35 372
def o1_155 : Q0 := rO 154 3 151 "turnmill.errors" 194 0
def o1_156 : Q0 := tO []
def o1_157 : Q0 := eO
def o1_158 : Q0 := tO [(.str "self" 381), (.str "given" 382)]
def o1_159 : Q0 := tO []
def o1_160 : Q0 := fO "__init__" "InvalidIndex.__init__" (L2.inClass (top 9) 0) 0
def o1_161 : Q0 := cO "__init__" "InvalidIndex.__init__" 378 37 2 0 0 3 156 true 181 157 (.ref 158) (.ref 159) (.ref 160) 383 37 384
def o1_162 : Q0 := gO "__init__" "InvalidIndex.__init__" (L2.inClass (top 9) 0) 3 "turnmill.errors" 194 161
def o1_163 : Q0 := tO [(.str "given" 386), (.str "tag" 387)]
def o1_164 (P : Params) : Q0 := dO [(eT P "__module__" 373 (.str "turnmill.errors" 194)), (eT P "__firstlineno__" 377 (.int 35 376)), (eT P "__init__" 385 (.ref 162)), (eT P "__static_attributes__" 388 (.ref 163)), (eT P "__doc__" 389 .none)] 2
def o1_165 : Q0 := kO (.ref 31) [(.ref 165), (.ref 31), (.type "ValueError"), (.type "Exception"), (.type "BaseException"), (.type "object")] "InvalidIndex" 164 149 366 374 "ValueError.__new__"
def o1_166 : Q0 := (.mk (.type "super") none (.fields #[(.ref 165), (.ref 165), (.ref 165)]) #[])
def o1_167 : Q0 := bO "object.__init_subclass__" (.ref 165)
def o1_168 : Q0 := tO [(.ref 31)]
def o1_169 : Q0 := bO "type.__prepare__" (.type "type")
def o1_170 (P : Params) : Q0 := dO [(eT P "__module__" 399 (.str "turnmill.errors" 194)), (eT P "__qualname__" 401 (.str "TooLong" 400)), (eT P "__firstlineno__" 403 (.int 40 402)), (eT P "__init__" 411 (.ref 181)), (eT P "__static_attributes__" 414 (.ref 182))] 5
def o1_171 : Q0 := tO []
def o1_172 : Q0 := (.mk .none none (.fields #[(.int 42 0), (.int 4 0), (.ref 180)]) #[])
def o1_173 : Q0 := cO "TooLong" "TooLong" 394 40 0 0 0 0 171 false 181 172 .none .none .none 397 40 398
def o1_174 : Q0 := rO 173 3 170 "turnmill.errors" 194 0
def o1_175 : Q0 := tO []
def o1_176 : Q0 := eO
def o1_177 : Q0 := tO [(.str "self" 407), (.str "most" 408)]
def o1_178 : Q0 := tO []
def o1_179 : Q0 := fO "__init__" "TooLong.__init__" (L2.inClass (top 10) 0) 0
def o1_180 : Q0 := cO "__init__" "TooLong.__init__" 404 42 2 0 0 3 175 true 181 176 (.ref 177) (.ref 178) (.ref 179) 409 42 410
def o1_181 : Q0 := gO "__init__" "TooLong.__init__" (L2.inClass (top 10) 0) 3 "turnmill.errors" 194 180
def o1_182 : Q0 := tO [(.str "most" 412), (.str "tag" 413)]
def o1_183 (P : Params) : Q0 := dO [(eT P "__module__" 399 (.str "turnmill.errors" 194)), (eT P "__firstlineno__" 403 (.int 40 402)), (eT P "__init__" 411 (.ref 181)), (eT P "__static_attributes__" 414 (.ref 182)), (eT P "__doc__" 415 .none)] 2
def o1_184 : Q0 := kO (.ref 31) [(.ref 184), (.ref 31), (.type "ValueError"), (.type "Exception"), (.type "BaseException"), (.type "object")] "TooLong" 183 168 392 400 "ValueError.__new__"
def o1_185 : Q0 := (.mk (.type "super") none (.fields #[(.ref 184), (.ref 184), (.ref 184)]) #[])
def o1_186 : Q0 := bO "object.__init_subclass__" (.ref 184)
def o1_187 : Q0 := tO [(.ref 31)]
def o1_188 : Q0 := bO "type.__prepare__" (.type "type")
def o1_189 (P : Params) : Q0 := dO [(eT P "__module__" 425 (.str "turnmill.errors" 194)), (eT P "__qualname__" 427 (.str "TooManyRooms" 426)), (eT P "__firstlineno__" 429 (.int 45 428)), (eT P "__init__" 437 (.ref 200)), (eT P "__static_attributes__" 440 (.ref 201))] 5
def o1_190 : Q0 := tO []
def o1_191 : Q0 := (.mk .none none (.fields #[(.int 47 0), (.int 4 0), (.ref 199)]) #[])
def o1_192 : Q0 := cO "TooManyRooms" "TooManyRooms" 420 45 0 0 0 0 190 false 181 191 .none .none .none 423 45 424
def o1_193 : Q0 := rO 192 3 189 "turnmill.errors" 194 0
def o1_194 : Q0 := tO []
def o1_195 : Q0 := eO
def o1_196 : Q0 := tO [(.str "self" 433), (.str "most" 434)]
def o1_197 : Q0 := tO []
def o1_198 : Q0 := fO "__init__" "TooManyRooms.__init__" (L2.inClass (top 11) 0) 0
def o1_199 : Q0 := cO "__init__" "TooManyRooms.__init__" 430 47 2 0 0 3 194 true 181 195 (.ref 196) (.ref 197) (.ref 198) 435 47 436
def o1_200 : Q0 := gO "__init__" "TooManyRooms.__init__" (L2.inClass (top 11) 0) 3 "turnmill.errors" 194 199
def o1_201 : Q0 := tO [(.str "most" 438), (.str "tag" 439)]
def o1_202 (P : Params) : Q0 := dO [(eT P "__module__" 425 (.str "turnmill.errors" 194)), (eT P "__firstlineno__" 429 (.int 45 428)), (eT P "__init__" 437 (.ref 200)), (eT P "__static_attributes__" 440 (.ref 201)), (eT P "__doc__" 441 .none)] 2
def o1_203 : Q0 := kO (.ref 31) [(.ref 203), (.ref 31), (.type "ValueError"), (.type "Exception"), (.type "BaseException"), (.type "object")] "TooManyRooms" 202 187 418 426 "ValueError.__new__"
def o1_204 : Q0 := (.mk (.type "super") none (.fields #[(.ref 203), (.ref 203), (.ref 203)]) #[])
def o1_205 : Q0 := bO "object.__init_subclass__" (.ref 203)
def o1_206 : Q0 := tO [(.ref 31)]
def o1_207 : Q0 := bO "type.__prepare__" (.type "type")
def o1_208 (P : Params) : Q0 := dO [(eT P "__module__" 451 (.str "turnmill.errors" 194)), (eT P "__qualname__" 453 (.str "ParseError" 452)), (eT P "__firstlineno__" 455 (.int 50 454)), (eT P "__init__" 463 (.ref 219)), (eT P "__static_attributes__" 466 (.ref 220))] 5
def o1_209 : Q0 := tO []
def o1_210 : Q0 := (.mk .none none (.fields #[(.int 52 0), (.int 4 0), (.ref 218)]) #[])
def o1_211 : Q0 := cO "ParseError" "ParseError" 446 50 0 0 0 0 209 false 181 210 .none .none .none 449 50 450
def o1_212 : Q0 := rO 211 3 208 "turnmill.errors" 194 0
def o1_213 : Q0 := tO []
def o1_214 : Q0 := eO
def o1_215 : Q0 := tO [(.str "self" 459), (.str "line" 460)]
def o1_216 : Q0 := tO []
def o1_217 : Q0 := fO "__init__" "ParseError.__init__" (L2.inClass (top 12) 0) 0
def o1_218 : Q0 := cO "__init__" "ParseError.__init__" 456 52 2 0 0 3 213 true 181 214 (.ref 215) (.ref 216) (.ref 217) 461 52 462
def o1_219 : Q0 := gO "__init__" "ParseError.__init__" (L2.inClass (top 12) 0) 3 "turnmill.errors" 194 218
def o1_220 : Q0 := tO [(.str "line" 464), (.str "tag" 465)]
def o1_221 (P : Params) : Q0 := dO [(eT P "__module__" 451 (.str "turnmill.errors" 194)), (eT P "__firstlineno__" 455 (.int 50 454)), (eT P "__init__" 463 (.ref 219)), (eT P "__static_attributes__" 466 (.ref 220)), (eT P "__doc__" 467 .none)] 2
def o1_222 : Q0 := kO (.ref 31) [(.ref 222), (.ref 31), (.type "ValueError"), (.type "Exception"), (.type "BaseException"), (.type "object")] "ParseError" 221 206 444 452 "ValueError.__new__"
def o1_223 : Q0 := (.mk (.type "super") none (.fields #[(.ref 222), (.ref 222), (.ref 222)]) #[])
def o1_224 : Q0 := bO "object.__init_subclass__" (.ref 222)
def T1 (P : Params) : BT := (nO (boot_o_0 P) (nO (boot_o_1 P) (nO (o1_3 P) (nO (boot_o_7 P) (nO o1_15 (nO o1_31 (nO o1_63 (lO o1_127) (lO o1_191)) (nO o1_95 (lO o1_159) (lO o1_223))) (nO o1_47 (nO o1_79 (lO o1_143) (lO o1_207)) (nO o1_111 (lO o1_175) .nil))) (nO o1_23 (nO o1_39 (nO o1_71 (lO o1_135) (lO o1_199)) (nO o1_103 (lO o1_167) .nil)) (nO o1_55 (nO o1_87 (lO (o1_151 P)) (lO o1_215)) (nO o1_119 (lO (o1_183 P)) .nil)))) (nO o1_11 (nO o1_19 (nO o1_35 (nO o1_67 (lO o1_131) (lO o1_195)) (nO o1_99 (lO o1_163) .nil)) (nO o1_51 (nO o1_83 (lO o1_147) (lO o1_211)) (nO o1_115 (lO o1_179) .nil))) (nO o1_27 (nO o1_43 (nO (o1_75 P) (lO o1_139) (lO o1_203)) (nO (o1_107 P) (lO o1_171) .nil)) (nO o1_59 (nO o1_91 (lO o1_155) (lO o1_219)) (nO o1_123 (lO o1_187) .nil))))) (nO (boot_o_5 P) (nO (boot_o_9 P) (nO o1_17 (nO o1_33 (nO o1_65 (lO o1_129) (lO o1_193)) (nO o1_97 (lO o1_161) .nil)) (nO o1_49 (nO o1_81 (lO (o1_145 P)) (lO o1_209)) (nO (o1_113 P) (lO o1_177) .nil))) (nO o1_25 (nO o1_41 (nO o1_73 (lO o1_137) (lO o1_201)) (nO o1_105 (lO o1_169) .nil)) (nO o1_57 (nO o1_89 (lO o1_153) (lO o1_217)) (nO o1_121 (lO o1_185) .nil)))) (nO o1_13 (nO o1_21 (nO (o1_37 P) (nO (o1_69 P) (lO o1_133) (lO o1_197)) (nO o1_101 (lO o1_165) .nil)) (nO o1_53 (nO o1_85 (lO o1_149) (lO o1_213)) (nO o1_117 (lO o1_181) .nil))) (nO o1_29 (nO o1_45 (nO o1_77 (lO o1_141) (lO o1_205)) (nO o1_109 (lO o1_173) .nil)) (nO o1_61 (nO o1_93 (lO o1_157) (lO (o1_221 P))) (nO o1_125 (lO (o1_189 P)) .nil)))))) (nO (boot_o_2 P) (nO (boot_o_4 P) (nO (boot_o_8 P) (nO o1_16 (nO o1_32 (nO o1_64 (lO o1_128) (lO o1_192)) (nO o1_96 (lO o1_160) (lO o1_224))) (nO o1_48 (nO o1_80 (lO o1_144) (lO (o1_208 P))) (nO o1_112 (lO o1_176) .nil))) (nO (o1_24 P) (nO o1_40 (nO o1_72 (lO o1_136) (lO o1_200)) (nO o1_104 (lO o1_168) .nil)) (nO (o1_56 P) (nO (o1_88 P) (lO o1_152) (lO o1_216)) (nO o1_120 (lO o1_184) .nil)))) (nO o1_12 (nO o1_20 (nO o1_36 (nO o1_68 (lO (o1_132 P)) (lO o1_196)) (nO o1_100 (lO (o1_164 P)) .nil)) (nO o1_52 (nO o1_84 (lO o1_148) (lO o1_212)) (nO o1_116 (lO o1_180) .nil))) (nO o1_28 (nO o1_44 (nO o1_76 (lO o1_140) (lO o1_204)) (nO o1_108 (lO o1_172) .nil)) (nO o1_60 (nO o1_92 (lO o1_156) (lO o1_220)) (nO o1_124 (lO o1_188) .nil))))) (nO (boot_o_6 P) (nO (boot_o_10 P) (nO o1_18 (nO o1_34 (nO o1_66 (lO o1_130) (lO o1_194)) (nO o1_98 (lO o1_162) .nil)) (nO (o1_50 P) (nO o1_82 (lO o1_146) (lO o1_210)) (nO o1_114 (lO o1_178) .nil))) (nO o1_26 (nO o1_42 (nO o1_74 (lO o1_138) (lO (o1_202 P))) (nO o1_106 (lO (o1_170 P)) .nil)) (nO o1_58 (nO o1_90 (lO o1_154) (lO o1_218)) (nO o1_122 (lO o1_186) .nil)))) (nO o1_14 (nO o1_22 (nO o1_38 (nO o1_70 (lO o1_134) (lO o1_198)) (nO o1_102 (lO o1_166) .nil)) (nO o1_54 (nO o1_86 (lO o1_150) (lO o1_214)) (nO o1_118 (lO o1_182) .nil))) (nO (o1_30 P) (nO o1_46 (nO o1_78 (lO o1_142) (lO o1_206)) (nO o1_110 (lO o1_174) .nil)) (nO o1_62 (nO (o1_94 P) (lO o1_158) (lO o1_222)) (nO (o1_126 P) (lO o1_190) .nil)))))))
def S1 (w : World) (os : OsState) : SharedT := ⟨T1 w.params, 225, (Life.mk [] [] [] 0 [] [] Bool.false (List.toArray []) [] 0 Bool.false Bool.false Bool.false 0 [2000, 10, 10] Bool.false 0 Bool.true [] [] 0 Bool.false), #[], (Drawn.mk 0 0 0 0), 470, os⟩
def o2_3 (P : Params) : Q0 := dO [(eT P "__name__" 165 (.str "turnmill.rows" 947)), (eT P "__doc__" 166 .none), (eT P "__package__" 167 .none), (eT P "__loader__" 168 (.builtin "__main__.__loader__#opaque")), (eT P "__spec__" 169 .none), (eT P "__annotations__" 170 (.ref 6)), (eT P "__builtins__" 171 (.ref 4)), (eT P "__file__" 173 (.str "/claim/cut.py" 172)), (eT P "__cached__" 174 .none), (eT P "_wall" 193 (.ref 21)), (eT P "MillError" 213 (.ref 31)), (eT P "InvalidWord" 239 (.ref 51)), (eT P "InvalidTable" 263 (.ref 70)), (eT P "InvalidNumber" 287 (.ref 89)), (eT P "InvalidRing" 313 (.ref 108)), (eT P "InvalidRoom" 339 (.ref 127)), (eT P "InvalidCount" 365 (.ref 146)), (eT P "InvalidIndex" 391 (.ref 165)), (eT P "TooLong" 417 (.ref 184)), (eT P "TooManyRooms" 443 (.ref 203)), (eT P "ParseError" 469 (.ref 222)), (eT P "TURNS" 473 (.str "LR" 472)), (eT P "MOST_TURNS" 475 (.int 4000 474)), (eT P "LEFT" 480 (.ref 225)), (eT P "RIGHT" 485 (.ref 226)), (eT P "NEUTRAL" 490 (.ref 227)), (eT P "is_integer" 497 (.ref 234)), (eT P "is_within" 506 (.ref 241)), (eT P "is_word" 512 (.ref 246)), (eT P "is_turn" 519 (.ref 253)), (eT P "check_word" 526 (.ref 260)), (eT P "check_turn" 533 (.ref 267)), (eT P "divisor_of" 544 (.ref 274)), (eT P "product" 560 (.ref 281)), (eT P "word_table" 569 (.ref 288)), (eT P "divided" 575 (.ref 293)), (eT P "least_times" 581 (.ref 298)), (eT P "runs_taken" 595 (.ref 305)), (eT P "word_taken" 601 (.ref 310)), (eT P "Table" 760 (.ref 428)), (eT P "table_with" 771 (.ref 439)), (eT P "root_floor" 783 (.ref 446)), (eT P "sign_of" 790 (.ref 453)), (eT P "root_sign" 801 (.ref 460)), (eT P "Number" 934 (.ref 558)), (eT P "number_led" 946 (.ref 569)), (eT P "FAR" 952 (.int 1000000000000000000000000000000 951)), (eT P "MOST_RUNS" 954 (.int 400 953)), (eT P "least_ring" 961 (.ref 576)), (eT P "Row" 1151 (.ref 703))] 50
def o2_12 : Q0 := (.mk .none none (.fields #[(.int 1 0), (.int 0 0), (.ref 20), (.int 5 0), (.int 0 0), (.ref 27), (.int 7 0), (.int 0 0), (.ref 40), (.int 12 0), (.int 0 0), (.ref 59), (.int 16 0), (.int 0 0), (.ref 78), (.int 20 0), (.int 0 0), (.ref 97), (.int 25 0), (.int 0 0), (.ref 116), (.int 30 0), (.int 0 0), (.ref 135), (.int 35 0), (.int 0 0), (.ref 154), (.int 40 0), (.int 0 0), (.ref 173), (.int 45 0), (.int 0 0), (.ref 192), (.int 50 0), (.int 0 0), (.ref 211), (.int 61 0), (.int 0 0), (.ref 233), (.int 63 0), (.int 0 0), (.ref 240), (.int 65 0), (.int 0 0), (.ref 245), (.int 67 0), (.int 0 0), (.ref 252), (.int 69 0), (.int 0 0), (.ref 259), (.int 72 0), (.int 0 0), (.ref 266), (.int 75 0), (.int 0 0), (.ref 273), (.int 83 0), (.int 0 0), (.ref 280), (.int 87 0), (.int 0 0), (.ref 287), (.int 92 0), (.int 0 0), (.ref 292), (.int 95 0), (.int 0 0), (.ref 297), (.int 97 0), (.int 0 0), (.ref 304), (.int 114 0), (.int 0 0), (.ref 309), (.int 119 0), (.int 0 0), (.ref 316), (.int 181 0), (.int 0 0), (.ref 438), (.int 185 0), (.int 0 0), (.ref 445), (.int 196 0), (.int 0 0), (.ref 452), (.int 198 0), (.int 0 0), (.ref 459), (.int 203 0), (.int 0 0), (.ref 466), (.int 265 0), (.int 0 0), (.ref 568), (.int 273 0), (.int 0 0), (.ref 575), (.int 275 0), (.int 0 0), (.ref 582)]) #[])
def o2_225 : Q0 := tO [(.int 1 476), (.int 0 477), (.int 1 478), (.int 1 479)]
def o2_226 : Q0 := tO [(.int 1 481), (.int 1 482), (.int 0 483), (.int 1 484)]
def o2_227 : Q0 := tO [(.int 1 486), (.int 0 487), (.int 0 488), (.int 1 489)]
def o2_228 : Q0 := tO []
def o2_229 : Q0 := eO
def o2_230 : Q0 := tO [(.str "value" 494)]
def o2_231 : Q0 := tO []
def o2_232 : Q0 := fO "is_integer" "is_integer" (top 19) 0
def o2_233 : Q0 := cO "is_integer" "is_integer" 491 61 1 0 0 3 228 true 181 229 (.ref 230) (.ref 231) (.ref 232) 495 61 496
def o2_234 : Q0 := gO "is_integer" "is_integer" (top 19) 3 "turnmill.tables" 470 233
def o2_235 : Q0 := tO []
def o2_236 : Q0 := eO
def o2_237 : Q0 := tO [(.str "value" 501), (.str "least" 502), (.str "most" 503)]
def o2_238 : Q0 := tO []
def o2_239 : Q0 := fO "is_within" "is_within" (top 20) 0
def o2_240 : Q0 := cO "is_within" "is_within" 498 63 3 0 0 3 235 true 181 236 (.ref 237) (.ref 238) (.ref 239) 504 63 505
def o2_241 : Q0 := gO "is_within" "is_within" (top 20) 3 "turnmill.tables" 470 240
def o2_242 : Q0 := tO []
def o2_243 : Q0 := eO
def o2_244 : Q0 := fO "is_word" "is_word" (top 21) 0
def o2_245 : Q0 := cO "is_word" "is_word" 507 65 1 0 0 3 242 true 181 243 .none .none (.ref 244) 510 65 511
def o2_246 : Q0 := gO "is_word" "is_word" (top 21) 3 "turnmill.tables" 470 245
def o2_247 : Q0 := tO []
def o2_248 : Q0 := eO
def o2_249 : Q0 := tO [(.str "value" 516)]
def o2_250 : Q0 := tO []
def o2_251 : Q0 := fO "is_turn" "is_turn" (top 22) 0
def o2_252 : Q0 := cO "is_turn" "is_turn" 513 67 1 0 0 3 247 true 181 248 (.ref 249) (.ref 250) (.ref 251) 517 67 518
def o2_253 : Q0 := gO "is_turn" "is_turn" (top 22) 3 "turnmill.tables" 470 252
def o2_254 : Q0 := tO []
def o2_255 : Q0 := eO
def o2_256 : Q0 := tO [(.str "value" 523)]
def o2_257 : Q0 := tO []
def o2_258 : Q0 := fO "check_word" "check_word" (top 23) 0
def o2_259 : Q0 := cO "check_word" "check_word" 520 69 1 0 0 3 254 true 181 255 (.ref 256) (.ref 257) (.ref 258) 524 69 525
def o2_260 : Q0 := gO "check_word" "check_word" (top 23) 3 "turnmill.tables" 470 259
def o2_261 : Q0 := tO []
def o2_262 : Q0 := eO
def o2_263 : Q0 := tO [(.str "value" 530)]
def o2_264 : Q0 := tO []
def o2_265 : Q0 := fO "check_turn" "check_turn" (top 24) 0
def o2_266 : Q0 := cO "check_turn" "check_turn" 527 72 1 0 0 3 261 true 181 262 (.ref 263) (.ref 264) (.ref 265) 531 72 532
def o2_267 : Q0 := gO "check_turn" "check_turn" (top 24) 3 "turnmill.tables" 470 266
def o2_268 : Q0 := tO []
def o2_269 : Q0 := eO
def o2_270 : Q0 := tO [(.str "numbers" 537), (.str "found" 538), (.str "number" 539), (.str "one" 540), (.str "other" 541)]
def o2_271 : Q0 := tO []
def o2_272 : Q0 := fO "divisor_of" "divisor_of" (top 25) 0
def o2_273 : Q0 := cO "divisor_of" "divisor_of" 534 75 1 0 0 3 268 true 181 269 (.ref 270) (.ref 271) (.ref 272) 542 75 543
def o2_274 : Q0 := gO "divisor_of" "divisor_of" (top 25) 3 "turnmill.tables" 470 273
def o2_275 : Q0 := tO []
def o2_276 : Q0 := eO
def o2_277 : Q0 := tO [(.str "one" 548), (.str "other" 549), (.str "a" 550), (.str "b" 551), (.str "c" 552), (.str "d" 553), (.str "e" 554), (.str "f" 555), (.str "g" 556), (.str "h" 557)]
def o2_278 : Q0 := tO []
def o2_279 : Q0 := fO "product" "product" (top 26) 0
def o2_280 : Q0 := cO "product" "product" 545 83 2 0 0 3 275 true 181 276 (.ref 277) (.ref 278) (.ref 279) 558 83 559
def o2_281 : Q0 := gO "product" "product" (top 26) 3 "turnmill.tables" 470 280
def o2_282 : Q0 := tO []
def o2_283 : Q0 := eO
def o2_284 : Q0 := tO [(.str "word" 564), (.str "found" 565), (.str "turn" 566)]
def o2_285 : Q0 := tO []
def o2_286 : Q0 := fO "word_table" "word_table" (top 27) 0
def o2_287 : Q0 := cO "word_table" "word_table" 561 87 1 0 0 3 282 true 181 283 (.ref 284) (.ref 285) (.ref 286) 567 87 568
def o2_288 : Q0 := gO "word_table" "word_table" (top 27) 3 "turnmill.tables" 470 287
def o2_289 : Q0 := tO []
def o2_290 : Q0 := eO
def o2_291 : Q0 := fO "divided" "divided" (top 28) 0
def o2_292 : Q0 := cO "divided" "divided" 570 92 1 0 0 3 289 true 181 290 .none .none (.ref 291) 573 92 574
def o2_293 : Q0 := gO "divided" "divided" (top 28) 3 "turnmill.tables" 470 292
def o2_294 : Q0 := tO []
def o2_295 : Q0 := eO
def o2_296 : Q0 := fO "least_times" "least_times" (top 29) 0
def o2_297 : Q0 := cO "least_times" "least_times" 576 95 2 0 0 3 294 true 181 295 .none .none (.ref 296) 579 95 580
def o2_298 : Q0 := gO "least_times" "least_times" (top 29) 3 "turnmill.tables" 470 297
def o2_299 : Q0 := tO []
def o2_300 : Q0 := eO
def o2_301 : Q0 := tO [(.str "entries" 585), (.str "a" 586), (.str "b" 587), (.str "c" 588), (.str "d" 589), (.str "runs" 590), (.str "searching" 591), (.str "count" 592)]
def o2_302 : Q0 := tO []
def o2_303 : Q0 := fO "runs_taken" "runs_taken" (top 30) 0
def o2_304 : Q0 := cO "runs_taken" "runs_taken" 582 97 1 0 0 3 299 true 181 300 (.ref 301) (.ref 302) (.ref 303) 593 97 594
def o2_305 : Q0 := gO "runs_taken" "runs_taken" (top 30) 3 "turnmill.tables" 470 304
def o2_306 : Q0 := tO []
def o2_307 : Q0 := eO
def o2_308 : Q0 := fO "word_taken" "word_taken" (top 31) 0
def o2_309 : Q0 := cO "word_taken" "word_taken" 596 114 2 0 0 3 306 true 181 307 .none .none (.ref 308) 599 114 600
def o2_310 : Q0 := gO "word_taken" "word_taken" (top 31) 3 "turnmill.tables" 470 309
def o2_311 : Q0 := tO []
def o2_312 : Q0 := bO "type.__prepare__" (.type "type")
def o2_313 (P : Params) : Q0 := dO [(eT P "__module__" 609 (.str "turnmill.tables" 470)), (eT P "__qualname__" 611 (.str "Table" 610)), (eT P "__firstlineno__" 613 (.int 119 612)), (eT P "__init__" 619 (.ref 322)), (eT P "of_word" 642 (.ref 331)), (eT P "determinant" 654 (.ref 340)), (eT P "common" 662 (.ref 348)), (eT P "is_mill" 670 (.ref 356)), (eT P "is_balanced" 678 (.ref 364)), (eT P "entries" 685 (.ref 371)), (eT P "power" 693 (.ref 378)), (eT P "back" 700 (.ref 385)), (eT P "plain" 706 (.ref 390)), (eT P "alike" 714 (.ref 397)), (eT P "taken" 723 (.ref 404)), (eT P "__mul__" 731 (.ref 411)), (eT P "__eq__" 739 (.ref 418)), (eT P "__repr__" 750 (.ref 425)), (eT P "__static_attributes__" 752 (.ref 426))] 19
def o2_314 : Q0 := tO []
def o2_315 : Q0 := (.mk .none none (.fields #[(.int 121 0), (.int 4 0), (.ref 321), (.int 127 0), (.int 4 0), (.ref 328), (.int 133 0), (.int 4 0), (.ref 338), (.int 138 0), (.int 4 0), (.ref 346), (.int 142 0), (.int 4 0), (.ref 354), (.int 146 0), (.int 4 0), (.ref 362), (.int 149 0), (.int 4 0), (.ref 370), (.int 152 0), (.int 4 0), (.ref 377), (.int 155 0), (.int 4 0), (.ref 384), (.int 158 0), (.int 4 0), (.ref 389), (.int 163 0), (.int 4 0), (.ref 396), (.int 166 0), (.int 4 0), (.ref 403), (.int 172 0), (.int 4 0), (.ref 410), (.int 175 0), (.int 4 0), (.ref 417), (.int 178 0), (.int 4 0), (.ref 424)]) #[])
def o2_316 : Q0 := cO "Table" "Table" 604 119 0 0 0 0 314 false 181 315 .none .none .none 607 119 608
def o2_317 : Q0 := rO 316 3 313 "turnmill.tables" 470 0
def o2_318 : Q0 := tO []
def o2_319 : Q0 := eO
def o2_320 : Q0 := fO "__init__" "Table.__init__" (L2.inClass (top 32) 0) 0
def o2_321 : Q0 := cO "__init__" "Table.__init__" 614 121 5 0 0 3 318 true 181 319 .none .none (.ref 320) 617 121 618
def o2_322 : Q0 := gO "__init__" "Table.__init__" (L2.inClass (top 32) 0) 3 "turnmill.tables" 470 321
def o2_323 : Q0 := tO []
def o2_324 : Q0 := eO
def o2_325 : Q0 := tO [(.str "word" 623), (.str "a" 624), (.str "b" 625), (.str "c" 626), (.str "d" 627)]
def o2_326 : Q0 := tO []
def o2_327 : Q0 := fO "of_word" "Table.of_word" (L2.inClass (top 32) 1) 0
def o2_328 : Q0 := cO "of_word" "Table.of_word" 620 126 1 0 0 3 323 true 181 324 (.ref 325) (.ref 326) (.ref 327) 628 126 629
def o2_329 : Q0 := ⟨(.type "function"), none, .func ⟨"of_word", "Table.of_word", L2.defArgs (L2.inClass (top 32) 1), .stmts (L2.defBody (L2.inClass (top 32) 1)), L2.defScope (L2.inClass (top 32) 1), 3, [], .none, .none, .none, (.str "turnmill.tables" 470), (some 332), (.ref 328), .none, 0⟩, #[]⟩
def o2_330 (P : Params) : Q0 := dO [(eT P "__module__" 631 (.str "turnmill.tables" 470)), (eT P "__name__" 634 (.str "of_word" 633)), (eT P "__qualname__" 637 (.str "Table.of_word" 636)), (eT P "__doc__" 639 .none), (eT P "__annotations__" 641 (.ref 332))] 5
def o2_331 : Q0 := (.mk (.type "staticmethod") (some 330) (.fields #[(.ref 329), (.bool false)]) #[])
def o2_332 : Q0 := dO [] 0
def o2_333 : Q0 := tO []
def o2_334 : Q0 := eO
def o2_335 : Q0 := tO [(.str "self" 646), (.str "a" 647), (.str "b" 648), (.str "c" 649), (.str "d" 650)]
def o2_336 : Q0 := tO []
def o2_337 : Q0 := fO "determinant" "Table.determinant" (L2.inClass (top 32) 2) 0
def o2_338 : Q0 := cO "determinant" "Table.determinant" 643 132 1 0 0 3 333 true 181 334 (.ref 335) (.ref 336) (.ref 337) 651 132 652
def o2_339 : Q0 := gO "determinant" "Table.determinant" (L2.inClass (top 32) 2) 3 "turnmill.tables" 470 338
def o2_340 : Q0 := (.mk (.type "property") none (.fields #[(.ref 339), .none, .none, .none, (.str "determinant" 654), (.bool false)]) #[])
def o2_341 : Q0 := tO []
def o2_342 : Q0 := eO
def o2_343 : Q0 := tO [(.str "self" 658)]
def o2_344 : Q0 := tO []
def o2_345 : Q0 := fO "common" "Table.common" (L2.inClass (top 32) 3) 0
def o2_346 : Q0 := cO "common" "Table.common" 655 137 1 0 0 3 341 true 181 342 (.ref 343) (.ref 344) (.ref 345) 659 137 660
def o2_347 : Q0 := gO "common" "Table.common" (L2.inClass (top 32) 3) 3 "turnmill.tables" 470 346
def o2_348 : Q0 := (.mk (.type "property") none (.fields #[(.ref 347), .none, .none, .none, (.str "common" 662), (.bool false)]) #[])
def o2_349 : Q0 := tO []
def o2_350 : Q0 := eO
def o2_351 : Q0 := tO [(.str "self" 666)]
def o2_352 : Q0 := tO []
def o2_353 : Q0 := fO "is_mill" "Table.is_mill" (L2.inClass (top 32) 4) 0
def o2_354 : Q0 := cO "is_mill" "Table.is_mill" 663 141 1 0 0 3 349 true 181 350 (.ref 351) (.ref 352) (.ref 353) 667 141 668
def o2_355 : Q0 := gO "is_mill" "Table.is_mill" (L2.inClass (top 32) 4) 3 "turnmill.tables" 470 354
def o2_356 : Q0 := (.mk (.type "property") none (.fields #[(.ref 355), .none, .none, .none, (.str "is_mill" 670), (.bool false)]) #[])
def o2_357 : Q0 := tO []
def o2_358 : Q0 := eO
def o2_359 : Q0 := tO [(.str "self" 674)]
def o2_360 : Q0 := tO []
def o2_361 : Q0 := fO "is_balanced" "Table.is_balanced" (L2.inClass (top 32) 5) 0
def o2_362 : Q0 := cO "is_balanced" "Table.is_balanced" 671 145 1 0 0 3 357 true 181 358 (.ref 359) (.ref 360) (.ref 361) 675 145 676
def o2_363 : Q0 := gO "is_balanced" "Table.is_balanced" (L2.inClass (top 32) 5) 3 "turnmill.tables" 470 362
def o2_364 : Q0 := (.mk (.type "property") none (.fields #[(.ref 363), .none, .none, .none, (.str "is_balanced" 678), (.bool false)]) #[])
def o2_365 : Q0 := tO []
def o2_366 : Q0 := eO
def o2_367 : Q0 := tO [(.str "self" 682)]
def o2_368 : Q0 := tO []
def o2_369 : Q0 := fO "entries" "Table.entries" (L2.inClass (top 32) 6) 0
def o2_370 : Q0 := cO "entries" "Table.entries" 679 149 1 0 0 3 365 true 181 366 (.ref 367) (.ref 368) (.ref 369) 683 149 684
def o2_371 : Q0 := gO "entries" "Table.entries" (L2.inClass (top 32) 6) 3 "turnmill.tables" 470 370
def o2_372 : Q0 := tO []
def o2_373 : Q0 := eO
def o2_374 : Q0 := tO [(.str "self" 689), (.str "count" 690)]
def o2_375 : Q0 := tO []
def o2_376 : Q0 := fO "power" "Table.power" (L2.inClass (top 32) 7) 0
def o2_377 : Q0 := cO "power" "Table.power" 686 152 2 0 0 3 372 true 181 373 (.ref 374) (.ref 375) (.ref 376) 691 152 692
def o2_378 : Q0 := gO "power" "Table.power" (L2.inClass (top 32) 7) 3 "turnmill.tables" 470 377
def o2_379 : Q0 := tO []
def o2_380 : Q0 := eO
def o2_381 : Q0 := tO [(.str "self" 697)]
def o2_382 : Q0 := tO []
def o2_383 : Q0 := fO "back" "Table.back" (L2.inClass (top 32) 8) 0
def o2_384 : Q0 := cO "back" "Table.back" 694 155 1 0 0 3 379 true 181 380 (.ref 381) (.ref 382) (.ref 383) 698 155 699
def o2_385 : Q0 := gO "back" "Table.back" (L2.inClass (top 32) 8) 3 "turnmill.tables" 470 384
def o2_386 : Q0 := tO []
def o2_387 : Q0 := eO
def o2_388 : Q0 := fO "plain" "Table.plain" (L2.inClass (top 32) 9) 0
def o2_389 : Q0 := cO "plain" "Table.plain" 701 158 1 0 0 3 386 true 181 387 .none .none (.ref 388) 704 158 705
def o2_390 : Q0 := gO "plain" "Table.plain" (L2.inClass (top 32) 9) 3 "turnmill.tables" 470 389
def o2_391 : Q0 := tO []
def o2_392 : Q0 := eO
def o2_393 : Q0 := tO [(.str "self" 710), (.str "other" 711)]
def o2_394 : Q0 := tO []
def o2_395 : Q0 := fO "alike" "Table.alike" (L2.inClass (top 32) 10) 0
def o2_396 : Q0 := cO "alike" "Table.alike" 707 163 2 0 0 3 391 true 181 392 (.ref 393) (.ref 394) (.ref 395) 712 163 713
def o2_397 : Q0 := gO "alike" "Table.alike" (L2.inClass (top 32) 10) 3 "turnmill.tables" 470 396
def o2_398 : Q0 := tO []
def o2_399 : Q0 := eO
def o2_400 : Q0 := tO [(.str "self" 718), (.str "word" 719), (.str "left" 720)]
def o2_401 : Q0 := tO []
def o2_402 : Q0 := fO "taken" "Table.taken" (L2.inClass (top 32) 11) 0
def o2_403 : Q0 := cO "taken" "Table.taken" 715 166 1 0 0 3 398 true 181 399 (.ref 400) (.ref 401) (.ref 402) 721 166 722
def o2_404 : Q0 := gO "taken" "Table.taken" (L2.inClass (top 32) 11) 3 "turnmill.tables" 470 403
def o2_405 : Q0 := tO []
def o2_406 : Q0 := eO
def o2_407 : Q0 := tO [(.str "self" 727), (.str "other" 728)]
def o2_408 : Q0 := tO []
def o2_409 : Q0 := fO "__mul__" "Table.__mul__" (L2.inClass (top 32) 12) 0
def o2_410 : Q0 := cO "__mul__" "Table.__mul__" 724 172 2 0 0 3 405 true 181 406 (.ref 407) (.ref 408) (.ref 409) 729 172 730
def o2_411 : Q0 := gO "__mul__" "Table.__mul__" (L2.inClass (top 32) 12) 3 "turnmill.tables" 470 410
def o2_412 : Q0 := tO []
def o2_413 : Q0 := eO
def o2_414 : Q0 := tO [(.str "self" 735), (.str "other" 736)]
def o2_415 : Q0 := tO []
def o2_416 : Q0 := fO "__eq__" "Table.__eq__" (L2.inClass (top 32) 13) 0
def o2_417 : Q0 := cO "__eq__" "Table.__eq__" 732 175 2 0 0 3 412 true 181 413 (.ref 414) (.ref 415) (.ref 416) 737 175 738
def o2_418 : Q0 := gO "__eq__" "Table.__eq__" (L2.inClass (top 32) 13) 3 "turnmill.tables" 470 417
def o2_419 : Q0 := tO []
def o2_420 : Q0 := eO
def o2_421 : Q0 := tO [(.str "self" 743), (.str "a" 744), (.str "b" 745), (.str "c" 746), (.str "d" 747)]
def o2_422 : Q0 := tO []
def o2_423 : Q0 := fO "__repr__" "Table.__repr__" (L2.inClass (top 32) 14) 0
def o2_424 : Q0 := cO "__repr__" "Table.__repr__" 740 178 1 0 0 3 419 true 181 420 (.ref 421) (.ref 422) (.ref 423) 748 178 749
def o2_425 : Q0 := gO "__repr__" "Table.__repr__" (L2.inClass (top 32) 14) 3 "turnmill.tables" 470 424
def o2_426 : Q0 := tO [(.str "whole" 751)]
def o2_427 (P : Params) : Q0 := dO [(eT P "__module__" 609 (.str "turnmill.tables" 470)), (eT P "__firstlineno__" 613 (.int 119 612)), (eT P "__init__" 619 (.ref 322)), (eT P "of_word" 642 (.ref 331)), (eT P "determinant" 654 (.ref 340)), (eT P "common" 662 (.ref 348)), (eT P "is_mill" 670 (.ref 356)), (eT P "is_balanced" 678 (.ref 364)), (eT P "entries" 685 (.ref 371)), (eT P "power" 693 (.ref 378)), (eT P "back" 700 (.ref 385)), (eT P "plain" 706 (.ref 390)), (eT P "alike" 714 (.ref 397)), (eT P "taken" 723 (.ref 404)), (eT P "__mul__" 731 (.ref 411)), (eT P "__eq__" 739 (.ref 418)), (eT P "__repr__" 750 (.ref 425)), (eT P "__static_attributes__" 752 (.ref 426)), (eT P "__dict__" 754 (.ref 429)), (eT P "__weakref__" 756 (.ref 430)), (eT P "__doc__" 757 .none), (eT P "__hash__" 758 .none)] 5
def o2_428 : Q0 := (.mk (.type "type") none (.cls (.mk "Table" [(.type "object")] [(.ref 428), (.type "object")] 427 "Table" true [] [] false none false)) #[none, none, (some (.str "Table" 602)), (some (.str "Table" 610)), (some (.builtin "object.__new__")), (some (.bool true))])
def o2_429 : Q0 := (.mk (.type "getset_descriptor") none (.fields #[(.str "__dict__" 753), (.ref 428), (.builtin "function.__dict__"), (.builtin "function.__dict__#set")]) #[])
def o2_430 : Q0 := (.mk (.type "getset_descriptor") none (.fields #[(.str "__weakref__" 755), (.ref 428), (.builtin "ExceptionGroup.__weakref__"), .none]) #[])
def o2_431 : Q0 := (.mk (.type "super") none (.fields #[(.ref 428), (.ref 428), (.ref 428)]) #[])
def o2_432 : Q0 := bO "object.__init_subclass__" (.ref 428)
def o2_433 : Q0 := tO []
def o2_434 : Q0 := eO
def o2_435 : Q0 := tO [(.str "entries" 764), (.str "a" 765), (.str "b" 766), (.str "c" 767), (.str "d" 768)]
def o2_436 : Q0 := tO []
def o2_437 : Q0 := fO "table_with" "table_with" (top 33) 0
def o2_438 : Q0 := cO "table_with" "table_with" 761 181 1 0 0 3 433 true 181 434 (.ref 435) (.ref 436) (.ref 437) 769 181 770
def o2_439 : Q0 := gO "table_with" "table_with" (top 33) 3 "turnmill.tables" 470 438
def o2_440 : Q0 := tO []
def o2_441 : Q0 := eO
def o2_442 : Q0 := tO [(.str "number" 777), (.str "low" 778), (.str "high" 779), (.str "middle" 780)]
def o2_443 : Q0 := tO []
def o2_444 : Q0 := fO "root_floor" "root_floor" (top 35) 0
def o2_445 : Q0 := cO "root_floor" "root_floor" 774 185 1 0 0 3 440 true 181 441 (.ref 442) (.ref 443) (.ref 444) 781 185 782
def o2_446 : Q0 := gO "root_floor" "root_floor" (top 35) 3 "turnmill.numbers" 772 445
def o2_447 : Q0 := tO []
def o2_448 : Q0 := eO
def o2_449 : Q0 := tO [(.str "number" 787)]
def o2_450 : Q0 := tO []
def o2_451 : Q0 := fO "sign_of" "sign_of" (top 36) 0
def o2_452 : Q0 := cO "sign_of" "sign_of" 784 196 1 0 0 3 447 true 181 448 (.ref 449) (.ref 450) (.ref 451) 788 196 789
def o2_453 : Q0 := gO "sign_of" "sign_of" (top 36) 3 "turnmill.numbers" 772 452
def o2_454 : Q0 := tO []
def o2_455 : Q0 := eO
def o2_456 : Q0 := tO [(.str "whole" 794), (.str "factor" 795), (.str "under" 796), (.str "one" 797), (.str "other" 798)]
def o2_457 : Q0 := tO []
def o2_458 : Q0 := fO "root_sign" "root_sign" (top 37) 0
def o2_459 : Q0 := cO "root_sign" "root_sign" 791 198 3 0 0 3 454 true 181 455 (.ref 456) (.ref 457) (.ref 458) 799 198 800
def o2_460 : Q0 := gO "root_sign" "root_sign" (top 37) 3 "turnmill.numbers" 772 459
def o2_461 : Q0 := tO []
def o2_462 : Q0 := bO "type.__prepare__" (.type "type")
def o2_463 (P : Params) : Q0 := dO [(eT P "__module__" 809 (.str "turnmill.numbers" 772)), (eT P "__qualname__" 811 (.str "Number" 810)), (eT P "__firstlineno__" 813 (.int 203 812)), (eT P "__init__" 822 (.ref 474)), (eT P "top" 830 (.ref 482)), (eT P "bottom" 838 (.ref 490)), (eT P "under" 846 (.ref 498)), (eT P "is_fraction" 854 (.ref 506)), (eT P "text" 864 (.ref 513)), (eT P "sign" 874 (.ref 520)), (eT P "floor" 881 (.ref 527)), (eT P "is_below" 889 (.ref 534)), (eT P "led" 909 (.ref 541)), (eT P "__eq__" 917 (.ref 548)), (eT P "__repr__" 924 (.ref 555)), (eT P "__static_attributes__" 926 (.ref 556))] 16
def o2_464 : Q0 := tO []
def o2_465 : Q0 := (.mk .none none (.fields #[(.int 205 0), (.int 4 0), (.ref 473), (.int 219 0), (.int 4 0), (.ref 480), (.int 223 0), (.int 4 0), (.ref 488), (.int 227 0), (.int 4 0), (.ref 496), (.int 231 0), (.int 4 0), (.ref 504), (.int 234 0), (.int 4 0), (.ref 512), (.int 240 0), (.int 4 0), (.ref 519), (.int 244 0), (.int 4 0), (.ref 526), (.int 247 0), (.int 4 0), (.ref 533), (.int 250 0), (.int 4 0), (.ref 540), (.int 260 0), (.int 4 0), (.ref 547), (.int 263 0), (.int 4 0), (.ref 554)]) #[])
def o2_466 : Q0 := cO "Number" "Number" 804 203 0 0 0 0 464 false 181 465 .none .none .none 807 203 808
def o2_467 : Q0 := rO 466 3 463 "turnmill.numbers" 772 0
def o2_468 : Q0 := tO [(.int 1 814)]
def o2_469 (P : Params) : Q0 := dO [(eT P "under" 816 (.int 0 815))] 1
def o2_470 : Q0 := tO []
def o2_471 : Q0 := eO
def o2_472 : Q0 := fO "__init__" "Number.__init__" (L2.inClass (top 38) 0) 0
def o2_473 : Q0 := cO "__init__" "Number.__init__" 817 205 3 0 1 3 470 true 181 471 .none .none (.ref 472) 820 205 821
def o2_474 : Q0 := ⟨(.type "function"), none, .func ⟨"__init__", "Number.__init__", L2.defArgs (L2.inClass (top 38) 0), .stmts (L2.defBody (L2.inClass (top 38) 0)), L2.defScope (L2.inClass (top 38) 0), 3, [], (.ref 468), (.ref 469), .none, (.str "turnmill.numbers" 772), none, (.ref 473), .none, 0⟩, #[]⟩
def o2_475 : Q0 := tO []
def o2_476 : Q0 := eO
def o2_477 : Q0 := tO [(.str "self" 826)]
def o2_478 : Q0 := tO []
def o2_479 : Q0 := fO "top" "Number.top" (L2.inClass (top 38) 1) 0
def o2_480 : Q0 := cO "top" "Number.top" 823 218 1 0 0 3 475 true 181 476 (.ref 477) (.ref 478) (.ref 479) 827 218 828
def o2_481 : Q0 := gO "top" "Number.top" (L2.inClass (top 38) 1) 3 "turnmill.numbers" 772 480
def o2_482 : Q0 := (.mk (.type "property") none (.fields #[(.ref 481), .none, .none, .none, (.str "top" 830), (.bool false)]) #[])
def o2_483 : Q0 := tO []
def o2_484 : Q0 := eO
def o2_485 : Q0 := tO [(.str "self" 834)]
def o2_486 : Q0 := tO []
def o2_487 : Q0 := fO "bottom" "Number.bottom" (L2.inClass (top 38) 2) 0
def o2_488 : Q0 := cO "bottom" "Number.bottom" 831 222 1 0 0 3 483 true 181 484 (.ref 485) (.ref 486) (.ref 487) 835 222 836
def o2_489 : Q0 := gO "bottom" "Number.bottom" (L2.inClass (top 38) 2) 3 "turnmill.numbers" 772 488
def o2_490 : Q0 := (.mk (.type "property") none (.fields #[(.ref 489), .none, .none, .none, (.str "bottom" 838), (.bool false)]) #[])
def o2_491 : Q0 := tO []
def o2_492 : Q0 := eO
def o2_493 : Q0 := tO [(.str "self" 842)]
def o2_494 : Q0 := tO []
def o2_495 : Q0 := fO "under" "Number.under" (L2.inClass (top 38) 3) 0
def o2_496 : Q0 := cO "under" "Number.under" 839 226 1 0 0 3 491 true 181 492 (.ref 493) (.ref 494) (.ref 495) 843 226 844
def o2_497 : Q0 := gO "under" "Number.under" (L2.inClass (top 38) 3) 3 "turnmill.numbers" 772 496
def o2_498 : Q0 := (.mk (.type "property") none (.fields #[(.ref 497), .none, .none, .none, (.str "under" 846), (.bool false)]) #[])
def o2_499 : Q0 := tO []
def o2_500 : Q0 := eO
def o2_501 : Q0 := tO [(.str "self" 850)]
def o2_502 : Q0 := tO []
def o2_503 : Q0 := fO "is_fraction" "Number.is_fraction" (L2.inClass (top 38) 4) 0
def o2_504 : Q0 := cO "is_fraction" "Number.is_fraction" 847 230 1 0 0 3 499 true 181 500 (.ref 501) (.ref 502) (.ref 503) 851 230 852
def o2_505 : Q0 := gO "is_fraction" "Number.is_fraction" (L2.inClass (top 38) 4) 3 "turnmill.numbers" 772 504
def o2_506 : Q0 := (.mk (.type "property") none (.fields #[(.ref 505), .none, .none, .none, (.str "is_fraction" 854), (.bool false)]) #[])
def o2_507 : Q0 := tO []
def o2_508 : Q0 := eO
def o2_509 : Q0 := tO [(.str "self" 858), (.str "top" 859), (.str "bottom" 860), (.str "under" 861)]
def o2_510 : Q0 := tO []
def o2_511 : Q0 := fO "text" "Number.text" (L2.inClass (top 38) 5) 0
def o2_512 : Q0 := cO "text" "Number.text" 855 234 1 0 0 3 507 true 181 508 (.ref 509) (.ref 510) (.ref 511) 862 234 863
def o2_513 : Q0 := gO "text" "Number.text" (L2.inClass (top 38) 5) 3 "turnmill.numbers" 772 512
def o2_514 : Q0 := tO []
def o2_515 : Q0 := eO
def o2_516 : Q0 := tO [(.str "self" 868), (.str "top" 869), (.str "bottom" 870), (.str "under" 871)]
def o2_517 : Q0 := tO []
def o2_518 : Q0 := fO "sign" "Number.sign" (L2.inClass (top 38) 6) 0
def o2_519 : Q0 := cO "sign" "Number.sign" 865 240 1 0 0 3 514 true 181 515 (.ref 516) (.ref 517) (.ref 518) 872 240 873
def o2_520 : Q0 := gO "sign" "Number.sign" (L2.inClass (top 38) 6) 3 "turnmill.numbers" 772 519
def o2_521 : Q0 := tO []
def o2_522 : Q0 := eO
def o2_523 : Q0 := tO [(.str "self" 878)]
def o2_524 : Q0 := tO []
def o2_525 : Q0 := fO "floor" "Number.floor" (L2.inClass (top 38) 7) 0
def o2_526 : Q0 := cO "floor" "Number.floor" 875 244 1 0 0 3 521 true 181 522 (.ref 523) (.ref 524) (.ref 525) 879 244 880
def o2_527 : Q0 := gO "floor" "Number.floor" (L2.inClass (top 38) 7) 3 "turnmill.numbers" 772 526
def o2_528 : Q0 := tO []
def o2_529 : Q0 := eO
def o2_530 : Q0 := tO [(.str "self" 885), (.str "other" 886)]
def o2_531 : Q0 := tO []
def o2_532 : Q0 := fO "is_below" "Number.is_below" (L2.inClass (top 38) 8) 0
def o2_533 : Q0 := cO "is_below" "Number.is_below" 882 247 2 0 0 3 528 true 181 529 (.ref 530) (.ref 531) (.ref 532) 887 247 888
def o2_534 : Q0 := gO "is_below" "Number.is_below" (L2.inClass (top 38) 8) 3 "turnmill.numbers" 772 533
def o2_535 : Q0 := tO []
def o2_536 : Q0 := eO
def o2_537 : Q0 := tO [(.str "self" 893), (.str "table" 894), (.str "a" 895), (.str "b" 896), (.str "c" 897), (.str "d" 898), (.str "top" 899), (.str "bottom" 900), (.str "under" 901), (.str "upper" 902), (.str "lower" 903), (.str "factor" 904), (.str "rest" 905), (.str "sign" 906)]
def o2_538 : Q0 := tO []
def o2_539 : Q0 := fO "led" "Number.led" (L2.inClass (top 38) 9) 0
def o2_540 : Q0 := cO "led" "Number.led" 890 250 2 0 0 3 535 true 181 536 (.ref 537) (.ref 538) (.ref 539) 907 250 908
def o2_541 : Q0 := gO "led" "Number.led" (L2.inClass (top 38) 9) 3 "turnmill.numbers" 772 540
def o2_542 : Q0 := tO []
def o2_543 : Q0 := eO
def o2_544 : Q0 := tO [(.str "self" 913), (.str "other" 914)]
def o2_545 : Q0 := tO []
def o2_546 : Q0 := fO "__eq__" "Number.__eq__" (L2.inClass (top 38) 10) 0
def o2_547 : Q0 := cO "__eq__" "Number.__eq__" 910 260 2 0 0 3 542 true 181 543 (.ref 544) (.ref 545) (.ref 546) 915 260 916
def o2_548 : Q0 := gO "__eq__" "Number.__eq__" (L2.inClass (top 38) 10) 3 "turnmill.numbers" 772 547
def o2_549 : Q0 := tO []
def o2_550 : Q0 := eO
def o2_551 : Q0 := tO [(.str "self" 921)]
def o2_552 : Q0 := tO []
def o2_553 : Q0 := fO "__repr__" "Number.__repr__" (L2.inClass (top 38) 11) 0
def o2_554 : Q0 := cO "__repr__" "Number.__repr__" 918 263 1 0 0 3 549 true 181 550 (.ref 551) (.ref 552) (.ref 553) 922 263 923
def o2_555 : Q0 := gO "__repr__" "Number.__repr__" (L2.inClass (top 38) 11) 3 "turnmill.numbers" 772 554
def o2_556 : Q0 := tO [(.str "whole" 925)]
def o2_557 (P : Params) : Q0 := dO [(eT P "__module__" 809 (.str "turnmill.numbers" 772)), (eT P "__firstlineno__" 813 (.int 203 812)), (eT P "__init__" 822 (.ref 474)), (eT P "top" 830 (.ref 482)), (eT P "bottom" 838 (.ref 490)), (eT P "under" 846 (.ref 498)), (eT P "is_fraction" 854 (.ref 506)), (eT P "text" 864 (.ref 513)), (eT P "sign" 874 (.ref 520)), (eT P "floor" 881 (.ref 527)), (eT P "is_below" 889 (.ref 534)), (eT P "led" 909 (.ref 541)), (eT P "__eq__" 917 (.ref 548)), (eT P "__repr__" 924 (.ref 555)), (eT P "__static_attributes__" 926 (.ref 556)), (eT P "__dict__" 928 (.ref 559)), (eT P "__weakref__" 930 (.ref 560)), (eT P "__doc__" 931 .none), (eT P "__hash__" 932 .none)] 5
def o2_558 : Q0 := (.mk (.type "type") none (.cls (.mk "Number" [(.type "object")] [(.ref 558), (.type "object")] 557 "Number" true [] [] false none false)) #[none, none, (some (.str "Number" 802)), (some (.str "Number" 810)), (some (.builtin "object.__new__")), (some (.bool true))])
def o2_559 : Q0 := (.mk (.type "getset_descriptor") none (.fields #[(.str "__dict__" 927), (.ref 558), (.builtin "function.__dict__"), (.builtin "function.__dict__#set")]) #[])
def o2_560 : Q0 := (.mk (.type "getset_descriptor") none (.fields #[(.str "__weakref__" 929), (.ref 558), (.builtin "ExceptionGroup.__weakref__"), .none]) #[])
def o2_561 : Q0 := (.mk (.type "super") none (.fields #[(.ref 558), (.ref 558), (.ref 558)]) #[])
def o2_562 : Q0 := bO "object.__init_subclass__" (.ref 558)
def o2_563 : Q0 := tO []
def o2_564 : Q0 := eO
def o2_565 : Q0 := tO [(.str "number" 938), (.str "table" 939), (.str "a" 940), (.str "b" 941), (.str "c" 942), (.str "d" 943)]
def o2_566 : Q0 := tO []
def o2_567 : Q0 := fO "number_led" "number_led" (top 39) 0
def o2_568 : Q0 := cO "number_led" "number_led" 935 265 2 0 0 3 563 true 181 564 (.ref 565) (.ref 566) (.ref 567) 944 265 945
def o2_569 : Q0 := gO "number_led" "number_led" (top 39) 3 "turnmill.numbers" 772 568
def o2_570 : Q0 := tO []
def o2_571 : Q0 := eO
def o2_572 : Q0 := tO [(.str "ring" 958)]
def o2_573 : Q0 := tO []
def o2_574 : Q0 := fO "least_ring" "least_ring" (top 43) 0
def o2_575 : Q0 := cO "least_ring" "least_ring" 955 273 1 0 0 3 570 true 181 571 (.ref 572) (.ref 573) (.ref 574) 959 273 960
def o2_576 : Q0 := gO "least_ring" "least_ring" (top 43) 3 "turnmill.rows" 947 575
def o2_577 : Q0 := tO []
def o2_578 : Q0 := bO "type.__prepare__" (.type "type")
def o2_579 (P : Params) : Q0 := dO [(eT P "__module__" 969 (.str "turnmill.rows" 947)), (eT P "__qualname__" 971 (.str "Row" 970)), (eT P "__firstlineno__" 973 (.int 275 972)), (eT P "__init__" 985 (.ref 590)), (eT P "read" 1007 (.ref 599)), (eT P "lead" 1015 (.ref 608)), (eT P "ring" 1023 (.ref 616)), (eT P "text" 1032 (.ref 623)), (eT P "turn_at" 1042 (.ref 630)), (eT P "turn" 1050 (.ref 637)), (eT P "beginning" 1058 (.ref 644)), (eT P "behind" 1069 (.ref 651)), (eT P "runs" 1084 (.ref 658)), (eT P "run_behind" 1096 (.ref 665)), (eT P "exchanged" 1103 (.ref 672)), (eT P "is_below" 1111 (.ref 679)), (eT P "number" 1124 (.ref 686)), (eT P "__eq__" 1132 (.ref 693)), (eT P "__repr__" 1141 (.ref 700)), (eT P "__static_attributes__" 1143 (.ref 701))] 20
def o2_580 : Q0 := tO []
def o2_581 : Q0 := (.mk .none none (.fields #[(.int 277 0), (.int 4 0), (.ref 589), (.int 288 0), (.int 4 0), (.ref 596), (.int 297 0), (.int 4 0), (.ref 606), (.int 301 0), (.int 4 0), (.ref 614), (.int 304 0), (.int 4 0), (.ref 622), (.int 308 0), (.int 4 0), (.ref 629), (.int 312 0), (.int 4 0), (.ref 636), (.int 317 0), (.int 4 0), (.ref 643), (.int 320 0), (.int 4 0), (.ref 650), (.int 329 0), (.int 4 0), (.ref 657), (.int 346 0), (.int 4 0), (.ref 664), (.int 355 0), (.int 4 0), (.ref 671), (.int 358 0), (.int 4 0), (.ref 678), (.int 361 0), (.int 4 0), (.ref 685), (.int 370 0), (.int 4 0), (.ref 692), (.int 373 0), (.int 4 0), (.ref 699)]) #[])
def o2_582 : Q0 := cO "Row" "Row" 964 275 0 0 0 0 580 false 181 581 .none .none .none 967 275 968
def o2_583 : Q0 := rO 582 3 579 "turnmill.rows" 947 0
def o2_584 : Q0 := tO []
def o2_585 : Q0 := eO
def o2_586 : Q0 := tO [(.str "self" 977), (.str "lead" 978), (.str "ring" 979), (.str "least" 980), (.str "same" 981), (.str "cut" 982)]
def o2_587 : Q0 := tO []
def o2_588 : Q0 := fO "__init__" "Row.__init__" (L2.inClass (top 44) 0) 0
def o2_589 : Q0 := cO "__init__" "Row.__init__" 974 277 3 0 0 3 584 true 181 585 (.ref 586) (.ref 587) (.ref 588) 983 277 984
def o2_590 : Q0 := gO "__init__" "Row.__init__" (L2.inClass (top 44) 0) 3 "turnmill.rows" 947 589
def o2_591 : Q0 := tO []
def o2_592 : Q0 := eO
def o2_593 : Q0 := tO [(.str "cls" 989), (.str "text" 990), (.str "lead" 991), (.str "ring" 992)]
def o2_594 : Q0 := tO []
def o2_595 : Q0 := fO "read" "Row.read" (L2.inClass (top 44) 1) 0
def o2_596 : Q0 := cO "read" "Row.read" 986 287 2 0 0 3 591 true 181 592 (.ref 593) (.ref 594) (.ref 595) 993 287 994
def o2_597 : Q0 := ⟨(.type "function"), none, .func ⟨"read", "Row.read", L2.defArgs (L2.inClass (top 44) 1), .stmts (L2.defBody (L2.inClass (top 44) 1)), L2.defScope (L2.inClass (top 44) 1), 3, [], .none, .none, .none, (.str "turnmill.rows" 947), (some 600), (.ref 596), .none, 0⟩, #[]⟩
def o2_598 (P : Params) : Q0 := dO [(eT P "__module__" 996 (.str "turnmill.rows" 947)), (eT P "__name__" 999 (.str "read" 998)), (eT P "__qualname__" 1002 (.str "Row.read" 1001)), (eT P "__doc__" 1004 .none), (eT P "__annotations__" 1006 (.ref 600))] 5
def o2_599 : Q0 := (.mk (.type "classmethod") (some 598) (.fields #[(.ref 597), (.bool false)]) #[])
def o2_600 : Q0 := dO [] 0
def o2_601 : Q0 := tO []
def o2_602 : Q0 := eO
def o2_603 : Q0 := tO [(.str "self" 1011)]
def o2_604 : Q0 := tO []
def o2_605 : Q0 := fO "lead" "Row.lead" (L2.inClass (top 44) 2) 0
def o2_606 : Q0 := cO "lead" "Row.lead" 1008 296 1 0 0 3 601 true 181 602 (.ref 603) (.ref 604) (.ref 605) 1012 296 1013
def o2_607 : Q0 := gO "lead" "Row.lead" (L2.inClass (top 44) 2) 3 "turnmill.rows" 947 606
def o2_608 : Q0 := (.mk (.type "property") none (.fields #[(.ref 607), .none, .none, .none, (.str "lead" 1015), (.bool false)]) #[])
def o2_609 : Q0 := tO []
def o2_610 : Q0 := eO
def o2_611 : Q0 := tO [(.str "self" 1019)]
def o2_612 : Q0 := tO []
def o2_613 : Q0 := fO "ring" "Row.ring" (L2.inClass (top 44) 3) 0
def o2_614 : Q0 := cO "ring" "Row.ring" 1016 300 1 0 0 3 609 true 181 610 (.ref 611) (.ref 612) (.ref 613) 1020 300 1021
def o2_615 : Q0 := gO "ring" "Row.ring" (L2.inClass (top 44) 3) 3 "turnmill.rows" 947 614
def o2_616 : Q0 := (.mk (.type "property") none (.fields #[(.ref 615), .none, .none, .none, (.str "ring" 1023), (.bool false)]) #[])
def o2_617 : Q0 := tO []
def o2_618 : Q0 := eO
def o2_619 : Q0 := tO [(.str "self" 1027), (.str "lead" 1028), (.str "ring" 1029)]
def o2_620 : Q0 := tO []
def o2_621 : Q0 := fO "text" "Row.text" (L2.inClass (top 44) 4) 0
def o2_622 : Q0 := cO "text" "Row.text" 1024 304 1 0 0 3 617 true 181 618 (.ref 619) (.ref 620) (.ref 621) 1030 304 1031
def o2_623 : Q0 := gO "text" "Row.text" (L2.inClass (top 44) 4) 3 "turnmill.rows" 947 622
def o2_624 : Q0 := tO []
def o2_625 : Q0 := eO
def o2_626 : Q0 := tO [(.str "self" 1036), (.str "index" 1037), (.str "lead" 1038), (.str "ring" 1039)]
def o2_627 : Q0 := tO []
def o2_628 : Q0 := fO "turn_at" "Row.turn_at" (L2.inClass (top 44) 5) 0
def o2_629 : Q0 := cO "turn_at" "Row.turn_at" 1033 308 2 0 0 3 624 true 181 625 (.ref 626) (.ref 627) (.ref 628) 1040 308 1041
def o2_630 : Q0 := gO "turn_at" "Row.turn_at" (L2.inClass (top 44) 5) 3 "turnmill.rows" 947 629
def o2_631 : Q0 := tO []
def o2_632 : Q0 := eO
def o2_633 : Q0 := tO [(.str "self" 1046), (.str "index" 1047)]
def o2_634 : Q0 := tO []
def o2_635 : Q0 := fO "turn" "Row.turn" (L2.inClass (top 44) 6) 0
def o2_636 : Q0 := cO "turn" "Row.turn" 1043 312 2 0 0 3 631 true 181 632 (.ref 633) (.ref 634) (.ref 635) 1048 312 1049
def o2_637 : Q0 := gO "turn" "Row.turn" (L2.inClass (top 44) 6) 3 "turnmill.rows" 947 636
def o2_638 : Q0 := tO []
def o2_639 : Q0 := eO
def o2_640 : Q0 := tO [(.str "self" 1054), (.str "count" 1055)]
def o2_641 : Q0 := tO []
def o2_642 : Q0 := fO "beginning" "Row.beginning" (L2.inClass (top 44) 7) 0
def o2_643 : Q0 := cO "beginning" "Row.beginning" 1051 317 2 0 0 3 638 true 181 639 (.ref 640) (.ref 641) (.ref 642) 1056 317 1057
def o2_644 : Q0 := gO "beginning" "Row.beginning" (L2.inClass (top 44) 7) 3 "turnmill.rows" 947 643
def o2_645 : Q0 := tO []
def o2_646 : Q0 := eO
def o2_647 : Q0 := tO [(.str "self" 1062), (.str "count" 1063), (.str "lead" 1064), (.str "ring" 1065), (.str "cut" 1066)]
def o2_648 : Q0 := tO []
def o2_649 : Q0 := fO "behind" "Row.behind" (L2.inClass (top 44) 8) 0
def o2_650 : Q0 := cO "behind" "Row.behind" 1059 320 2 0 0 3 645 true 181 646 (.ref 647) (.ref 648) (.ref 649) 1067 320 1068
def o2_651 : Q0 := gO "behind" "Row.behind" (L2.inClass (top 44) 8) 3 "turnmill.rows" 947 650
def o2_652 : Q0 := tO []
def o2_653 : Q0 := eO
def o2_654 : Q0 := tO [(.str "self" 1073), (.str "count" 1074), (.str "lead" 1075), (.str "ring" 1076), (.str "found" 1077), (.str "index" 1078), (.str "turn" 1079), (.str "begin" 1080), (.str "rest" 1081)]
def o2_655 : Q0 := tO []
def o2_656 : Q0 := fO "runs" "Row.runs" (L2.inClass (top 44) 9) 0
def o2_657 : Q0 := cO "runs" "Row.runs" 1070 329 2 0 0 3 652 true 181 653 (.ref 654) (.ref 655) (.ref 656) 1082 329 1083
def o2_658 : Q0 := gO "runs" "Row.runs" (L2.inClass (top 44) 9) 3 "turnmill.rows" 947 657
def o2_659 : Q0 := tO []
def o2_660 : Q0 := eO
def o2_661 : Q0 := tO [(.str "self" 1088), (.str "turn" 1089), (.str "begin" 1090), (.str "lead" 1091), (.str "ring" 1092), (.str "index" 1093)]
def o2_662 : Q0 := tO []
def o2_663 : Q0 := fO "run_behind" "Row.run_behind" (L2.inClass (top 44) 10) 0
def o2_664 : Q0 := cO "run_behind" "Row.run_behind" 1085 346 3 0 0 3 659 true 181 660 (.ref 661) (.ref 662) (.ref 663) 1094 346 1095
def o2_665 : Q0 := gO "run_behind" "Row.run_behind" (L2.inClass (top 44) 10) 3 "turnmill.rows" 947 664
def o2_666 : Q0 := tO []
def o2_667 : Q0 := eO
def o2_668 : Q0 := tO [(.str "self" 1100)]
def o2_669 : Q0 := tO []
def o2_670 : Q0 := fO "exchanged" "Row.exchanged" (L2.inClass (top 44) 11) 0
def o2_671 : Q0 := cO "exchanged" "Row.exchanged" 1097 355 1 0 0 3 666 true 181 667 (.ref 668) (.ref 669) (.ref 670) 1101 355 1102
def o2_672 : Q0 := gO "exchanged" "Row.exchanged" (L2.inClass (top 44) 11) 3 "turnmill.rows" 947 671
def o2_673 : Q0 := tO []
def o2_674 : Q0 := eO
def o2_675 : Q0 := tO [(.str "self" 1107), (.str "other" 1108)]
def o2_676 : Q0 := tO []
def o2_677 : Q0 := fO "is_below" "Row.is_below" (L2.inClass (top 44) 12) 0
def o2_678 : Q0 := cO "is_below" "Row.is_below" 1104 358 2 0 0 3 673 true 181 674 (.ref 675) (.ref 676) (.ref 677) 1109 358 1110
def o2_679 : Q0 := gO "is_below" "Row.is_below" (L2.inClass (top 44) 12) 3 "turnmill.rows" 947 678
def o2_680 : Q0 := tO []
def o2_681 : Q0 := eO
def o2_682 : Q0 := tO [(.str "self" 1115), (.str "lead" 1116), (.str "ring" 1117), (.str "a" 1118), (.str "b" 1119), (.str "c" 1120), (.str "d" 1121)]
def o2_683 : Q0 := tO []
def o2_684 : Q0 := fO "number" "Row.number" (L2.inClass (top 44) 13) 0
def o2_685 : Q0 := cO "number" "Row.number" 1112 361 1 0 0 3 680 true 181 681 (.ref 682) (.ref 683) (.ref 684) 1122 361 1123
def o2_686 : Q0 := gO "number" "Row.number" (L2.inClass (top 44) 13) 3 "turnmill.rows" 947 685
def o2_687 : Q0 := tO []
def o2_688 : Q0 := eO
def o2_689 : Q0 := tO [(.str "self" 1128), (.str "other" 1129)]
def o2_690 : Q0 := tO []
def o2_691 : Q0 := fO "__eq__" "Row.__eq__" (L2.inClass (top 44) 14) 0
def o2_692 : Q0 := cO "__eq__" "Row.__eq__" 1125 370 2 0 0 3 687 true 181 688 (.ref 689) (.ref 690) (.ref 691) 1130 370 1131
def o2_693 : Q0 := gO "__eq__" "Row.__eq__" (L2.inClass (top 44) 14) 3 "turnmill.rows" 947 692
def o2_694 : Q0 := tO []
def o2_695 : Q0 := eO
def o2_696 : Q0 := tO [(.str "self" 1136), (.str "lead" 1137), (.str "ring" 1138)]
def o2_697 : Q0 := tO []
def o2_698 : Q0 := fO "__repr__" "Row.__repr__" (L2.inClass (top 44) 15) 0
def o2_699 : Q0 := cO "__repr__" "Row.__repr__" 1133 373 1 0 0 3 694 true 181 695 (.ref 696) (.ref 697) (.ref 698) 1139 373 1140
def o2_700 : Q0 := gO "__repr__" "Row.__repr__" (L2.inClass (top 44) 15) 3 "turnmill.rows" 947 699
def o2_701 : Q0 := tO [(.str "whole" 1142)]
def o2_702 (P : Params) : Q0 := dO [(eT P "__module__" 969 (.str "turnmill.rows" 947)), (eT P "__firstlineno__" 973 (.int 275 972)), (eT P "__init__" 985 (.ref 590)), (eT P "read" 1007 (.ref 599)), (eT P "lead" 1015 (.ref 608)), (eT P "ring" 1023 (.ref 616)), (eT P "text" 1032 (.ref 623)), (eT P "turn_at" 1042 (.ref 630)), (eT P "turn" 1050 (.ref 637)), (eT P "beginning" 1058 (.ref 644)), (eT P "behind" 1069 (.ref 651)), (eT P "runs" 1084 (.ref 658)), (eT P "run_behind" 1096 (.ref 665)), (eT P "exchanged" 1103 (.ref 672)), (eT P "is_below" 1111 (.ref 679)), (eT P "number" 1124 (.ref 686)), (eT P "__eq__" 1132 (.ref 693)), (eT P "__repr__" 1141 (.ref 700)), (eT P "__static_attributes__" 1143 (.ref 701)), (eT P "__dict__" 1145 (.ref 704)), (eT P "__weakref__" 1147 (.ref 705)), (eT P "__doc__" 1148 .none), (eT P "__hash__" 1149 .none)] 5
def o2_703 : Q0 := (.mk (.type "type") none (.cls (.mk "Row" [(.type "object")] [(.ref 703), (.type "object")] 702 "Row" true [] [] false none false)) #[none, none, (some (.str "Row" 962)), (some (.str "Row" 970)), (some (.builtin "object.__new__")), (some (.bool true))])
def o2_704 : Q0 := (.mk (.type "getset_descriptor") none (.fields #[(.str "__dict__" 1144), (.ref 703), (.builtin "function.__dict__"), (.builtin "function.__dict__#set")]) #[])
def o2_705 : Q0 := (.mk (.type "getset_descriptor") none (.fields #[(.str "__weakref__" 1146), (.ref 703), (.builtin "ExceptionGroup.__weakref__"), .none]) #[])
def o2_706 : Q0 := (.mk (.type "super") none (.fields #[(.ref 703), (.ref 703), (.ref 703)]) #[])
def o2_707 : Q0 := bO "object.__init_subclass__" (.ref 703)
def T2 (P : Params) : BT := (nO (boot_o_0 P) (nO (boot_o_1 P) (nO (o2_3 P) (nO (boot_o_7 P) (nO o1_15 (nO o1_31 (nO o1_63 (nO o1_127 (nO o2_255 (lO o2_511) .nil) (nO o2_383 (lO o2_639) .nil)) (nO o1_191 (nO o2_319 (lO o2_575) .nil) (nO o2_447 (lO o2_703) .nil))) (nO o1_95 (nO o1_159 (nO o2_287 (lO o2_543) .nil) (nO o2_415 (lO o2_671) .nil)) (nO o1_223 (nO o2_351 (lO o2_607) .nil) (lO o2_479)))) (nO o1_47 (nO o1_79 (nO o1_143 (nO o2_271 (lO o2_527) .nil) (nO o2_399 (lO o2_655) .nil)) (nO o1_207 (nO o2_335 (lO o2_591) .nil) (lO (o2_463 P)))) (nO o1_111 (nO o1_175 (nO o2_303 (lO o2_559) .nil) (nO o2_431 (lO o2_687) .nil)) (nO o2_239 (nO o2_367 (lO o2_623) .nil) (lO o2_495))))) (nO o1_23 (nO o1_39 (nO o1_71 (nO o1_135 (nO o2_263 (lO o2_519) .nil) (nO o2_391 (lO o2_647) .nil)) (nO o1_199 (nO o2_327 (lO o2_583) .nil) (lO o2_455))) (nO o1_103 (nO o1_167 (nO o2_295 (lO o2_551) .nil) (nO o2_423 (lO o2_679) .nil)) (nO o2_231 (nO o2_359 (lO o2_615) .nil) (lO o2_487)))) (nO o1_55 (nO o1_87 (nO (o1_151 P) (nO o2_279 (lO o2_535) .nil) (nO o2_407 (lO o2_663) .nil)) (nO o1_215 (nO o2_343 (lO o2_599) .nil) (lO o2_471))) (nO o1_119 (nO (o1_183 P) (nO o2_311 (lO o2_567) .nil) (nO o2_439 (lO o2_695) .nil)) (nO o2_247 (nO o2_375 (lO o2_631) .nil) (lO o2_503)))))) (nO o1_11 (nO o1_19 (nO o1_35 (nO o1_67 (nO o1_131 (nO o2_259 (lO o2_515) .nil) (nO o2_387 (lO o2_643) .nil)) (nO o1_195 (nO o2_323 (lO (o2_579 P)) .nil) (nO o2_451 (lO o2_707) .nil))) (nO o1_99 (nO o1_163 (nO o2_291 (lO o2_547) .nil) (nO o2_419 (lO o2_675) .nil)) (nO o2_227 (nO o2_355 (lO o2_611) .nil) (lO o2_483)))) (nO o1_51 (nO o1_83 (nO o1_147 (nO o2_275 (lO o2_531) .nil) (nO o2_403 (lO o2_659) .nil)) (nO o1_211 (nO o2_339 (lO o2_595) .nil) (lO o2_467))) (nO o1_115 (nO o1_179 (nO o2_307 (lO o2_563) .nil) (nO o2_435 (lO o2_691) .nil)) (nO o2_243 (nO o2_371 (lO o2_627) .nil) (lO o2_499))))) (nO o1_27 (nO o1_43 (nO (o1_75 P) (nO o1_139 (nO o2_267 (lO o2_523) .nil) (nO o2_395 (lO o2_651) .nil)) (nO o1_203 (nO o2_331 (lO o2_587) .nil) (lO o2_459))) (nO (o1_107 P) (nO o1_171 (nO o2_299 (lO o2_555) .nil) (nO (o2_427 P) (lO o2_683) .nil)) (nO o2_235 (nO o2_363 (lO o2_619) .nil) (lO o2_491)))) (nO o1_59 (nO o1_91 (nO o1_155 (nO o2_283 (lO o2_539) .nil) (nO o2_411 (lO o2_667) .nil)) (nO o1_219 (nO o2_347 (lO o2_603) .nil) (lO o2_475))) (nO o1_123 (nO o1_187 (nO o2_315 (lO o2_571) .nil) (nO o2_443 (lO o2_699) .nil)) (nO o2_251 (nO o2_379 (lO o2_635) .nil) (lO o2_507))))))) (nO (boot_o_5 P) (nO (boot_o_9 P) (nO o1_17 (nO o1_33 (nO o1_65 (nO o1_129 (nO o2_257 (lO o2_513) .nil) (nO o2_385 (lO o2_641) .nil)) (nO o1_193 (nO o2_321 (lO o2_577) .nil) (nO o2_449 (lO o2_705) .nil))) (nO o1_97 (nO o1_161 (nO o2_289 (lO o2_545) .nil) (nO o2_417 (lO o2_673) .nil)) (nO o2_225 (nO o2_353 (lO o2_609) .nil) (lO o2_481)))) (nO o1_49 (nO o1_81 (nO (o1_145 P) (nO o2_273 (lO o2_529) .nil) (nO o2_401 (lO o2_657) .nil)) (nO o1_209 (nO o2_337 (lO o2_593) .nil) (lO o2_465))) (nO (o1_113 P) (nO o1_177 (nO o2_305 (lO o2_561) .nil) (nO o2_433 (lO o2_689) .nil)) (nO o2_241 (nO o2_369 (lO o2_625) .nil) (lO o2_497))))) (nO o1_25 (nO o1_41 (nO o1_73 (nO o1_137 (nO o2_265 (lO o2_521) .nil) (nO o2_393 (lO o2_649) .nil)) (nO o1_201 (nO o2_329 (lO o2_585) .nil) (lO o2_457))) (nO o1_105 (nO o1_169 (nO o2_297 (lO o2_553) .nil) (nO o2_425 (lO o2_681) .nil)) (nO o2_233 (nO o2_361 (lO o2_617) .nil) (lO o2_489)))) (nO o1_57 (nO o1_89 (nO o1_153 (nO o2_281 (lO o2_537) .nil) (nO o2_409 (lO o2_665) .nil)) (nO o1_217 (nO o2_345 (lO o2_601) .nil) (lO o2_473))) (nO o1_121 (nO o1_185 (nO (o2_313 P) (lO o2_569) .nil) (nO o2_441 (lO o2_697) .nil)) (nO o2_249 (nO o2_377 (lO o2_633) .nil) (lO o2_505)))))) (nO o1_13 (nO o1_21 (nO (o1_37 P) (nO (o1_69 P) (nO o1_133 (nO o2_261 (lO o2_517) .nil) (nO o2_389 (lO o2_645) .nil)) (nO o1_197 (nO o2_325 (lO o2_581) .nil) (lO o2_453))) (nO o1_101 (nO o1_165 (nO o2_293 (lO o2_549) .nil) (nO o2_421 (lO o2_677) .nil)) (nO o2_229 (nO o2_357 (lO o2_613) .nil) (lO o2_485)))) (nO o1_53 (nO o1_85 (nO o1_149 (nO o2_277 (lO o2_533) .nil) (nO o2_405 (lO o2_661) .nil)) (nO o1_213 (nO o2_341 (lO o2_597) .nil) (lO (o2_469 P)))) (nO o1_117 (nO o1_181 (nO o2_309 (lO o2_565) .nil) (nO o2_437 (lO o2_693) .nil)) (nO o2_245 (nO o2_373 (lO o2_629) .nil) (lO o2_501))))) (nO o1_29 (nO o1_45 (nO o1_77 (nO o1_141 (nO o2_269 (lO o2_525) .nil) (nO o2_397 (lO o2_653) .nil)) (nO o1_205 (nO o2_333 (lO o2_589) .nil) (lO o2_461))) (nO o1_109 (nO o1_173 (nO o2_301 (lO (o2_557 P)) .nil) (nO o2_429 (lO o2_685) .nil)) (nO o2_237 (nO o2_365 (lO o2_621) .nil) (lO o2_493)))) (nO o1_61 (nO o1_93 (nO o1_157 (nO o2_285 (lO o2_541) .nil) (nO o2_413 (lO o2_669) .nil)) (nO (o1_221 P) (nO o2_349 (lO o2_605) .nil) (lO o2_477))) (nO o1_125 (nO (o1_189 P) (nO o2_317 (lO o2_573) .nil) (nO o2_445 (lO o2_701) .nil)) (nO o2_253 (nO o2_381 (lO o2_637) .nil) (lO o2_509)))))))) (nO (boot_o_2 P) (nO (boot_o_4 P) (nO (boot_o_8 P) (nO o1_16 (nO o1_32 (nO o1_64 (nO o1_128 (nO o2_256 (lO o2_512) .nil) (nO o2_384 (lO o2_640) .nil)) (nO o1_192 (nO o2_320 (lO o2_576) .nil) (nO o2_448 (lO o2_704) .nil))) (nO o1_96 (nO o1_160 (nO o2_288 (lO o2_544) .nil) (nO o2_416 (lO o2_672) .nil)) (nO o1_224 (nO o2_352 (lO o2_608) .nil) (lO o2_480)))) (nO o1_48 (nO o1_80 (nO o1_144 (nO o2_272 (lO o2_528) .nil) (nO o2_400 (lO o2_656) .nil)) (nO (o1_208 P) (nO o2_336 (lO o2_592) .nil) (lO o2_464))) (nO o1_112 (nO o1_176 (nO o2_304 (lO o2_560) .nil) (nO o2_432 (lO o2_688) .nil)) (nO o2_240 (nO o2_368 (lO o2_624) .nil) (lO o2_496))))) (nO (o1_24 P) (nO o1_40 (nO o1_72 (nO o1_136 (nO o2_264 (lO o2_520) .nil) (nO o2_392 (lO o2_648) .nil)) (nO o1_200 (nO o2_328 (lO o2_584) .nil) (lO o2_456))) (nO o1_104 (nO o1_168 (nO o2_296 (lO o2_552) .nil) (nO o2_424 (lO o2_680) .nil)) (nO o2_232 (nO o2_360 (lO o2_616) .nil) (lO o2_488)))) (nO (o1_56 P) (nO (o1_88 P) (nO o1_152 (nO o2_280 (lO o2_536) .nil) (nO o2_408 (lO o2_664) .nil)) (nO o1_216 (nO o2_344 (lO o2_600) .nil) (lO o2_472))) (nO o1_120 (nO o1_184 (nO o2_312 (lO o2_568) .nil) (nO o2_440 (lO o2_696) .nil)) (nO o2_248 (nO o2_376 (lO o2_632) .nil) (lO o2_504)))))) (nO o2_12 (nO o1_20 (nO o1_36 (nO o1_68 (nO (o1_132 P) (nO o2_260 (lO o2_516) .nil) (nO o2_388 (lO o2_644) .nil)) (nO o1_196 (nO o2_324 (lO o2_580) .nil) (lO o2_452))) (nO o1_100 (nO (o1_164 P) (nO o2_292 (lO o2_548) .nil) (nO o2_420 (lO o2_676) .nil)) (nO o2_228 (nO o2_356 (lO o2_612) .nil) (lO o2_484)))) (nO o1_52 (nO o1_84 (nO o1_148 (nO o2_276 (lO o2_532) .nil) (nO o2_404 (lO o2_660) .nil)) (nO o1_212 (nO o2_340 (lO o2_596) .nil) (lO o2_468))) (nO o1_116 (nO o1_180 (nO o2_308 (lO o2_564) .nil) (nO o2_436 (lO o2_692) .nil)) (nO o2_244 (nO o2_372 (lO o2_628) .nil) (lO o2_500))))) (nO o1_28 (nO o1_44 (nO o1_76 (nO o1_140 (nO o2_268 (lO o2_524) .nil) (nO o2_396 (lO o2_652) .nil)) (nO o1_204 (nO o2_332 (lO o2_588) .nil) (lO o2_460))) (nO o1_108 (nO o1_172 (nO o2_300 (lO o2_556) .nil) (nO o2_428 (lO o2_684) .nil)) (nO o2_236 (nO o2_364 (lO o2_620) .nil) (lO o2_492)))) (nO o1_60 (nO o1_92 (nO o1_156 (nO o2_284 (lO o2_540) .nil) (nO o2_412 (lO o2_668) .nil)) (nO o1_220 (nO o2_348 (lO o2_604) .nil) (lO o2_476))) (nO o1_124 (nO o1_188 (nO o2_316 (lO o2_572) .nil) (nO o2_444 (lO o2_700) .nil)) (nO o2_252 (nO o2_380 (lO o2_636) .nil) (lO o2_508))))))) (nO (boot_o_6 P) (nO (boot_o_10 P) (nO o1_18 (nO o1_34 (nO o1_66 (nO o1_130 (nO o2_258 (lO o2_514) .nil) (nO o2_386 (lO o2_642) .nil)) (nO o1_194 (nO o2_322 (lO o2_578) .nil) (nO o2_450 (lO o2_706) .nil))) (nO o1_98 (nO o1_162 (nO o2_290 (lO o2_546) .nil) (nO o2_418 (lO o2_674) .nil)) (nO o2_226 (nO o2_354 (lO o2_610) .nil) (lO o2_482)))) (nO (o1_50 P) (nO o1_82 (nO o1_146 (nO o2_274 (lO o2_530) .nil) (nO o2_402 (lO o2_658) .nil)) (nO o1_210 (nO o2_338 (lO o2_594) .nil) (lO o2_466))) (nO o1_114 (nO o1_178 (nO o2_306 (lO o2_562) .nil) (nO o2_434 (lO o2_690) .nil)) (nO o2_242 (nO o2_370 (lO o2_626) .nil) (lO o2_498))))) (nO o1_26 (nO o1_42 (nO o1_74 (nO o1_138 (nO o2_266 (lO o2_522) .nil) (nO o2_394 (lO o2_650) .nil)) (nO (o1_202 P) (nO (o2_330 P) (lO o2_586) .nil) (lO o2_458))) (nO o1_106 (nO (o1_170 P) (nO o2_298 (lO o2_554) .nil) (nO o2_426 (lO o2_682) .nil)) (nO o2_234 (nO o2_362 (lO o2_618) .nil) (lO o2_490)))) (nO o1_58 (nO o1_90 (nO o1_154 (nO o2_282 (lO o2_538) .nil) (nO o2_410 (lO o2_666) .nil)) (nO o1_218 (nO o2_346 (lO o2_602) .nil) (lO o2_474))) (nO o1_122 (nO o1_186 (nO o2_314 (lO o2_570) .nil) (nO o2_442 (lO o2_698) .nil)) (nO o2_250 (nO o2_378 (lO o2_634) .nil) (lO o2_506)))))) (nO o1_14 (nO o1_22 (nO o1_38 (nO o1_70 (nO o1_134 (nO o2_262 (lO o2_518) .nil) (nO o2_390 (lO o2_646) .nil)) (nO o1_198 (nO o2_326 (lO o2_582) .nil) (lO o2_454))) (nO o1_102 (nO o1_166 (nO o2_294 (lO o2_550) .nil) (nO o2_422 (lO o2_678) .nil)) (nO o2_230 (nO o2_358 (lO o2_614) .nil) (lO o2_486)))) (nO o1_54 (nO o1_86 (nO o1_150 (nO o2_278 (lO o2_534) .nil) (nO o2_406 (lO o2_662) .nil)) (nO o1_214 (nO o2_342 (lO (o2_598 P)) .nil) (lO o2_470))) (nO o1_118 (nO o1_182 (nO o2_310 (lO o2_566) .nil) (nO o2_438 (lO o2_694) .nil)) (nO o2_246 (nO o2_374 (lO o2_630) .nil) (lO o2_502))))) (nO (o1_30 P) (nO o1_46 (nO o1_78 (nO o1_142 (nO o2_270 (lO o2_526) .nil) (nO o2_398 (lO o2_654) .nil)) (nO o1_206 (nO o2_334 (lO o2_590) .nil) (lO o2_462))) (nO o1_110 (nO o1_174 (nO o2_302 (lO o2_558) .nil) (nO o2_430 (lO o2_686) .nil)) (nO o2_238 (nO o2_366 (lO o2_622) .nil) (lO o2_494)))) (nO o1_62 (nO (o1_94 P) (nO o1_158 (nO o2_286 (lO o2_542) .nil) (nO o2_414 (lO o2_670) .nil)) (nO o1_222 (nO o2_350 (lO o2_606) .nil) (lO o2_478))) (nO (o1_126 P) (nO o1_190 (nO o2_318 (lO o2_574) .nil) (nO o2_446 (lO (o2_702 P)) .nil)) (nO o2_254 (nO o2_382 (lO o2_638) .nil) (lO o2_510)))))))))
def S2 (w : World) (os : OsState) : SharedT := ⟨T2 w.params, 708, (Life.mk [] [] [] 0 [] [] Bool.false (List.toArray []) [] 0 Bool.false Bool.false Bool.false 0 [2000, 10, 10] Bool.false 0 Bool.true [] [] 0 Bool.false), #[], (Drawn.mk 0 0 0 0), 1152, os⟩
def o3_3 (P : Params) : Q0 := dO [(eT P "__name__" 165 (.str "law_turnmill_k37_whole_least_machines_of_hab" 1421)), (eT P "__doc__" 166 .none), (eT P "__package__" 167 .none), (eT P "__loader__" 168 (.builtin "__main__.__loader__#opaque")), (eT P "__spec__" 169 .none), (eT P "__annotations__" 170 (.ref 6)), (eT P "__builtins__" 171 (.ref 4)), (eT P "__file__" 173 (.str "/claim/cut.py" 172)), (eT P "__cached__" 174 .none), (eT P "_wall" 193 (.ref 21)), (eT P "MillError" 213 (.ref 31)), (eT P "InvalidWord" 239 (.ref 51)), (eT P "InvalidTable" 263 (.ref 70)), (eT P "InvalidNumber" 287 (.ref 89)), (eT P "InvalidRing" 313 (.ref 108)), (eT P "InvalidRoom" 339 (.ref 127)), (eT P "InvalidCount" 365 (.ref 146)), (eT P "InvalidIndex" 391 (.ref 165)), (eT P "TooLong" 417 (.ref 184)), (eT P "TooManyRooms" 443 (.ref 203)), (eT P "ParseError" 469 (.ref 222)), (eT P "TURNS" 473 (.str "LR" 472)), (eT P "MOST_TURNS" 475 (.int 4000 474)), (eT P "LEFT" 480 (.ref 225)), (eT P "RIGHT" 485 (.ref 226)), (eT P "NEUTRAL" 490 (.ref 227)), (eT P "is_integer" 497 (.ref 234)), (eT P "is_within" 506 (.ref 241)), (eT P "is_word" 512 (.ref 246)), (eT P "is_turn" 519 (.ref 253)), (eT P "check_word" 526 (.ref 260)), (eT P "check_turn" 533 (.ref 267)), (eT P "divisor_of" 544 (.ref 274)), (eT P "product" 560 (.ref 281)), (eT P "word_table" 569 (.ref 288)), (eT P "divided" 575 (.ref 293)), (eT P "least_times" 581 (.ref 298)), (eT P "runs_taken" 595 (.ref 305)), (eT P "word_taken" 601 (.ref 310)), (eT P "Table" 760 (.ref 428)), (eT P "table_with" 771 (.ref 439)), (eT P "root_floor" 783 (.ref 446)), (eT P "sign_of" 790 (.ref 453)), (eT P "root_sign" 801 (.ref 460)), (eT P "Number" 934 (.ref 558)), (eT P "number_led" 946 (.ref 569)), (eT P "FAR" 952 (.int 1000000000000000000000000000000 951)), (eT P "MOST_RUNS" 954 (.int 400 953)), (eT P "least_ring" 961 (.ref 576)), (eT P "Row" 1151 (.ref 703)), (eT P "MOST_ROOMS" 1155 (.int 300 1154)), (eT P "MOST_BARRED" 1157 (.int 20 1156)), (eT P "barred_steps" 1163 (.ref 712)), (eT P "living" 1169 (.ref 717)), (eT P "classes_of" 1175 (.ref 722)), (eT P "least_steps" 1191 (.ref 729)), (eT P "paired_steps" 1211 (.ref 736)), (eT P "Habit" 1393 (.ref 871)), (eT P "Combined" 1420 (.ref 894)), (eT P "_law_hand" 1428 (.ref 901)), (eT P "_law_pick" 1440 (.ref 908)), (eT P "_law_of" 1448 (.ref 915)), (eT P "_law_same" 1454 (.ref 920)), (eT P "_law_word" 1460 (.ref 925)), (eT P "_law_some" 1468 (.ref 932)), (eT P "_law_all" 1474 (.ref 937)), (eT P "_law_barred" 1480 (.ref 942)), (eT P "_law_goes" 1486 (.ref 947)), (eT P "_law_sign_of" 1492 (.ref 952)), (eT P "_law_habit" 1507 (.ref 959)), (eT P "_law_goal" 1517 (.ref 966)), (eT P "_law_steps_told" 1523 (.ref 971)), (eT P "law" 1529 (.ref 976))] 73
def o3_12 : Q0 := (.mk .none none (.fields #[(.int 1 0), (.int 0 0), (.ref 20), (.int 5 0), (.int 0 0), (.ref 27), (.int 7 0), (.int 0 0), (.ref 40), (.int 12 0), (.int 0 0), (.ref 59), (.int 16 0), (.int 0 0), (.ref 78), (.int 20 0), (.int 0 0), (.ref 97), (.int 25 0), (.int 0 0), (.ref 116), (.int 30 0), (.int 0 0), (.ref 135), (.int 35 0), (.int 0 0), (.ref 154), (.int 40 0), (.int 0 0), (.ref 173), (.int 45 0), (.int 0 0), (.ref 192), (.int 50 0), (.int 0 0), (.ref 211), (.int 61 0), (.int 0 0), (.ref 233), (.int 63 0), (.int 0 0), (.ref 240), (.int 65 0), (.int 0 0), (.ref 245), (.int 67 0), (.int 0 0), (.ref 252), (.int 69 0), (.int 0 0), (.ref 259), (.int 72 0), (.int 0 0), (.ref 266), (.int 75 0), (.int 0 0), (.ref 273), (.int 83 0), (.int 0 0), (.ref 280), (.int 87 0), (.int 0 0), (.ref 287), (.int 92 0), (.int 0 0), (.ref 292), (.int 95 0), (.int 0 0), (.ref 297), (.int 97 0), (.int 0 0), (.ref 304), (.int 114 0), (.int 0 0), (.ref 309), (.int 119 0), (.int 0 0), (.ref 316), (.int 181 0), (.int 0 0), (.ref 438), (.int 185 0), (.int 0 0), (.ref 445), (.int 196 0), (.int 0 0), (.ref 452), (.int 198 0), (.int 0 0), (.ref 459), (.int 203 0), (.int 0 0), (.ref 466), (.int 265 0), (.int 0 0), (.ref 568), (.int 273 0), (.int 0 0), (.ref 575), (.int 275 0), (.int 0 0), (.ref 582), (.int 379 0), (.int 0 0), (.ref 711), (.int 405 0), (.int 0 0), (.ref 716), (.int 413 0), (.int 0 0), (.ref 721), (.int 427 0), (.int 0 0), (.ref 728), (.int 449 0), (.int 0 0), (.ref 735), (.int 469 0), (.int 0 0), (.ref 742), (.int 550 0), (.int 0 0), (.ref 882), (.int 556 0), (.int 0 0), (.ref 900), (.int 562 0), (.int 0 0), (.ref 907), (.int 576 0), (.int 0 0), (.ref 914), (.int 578 0), (.int 0 0), (.ref 919), (.int 588 0), (.int 0 0), (.ref 924), (.int 590 0), (.int 0 0), (.ref 931), (.int 592 0), (.int 0 0), (.ref 936), (.int 600 0), (.int 0 0), (.ref 941), (.int 602 0), (.int 0 0), (.ref 946), (.int 610 0), (.int 0 0), (.ref 951), (.int 615 0), (.int 0 0), (.ref 958), (.int 634 0), (.int 0 0), (.ref 965), (.int 640 0), (.int 0 0), (.ref 970), (.int 642 0), (.int 0 0), (.ref 975)]) #[])
def o3_708 : Q0 := tO []
def o3_709 : Q0 := eO
def o3_710 : Q0 := fO "barred_steps" "barred_steps" (top 48) 0
def o3_711 : Q0 := cO "barred_steps" "barred_steps" 1158 379 1 0 0 3 708 true 181 709 .none .none (.ref 710) 1161 379 1162
def o3_712 : Q0 := gO "barred_steps" "barred_steps" (top 48) 3 "turnmill.habits" 1152 711
def o3_713 : Q0 := tO []
def o3_714 : Q0 := eO
def o3_715 : Q0 := fO "living" "living" (top 49) 0
def o3_716 : Q0 := cO "living" "living" 1164 405 1 0 0 3 713 true 181 714 .none .none (.ref 715) 1167 405 1168
def o3_717 : Q0 := gO "living" "living" (top 49) 3 "turnmill.habits" 1152 716
def o3_718 : Q0 := tO []
def o3_719 : Q0 := eO
def o3_720 : Q0 := fO "classes_of" "classes_of" (top 50) 0
def o3_721 : Q0 := cO "classes_of" "classes_of" 1170 413 2 0 0 3 718 true 181 719 .none .none (.ref 720) 1173 413 1174
def o3_722 : Q0 := gO "classes_of" "classes_of" (top 50) 3 "turnmill.habits" 1152 721
def o3_723 : Q0 := tO []
def o3_724 : Q0 := eO
def o3_725 : Q0 := tO [(.str "steps" 1179), (.str "alive" 1180), (.str "kinds" 1181), (.str "line" 1182), (.str "places" 1183), (.str "found" 1184), (.str "at" 1185), (.str "row" 1186), (.str "goal" 1187), (.str "kind" 1188)]
def o3_726 : Q0 := tO []
def o3_727 : Q0 := fO "least_steps" "least_steps" (top 51) 0
def o3_728 : Q0 := cO "least_steps" "least_steps" 1176 427 1 0 0 3 723 true 181 724 (.ref 725) (.ref 726) (.ref 727) 1189 427 1190
def o3_729 : Q0 := gO "least_steps" "least_steps" (top 51) 3 "turnmill.habits" 1152 728
def o3_730 : Q0 := tO []
def o3_731 : Q0 := eO
def o3_732 : Q0 := tO [(.str "one" 1195), (.str "other" 1196), (.str "is_both" 1197), (.str "start" 1198), (.str "known" 1199), (.str "line" 1200), (.str "steps" 1201), (.str "at" 1202), (.str "left" 1203), (.str "right" 1204), (.str "row" 1205), (.str "place" 1206), (.str "goal" 1207), (.str "gone" 1208)]
def o3_733 : Q0 := tO []
def o3_734 : Q0 := fO "paired_steps" "paired_steps" (top 52) 0
def o3_735 : Q0 := cO "paired_steps" "paired_steps" 1192 449 3 0 0 3 730 true 181 731 (.ref 732) (.ref 733) (.ref 734) 1209 449 1210
def o3_736 : Q0 := gO "paired_steps" "paired_steps" (top 52) 3 "turnmill.habits" 1152 735
def o3_737 : Q0 := tO []
def o3_738 : Q0 := bO "type.__prepare__" (.type "type")
def o3_739 (P : Params) : Q0 := dO [(eT P "__module__" 1219 (.str "turnmill.habits" 1152)), (eT P "__qualname__" 1221 (.str "Habit" 1220)), (eT P "__firstlineno__" 1223 (.int 469 1222)), (eT P "MOST" 1225 (.int 300 1224)), (eT P "__init__" 1234 (.ref 752)), (eT P "bounded" 1253 (.ref 761)), (eT P "step" 1262 (.ref 769)), (eT P "check_room" 1270 (.ref 776)), (eT P "gone" 1280 (.ref 783)), (eT P "goes" 1291 (.ref 791)), (eT P "start" 1298 (.ref 798)), (eT P "has" 1306 (.ref 805)), (eT P "broken_at" 1318 (.ref 812)), (eT P "row_from" 1330 (.ref 819)), (eT P "first" 1337 (.ref 826)), (eT P "unlike" 1345 (.ref 833)), (eT P "__mul__" 1353 (.ref 840)), (eT P "__add__" 1361 (.ref 847)), (eT P "__len__" 1368 (.ref 854)), (eT P "__eq__" 1376 (.ref 861)), (eT P "__repr__" 1383 (.ref 868)), (eT P "__static_attributes__" 1385 (.ref 869))] 22
def o3_740 : Q0 := tO []
def o3_741 : Q0 := (.mk .none none (.fields #[(.int 472 0), (.int 4 0), (.ref 751), (.int 479 0), (.int 4 0), (.ref 758), (.int 482 0), (.int 4 0), (.ref 768), (.int 487 0), (.int 4 0), (.ref 775), (.int 491 0), (.int 4 0), (.ref 782), (.int 498 0), (.int 4 0), (.ref 790), (.int 503 0), (.int 4 0), (.ref 797), (.int 506 0), (.int 4 0), (.ref 804), (.int 509 0), (.int 4 0), (.ref 811), (.int 521 0), (.int 4 0), (.ref 818), (.int 530 0), (.int 4 0), (.ref 825), (.int 533 0), (.int 4 0), (.ref 832), (.int 536 0), (.int 4 0), (.ref 839), (.int 539 0), (.int 4 0), (.ref 846), (.int 542 0), (.int 4 0), (.ref 853), (.int 545 0), (.int 4 0), (.ref 860), (.int 548 0), (.int 4 0), (.ref 867)]) #[])
def o3_742 : Q0 := cO "Habit" "Habit" 1214 469 0 0 0 0 740 false 181 741 .none .none .none 1217 469 1218
def o3_743 : Q0 := rO 742 3 739 "turnmill.habits" 1152 0
def o3_744 : Q0 := tO []
def o3_745 : Q0 := tO [(.ref 744)]
def o3_746 : Q0 := tO []
def o3_747 : Q0 := eO
def o3_748 : Q0 := tO [(.str "self" 1229), (.str "barred" 1230), (.str "word" 1231)]
def o3_749 : Q0 := tO []
def o3_750 : Q0 := fO "__init__" "Habit.__init__" (L2.inClass (top 53) 1) 0
def o3_751 : Q0 := cO "__init__" "Habit.__init__" 1226 472 2 0 0 3 746 true 181 747 (.ref 748) (.ref 749) (.ref 750) 1232 472 1233
def o3_752 : Q0 := ⟨(.type "function"), none, .func ⟨"__init__", "Habit.__init__", L2.defArgs (L2.inClass (top 53) 1), .stmts (L2.defBody (L2.inClass (top 53) 1)), L2.defScope (L2.inClass (top 53) 1), 3, [], (.ref 745), .none, .none, (.str "turnmill.habits" 1152), none, (.ref 751), .none, 0⟩, #[]⟩
def o3_753 : Q0 := tO []
def o3_754 : Q0 := eO
def o3_755 : Q0 := tO [(.str "most" 1238)]
def o3_756 : Q0 := tO []
def o3_757 : Q0 := fO "bounded" "Habit.bounded" (L2.inClass (top 53) 2) 0
def o3_758 : Q0 := cO "bounded" "Habit.bounded" 1235 478 1 0 0 3 753 true 181 754 (.ref 755) (.ref 756) (.ref 757) 1239 478 1240
def o3_759 : Q0 := ⟨(.type "function"), none, .func ⟨"bounded", "Habit.bounded", L2.defArgs (L2.inClass (top 53) 2), .stmts (L2.defBody (L2.inClass (top 53) 2)), L2.defScope (L2.inClass (top 53) 2), 3, [], .none, .none, .none, (.str "turnmill.habits" 1152), (some 762), (.ref 758), .none, 0⟩, #[]⟩
def o3_760 (P : Params) : Q0 := dO [(eT P "__module__" 1242 (.str "turnmill.habits" 1152)), (eT P "__name__" 1245 (.str "bounded" 1244)), (eT P "__qualname__" 1248 (.str "Habit.bounded" 1247)), (eT P "__doc__" 1250 .none), (eT P "__annotations__" 1252 (.ref 762))] 5
def o3_761 : Q0 := (.mk (.type "staticmethod") (some 760) (.fields #[(.ref 759), (.bool false)]) #[])
def o3_762 : Q0 := dO [] 0
def o3_763 : Q0 := tO []
def o3_764 : Q0 := eO
def o3_765 : Q0 := tO [(.str "self" 1257), (.str "room" 1258), (.str "turn" 1259)]
def o3_766 : Q0 := tO []
def o3_767 : Q0 := fO "step" "Habit.step" (L2.inClass (top 53) 3) 0
def o3_768 : Q0 := cO "step" "Habit.step" 1254 482 3 0 0 3 763 true 181 764 (.ref 765) (.ref 766) (.ref 767) 1260 482 1261
def o3_769 : Q0 := gO "step" "Habit.step" (L2.inClass (top 53) 3) 3 "turnmill.habits" 1152 768
def o3_770 : Q0 := tO []
def o3_771 : Q0 := eO
def o3_772 : Q0 := tO [(.str "self" 1266), (.str "room" 1267)]
def o3_773 : Q0 := tO []
def o3_774 : Q0 := fO "check_room" "Habit.check_room" (L2.inClass (top 53) 4) 0
def o3_775 : Q0 := cO "check_room" "Habit.check_room" 1263 487 2 0 0 3 770 true 181 771 (.ref 772) (.ref 773) (.ref 774) 1268 487 1269
def o3_776 : Q0 := gO "check_room" "Habit.check_room" (L2.inClass (top 53) 4) 3 "turnmill.habits" 1152 775
def o3_777 : Q0 := tO []
def o3_778 : Q0 := eO
def o3_779 : Q0 := tO [(.str "self" 1274), (.str "room" 1275), (.str "word" 1276), (.str "turn" 1277)]
def o3_780 : Q0 := tO []
def o3_781 : Q0 := fO "gone" "Habit.gone" (L2.inClass (top 53) 5) 0
def o3_782 : Q0 := cO "gone" "Habit.gone" 1271 491 3 0 0 3 777 true 181 778 (.ref 779) (.ref 780) (.ref 781) 1278 491 1279
def o3_783 : Q0 := gO "gone" "Habit.gone" (L2.inClass (top 53) 5) 3 "turnmill.habits" 1152 782
def o3_784 (P : Params) : Q0 := dO [(eT P "room" 1282 (.int 0 1281))] 1
def o3_785 : Q0 := tO []
def o3_786 : Q0 := eO
def o3_787 : Q0 := tO [(.str "self" 1286), (.str "word" 1287), (.str "room" 1288)]
def o3_788 : Q0 := tO []
def o3_789 : Q0 := fO "goes" "Habit.goes" (L2.inClass (top 53) 6) 0
def o3_790 : Q0 := cO "goes" "Habit.goes" 1283 498 2 0 1 3 785 true 181 786 (.ref 787) (.ref 788) (.ref 789) 1289 498 1290
def o3_791 : Q0 := ⟨(.type "function"), none, .func ⟨"goes", "Habit.goes", L2.defArgs (L2.inClass (top 53) 6), .stmts (L2.defBody (L2.inClass (top 53) 6)), L2.defScope (L2.inClass (top 53) 6), 3, [], .none, (.ref 784), .none, (.str "turnmill.habits" 1152), none, (.ref 790), .none, 0⟩, #[]⟩
def o3_792 : Q0 := tO []
def o3_793 : Q0 := eO
def o3_794 : Q0 := tO [(.str "self" 1295)]
def o3_795 : Q0 := tO []
def o3_796 : Q0 := fO "start" "Habit.start" (L2.inClass (top 53) 7) 0
def o3_797 : Q0 := cO "start" "Habit.start" 1292 503 1 0 0 3 792 true 181 793 (.ref 794) (.ref 795) (.ref 796) 1296 503 1297
def o3_798 : Q0 := gO "start" "Habit.start" (L2.inClass (top 53) 7) 3 "turnmill.habits" 1152 797
def o3_799 : Q0 := tO []
def o3_800 : Q0 := eO
def o3_801 : Q0 := tO [(.str "self" 1302), (.str "row" 1303)]
def o3_802 : Q0 := tO []
def o3_803 : Q0 := fO "has" "Habit.has" (L2.inClass (top 53) 8) 0
def o3_804 : Q0 := cO "has" "Habit.has" 1299 506 2 0 0 3 799 true 181 800 (.ref 801) (.ref 802) (.ref 803) 1304 506 1305
def o3_805 : Q0 := gO "has" "Habit.has" (L2.inClass (top 53) 8) 3 "turnmill.habits" 1152 804
def o3_806 : Q0 := tO []
def o3_807 : Q0 := eO
def o3_808 : Q0 := tO [(.str "self" 1310), (.str "row" 1311), (.str "room" 1312), (.str "count" 1313), (.str "known" 1314), (.str "key" 1315)]
def o3_809 : Q0 := tO []
def o3_810 : Q0 := fO "broken_at" "Habit.broken_at" (L2.inClass (top 53) 9) 0
def o3_811 : Q0 := cO "broken_at" "Habit.broken_at" 1307 509 2 0 0 3 806 true 181 807 (.ref 808) (.ref 809) (.ref 810) 1316 509 1317
def o3_812 : Q0 := gO "broken_at" "Habit.broken_at" (L2.inClass (top 53) 9) 3 "turnmill.habits" 1152 811
def o3_813 : Q0 := tO []
def o3_814 : Q0 := eO
def o3_815 : Q0 := tO [(.str "self" 1322), (.str "room" 1323), (.str "known" 1324), (.str "word" 1325), (.str "left" 1326), (.str "right" 1327)]
def o3_816 : Q0 := tO []
def o3_817 : Q0 := fO "row_from" "Habit.row_from" (L2.inClass (top 53) 10) 0
def o3_818 : Q0 := cO "row_from" "Habit.row_from" 1319 521 2 0 0 3 813 true 181 814 (.ref 815) (.ref 816) (.ref 817) 1328 521 1329
def o3_819 : Q0 := gO "row_from" "Habit.row_from" (L2.inClass (top 53) 10) 3 "turnmill.habits" 1152 818
def o3_820 : Q0 := tO []
def o3_821 : Q0 := eO
def o3_822 : Q0 := tO [(.str "self" 1334)]
def o3_823 : Q0 := tO []
def o3_824 : Q0 := fO "first" "Habit.first" (L2.inClass (top 53) 11) 0
def o3_825 : Q0 := cO "first" "Habit.first" 1331 530 1 0 0 3 820 true 181 821 (.ref 822) (.ref 823) (.ref 824) 1335 530 1336
def o3_826 : Q0 := gO "first" "Habit.first" (L2.inClass (top 53) 11) 3 "turnmill.habits" 1152 825
def o3_827 : Q0 := tO []
def o3_828 : Q0 := eO
def o3_829 : Q0 := tO [(.str "self" 1341), (.str "other" 1342)]
def o3_830 : Q0 := tO []
def o3_831 : Q0 := fO "unlike" "Habit.unlike" (L2.inClass (top 53) 12) 0
def o3_832 : Q0 := cO "unlike" "Habit.unlike" 1338 533 2 0 0 3 827 true 181 828 (.ref 829) (.ref 830) (.ref 831) 1343 533 1344
def o3_833 : Q0 := gO "unlike" "Habit.unlike" (L2.inClass (top 53) 12) 3 "turnmill.habits" 1152 832
def o3_834 : Q0 := tO []
def o3_835 : Q0 := eO
def o3_836 : Q0 := tO [(.str "self" 1349), (.str "other" 1350)]
def o3_837 : Q0 := tO []
def o3_838 : Q0 := fO "__mul__" "Habit.__mul__" (L2.inClass (top 53) 13) 0
def o3_839 : Q0 := cO "__mul__" "Habit.__mul__" 1346 536 2 0 0 3 834 true 181 835 (.ref 836) (.ref 837) (.ref 838) 1351 536 1352
def o3_840 : Q0 := gO "__mul__" "Habit.__mul__" (L2.inClass (top 53) 13) 3 "turnmill.habits" 1152 839
def o3_841 : Q0 := tO []
def o3_842 : Q0 := eO
def o3_843 : Q0 := tO [(.str "self" 1357), (.str "other" 1358)]
def o3_844 : Q0 := tO []
def o3_845 : Q0 := fO "__add__" "Habit.__add__" (L2.inClass (top 53) 14) 0
def o3_846 : Q0 := cO "__add__" "Habit.__add__" 1354 539 2 0 0 3 841 true 181 842 (.ref 843) (.ref 844) (.ref 845) 1359 539 1360
def o3_847 : Q0 := gO "__add__" "Habit.__add__" (L2.inClass (top 53) 14) 3 "turnmill.habits" 1152 846
def o3_848 : Q0 := tO []
def o3_849 : Q0 := eO
def o3_850 : Q0 := tO [(.str "self" 1365)]
def o3_851 : Q0 := tO []
def o3_852 : Q0 := fO "__len__" "Habit.__len__" (L2.inClass (top 53) 15) 0
def o3_853 : Q0 := cO "__len__" "Habit.__len__" 1362 542 1 0 0 3 848 true 181 849 (.ref 850) (.ref 851) (.ref 852) 1366 542 1367
def o3_854 : Q0 := gO "__len__" "Habit.__len__" (L2.inClass (top 53) 15) 3 "turnmill.habits" 1152 853
def o3_855 : Q0 := tO []
def o3_856 : Q0 := eO
def o3_857 : Q0 := tO [(.str "self" 1372), (.str "other" 1373)]
def o3_858 : Q0 := tO []
def o3_859 : Q0 := fO "__eq__" "Habit.__eq__" (L2.inClass (top 53) 16) 0
def o3_860 : Q0 := cO "__eq__" "Habit.__eq__" 1369 545 2 0 0 3 855 true 181 856 (.ref 857) (.ref 858) (.ref 859) 1374 545 1375
def o3_861 : Q0 := gO "__eq__" "Habit.__eq__" (L2.inClass (top 53) 16) 3 "turnmill.habits" 1152 860
def o3_862 : Q0 := tO []
def o3_863 : Q0 := eO
def o3_864 : Q0 := tO [(.str "self" 1380)]
def o3_865 : Q0 := tO []
def o3_866 : Q0 := fO "__repr__" "Habit.__repr__" (L2.inClass (top 53) 17) 0
def o3_867 : Q0 := cO "__repr__" "Habit.__repr__" 1377 548 1 0 0 3 862 true 181 863 (.ref 864) (.ref 865) (.ref 866) 1381 548 1382
def o3_868 : Q0 := gO "__repr__" "Habit.__repr__" (L2.inClass (top 53) 17) 3 "turnmill.habits" 1152 867
def o3_869 : Q0 := tO [(.str "rows_by_room" 1384)]
def o3_870 (P : Params) : Q0 := dO [(eT P "__module__" 1219 (.str "turnmill.habits" 1152)), (eT P "__firstlineno__" 1223 (.int 469 1222)), (eT P "MOST" 1225 (.int 300 1224)), (eT P "__init__" 1234 (.ref 752)), (eT P "bounded" 1253 (.ref 761)), (eT P "step" 1262 (.ref 769)), (eT P "check_room" 1270 (.ref 776)), (eT P "gone" 1280 (.ref 783)), (eT P "goes" 1291 (.ref 791)), (eT P "start" 1298 (.ref 798)), (eT P "has" 1306 (.ref 805)), (eT P "broken_at" 1318 (.ref 812)), (eT P "row_from" 1330 (.ref 819)), (eT P "first" 1337 (.ref 826)), (eT P "unlike" 1345 (.ref 833)), (eT P "__mul__" 1353 (.ref 840)), (eT P "__add__" 1361 (.ref 847)), (eT P "__len__" 1368 (.ref 854)), (eT P "__eq__" 1376 (.ref 861)), (eT P "__repr__" 1383 (.ref 868)), (eT P "__static_attributes__" 1385 (.ref 869)), (eT P "__dict__" 1387 (.ref 872)), (eT P "__weakref__" 1389 (.ref 873)), (eT P "__doc__" 1390 .none), (eT P "__hash__" 1391 .none)] 5
def o3_871 : Q0 := (.mk (.type "type") none (.cls (.mk "Habit" [(.type "object")] [(.ref 871), (.type "object")] 870 "Habit" true [] [(.ref 894)] false none false)) #[none, none, (some (.str "Habit" 1212)), (some (.str "Habit" 1220)), (some (.builtin "object.__new__")), (some (.bool true))])
def o3_872 : Q0 := (.mk (.type "getset_descriptor") none (.fields #[(.str "__dict__" 1386), (.ref 871), (.builtin "function.__dict__"), (.builtin "function.__dict__#set")]) #[])
def o3_873 : Q0 := (.mk (.type "getset_descriptor") none (.fields #[(.str "__weakref__" 1388), (.ref 871), (.builtin "ExceptionGroup.__weakref__"), .none]) #[])
def o3_874 : Q0 := (.mk (.type "super") none (.fields #[(.ref 871), (.ref 871), (.ref 871)]) #[])
def o3_875 : Q0 := bO "object.__init_subclass__" (.ref 871)
def o3_876 : Q0 := tO [(.ref 871)]
def o3_877 : Q0 := bO "type.__prepare__" (.type "type")
def o3_878 (P : Params) : Q0 := dO [(eT P "__module__" 1401 (.str "turnmill.habits" 1152)), (eT P "__qualname__" 1403 (.str "Combined" 1402)), (eT P "__firstlineno__" 1405 (.int 550 1404)), (eT P "__init__" 1414 (.ref 891)), (eT P "__static_attributes__" 1416 (.ref 892)), (eT P "__classcell__" 1417 (.ref 879))] 6
def o3_879 : Q0 := (.mk (.type "cell") none (.cell (some (.ref 894))) #[])
def o3_880 : Q0 := tO []
def o3_881 : Q0 := (.mk .none none (.fields #[(.int 552 0), (.int 4 0), (.ref 890)]) #[])
def o3_882 : Q0 := cO "Combined" "Combined" 1396 550 0 0 0 0 880 false 181 881 .none .none .none 1399 550 1400
def o3_883 : Q0 := rO 882 3 878 "turnmill.habits" 1152 0
def o3_884 : Q0 := tO [(.ref 879)]
def o3_885 : Q0 := tO [(.str "__class__" 1409)]
def o3_886 : Q0 := eO
def o3_887 : Q0 := tO [(.str "self" 1410), (.str "steps" 1411)]
def o3_888 : Q0 := tO []
def o3_889 : Q0 := fO "__init__" "Combined.__init__" (L2.inClass (top 54) 0) 0
def o3_890 : Q0 := cO "__init__" "Combined.__init__" 1406 552 2 0 0 3 885 true 181 886 (.ref 887) (.ref 888) (.ref 889) 1412 552 1413
def o3_891 : Q0 := ⟨(.type "function"), none, .func ⟨"__init__", "Combined.__init__", L2.defArgs (L2.inClass (top 54) 0), .stmts (L2.defBody (L2.inClass (top 54) 0)), L2.defScope (L2.inClass (top 54) 0), 3, [(Prod.mk "__class__" 879)], .none, .none, .none, (.str "turnmill.habits" 1152), none, (.ref 890), (.ref 884), 0⟩, #[]⟩
def o3_892 : Q0 := tO [(.str "rows_by_room" 1415)]
def o3_893 (P : Params) : Q0 := dO [(eT P "__module__" 1401 (.str "turnmill.habits" 1152)), (eT P "__firstlineno__" 1405 (.int 550 1404)), (eT P "__init__" 1414 (.ref 891)), (eT P "__static_attributes__" 1416 (.ref 892)), (eT P "__doc__" 1418 .none)] 3
def o3_894 : Q0 := kO (.ref 871) [(.ref 894), (.ref 871), (.type "object")] "Combined" 893 876 1394 1402 "object.__new__"
def o3_895 : Q0 := (.mk (.type "super") none (.fields #[(.ref 894), (.ref 894), (.ref 894)]) #[])
def o3_896 : Q0 := bO "object.__init_subclass__" (.ref 894)
def o3_897 : Q0 := tO []
def o3_898 : Q0 := eO
def o3_899 : Q0 := fO "_law_hand" "_law_hand" (top 56) 0
def o3_900 : Q0 := cO "_law_hand" "_law_hand" 1423 556 1 0 0 3 897 true 181 898 .none .none (.ref 899) 1426 556 1427
def o3_901 : Q0 := gO "_law_hand" "_law_hand" (top 56) 3 "law_turnmill_k37_whole_least_machines_of_hab" 1421 900
def o3_902 : Q0 := tO []
def o3_903 : Q0 := eO
def o3_904 : Q0 := tO [(.str "_law_hand_here" 1432), (.str "_law_many" 1433), (.str "_law_cell" 1434), (.str "_law_one" 1435), (.str "_law_two" 1436), (.str "_law_drawn" 1437)]
def o3_905 : Q0 := tO []
def o3_906 : Q0 := fO "_law_pick" "_law_pick" (top 57) 0
def o3_907 : Q0 := cO "_law_pick" "_law_pick" 1429 562 2 0 0 3 902 true 181 903 (.ref 904) (.ref 905) (.ref 906) 1438 562 1439
def o3_908 : Q0 := gO "_law_pick" "_law_pick" (top 57) 3 "law_turnmill_k37_whole_least_machines_of_hab" 1421 907
def o3_909 : Q0 := tO []
def o3_910 : Q0 := eO
def o3_911 : Q0 := tO [(.str "_law_hand_here" 1444), (.str "_law_items" 1445)]
def o3_912 : Q0 := tO []
def o3_913 : Q0 := fO "_law_of" "_law_of" (top 58) 0
def o3_914 : Q0 := cO "_law_of" "_law_of" 1441 576 2 0 0 3 909 true 181 910 (.ref 911) (.ref 912) (.ref 913) 1446 576 1447
def o3_915 : Q0 := gO "_law_of" "_law_of" (top 58) 3 "law_turnmill_k37_whole_least_machines_of_hab" 1421 914
def o3_916 : Q0 := tO []
def o3_917 : Q0 := eO
def o3_918 : Q0 := fO "_law_same" "_law_same" (top 59) 0
def o3_919 : Q0 := cO "_law_same" "_law_same" 1449 578 2 0 0 3 916 true 181 917 .none .none (.ref 918) 1452 578 1453
def o3_920 : Q0 := gO "_law_same" "_law_same" (top 59) 3 "law_turnmill_k37_whole_least_machines_of_hab" 1421 919
def o3_921 : Q0 := tO []
def o3_922 : Q0 := eO
def o3_923 : Q0 := fO "_law_word" "_law_word" (top 60) 0
def o3_924 : Q0 := cO "_law_word" "_law_word" 1455 588 2 0 0 3 921 true 181 922 .none .none (.ref 923) 1458 588 1459
def o3_925 : Q0 := gO "_law_word" "_law_word" (top 60) 3 "law_turnmill_k37_whole_least_machines_of_hab" 1421 924
def o3_926 : Q0 := tO []
def o3_927 : Q0 := eO
def o3_928 : Q0 := tO [(.str "_law_hand_here" 1464), (.str "_law_peak" 1465)]
def o3_929 : Q0 := tO []
def o3_930 : Q0 := fO "_law_some" "_law_some" (top 61) 0
def o3_931 : Q0 := cO "_law_some" "_law_some" 1461 590 2 0 0 3 926 true 181 927 (.ref 928) (.ref 929) (.ref 930) 1466 590 1467
def o3_932 : Q0 := gO "_law_some" "_law_some" (top 61) 3 "law_turnmill_k37_whole_least_machines_of_hab" 1421 931
def o3_933 : Q0 := tO []
def o3_934 : Q0 := eO
def o3_935 : Q0 := fO "_law_all" "_law_all" (top 62) 0
def o3_936 : Q0 := cO "_law_all" "_law_all" 1469 592 1 0 0 3 933 true 181 934 .none .none (.ref 935) 1472 592 1473
def o3_937 : Q0 := gO "_law_all" "_law_all" (top 62) 3 "law_turnmill_k37_whole_least_machines_of_hab" 1421 936
def o3_938 : Q0 := tO []
def o3_939 : Q0 := eO
def o3_940 : Q0 := fO "_law_barred" "_law_barred" (top 63) 0
def o3_941 : Q0 := cO "_law_barred" "_law_barred" 1475 600 3 0 0 3 938 true 181 939 .none .none (.ref 940) 1478 600 1479
def o3_942 : Q0 := gO "_law_barred" "_law_barred" (top 63) 3 "law_turnmill_k37_whole_least_machines_of_hab" 1421 941
def o3_943 : Q0 := tO []
def o3_944 : Q0 := eO
def o3_945 : Q0 := fO "_law_goes" "_law_goes" (top 64) 0
def o3_946 : Q0 := cO "_law_goes" "_law_goes" 1481 602 2 0 0 3 943 true 181 944 .none .none (.ref 945) 1484 602 1485
def o3_947 : Q0 := gO "_law_goes" "_law_goes" (top 64) 3 "law_turnmill_k37_whole_least_machines_of_hab" 1421 946
def o3_948 : Q0 := tO []
def o3_949 : Q0 := eO
def o3_950 : Q0 := fO "_law_sign_of" "_law_sign_of" (top 65) 0
def o3_951 : Q0 := cO "_law_sign_of" "_law_sign_of" 1487 610 2 0 0 3 948 true 181 949 .none .none (.ref 950) 1490 610 1491
def o3_952 : Q0 := gO "_law_sign_of" "_law_sign_of" (top 65) 3 "law_turnmill_k37_whole_least_machines_of_hab" 1421 951
def o3_953 : Q0 := tO []
def o3_954 : Q0 := eO
def o3_955 : Q0 := tO [(.str "_law_banned" 1496), (.str "_law_words" 1497), (.str "_law_signs" 1498), (.str "_law_steps" 1499), (.str "_law_at" 1500), (.str "_law_goals" 1501), (.str "_law_side" 1502), (.str "_law_late" 1503), (.str "_law_sign" 1504)]
def o3_956 : Q0 := tO []
def o3_957 : Q0 := fO "_law_habit" "_law_habit" (top 66) 0
def o3_958 : Q0 := cO "_law_habit" "_law_habit" 1493 615 1 0 0 3 953 true 181 954 (.ref 955) (.ref 956) (.ref 957) 1505 615 1506
def o3_959 : Q0 := gO "_law_habit" "_law_habit" (top 66) 3 "law_turnmill_k37_whole_least_machines_of_hab" 1421 958
def o3_960 : Q0 := tO []
def o3_961 : Q0 := eO
def o3_962 : Q0 := tO [(.str "_law_steps" 1511), (.str "_law_place" 1512), (.str "_law_token" 1513), (.str "_law_side" 1514)]
def o3_963 : Q0 := tO []
def o3_964 : Q0 := fO "_law_goal" "_law_goal" (top 67) 0
def o3_965 : Q0 := cO "_law_goal" "_law_goal" 1508 634 3 0 0 3 960 true 181 961 (.ref 962) (.ref 963) (.ref 964) 1515 634 1516
def o3_966 : Q0 := gO "_law_goal" "_law_goal" (top 67) 3 "law_turnmill_k37_whole_least_machines_of_hab" 1421 965
def o3_967 : Q0 := tO []
def o3_968 : Q0 := eO
def o3_969 : Q0 := fO "_law_steps_told" "_law_steps_told" (top 68) 0
def o3_970 : Q0 := cO "_law_steps_told" "_law_steps_told" 1518 640 1 0 0 3 967 true 181 968 .none .none (.ref 969) 1521 640 1522
def o3_971 : Q0 := gO "_law_steps_told" "_law_steps_told" (top 68) 3 "law_turnmill_k37_whole_least_machines_of_hab" 1421 970
def o3_972 : Q0 := tO []
def o3_973 : Q0 := eO
def o3_974 : Q0 := fO "law" "law" (top 69) 0
def o3_975 : Q0 := cO "law" "law" 1524 642 1 0 0 3 972 true 181 973 .none .none (.ref 974) 1527 642 1528
def o3_976 : Q0 := gO "law" "law" (top 69) 3 "law_turnmill_k37_whole_least_machines_of_hab" 1421 975
def T3 (P : Params) : BT := (nO (boot_o_0 P) (nO (boot_o_1 P) (nO (o3_3 P) (nO (boot_o_7 P) (nO o1_15 (nO o1_31 (nO o1_63 (nO o1_127 (nO o2_255 (lO o2_511) (lO o3_767)) (nO o2_383 (lO o2_639) (lO o3_895))) (nO o1_191 (nO o2_319 (lO o2_575) (lO o3_831)) (nO o2_447 (lO o2_703) (lO o3_959)))) (nO o1_95 (nO o1_159 (nO o2_287 (lO o2_543) (lO o3_799)) (nO o2_415 (lO o2_671) (lO o3_927))) (nO o1_223 (nO o2_351 (lO o2_607) (lO o3_863)) (nO o2_479 (lO o3_735) .nil)))) (nO o1_47 (nO o1_79 (nO o1_143 (nO o2_271 (lO o2_527) (lO o3_783)) (nO o2_399 (lO o2_655) (lO o3_911))) (nO o1_207 (nO o2_335 (lO o2_591) (lO o3_847)) (nO (o2_463 P) (lO o3_719) (lO o3_975)))) (nO o1_111 (nO o1_175 (nO o2_303 (lO o2_559) (lO o3_815)) (nO o2_431 (lO o2_687) (lO o3_943))) (nO o2_239 (nO o2_367 (lO o2_623) (lO o3_879)) (nO o2_495 (lO o3_751) .nil))))) (nO o1_23 (nO o1_39 (nO o1_71 (nO o1_135 (nO o2_263 (lO o2_519) (lO o3_775)) (nO o2_391 (lO o2_647) (lO o3_903))) (nO o1_199 (nO o2_327 (lO o2_583) (lO o3_839)) (nO o2_455 (lO o3_711) (lO o3_967)))) (nO o1_103 (nO o1_167 (nO o2_295 (lO o2_551) (lO o3_807)) (nO o2_423 (lO o2_679) (lO o3_935))) (nO o2_231 (nO o2_359 (lO o2_615) (lO o3_871)) (nO o2_487 (lO o3_743) .nil)))) (nO o1_55 (nO o1_87 (nO (o1_151 P) (nO o2_279 (lO o2_535) (lO o3_791)) (nO o2_407 (lO o2_663) (lO o3_919))) (nO o1_215 (nO o2_343 (lO o2_599) (lO o3_855)) (nO o2_471 (lO o3_727) .nil))) (nO o1_119 (nO (o1_183 P) (nO o2_311 (lO o2_567) (lO o3_823)) (nO o2_439 (lO o2_695) (lO o3_951))) (nO o2_247 (nO o2_375 (lO o2_631) (lO o3_887)) (nO o2_503 (lO o3_759) .nil)))))) (nO o1_11 (nO o1_19 (nO o1_35 (nO o1_67 (nO o1_131 (nO o2_259 (lO o2_515) (lO o3_771)) (nO o2_387 (lO o2_643) (lO o3_899))) (nO o1_195 (nO o2_323 (lO (o2_579 P)) (lO o3_835)) (nO o2_451 (lO o2_707) (lO o3_963)))) (nO o1_99 (nO o1_163 (nO o2_291 (lO o2_547) (lO o3_803)) (nO o2_419 (lO o2_675) (lO o3_931))) (nO o2_227 (nO o2_355 (lO o2_611) (lO o3_867)) (nO o2_483 (lO (o3_739 P)) .nil)))) (nO o1_51 (nO o1_83 (nO o1_147 (nO o2_275 (lO o2_531) (lO o3_787)) (nO o2_403 (lO o2_659) (lO o3_915))) (nO o1_211 (nO o2_339 (lO o2_595) (lO o3_851)) (nO o2_467 (lO o3_723) .nil))) (nO o1_115 (nO o1_179 (nO o2_307 (lO o2_563) (lO o3_819)) (nO o2_435 (lO o2_691) (lO o3_947))) (nO o2_243 (nO o2_371 (lO o2_627) (lO o3_883)) (nO o2_499 (lO o3_755) .nil))))) (nO o1_27 (nO o1_43 (nO (o1_75 P) (nO o1_139 (nO o2_267 (lO o2_523) (lO o3_779)) (nO o2_395 (lO o2_651) (lO o3_907))) (nO o1_203 (nO o2_331 (lO o2_587) (lO o3_843)) (nO o2_459 (lO o3_715) (lO o3_971)))) (nO (o1_107 P) (nO o1_171 (nO o2_299 (lO o2_555) (lO o3_811)) (nO (o2_427 P) (lO o2_683) (lO o3_939))) (nO o2_235 (nO o2_363 (lO o2_619) (lO o3_875)) (nO o2_491 (lO o3_747) .nil)))) (nO o1_59 (nO o1_91 (nO o1_155 (nO o2_283 (lO o2_539) (lO o3_795)) (nO o2_411 (lO o2_667) (lO o3_923))) (nO o1_219 (nO o2_347 (lO o2_603) (lO o3_859)) (nO o2_475 (lO o3_731) .nil))) (nO o1_123 (nO o1_187 (nO o2_315 (lO o2_571) (lO o3_827)) (nO o2_443 (lO o2_699) (lO o3_955))) (nO o2_251 (nO o2_379 (lO o2_635) (lO o3_891)) (nO o2_507 (lO o3_763) .nil))))))) (nO (boot_o_5 P) (nO (boot_o_9 P) (nO o1_17 (nO o1_33 (nO o1_65 (nO o1_129 (nO o2_257 (lO o2_513) (lO o3_769)) (nO o2_385 (lO o2_641) (lO o3_897))) (nO o1_193 (nO o2_321 (lO o2_577) (lO o3_833)) (nO o2_449 (lO o2_705) (lO o3_961)))) (nO o1_97 (nO o1_161 (nO o2_289 (lO o2_545) (lO o3_801)) (nO o2_417 (lO o2_673) (lO o3_929))) (nO o2_225 (nO o2_353 (lO o2_609) (lO o3_865)) (nO o2_481 (lO o3_737) .nil)))) (nO o1_49 (nO o1_81 (nO (o1_145 P) (nO o2_273 (lO o2_529) (lO o3_785)) (nO o2_401 (lO o2_657) (lO o3_913))) (nO o1_209 (nO o2_337 (lO o2_593) (lO o3_849)) (nO o2_465 (lO o3_721) .nil))) (nO (o1_113 P) (nO o1_177 (nO o2_305 (lO o2_561) (lO o3_817)) (nO o2_433 (lO o2_689) (lO o3_945))) (nO o2_241 (nO o2_369 (lO o2_625) (lO o3_881)) (nO o2_497 (lO o3_753) .nil))))) (nO o1_25 (nO o1_41 (nO o1_73 (nO o1_137 (nO o2_265 (lO o2_521) (lO o3_777)) (nO o2_393 (lO o2_649) (lO o3_905))) (nO o1_201 (nO o2_329 (lO o2_585) (lO o3_841)) (nO o2_457 (lO o3_713) (lO o3_969)))) (nO o1_105 (nO o1_169 (nO o2_297 (lO o2_553) (lO o3_809)) (nO o2_425 (lO o2_681) (lO o3_937))) (nO o2_233 (nO o2_361 (lO o2_617) (lO o3_873)) (nO o2_489 (lO o3_745) .nil)))) (nO o1_57 (nO o1_89 (nO o1_153 (nO o2_281 (lO o2_537) (lO o3_793)) (nO o2_409 (lO o2_665) (lO o3_921))) (nO o1_217 (nO o2_345 (lO o2_601) (lO o3_857)) (nO o2_473 (lO o3_729) .nil))) (nO o1_121 (nO o1_185 (nO (o2_313 P) (lO o2_569) (lO o3_825)) (nO o2_441 (lO o2_697) (lO o3_953))) (nO o2_249 (nO o2_377 (lO o2_633) (lO o3_889)) (nO o2_505 (lO o3_761) .nil)))))) (nO o1_13 (nO o1_21 (nO (o1_37 P) (nO (o1_69 P) (nO o1_133 (nO o2_261 (lO o2_517) (lO o3_773)) (nO o2_389 (lO o2_645) (lO o3_901))) (nO o1_197 (nO o2_325 (lO o2_581) (lO o3_837)) (nO o2_453 (lO o3_709) (lO o3_965)))) (nO o1_101 (nO o1_165 (nO o2_293 (lO o2_549) (lO o3_805)) (nO o2_421 (lO o2_677) (lO o3_933))) (nO o2_229 (nO o2_357 (lO o2_613) (lO o3_869)) (nO o2_485 (lO o3_741) .nil)))) (nO o1_53 (nO o1_85 (nO o1_149 (nO o2_277 (lO o2_533) (lO o3_789)) (nO o2_405 (lO o2_661) (lO o3_917))) (nO o1_213 (nO o2_341 (lO o2_597) (lO o3_853)) (nO (o2_469 P) (lO o3_725) .nil))) (nO o1_117 (nO o1_181 (nO o2_309 (lO o2_565) (lO o3_821)) (nO o2_437 (lO o2_693) (lO o3_949))) (nO o2_245 (nO o2_373 (lO o2_629) (lO o3_885)) (nO o2_501 (lO o3_757) .nil))))) (nO o1_29 (nO o1_45 (nO o1_77 (nO o1_141 (nO o2_269 (lO o2_525) (lO o3_781)) (nO o2_397 (lO o2_653) (lO o3_909))) (nO o1_205 (nO o2_333 (lO o2_589) (lO o3_845)) (nO o2_461 (lO o3_717) (lO o3_973)))) (nO o1_109 (nO o1_173 (nO o2_301 (lO (o2_557 P)) (lO o3_813)) (nO o2_429 (lO o2_685) (lO o3_941))) (nO o2_237 (nO o2_365 (lO o2_621) (lO o3_877)) (nO o2_493 (lO o3_749) .nil)))) (nO o1_61 (nO o1_93 (nO o1_157 (nO o2_285 (lO o2_541) (lO o3_797)) (nO o2_413 (lO o2_669) (lO o3_925))) (nO (o1_221 P) (nO o2_349 (lO o2_605) (lO o3_861)) (nO o2_477 (lO o3_733) .nil))) (nO o1_125 (nO (o1_189 P) (nO o2_317 (lO o2_573) (lO o3_829)) (nO o2_445 (lO o2_701) (lO o3_957))) (nO o2_253 (nO o2_381 (lO o2_637) (lO (o3_893 P))) (nO o2_509 (lO o3_765) .nil)))))))) (nO (boot_o_2 P) (nO (boot_o_4 P) (nO (boot_o_8 P) (nO o1_16 (nO o1_32 (nO o1_64 (nO o1_128 (nO o2_256 (lO o2_512) (lO o3_768)) (nO o2_384 (lO o2_640) (lO o3_896))) (nO o1_192 (nO o2_320 (lO o2_576) (lO o3_832)) (nO o2_448 (lO o2_704) (lO o3_960)))) (nO o1_96 (nO o1_160 (nO o2_288 (lO o2_544) (lO o3_800)) (nO o2_416 (lO o2_672) (lO o3_928))) (nO o1_224 (nO o2_352 (lO o2_608) (lO o3_864)) (nO o2_480 (lO o3_736) .nil)))) (nO o1_48 (nO o1_80 (nO o1_144 (nO o2_272 (lO o2_528) (lO (o3_784 P))) (nO o2_400 (lO o2_656) (lO o3_912))) (nO (o1_208 P) (nO o2_336 (lO o2_592) (lO o3_848)) (nO o2_464 (lO o3_720) (lO o3_976)))) (nO o1_112 (nO o1_176 (nO o2_304 (lO o2_560) (lO o3_816)) (nO o2_432 (lO o2_688) (lO o3_944))) (nO o2_240 (nO o2_368 (lO o2_624) (lO o3_880)) (nO o2_496 (lO o3_752) .nil))))) (nO (o1_24 P) (nO o1_40 (nO o1_72 (nO o1_136 (nO o2_264 (lO o2_520) (lO o3_776)) (nO o2_392 (lO o2_648) (lO o3_904))) (nO o1_200 (nO o2_328 (lO o2_584) (lO o3_840)) (nO o2_456 (lO o3_712) (lO o3_968)))) (nO o1_104 (nO o1_168 (nO o2_296 (lO o2_552) (lO o3_808)) (nO o2_424 (lO o2_680) (lO o3_936))) (nO o2_232 (nO o2_360 (lO o2_616) (lO o3_872)) (nO o2_488 (lO o3_744) .nil)))) (nO (o1_56 P) (nO (o1_88 P) (nO o1_152 (nO o2_280 (lO o2_536) (lO o3_792)) (nO o2_408 (lO o2_664) (lO o3_920))) (nO o1_216 (nO o2_344 (lO o2_600) (lO o3_856)) (nO o2_472 (lO o3_728) .nil))) (nO o1_120 (nO o1_184 (nO o2_312 (lO o2_568) (lO o3_824)) (nO o2_440 (lO o2_696) (lO o3_952))) (nO o2_248 (nO o2_376 (lO o2_632) (lO o3_888)) (nO o2_504 (lO (o3_760 P)) .nil)))))) (nO o3_12 (nO o1_20 (nO o1_36 (nO o1_68 (nO (o1_132 P) (nO o2_260 (lO o2_516) (lO o3_772)) (nO o2_388 (lO o2_644) (lO o3_900))) (nO o1_196 (nO o2_324 (lO o2_580) (lO o3_836)) (nO o2_452 (lO o3_708) (lO o3_964)))) (nO o1_100 (nO (o1_164 P) (nO o2_292 (lO o2_548) (lO o3_804)) (nO o2_420 (lO o2_676) (lO o3_932))) (nO o2_228 (nO o2_356 (lO o2_612) (lO o3_868)) (nO o2_484 (lO o3_740) .nil)))) (nO o1_52 (nO o1_84 (nO o1_148 (nO o2_276 (lO o2_532) (lO o3_788)) (nO o2_404 (lO o2_660) (lO o3_916))) (nO o1_212 (nO o2_340 (lO o2_596) (lO o3_852)) (nO o2_468 (lO o3_724) .nil))) (nO o1_116 (nO o1_180 (nO o2_308 (lO o2_564) (lO o3_820)) (nO o2_436 (lO o2_692) (lO o3_948))) (nO o2_244 (nO o2_372 (lO o2_628) (lO o3_884)) (nO o2_500 (lO o3_756) .nil))))) (nO o1_28 (nO o1_44 (nO o1_76 (nO o1_140 (nO o2_268 (lO o2_524) (lO o3_780)) (nO o2_396 (lO o2_652) (lO o3_908))) (nO o1_204 (nO o2_332 (lO o2_588) (lO o3_844)) (nO o2_460 (lO o3_716) (lO o3_972)))) (nO o1_108 (nO o1_172 (nO o2_300 (lO o2_556) (lO o3_812)) (nO o2_428 (lO o2_684) (lO o3_940))) (nO o2_236 (nO o2_364 (lO o2_620) (lO o3_876)) (nO o2_492 (lO o3_748) .nil)))) (nO o1_60 (nO o1_92 (nO o1_156 (nO o2_284 (lO o2_540) (lO o3_796)) (nO o2_412 (lO o2_668) (lO o3_924))) (nO o1_220 (nO o2_348 (lO o2_604) (lO o3_860)) (nO o2_476 (lO o3_732) .nil))) (nO o1_124 (nO o1_188 (nO o2_316 (lO o2_572) (lO o3_828)) (nO o2_444 (lO o2_700) (lO o3_956))) (nO o2_252 (nO o2_380 (lO o2_636) (lO o3_892)) (nO o2_508 (lO o3_764) .nil))))))) (nO (boot_o_6 P) (nO (boot_o_10 P) (nO o1_18 (nO o1_34 (nO o1_66 (nO o1_130 (nO o2_258 (lO o2_514) (lO o3_770)) (nO o2_386 (lO o2_642) (lO o3_898))) (nO o1_194 (nO o2_322 (lO o2_578) (lO o3_834)) (nO o2_450 (lO o2_706) (lO o3_962)))) (nO o1_98 (nO o1_162 (nO o2_290 (lO o2_546) (lO o3_802)) (nO o2_418 (lO o2_674) (lO o3_930))) (nO o2_226 (nO o2_354 (lO o2_610) (lO o3_866)) (nO o2_482 (lO o3_738) .nil)))) (nO (o1_50 P) (nO o1_82 (nO o1_146 (nO o2_274 (lO o2_530) (lO o3_786)) (nO o2_402 (lO o2_658) (lO o3_914))) (nO o1_210 (nO o2_338 (lO o2_594) (lO o3_850)) (nO o2_466 (lO o3_722) .nil))) (nO o1_114 (nO o1_178 (nO o2_306 (lO o2_562) (lO o3_818)) (nO o2_434 (lO o2_690) (lO o3_946))) (nO o2_242 (nO o2_370 (lO o2_626) (lO o3_882)) (nO o2_498 (lO o3_754) .nil))))) (nO o1_26 (nO o1_42 (nO o1_74 (nO o1_138 (nO o2_266 (lO o2_522) (lO o3_778)) (nO o2_394 (lO o2_650) (lO o3_906))) (nO (o1_202 P) (nO (o2_330 P) (lO o2_586) (lO o3_842)) (nO o2_458 (lO o3_714) (lO o3_970)))) (nO o1_106 (nO (o1_170 P) (nO o2_298 (lO o2_554) (lO o3_810)) (nO o2_426 (lO o2_682) (lO o3_938))) (nO o2_234 (nO o2_362 (lO o2_618) (lO o3_874)) (nO o2_490 (lO o3_746) .nil)))) (nO o1_58 (nO o1_90 (nO o1_154 (nO o2_282 (lO o2_538) (lO o3_794)) (nO o2_410 (lO o2_666) (lO o3_922))) (nO o1_218 (nO o2_346 (lO o2_602) (lO o3_858)) (nO o2_474 (lO o3_730) .nil))) (nO o1_122 (nO o1_186 (nO o2_314 (lO o2_570) (lO o3_826)) (nO o2_442 (lO o2_698) (lO o3_954))) (nO o2_250 (nO o2_378 (lO o2_634) (lO o3_890)) (nO o2_506 (lO o3_762) .nil)))))) (nO o1_14 (nO o1_22 (nO o1_38 (nO o1_70 (nO o1_134 (nO o2_262 (lO o2_518) (lO o3_774)) (nO o2_390 (lO o2_646) (lO o3_902))) (nO o1_198 (nO o2_326 (lO o2_582) (lO o3_838)) (nO o2_454 (lO o3_710) (lO o3_966)))) (nO o1_102 (nO o1_166 (nO o2_294 (lO o2_550) (lO o3_806)) (nO o2_422 (lO o2_678) (lO o3_934))) (nO o2_230 (nO o2_358 (lO o2_614) (lO (o3_870 P))) (nO o2_486 (lO o3_742) .nil)))) (nO o1_54 (nO o1_86 (nO o1_150 (nO o2_278 (lO o2_534) (lO o3_790)) (nO o2_406 (lO o2_662) (lO o3_918))) (nO o1_214 (nO o2_342 (lO (o2_598 P)) (lO o3_854)) (nO o2_470 (lO o3_726) .nil))) (nO o1_118 (nO o1_182 (nO o2_310 (lO o2_566) (lO o3_822)) (nO o2_438 (lO o2_694) (lO o3_950))) (nO o2_246 (nO o2_374 (lO o2_630) (lO o3_886)) (nO o2_502 (lO o3_758) .nil))))) (nO (o1_30 P) (nO o1_46 (nO o1_78 (nO o1_142 (nO o2_270 (lO o2_526) (lO o3_782)) (nO o2_398 (lO o2_654) (lO o3_910))) (nO o1_206 (nO o2_334 (lO o2_590) (lO o3_846)) (nO o2_462 (lO o3_718) (lO o3_974)))) (nO o1_110 (nO o1_174 (nO o2_302 (lO o2_558) (lO o3_814)) (nO o2_430 (lO o2_686) (lO o3_942))) (nO o2_238 (nO o2_366 (lO o2_622) (lO (o3_878 P))) (nO o2_494 (lO o3_750) .nil)))) (nO o1_62 (nO (o1_94 P) (nO o1_158 (nO o2_286 (lO o2_542) (lO o3_798)) (nO o2_414 (lO o2_670) (lO o3_926))) (nO o1_222 (nO o2_350 (lO o2_606) (lO o3_862)) (nO o2_478 (lO o3_734) .nil))) (nO (o1_126 P) (nO o1_190 (nO o2_318 (lO o2_574) (lO o3_830)) (nO o2_446 (lO (o2_702 P)) (lO o3_958))) (nO o2_254 (nO o2_382 (lO o2_638) (lO o3_894)) (nO o2_510 (lO o3_766) .nil)))))))))
def S3 (w : World) (os : OsState) : SharedT := ⟨T3 w.params, 977, (Life.mk [] [] [] 0 [] [] Bool.false (List.toArray []) [] 0 Bool.false Bool.false Bool.false 0 [2000, 10, 10] Bool.false 0 Bool.true [] [] 0 Bool.false), #[], (Drawn.mk 0 0 0 0), 1530, os⟩
def l1 : List Stmt := [top 0, top 1, top 2, top 3, top 4, top 5, top 6, top 7, top 8, top 9, top 10, top 11, top 12]
def l2 : List Stmt := [top 13, top 14, top 15, top 16, top 17, top 18, top 19, top 20, top 21, top 22, top 23, top 24, top 25, top 26, top 27, top 28, top 29, top 30, top 31, top 32, top 33, top 34, top 35, top 36, top 37, top 38, top 39, top 40, top 41, top 42, top 43, top 44]
def l3 : List Stmt := [top 45, top 46, top 47, top 48, top 49, top 50, top 51, top 52, top 53, top 54, top 55, top 56, top 57, top 58, top 59, top 60, top 61, top 62, top 63, top 64, top 65, top 66, top 67, top 68, top 69]
set_option maxHeartbeats 0 in
theorem run1 (w : World) (os : OsState) : firstF (stQ R.prog w) R.prog w (PySem.Value.ref 13) 14 (PySem.Pos.mk 0 0 0 0) 12 100 20000 l1 os = some (11, ⟨denQ tabQ (codT R.prog (PySem.Value.ref 13) 14), codT R.prog (PySem.Value.ref 13) 14, (PySem.Pos.mk 0 0 0 0), [topFrame (PySem.Pos.mk 0 0 0 0)]⟩, .next, codT R.prog (PySem.Value.ref 13) 14, .next, S1 w os, codT R.prog (PySem.Value.ref 13) 14, (PySem.Pos.mk 50 0 54 24)) := by
  kernel_rfl
set_option maxHeartbeats 0 in
theorem run2 (w : World) (os : OsState) : segF (stQ R.prog w) 11 (bootAnn w) 1 20000 (S1 w os) (piecesOf l2 (envT R.prog (PySem.Value.ref 13) 14) (codT R.prog (PySem.Value.ref 13) 14) (PySem.Pos.mk 50 0 54 24) [topFrame (PySem.Pos.mk 0 0 0 0)]) = some (.next, S2 w os, codT R.prog (PySem.Value.ref 13) 14, (PySem.Pos.mk 275 0 375 37)) := by
  kernel_rfl
set_option maxHeartbeats 0 in
theorem run3 (w : World) (os : OsState) : segF (stQ R.prog w) 11 (bootAnn w) 1 20000 (S2 w os) (piecesOf l3 (envT R.prog (PySem.Value.ref 13) 14) (codT R.prog (PySem.Value.ref 13) 14) (PySem.Pos.mk 275 0 375 37) [topFrame (PySem.Pos.mk 0 0 0 0)]) = some (.next, S3 w os, codT R.prog (PySem.Value.ref 13) 14, (PySem.Pos.mk 642 0 662 72)) := by
  kernel_rfl
set_option maxHeartbeats 0 in
theorem fin1 (w : World) (os : OsState) : (lastF (stQ R.prog w) R.prog w (PySem.Value.ref 13) 14 (PySem.Pos.mk 0 0 0 0) 11 10 100 [] (S3 w os) (PySem.Pos.mk 642 0 662 72)).map (fun x => (x.1, x.2.1, looksF R.prog (boot_heap w.params) x.2.2.abs)) = some (.next, codT R.prog (PySem.Value.ref 13) 14, true) := by
  kernel_rfl
set_option maxHeartbeats 0 in
theorem fin2 (w : World) (os : OsState) : (lastF (stQ R.prog w) R.prog w (PySem.Value.ref 13) 14 (PySem.Pos.mk 0 0 0 0) 11 10 100 [] (S3 w os) (PySem.Pos.mk 642 0 662 72)).map (fun x => seenQ (view R.prog [69]) nms (importedModules R.prog.main.body) (fun s => xlAt (view R.prog [69]) [] s && recOk R.toRowW.records s) x.2.2.abs) = some (openGood (view R.prog [69]) nms) := by
  kernel_rfl
set_option maxHeartbeats 0 in
theorem fin3 (w : World) (os : OsState) : (lastF (stQ R.prog w) R.prog w (PySem.Value.ref 13) 14 (PySem.Pos.mk 0 0 0 0) 11 10 100 [] (S3 w os) (PySem.Pos.mk 642 0 662 72)).map (fun x => ob x.2.2) = some (hk.val w) := by
  kernel_rfl
theorem bd : behindTheImports R.prog = l1 ++ (l2 ++ (l3 ++ [])) := by kernel_rfl
end
end K37
open PySem PySem.W PySem.Calls PyProof.Rows in
set_option maxHeartbeats 0 in
theorem PySem.Challenge.cw_turnmill_k37_whole_least_machines_of_hab_holds : PySem.Challenge.rw_turnmill_k37_whole_least_machines_of_hab.Holds := by
  refine law_open fun said => ?_
  refine Z.head_cut (r := OpenLaw.row PySem.Challenge.rw_turnmill_k37_whole_least_machines_of_hab) (q := view (OpenLaw.row PySem.Challenge.rw_turnmill_k37_whole_least_machines_of_hab).prog [69]) (H := K37.hk) (ob := K37.ob) (loose := K37.nms) (d := HandSHeadRun.topDef (OpenLaw.row PySem.Challenge.rw_turnmill_k37_whole_least_machines_of_hab).prog 69) (kwd := []) K37.ob_eq
    (by kernel_rfl) (fun s => by kernel_rfl) K37.bd K37.run1 (Z.rest_seg K37.run2 (Z.rest_seg K37.run3 (Z.rest_last3 K37.fin1 K37.fin2 K37.fin3))) (by kernel_rfl) (by kernel_rfl) (by kernel_rfl) (by rfl) said (by decide +kernel) law_bare ?hw ?hc
  case hw => w_witness2
  case hc =>
    refine LamX.walk_ofTsE (l := PySem.Challenge.rw_turnmill_k37_whole_least_machines_of_hab) (n := 63) (k := 7) (x := "_law_script") (CX := fun w => L2.CX (OpenLaw.prog PySem.Challenge.rw_turnmill_k37_whole_least_machines_of_hab) w) rfl (by decide) (by kernel_rfl) ⟨rfl, by decide, by decide⟩ ?F (fun _ _ _ _ _ ⟨_, _, _, _, _, _, _, _, _, _, _, _, z⟩ => z)
    intro w mg fa h Y G hmg0
    obtain ⟨K, KX, c⟩ := Y
    have hmg : mg ("law" : PySem.Str) = some (.ref fa) := by
      have e : (HandSHeadRun.topDef (OpenLaw.row PySem.Challenge.rw_turnmill_k37_whole_least_machines_of_hab).prog 69).name = ("law" : PySem.Str) := by kernel_rfl
      rw [← e]
      exact hmg0
    exact ⟨K, KX, K37.all KX G hmg c⟩
