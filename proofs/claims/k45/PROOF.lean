import PyProof.Rows.All
import Wide.All
import OpenK.AllK
import Wide.FinOn
import HandS.ForMost
import HandS.ForExc
import HandS.Defaults
import HandS.Slots
import HandS.SlotsVar
import HandS.Deep
import HandS.Lambda
import HandS.Iter
import HandS.Star
import HandS.Codes
import HandS.TupAny
import HandS.TupMul
import HandS.IsInst
import HandS.Conv
import HandS.More
import HandS.AnyAll
import HandS.GenList
import HandS.Flow
import HandS.Small
import KE.KDictList
import HandS.Zip
import HandS.Comp
import HandS.DictComp
import HandS.MakeKwOnly
import HandS.Head0
import HandS.Head1
import HandS.Head2
import HandS.HeadHook1
import HandS.HeadHook2
import HandS.HeadHook3
import HandS.HeadHook4
import HandS.HeadWalk
import HandS.Words
import HandS.Wide
import KE.SortUse
import HandS.SortKw
import KE.GoesMore
import PyProof.SumAny
import PyProof.Rows.SeqMore
import KE.SortData
import HandS.Set
import PyProof.Rows.SortShellAny
import KE.KUnpack
import HandS.Style
import KE.KDictPairs
import HandS.Strs
import PyProof.TupleIter
import KE.KRevSl
import HandS.TupLe
import PyProof.TupleOfSeq
import KE.GoesEnum
import HandS.MakeKw
import KE.KExcSuper
import HandS.ExcSuper
import KE.KTryMore
import HandS.ExcOwn
import HandS.ExcValue
import KE.KExcIs
import KE.KDictSum
import KE.DataCmp
import PySem.Challenge.RW_variesby_k45_copies_that_stay_right
section
set_option Elab.async false
set_option linter.all false
set_option maxRecDepth 100000
set_option maxHeartbeats 2000000
namespace L3
open PySem PySem.Spec PyProof.Rows L2

inductive D where
  | non
  | bl (b : Bool)
  | int (i : Int)
  | str (x : Str)
  | tup (ds : List D)
  | lst (ds : List D)
  | kl (ds : List D)
  | kt (ds : List D)
  | dic (ks : List Key) (ds : List D)
  | ref (l : Nat)
  | raw (v : V)

inductive Ob where
  | lst (ds : List D)
  | dic (ks : List Key) (ds : List D)
  /-- its keys are tuples -/
  | dit (ks : List (List Key)) (ds : List D)
  | ins (C : Addr) (fs : List Str) (ds : List D)
  | slt (C : Addr) (ds : List (Option D))
  /-- an exception that was caught: its class, its fields -/
  | exc (c : Value) (fs : List Str) (ds : List D)
abbrev Sto := Nat → Option Ob
def Sto.set (S : Sto) (l : Nat) (o : Ob) : Sto := fun m => if m = l then some o else S m
def Sto.del (S : Sto) (l : Nat) : Sto := fun m => if m = l then none else S m
def Sto.sub (S S' : Sto) : Prop := ∀ l o, S l = some o → S' l = some o
theorem Sto.sub_refl (S : Sto) : S.sub S := fun _ _ h => h
theorem Sto.sub_trans {S S' S'' : Sto} (h : S.sub S') (h' : S'.sub S'') : S.sub S'' := fun l o e => h' l o (h l o e)
theorem Sto.set_same {S : Sto} {l : Nat} {o : Ob} : S.set l o l = some o := by unfold Sto.set; rw [if_pos rfl]
theorem Sto.set_ne {S : Sto} {l m : Nat} {o : Ob} (h : m ≠ l) : S.set l o m = S m := by unfold Sto.set; rw [if_neg h]
theorem Sto.del_ne {S : Sto} {l m : Nat} (h : m ≠ l) : S.del l m = S m := by unfold Sto.del; rw [if_neg h]
theorem Sto.del_same {S : Sto} {l : Nat} : S.del l l = none := by unfold Sto.del; rw [if_pos rfl]
theorem Sto.set_set {S : Sto} {l : Nat} {o o' : Ob} : (S.set l o).set l o' = S.set l o' := by funext m; unfold Sto.set; split <;> rfl
theorem Sto.del_set {S : Sto} {l : Nat} {o : Ob} (h : S l = none) : (S.set l o).del l = S := by
  funext m; unfold Sto.set Sto.del; by_cases e : m = l
  · simp [e, h]
  · simp [e]
theorem Sto.sub_set {S : Sto} {l : Nat} {o : Ob} (h : S l = none) : S.sub (S.set l o) := fun m p e => by
  unfold Sto.set; by_cases q : m = l
  · subst q; rw [h] at e; cases e
  · rw [if_neg q]; exact e
abbrev Pl := List (Addr × Addr)
def FzL (H : Hp) (a : Addr) (xs : List V) : Prop := ∃ o, H a = some (.frz o (.lst xs))
theorem FzL.rd {H : Hp} {a : Addr} {xs : List V} (h : FzL H a xs) : Rd H a (.lst xs) := .inr h
theorem FzL.sq {K : PySem.W.Frag} {H : Hp} {a : Addr} {xs : List V} (h : FzL H a xs) : SqL K H a xs := .inl h.rd
def KLst (K : PySem.W.Frag) (a : Addr) (xs : List V) : Prop :=
  ∃ (o : Obj) (its : Array Value) (n : Nat), K.lookup a = some o ∧ o.cls = .type "list" ∧ o.dict = none ∧ o.data = .seq its n ∧ its.size ≤ sizeLine ∧ Vals xs its.toList
section
variable (K : PySem.W.Frag) (io : Pl) (H : Hp)
mutual
def RD : D → V → Prop
  | .non, v => v = .non
  | .bl b, v => v = .bl b
  | .int i, v => v = .int i
  | .str x, v => v = .str x
  | .tup ds, v => ∃ a xs, v = .ref a ∧ H a = some (.tup xs) ∧ RDs ds xs
  | .lst ds, v => ∃ a xs, v = .ref a ∧ FzL H a xs ∧ RDs ds xs
  | .kl ds, v => ∃ a xs, v = .ref a ∧ KLst K a xs ∧ RDs ds xs
  | .kt ds, v => ∃ a o xs, v = .ref a ∧ H a = some (.frz o (.tup xs)) ∧ o.dict = none ∧ RDs ds xs
  | .dic ks ds, v => ∃ a o kvs, v = .ref a ∧ H a = some (.frz o (.dK kvs)) ∧ kvs.map (·.1) = ks ∧ RDs ds (kvs.map (·.2))
  | .ref l, v => ∃ p, io[l]? = some p ∧ v = .ref p.1
  | .raw w, v => v = w
def RDs : List D → List V → Prop
  | [], xs => xs = []
  | d :: ds, xs => ∃ x r, xs = x :: r ∧ RD d x ∧ RDs ds r
end
def RDo : List (Option D) → List (Option V) → Prop
  | [], xs => xs = []
  | none :: ds, xs => ∃ x r, xs = x :: r ∧ RDo ds r
  | some d :: ds, xs => ∃ x r, xs = some x :: r ∧ RD K io H d x ∧ RDo ds r
end

structure Stp (io : Pl) (H : Hp) (io' : Pl) (H' : Hp) : Prop where
  pl : ∃ more, io' = io ++ more
  tup : ∀ a xs, H a = some (.tup xs) → H' a = some (.tup xs)
  frz : ∀ a o u, H a = some (.frz o u) → H' a = some (.frz o u)
theorem Stp.refl (io : Pl) (H : Hp) : Stp io H io H := ⟨⟨[], by simp⟩, fun _ _ h => h, fun _ _ _ h => h⟩
theorem Stp.trans {i1 i2 i3 : Pl} {H1 H2 H3 : Hp} (a : Stp i1 H1 i2 H2) (b : Stp i2 H2 i3 H3) : Stp i1 H1 i3 H3 := by
  obtain ⟨m, e⟩ := a.pl
  obtain ⟨m', e'⟩ := b.pl
  exact ⟨⟨m ++ m', by rw [e', e, List.append_assoc]⟩, fun x xs h => b.tup x xs (a.tup x xs h), fun x o u h => b.frz x o u (a.frz x o u h)⟩
theorem Stp.at_ {i1 i2 : Pl} {H1 H2 : Hp} (a : Stp i1 H1 i2 H2) {l : Nat} {p : Addr × Addr} (h : i1[l]? = some p) : i2[l]? = some p := by
  obtain ⟨m, e⟩ := a.pl
  have hl : l < i1.length := (List.getElem?_eq_some_iff.mp h).1
  rw [e, List.getElem?_append_left hl]; exact h
theorem Stp.sqT {K : PySem.W.Frag} {i1 i2 : Pl} {H1 H2 : Hp} (a : Stp i1 H1 i2 H2) {x : Addr} {xs : List V} (h : SqT K H1 x xs) : SqT K H2 x xs := by
  rcases h with (h | ⟨o, h⟩) | h
  · exact .inl (.inl (a.tup _ _ h))
  · exact .inl (.inr ⟨o, a.frz _ _ _ h⟩)
  · exact .inr h
theorem Stp.fzL {i1 i2 : Pl} {H1 H2 : Hp} (a : Stp i1 H1 i2 H2) {x : Addr} {xs : List V} (h : FzL H1 x xs) : FzL H2 x xs := by
  obtain ⟨o, h⟩ := h
  exact ⟨o, a.frz _ _ _ h⟩
section
variable {K : PySem.W.Frag} {i1 i2 : Pl} {H1 H2 : Hp}
mutual
theorem RD.mono (a : Stp i1 H1 i2 H2) : ∀ (d : D) {v : V}, RD K i1 H1 d v → RD K i2 H2 d v
  | .non, _, h => h
  | .bl _, _, h => h
  | .int _, _, h => h
  | .str _, _, h => h
  | .tup ds, _, h => by
    obtain ⟨x, xs, e, s, r⟩ := h
    exact ⟨x, xs, e, a.tup _ _ s, RDs.mono a ds r⟩
  | .lst ds, _, h => by
    obtain ⟨x, xs, e, s, r⟩ := h
    exact ⟨x, xs, e, a.fzL s, RDs.mono a ds r⟩
  | .kl ds, _, h => by
    obtain ⟨x, xs, e, s, r⟩ := h
    exact ⟨x, xs, e, s, RDs.mono a ds r⟩
  | .kt ds, _, h => by
    obtain ⟨x, o, xs, e, s, q, r⟩ := h
    exact ⟨x, o, xs, e, a.frz _ _ _ s, q, RDs.mono a ds r⟩
  | .dic ks ds, _, h => by
    obtain ⟨x, o, kvs, e, s, q, r⟩ := h
    exact ⟨x, o, kvs, e, a.frz _ _ _ s, q, RDs.mono a ds r⟩
  | .ref l, _, h => by
    obtain ⟨p, e, q⟩ := h
    exact ⟨p, a.at_ e, q⟩
  | .raw _, _, h => h
theorem RDs.mono (a : Stp i1 H1 i2 H2) : ∀ (ds : List D) {xs : List V}, RDs K i1 H1 ds xs → RDs K i2 H2 ds xs
  | [], _, h => h
  | d :: ds, _, h => by
    obtain ⟨x, r, e, h1, h2⟩ := h
    exact ⟨x, r, e, RD.mono a d h1, RDs.mono a ds h2⟩
end
theorem RDo.mono (a : Stp i1 H1 i2 H2) : ∀ (ds : List (Option D)) {xs : List (Option V)}, RDo K i1 H1 ds xs → RDo K i2 H2 ds xs
  | [], _, h => h
  | none :: ds, _, h => by
    obtain ⟨x, r, e, h2⟩ := h
    exact ⟨x, r, e, RDo.mono a ds h2⟩
  | some d :: ds, _, h => by
    obtain ⟨x, r, e, h1, h2⟩ := h
    exact ⟨x, r, e, RD.mono a d h1, RDo.mono a ds h2⟩
end
theorem RD.kt_sq {K : PySem.W.Frag} {io : Pl} {H : Hp} {ds : List D} {x : V} (h : RD K io H (.kt ds) x) : ∃ a xs, x = .ref a ∧ SqT K H a xs ∧ RDs K io H ds xs :=
  let ⟨a, o, xs, e, s, _, r⟩ := h
  ⟨a, xs, e, .inl (.inr ⟨o, s⟩), r⟩
theorem RD.tup_sq {K : PySem.W.Frag} {io : Pl} {H : Hp} {ds : List D} {x : V} (h : RD K io H (.tup ds) x) : ∃ a xs, x = .ref a ∧ SqT K H a xs ∧ RDs K io H ds xs :=
  let ⟨a, xs, e, s, r⟩ := h
  ⟨a, xs, e, SqT.of s, r⟩
section
variable {K : PySem.W.Frag} {io : Pl} {H : Hp}
theorem RDs.len : ∀ {ds : List D} {xs : List V}, RDs K io H ds xs → xs.length = ds.length
  | [], _, h => by rw [show _ = _ from h]; rfl
  | d :: ds, _, h => by
    obtain ⟨x, r, rfl, _, h2⟩ := h
    simp [RDs.len h2]
theorem RDs.get : ∀ {ds : List D} {xs : List V} {i : Nat} {d : D}, RDs K io H ds xs → ds[i]? = some d → ∃ x, xs[i]? = some x ∧ RD K io H d x
  | [], _, _, _, _, e => by simp at e
  | d :: ds, _, 0, d', h, e => by
    obtain ⟨x, r, rfl, h1, _⟩ := h
    simp at e; subst e
    exact ⟨x, rfl, h1⟩
  | d :: ds, _, i + 1, d', h, e => by
    obtain ⟨x, r, rfl, _, h2⟩ := h
    obtain ⟨y, e1, e2⟩ := RDs.get (i := i) h2 (by simpa using e)
    exact ⟨y, by simpa using e1, e2⟩
theorem RDs.app : ∀ {ds es : List D} {xs ys : List V}, RDs K io H ds xs → RDs K io H es ys → RDs K io H (ds ++ es) (xs ++ ys)
  | [], _, _, _, h, h' => by rw [show _ = _ from h]; exact h'
  | d :: ds, _, _, _, h, h' => by
    obtain ⟨x, r, rfl, h1, h2⟩ := h
    exact ⟨x, r ++ _, rfl, h1, RDs.app h2 h'⟩
theorem RDs.one {d : D} {x : V} (h : RD K io H d x) : RDs K io H [d] [x] := ⟨x, [], rfl, h, rfl⟩
theorem RDs.cons {d : D} {x : V} {ds : List D} {xs : List V} (h : RD K io H d x) (t : RDs K io H ds xs) : RDs K io H (d :: ds) (x :: xs) := ⟨x, xs, rfl, h, t⟩
theorem RDs.nil : RDs K io H [] [] := rfl
theorem RDs.take : ∀ {ds : List D} {xs : List V} (n : Nat), RDs K io H ds xs → RDs K io H (ds.take n) (xs.take n)
  | _, _, 0, _ => by simp; exact RDs.nil
  | [], _, n + 1, h => by rw [show _ = _ from h]; exact RDs.nil
  | d :: ds, _, n + 1, h => by
    obtain ⟨x, r, rfl, h1, h2⟩ := h
    exact ⟨x, _, rfl, h1, RDs.take n h2⟩
theorem RDs.drop : ∀ {ds : List D} {xs : List V} (n : Nat), RDs K io H ds xs → RDs K io H (ds.drop n) (xs.drop n)
  | _, _, 0, h => by simpa using h
  | [], _, n + 1, h => by rw [show _ = _ from h]; exact RDs.nil
  | d :: ds, _, n + 1, h => by
    obtain ⟨x, r, rfl, h1, h2⟩ := h
    exact RDs.drop n h2
theorem RDs.set : ∀ {ds : List D} {xs : List V} (i : Nat) {d : D} {x : V}, RDs K io H ds xs → RD K io H d x → RDs K io H (ds.set i d) (xs.set i x)
  | [], _, _, _, _, h, _ => by rw [show _ = _ from h]; exact RDs.nil
  | d :: ds, _, 0, _, _, h, h' => by
    obtain ⟨x, r, rfl, h1, h2⟩ := h
    exact ⟨_, r, rfl, h', h2⟩
  | d :: ds, _, i + 1, _, _, h, h' => by
    obtain ⟨x, r, rfl, h1, h2⟩ := h
    exact ⟨x, _, rfl, h1, RDs.set i h2 h'⟩
theorem RDs.era : ∀ {ds : List D} {xs : List V} (i : Nat), RDs K io H ds xs → RDs K io H (ds.eraseIdx i) (xs.eraseIdx i)
  | [], _, _, h => by rw [show _ = _ from h]; simp; exact RDs.nil
  | d :: ds, _, 0, h => by
    obtain ⟨x, r, rfl, h1, h2⟩ := h
    simpa using h2
  | d :: ds, _, i + 1, h => by
    obtain ⟨x, r, rfl, h1, h2⟩ := h
    exact ⟨x, _, rfl, h1, RDs.era i h2⟩
theorem RDs.rev {ds : List D} {xs : List V} (h : RDs K io H ds xs) : RDs K io H ds.reverse xs.reverse := by
  induction ds generalizing xs with
  | nil => rw [show _ = _ from h]; exact RDs.nil
  | cons d ds ih =>
    obtain ⟨x, r, rfl, h1, h2⟩ := h
    simp only [List.reverse_cons]
    exact (ih h2).app (RDs.one h1)
theorem RDs.ints : ∀ {is : List Int}, RDs K io H (is.map D.int) (is.map V.int)
  | [] => RDs.nil
  | _ :: _ => RDs.cons rfl RDs.ints
end
def ExD (c : Value) (d a : Addr) : HO := .ext fun h => ∃ (oe : Obj) (vs : Array Value), h.get? a = some oe ∧ L2.Zc c (some d) oe ∧ oe.data = .fields vs
section
variable (K : PySem.W.Frag) (io : Pl) (H : Hp)
def RO (p : Addr × Addr) : Ob → Prop
  | .lst ds => p.2 = p.1 ∧ ∃ xs, H p.1 = some (.lst xs) ∧ RDs K io H ds xs
  | .dic ks ds => p.2 = p.1 ∧ ∃ kvs, H p.1 = some (.dK kvs) ∧ kvs.map (·.1) = ks ∧ RDs K io H ds (kvs.map (·.2))
  | .dit ks ds => p.2 = p.1 ∧ ∃ kvs, H p.1 = some (.dT kvs) ∧ kvs.map (·.1) = ks ∧ RDs K io H ds (kvs.map (·.2))
  | .ins C fs ds => p.2 ≠ p.1 ∧ H p.2 = some (.own p.1) ∧ ∃ vs, H p.1 = some (.ins C p.2 (fs.zip vs)) ∧ vs.length = fs.length ∧ RDs K io H ds vs
  | .exc c fs ds => p.2 ≠ p.1 ∧ H p.1 = some (ExD c p.2 p.1) ∧ ∃ vs, H p.2 = some (.xd (fs.zip vs)) ∧ vs.length = fs.length ∧ RDs K io H ds vs
  | .slt C ds => p.2 ≠ p.1 ∧ (H p.2 = some (.own p.1) ∨ H p.2 = some (.xd [])) ∧ ∃ vs, SlX.Slt H p.1 C p.2 vs ∧ RDo K io H ds vs
end
structure Md where
  K : PySem.W.Frag
  /-- tables of code objects; where lambdas are made, their name -/
  tabs : List (Addr × Str)
  io0 : Pl
  H0 : Hp
def TabOk (H : Hp) (P : Addr × Str) : Prop := ∃ ps : Array Value, H P.1 = some (.tbl ps) ∧ TriplesOk ps.toList ∧ (P.2 ≠ "" → ∀ (pos : Pos) (cv : Value), codeAmong pos ps.toList = some cv → ∃ c od, cv = .ref c ∧ H c = some (.frz od (LamX.CodeO c P.2)))
def OneT (T : List (Addr × Str)) : Prop := ∀ p ∈ T, ∀ q ∈ T, p.1 = q.1 → p.2 = q.2
def oneTB (T : List (Addr × Str)) : Bool := T.all fun p => T.all fun q => !decide (p.1 = q.1) || decide (p.2 = q.2)
theorem oneT_ok {T : List (Addr × Str)} (h : oneTB T = true) : OneT T := fun p hp q hq e => by
  have h1 := List.all_eq_true.mp (List.all_eq_true.mp h p hp) q hq
  rw [e] at h1
  simpa using h1
theorem TabOk.keep {H H' : Hp} {P : Addr × Str} (t : TabOk H P) (st : ∀ a o u, H a = some (.frz o u) → H' a = some (.frz o u)) (k : ∀ ps, H P.1 = some (.tbl ps) → H' P.1 = some (.tbl ps)) : TabOk H' P := by
  obtain ⟨ps, h, ht, hn⟩ := t
  exact ⟨ps, k ps h, ht, fun z p cv e => by
    obtain ⟨c, od, e1, e2⟩ := hn z p cv e
    exact ⟨c, od, e1, st _ _ _ e2⟩⟩
def SzO : HO → Prop
  | .lst xs => xs.length ≤ sizeLine
  | .tup xs => xs.length ≤ sizeLine
  | .dK kvs => kvs.length ≤ sizeLine
  | .frz _ u => SzO u
  | _ => True
structure RS (M : Md) (io : Pl) (H : Hp) (S : Sto) : Prop where
  ob : ∀ l o, S l = some o → ∃ p, io[l]? = some p ∧ RO M.K io H p o
  sep : ∀ l m o o' p q, S l = some o → S m = some o' → l ≠ m → io[l]? = some p → io[m]? = some q → p.1 ≠ q.1 ∧ p.1 ≠ q.2 ∧ p.2 ≠ q.1 ∧ p.2 ≠ q.2
  tab : ∀ P ∈ M.tabs, TabOk H P
  sz : ∀ a u, H a = some u → SzO u
  bs : Stp M.io0 M.H0 io H
def Md.at_ (M : Md) (io : Pl) (H : Hp) : Md := ⟨M.K, M.tabs, io, H⟩
theorem RS.re {M : Md} {io : Pl} {H : Hp} {S : Sto} (r : RS M io H S) : RS (M.at_ io H) io H S := ⟨r.ob, r.sep, r.tab, r.sz, Stp.refl _ _⟩
theorem RS.back {M : Md} {io io' : Pl} {H H' : Hp} {S S' : Sto} (r : RS M io H S) (r' : RS (M.at_ io H) io' H' S') : RS M io' H' S' := ⟨r'.ob, r'.sep, r'.tab, r'.sz, r.bs.trans r'.bs⟩
theorem RS.sub {M : Md} {io : Pl} {H : Hp} {S S' : Sto} (r : RS M io H S) (h : S'.sub S) : RS M io H S' :=
  ⟨fun l o e => r.ob l o (h l o e), fun l m o o' p q e e' => r.sep l m o o' p q (h l o e) (h m o' e'), r.tab, r.sz, r.bs⟩
theorem RO.there {K : PySem.W.Frag} {io : Pl} {H : Hp} {p : Addr × Addr} {o : Ob} (h : RO K io H p o) :
    (∃ u, H p.1 = some u ∧ (∀ xs, u ≠ .tup xs) ∧ (∀ ob x, u ≠ .frz ob x) ∧ ∀ ps, u ≠ .tbl ps) ∧ ∃ u, H p.2 = some u ∧ (∀ xs, u ≠ .tup xs) ∧ (∀ ob x, u ≠ .frz ob x) ∧ ∀ ps, u ≠ .tbl ps := by
  cases o with
  | lst ds =>
    obtain ⟨e, xs, h, _⟩ := h
    rw [e]
    exact ⟨⟨_, h, by simp, by simp, by simp⟩, ⟨_, h, by simp, by simp, by simp⟩⟩
  | dic ks ds =>
    obtain ⟨e, xs, h, _⟩ := h
    rw [e]
    exact ⟨⟨_, h, by simp, by simp, by simp⟩, ⟨_, h, by simp, by simp, by simp⟩⟩
  | dit ks ds =>
    obtain ⟨e, xs, h, _⟩ := h
    rw [e]
    exact ⟨⟨_, h, by simp, by simp, by simp⟩, ⟨_, h, by simp, by simp, by simp⟩⟩
  | ins C fs ds =>
    obtain ⟨e, h1, xs, h, _⟩ := h
    exact ⟨⟨_, h, by simp, by simp, by simp⟩, ⟨_, h1, by simp, by simp, by simp⟩⟩
  | exc c fs ds =>
    obtain ⟨e, h1, vs, h2, _⟩ := h
    exact ⟨⟨_, h1, by simp [ExD], by simp [ExD], by simp [ExD]⟩, ⟨_, h2, by simp, by simp, by simp⟩⟩
  | slt C ds =>
    obtain ⟨e, h1, xs, h, _⟩ := h
    refine ⟨?_, ?_⟩
    · rcases h with ⟨h, _⟩ | ⟨h, _⟩
      · exact ⟨_, h, by simp, by simp, by simp⟩
      · exact ⟨_, h, by simp [SlX.SlO], by simp [SlX.SlO], by simp [SlX.SlO]⟩
    · rcases h1 with h1 | h1
      · exact ⟨_, h1, by simp, by simp, by simp⟩
      · exact ⟨_, h1, by simp, by simp, by simp⟩
theorem RO.keep {K : PySem.W.Frag} {io io' : Pl} {H H' : Hp} {p : Addr × Addr} {o : Ob} (h : RO K io H p o) (st : Stp io H io' H') (k1 : H' p.1 = H p.1) (k2 : H' p.2 = H p.2) : RO K io' H' p o := by
  cases o with
  | lst ds =>
    obtain ⟨e, xs, h, r⟩ := h
    exact ⟨e, xs, by rw [k1]; exact h, r.mono st⟩
  | dic ks ds =>
    obtain ⟨e, xs, h, q, r⟩ := h
    exact ⟨e, xs, by rw [k1]; exact h, q, r.mono st⟩
  | dit ks ds =>
    obtain ⟨e, xs, h, q, r⟩ := h
    exact ⟨e, xs, by rw [k1]; exact h, q, r.mono st⟩
  | ins C fs ds =>
    obtain ⟨e, h1, xs, h, q, r⟩ := h
    exact ⟨e, by rw [k2]; exact h1, xs, by rw [k1]; exact h, q, r.mono st⟩
  | exc c fs ds =>
    obtain ⟨e, h1, vs, h2, h3, r⟩ := h
    exact ⟨e, by rw [k1]; exact h1, vs, by rw [k2]; exact h2, h3, r.mono st⟩
  | slt C ds =>
    obtain ⟨e, h1, xs, h, r⟩ := h
    refine ⟨e, by rw [k2]; exact h1, xs, ?_, r.mono st⟩
    rcases h with ⟨h, q⟩ | ⟨h, q⟩
    · exact .inl ⟨by rw [k1]; exact h, q⟩
    · exact .inr ⟨by rw [k1]; exact h, by rw [k2]; exact q⟩
theorem sz_upd {H : Hp} {q : Addr} {u : HO} (h : ∀ a u, H a = some u → SzO u) (hz : SzO u) : ∀ a x, upd H q u a = some x → SzO x := fun a x e => by
  by_cases ha : a = q
  · subst ha; rw [upd_same] at e; cases e; exact hz
  · rw [upd_ne ha] at e; exact h a x e
section
variable {M : Md} {io : Pl} {H H' : Hp} {S : Sto}
theorem RS.new (r : RS M io H S) {q : Addr} {u : HO} {o : Ob} (hq : H q = none) (hz : SzO u) (hu : RO M.K (io ++ [(q, q)]) (upd H q u) (q, q) o) :
    RS M (io ++ [(q, q)]) (upd H q u) (S.set io.length o) ∧ Stp io H (io ++ [(q, q)]) (upd H q u) ∧ S io.length = none ∧ (io ++ [(q, q)])[io.length]? = some (q, q) := by
  have ne : ∀ {b : Addr} {x : HO}, H b = some x → b ≠ q := fun h => ne_of_none h hq
  have st : Stp io H (io ++ [(q, q)]) (upd H q u) := ⟨⟨_, rfl⟩, fun a xs h => by rw [upd_ne (ne h)]; exact h, fun a o x h => by rw [upd_ne (ne h)]; exact h⟩
  have hat : (io ++ [(q, q)])[io.length]? = some (q, q) := by simp
  have hS : S io.length = none := by
    cases e : S io.length with
    | none => rfl
    | some o =>
      obtain ⟨p, e1, _⟩ := r.ob _ _ e
      rw [List.getElem?_eq_none (Nat.le_refl _)] at e1; cases e1
  have old : ∀ l o', S l = some o' → l ≠ io.length ∧ ∃ p, io[l]? = some p ∧ (io ++ [(q, q)])[l]? = some p ∧ RO M.K io H p o' ∧ p.1 ≠ q ∧ p.2 ≠ q := fun l o' e => by
    obtain ⟨p, e1, h1⟩ := r.ob l o' e
    obtain ⟨⟨_, a1, _⟩, ⟨_, a2, _⟩⟩ := h1.there
    exact ⟨fun z => (by subst z; rw [hS] at e; exact nomatch e), p, e1, st.at_ e1, h1, ne a1, ne a2⟩
  refine ⟨⟨fun l o' e => ?_, fun l m o1 o2 p1 p2 e1 e2 hn h1 h2 => ?_, fun P hP => ?_, sz_upd r.sz hz, r.bs.trans st⟩, st, hS, hat⟩
  · by_cases hl : l = io.length
    · subst hl; rw [Sto.set_same] at e; cases e
      exact ⟨_, hat, hu⟩
    · rw [Sto.set_ne hl] at e
      obtain ⟨_, p, e1, e2, h1, n1, n2⟩ := old l o' e
      exact ⟨p, e2, h1.keep st (upd_ne n1) (upd_ne n2)⟩
  · by_cases hl : l = io.length
    · subst hl
      rw [hat] at h1; cases h1
      have hm : m ≠ io.length := fun z => hn z.symm
      rw [Sto.set_ne hm] at e2
      obtain ⟨_, p, z1, z2, _, n1, n2⟩ := old m o2 e2
      rw [z2] at h2; cases h2
      exact ⟨n1.symm, n2.symm, n1.symm, n2.symm⟩
    · rw [Sto.set_ne hl] at e1
      obtain ⟨_, p, z1, z2, _, n1, n2⟩ := old l o1 e1
      rw [z2] at h1; cases h1
      by_cases hm : m = io.length
      · subst hm
        rw [hat] at h2; cases h2
        exact ⟨n1, n1, n2, n2⟩
      · rw [Sto.set_ne hm] at e2
        obtain ⟨_, p', z1', z2', _, _, _⟩ := old m o2 e2
        rw [z2'] at h2; cases h2
        exact r.sep l m o1 o2 _ _ e1 e2 hn z1 z1'
  · exact (r.tab P hP).keep st.frz fun ps h => by rw [upd_ne (ne h)]; exact h
theorem RS.keepNew (r : RS M io H S) {q : Addr} {u : HO} (hq : H q = none) (hz : SzO u) : RS M io (upd H q u) S ∧ Stp io H io (upd H q u) := by
  have ne : ∀ {b : Addr} {x : HO}, H b = some x → b ≠ q := fun h => ne_of_none h hq
  have st : Stp io H io (upd H q u) := ⟨⟨[], by simp⟩, fun a xs h => by rw [upd_ne (ne h)]; exact h, fun a o x h => by rw [upd_ne (ne h)]; exact h⟩
  refine ⟨⟨fun l o e => ?_, r.sep, fun P hP => ?_, sz_upd r.sz hz, r.bs.trans st⟩, st⟩
  · obtain ⟨p, e1, h1⟩ := r.ob l o e
    obtain ⟨⟨_, a1, _⟩, ⟨_, a2, _⟩⟩ := h1.there
    exact ⟨p, e1, h1.keep st (upd_ne (ne a1)) (upd_ne (ne a2))⟩
  · exact (r.tab P hP).keep st.frz fun ps h => by rw [upd_ne (ne h)]; exact h
theorem RS.put (r : RS M io H S) {l : Nat} {o o' : Ob} {p : Addr × Addr} (hl : S l = some o) (hp : io[l]? = some p) (k : ∀ b, b ≠ p.1 → b ≠ p.2 → H' b = H b) (hz : ∀ u, (H' p.1 = some u ∨ H' p.2 = some u) → SzO u) (hu : Stp io H io H' → RO M.K io H' p o') :
    RS M io H' (S.set l o') ∧ Stp io H io H' := by
  obtain ⟨p', e, h⟩ := r.ob l o hl
  rw [hp] at e; cases e
  obtain ⟨⟨u1, a1, b1, c1, d1⟩, ⟨u2, a2, b2, c2, d2⟩⟩ := h.there
  have n : ∀ b x, H b = some x → (x ≠ u1) → (x ≠ u2) → H' b = H b := fun b x e z1 z2 => k b (fun z => by subst z; rw [a1] at e; exact z1 (Option.some.inj e).symm) (fun z => by subst z; rw [a2] at e; exact z2 (Option.some.inj e).symm)
  have st : Stp io H io H' := ⟨⟨[], by simp⟩, fun a xs e => by rw [n a _ e (b1 xs).symm (b2 xs).symm]; exact e, fun a ob x e => by rw [n a _ e (c1 ob x).symm (c2 ob x).symm]; exact e⟩
  refine ⟨⟨fun m o2 e => ?_, fun m m' o1 o2 p1 p2 e1 e2 hn h1 h2 => ?_, fun P hP => ?_, fun b x e => ?_, r.bs.trans st⟩, st⟩
  · by_cases hm : m = l
    · subst hm; rw [Sto.set_same] at e; cases e
      exact ⟨p, hp, hu st⟩
    · rw [Sto.set_ne hm] at e
      obtain ⟨q, e1, h1⟩ := r.ob m o2 e
      obtain ⟨s1, s2, s3, s4⟩ := r.sep m l o2 o q p e hl hm e1 hp
      exact ⟨q, e1, h1.keep st (k _ s1 s2) (k _ s3 s4)⟩
  · have a : ∃ o3, S m = some o3 := by
      by_cases z : m = l
      · subst z; exact ⟨_, hl⟩
      · rw [Sto.set_ne z] at e1; exact ⟨_, e1⟩
    have b : ∃ o3, S m' = some o3 := by
      by_cases z : m' = l
      · subst z; exact ⟨_, hl⟩
      · rw [Sto.set_ne z] at e2; exact ⟨_, e2⟩
    obtain ⟨o3, a⟩ := a
    obtain ⟨o4, b⟩ := b
    exact r.sep m m' o3 o4 p1 p2 a b hn h1 h2
  · exact (r.tab P hP).keep st.frz fun ps h => by rw [n P.1 _ h (d1 ps).symm (d2 ps).symm]; exact h
  · by_cases z1 : b = p.1
    · subst z1; exact hz _ (.inl e)
    · by_cases z2 : b = p.2
      · subst z2; exact hz _ (.inr e)
      · rw [k b z1 z2] at e; exact r.sz b x e
theorem RS.lenT (r : RS M io H S) {a : Addr} {xs : List V} (h : SqT M.K H a xs) : xs.length ≤ sizeLine := by
  rcases h with (h | ⟨o, h⟩) | ⟨o, its, n, _, _, _, hz, rv⟩
  · exact r.sz _ _ h
  · exact r.sz _ _ h
  · rw [rv.length]; simpa using hz
theorem RS.lenL (r : RS M io H S) {a : Addr} {xs : List V} (h : SqL M.K H a xs) : xs.length ≤ sizeLine := by
  rcases h with (h | ⟨o, h⟩) | ⟨o, its, n, _, _, _, _, hz, rv⟩
  · exact r.sz _ _ h
  · exact r.sz _ _ h
  · rw [rv.length]; simpa using hz
end
end L3
end
section
set_option Elab.async false
set_option linter.all false
set_option maxRecDepth 100000
set_option maxHeartbeats 2000000
namespace L3
open PySem PySem.Spec PyProof.Rows L2

abbrev En := List (Option D)
abbrev DK := D → Sto → Prop
abbrev DE := En → Sto → DK → Prop
abbrev DT := En → Sto → (Bool → Sto → Prop) → Prop
abbrev DA := En → Sto → (List D → Sto → Prop) → Prop
structure DEnds where
  nx : En → Sto → Prop
  rt : DK
  bk : En → Sto → Prop := fun _ _ => False
  ct : En → Sto → Prop := fun _ _ => False
abbrev DS := DEnds → En → Sto → Prop

def RE (K : PySem.W.Frag) (io : Pl) (H : Hp) (ρ : En) (σ : L2.St) : Prop := ρ.length = σ.length ∧ ∀ (i : Nat) (d : D), ρ[i]? = some (some d) → ∃ x, σ[i]? = some (some x) ∧ RD K io H d x
theorem RE.mono {K : PySem.W.Frag} {i1 i2 : Pl} {H1 H2 : Hp} {ρ : En} {σ : L2.St} (r : RE K i1 H1 ρ σ) (a : Stp i1 H1 i2 H2) : RE K i2 H2 ρ σ :=
  ⟨r.1, fun i d e => let ⟨x, e1, h⟩ := r.2 i d e; ⟨x, e1, h.mono a⟩⟩
theorem RE.set {K : PySem.W.Frag} {io : Pl} {H : Hp} {ρ : En} {σ : L2.St} {d : D} {x : V} (r : RE K io H ρ σ) (i : Nat) (h : RD K io H d x) : RE K io H (ρ.set i (some d)) (σ.set i (some x)) := by
  refine ⟨by simp [r.1], fun j e q => ?_⟩
  by_cases hj : j = i
  · subst hj
    have hl : j < ρ.length := by
      have := (List.getElem?_eq_some_iff.mp q).1
      simpa using this
    rw [List.getElem?_set_self hl] at q
    cases q
    exact ⟨x, List.getElem?_set_self (by rw [← r.1]; exact hl), h⟩
  · rw [List.getElem?_set_ne (Ne.symm hj)] at q
    obtain ⟨y, e1, h1⟩ := r.2 j e q
    exact ⟨y, by rw [List.getElem?_set_ne (Ne.symm hj)]; exact e1, h1⟩
def Wk (ρ' ρ : En) : Prop := ρ'.length = ρ.length ∧ ∀ (i : Nat) (d : D), ρ'[i]? = some (some d) → ρ[i]? = some (some d)
theorem Wk.refl (ρ : En) : Wk ρ ρ := ⟨rfl, fun _ _ h => h⟩
theorem RE.wk {K : PySem.W.Frag} {io : Pl} {H : Hp} {ρ ρ' : En} {σ : L2.St} (r : RE K io H ρ σ) (w : Wk ρ' ρ) : RE K io H ρ' σ := ⟨w.1.trans r.1, fun i d e => r.2 i d (w.2 i d e)⟩

section
variable (M : Md)
def Co (io : Pl) (H : Hp) (Qd : DK) (Q : VK) : Prop := ∀ (io' : Pl) (H' : Hp) (S' : Sto) (v : D) (x : V), Stp io H io' H' → RS M io' H' S' → RD M.K io' H' v x → Qd v S' → Q x H'
def CoT (io : Pl) (H : Hp) (Qd : Bool → Sto → Prop) (Q : Bool → Hp → Prop) : Prop := ∀ (io' : Pl) (H' : Hp) (S' : Sto) (b : Bool), Stp io H io' H' → RS M io' H' S' → Qd b S' → Q b H'
def CoA (io : Pl) (H : Hp) (Qd : List D → Sto → Prop) (Q : List V → Hp → Prop) : Prop := ∀ (io' : Pl) (H' : Hp) (S' : Sto) (ds : List D) (xs : List V), Stp io H io' H' → RS M io' H' S' → RDs M.K io' H' ds xs → Qd ds S' → Q xs H'
def CoS (io : Pl) (H : Hp) (σ : L2.St) (P : En → Sto → Prop) (R : L2.St → Hp → Prop) : Prop := ∀ (io' : Pl) (H' : Hp) (S' : Sto) (ρ' : En) (σ' : L2.St), Stp io H io' H' → RS M io' H' S' → RE M.K io' H' ρ' σ' → P ρ' S' → R σ' H'
def lift (d : DE) : TE := fun σ H Q => ∃ io S ρ Qd, RS M io H S ∧ RE M.K io H ρ σ ∧ d ρ S Qd ∧ Co M io H Qd Q
def liftT (d : DT) : TT := fun σ H Q => ∃ io S ρ Qd, RS M io H S ∧ RE M.K io H ρ σ ∧ d ρ S Qd ∧ CoT M io H Qd Q
def liftA (d : DA) : TA := fun σ H Q => ∃ io S ρ Qd, RS M io H S ∧ RE M.K io H ρ σ ∧ d ρ S Qd ∧ CoA M io H Qd Q
def liftS (d : DS) : TS := fun E σ H => ∃ io S ρ Ed, RS M io H S ∧ RE M.K io H ρ σ ∧ d Ed ρ S ∧ CoS M io H σ Ed.nx E.nx ∧ Co M io H Ed.rt E.rt ∧ CoS M io H σ Ed.bk E.bk ∧ CoS M io H σ Ed.ct E.ct
end
section
variable {M : Md} {io io' : Pl} {H H' : Hp} {Qd : DK} {Q : VK}
theorem Co.to (c : Co M io H Qd Q) (st : Stp io H io' H') : Co M io' H' Qd Q := fun i2 H2 S2 v x s r d q => c i2 H2 S2 v x (st.trans s) r d q
theorem Co.here (c : Co M io H Qd Q) {S : Sto} {v : D} {x : V} (r : RS M io H S) (d : RD M.K io H v x) (q : Qd v S) : Q x H := c io H S v x (Stp.refl _ _) r d q
theorem CoT.to {Qd : Bool → Sto → Prop} {Q : Bool → Hp → Prop} (c : CoT M io H Qd Q) (st : Stp io H io' H') : CoT M io' H' Qd Q := fun i2 H2 S2 b s r q => c i2 H2 S2 b (st.trans s) r q
theorem CoT.here {Qd : Bool → Sto → Prop} {Q : Bool → Hp → Prop} (c : CoT M io H Qd Q) {S : Sto} {b : Bool} (r : RS M io H S) (q : Qd b S) : Q b H := c io H S b (Stp.refl _ _) r q
theorem CoA.to {Qd : List D → Sto → Prop} {Q : List V → Hp → Prop} (c : CoA M io H Qd Q) (st : Stp io H io' H') : CoA M io' H' Qd Q := fun i2 H2 S2 v x s r d q => c i2 H2 S2 v x (st.trans s) r d q
theorem CoS.to {σ τ : L2.St} {P : En → Sto → Prop} {R : L2.St → Hp → Prop} (c : CoS M io H σ P R) (st : Stp io H io' H') : CoS M io' H' τ P R := fun i2 H2 S2 ρ σ s r d q => c i2 H2 S2 ρ σ (st.trans s) r d q
end
section
variable {X : Cx} {e a b : Expr} {pos : Pos}
theorem PE.imp {t t' : TE} (h : PE X e t) (k : ∀ σ H Q, t' σ H Q → t σ H Q) : PE X e t' := ⟨fun pins s σ H Q I q => h.run pins s σ H Q I (k σ H Q q)⟩
theorem PT.imp {t t' : TT} (h : PT X e t) (k : ∀ σ H Q, t' σ H Q → t σ H Q) : PT X e t' := ⟨fun pins s σ H Q I q => h.run pins s σ H Q I (k σ H Q q)⟩
theorem PW.imp {t t' : TT} (h : PW X e t) (k : ∀ σ H Q, t' σ H Q → t σ H Q) : PW X e t' := ⟨fun wh pins s σ H Q I q => h.run wh pins s σ H Q I (k σ H Q q)⟩
theorem PA.imp {es : List Expr} {t t' : TA} (h : PA X es t) (k : ∀ σ H Q, t' σ H Q → t σ H Q) : PA X es t' := ⟨fun p pins s σ H Q I q => h.run p pins s σ H Q I (k σ H Q q)⟩
theorem PS.imp {st : Stmt} {t t' : TS} (h : PS X st t) (k : ∀ E σ H, t' E σ H → t E σ H) : PS X st t' := ⟨fun pins s σ H E I q => h.run pins s σ H E I (k E σ H q)⟩
theorem PSs.imp {st : List Stmt} {t t' : TS} (h : PSs X st t) (k : ∀ E σ H, t' E σ H → t E σ H) : PSs X st t' := ⟨fun pins s σ H E I q => h.run pins s σ H E I (k E σ H q)⟩
end
abbrev QE (M : Md) (X : Cx) (e : Expr) (d : DE) : Prop := PE X e (lift M d)
abbrev QT (M : Md) (X : Cx) (e : Expr) (d : DT) : Prop := PT X e (liftT M d)
abbrev QW (M : Md) (X : Cx) (e : Expr) (d : DT) : Prop := PW X e (liftT M d)
abbrev QA (M : Md) (X : Cx) (es : List Expr) (d : DA) : Prop := PA X es (liftA M d)
abbrev QS (M : Md) (X : Cx) (st : Stmt) (d : DS) : Prop := PS X st (liftS M d)
abbrev QSs (M : Md) (X : Cx) (st : List Stmt) (d : DS) : Prop := PSs X st (liftS M d)

def dVar (i : Nat) : DE := fun ρ S Q => ∃ v, ρ[i]? = some (some v) ∧ Q v S
def dC (d : D) : DE := fun _ S Q => Q d S
section
variable {M : Md} {X : Cx} {pos : Pos}
theorem q_var {i : Nat} {x : Str} (hN : X.N[i]? = some x) (hv : Vis X.env.scope x) (hd : (x == ("__debug__" : Str)) = false := by decide) (hcd : (x == ("__classdict__" : Str)) = false := by decide) : QE M X (.Name x pos) (dVar i) :=
  PE.imp (pe_var hN hv hd hcd) fun σ H Q ⟨io, S, ρ, Qd, r, re, ⟨v, e, q⟩, c⟩ => let ⟨x, e1, h⟩ := re.2 i v e; ⟨x, e1, c.here r h q⟩
theorem q_tC {e : Expr} {v : V} {d : D} (h : PE X e (tC v)) (k : ∀ K io H, RD K io H d v) : QE M X e (dC d) :=
  PE.imp h fun σ H Q ⟨io, S, ρ, Qd, r, re, q, c⟩ => c.here r (k _ _ _) q
theorem q_int {i j} : QE M X (.Constant (.int i) j pos) (dC (.int i)) := q_tC pe_int fun _ _ _ => rfl
theorem q_bl {b j} : QE M X (.Constant (.bool b) j pos) (dC (.bl b)) := q_tC pe_bl fun _ _ _ => rfl
theorem q_non {j} : QE M X (.Constant .none j pos) (dC .non) := q_tC pe_non fun _ _ _ => rfl
theorem q_str {x j} : QE M X (.Constant (.str x) j pos) (dC (.str x)) := q_tC pe_str fun _ _ _ => rfl
theorem q_globS {x z : Str} {t : Tok} (hg : Gl X x) (hm : X.mg x = some (.str z t)) (hd : (x == ("__debug__" : Str)) = false := by decide) : QE M X (.Name x pos) (dC (.str z)) := q_tC (pe_glob (v := .str z) hg hm ⟨_, rfl⟩ hd) fun _ _ _ => rfl
end
abbrev DR2 := D → D → Sto → DK → Prop
def Sim2 (M : Md) (r : R2) (dr : DR2) : Prop := ∀ (io : Pl) (H : Hp) (S : Sto) (x y : V) (v w : D) (Qd : DK) (Q : VK), RS M io H S → RD M.K io H v x → RD M.K io H w y → dr v w S Qd → Co M io H Qd Q → r x y H Q
abbrev DR1 := D → Sto → DK → Prop
abbrev DRA := List D → Sto → DK → Prop
def SimA (M : Md) (r : List V → Hp → VK → Prop) (dr : DRA) : Prop := ∀ (io : Pl) (H : Hp) (S : Sto) (xs : List V) (ds : List D) (Qd : DK) (Q : VK), RS M io H S → RDs M.K io H ds xs → dr ds S Qd → Co M io H Qd Q → r xs H Q
def dOp (dr : DR2) (da db : DE) : DE := fun ρ S Q => da ρ S fun v S1 => db ρ S1 fun w S2 => dr v w S2 Q
def dUn (dr : DR1) (da : DE) : DE := fun ρ S Q => da ρ S fun v S1 => dr v S1 Q
def dCB (dr : DRA) (da : DA) : DE := fun ρ S Q => da ρ S fun ds S1 => dr ds S1 Q
section
variable {M : Md} {X : Cx} {pos : Pos} {a b : Expr} {da db : DE}
theorem seq2 {r : R2} {dr : DR2} (hs : Sim2 M r dr) : ∀ σ H Q, lift M (dOp dr da db) σ H Q → lift M da σ H fun x H1 => lift M db σ H1 fun y H2 => r x y H2 Q :=
  fun σ H Q ⟨io, S, ρ, Qd, r1, re, h, c⟩ => ⟨io, S, ρ, _, r1, re, h, fun i1 H1 S1 v x s1 r1 d1 h1 => ⟨i1, S1, ρ, _, r1, re.mono s1, h1, fun i2 H2 S2 w y s2 r2 d2 h2 =>
    hs i2 H2 S2 x y v w Qd Q r2 (d1.mono s2) d2 h2 (c.to (s1.trans s2))⟩⟩
theorem q_op {op : Operator} {r : R2} {dr : DR2} (ho : OpR X (binaryOp op) r) (hs : Sim2 M r dr) (ha : QE M X a da) (hb : QE M X b db) : QE M X (.BinOp a op b pos) (dOp dr da db) :=
  PE.imp (pe_op ho ha hb) (seq2 hs)
theorem q_cmp {op : CmpOp} {r : R2} {dr : DR2} (ho : OpR X (compareOp op) r) (hs : Sim2 M r dr) (ha : QE M X a da) (hb : QE M X b db) (hm : behindInMarks op b = false) : QE M X (.Compare a [op] [b] pos) (dOp dr da db) :=
  PE.imp (pe_cmpR ho ha hb hm) (seq2 hs)
def dTst (d : DE) : DT := fun ρ S Q => d ρ S fun v S' => ∃ k, v = .bl k ∧ Q k S'
theorem q_cmpT {op : CmpOp} {r : R2} {dr : DR2} (ho : OpR X (compareOp op) r) (hs : Sim2 M r dr) (ha : QE M X a da) (hb : QE M X b db) (hm : behindInMarks op b = false) : QT M X (.Compare a [op] [b] pos) (dTst (dOp dr da db)) :=
  PT.imp (pt_cmpR ho ha hb hm) fun σ H Q ⟨io, S, ρ, Qd, r1, re, h, c⟩ => seq2 hs σ H _ ⟨io, S, ρ, _, r1, re, h, fun i1 H1 S1 v x s1 r1 d1 ⟨k, e, q⟩ => by
    subst e
    exact ⟨k, d1, c i1 H1 S1 k s1 r1 q⟩⟩
end
def oI (C : Int → Int → Prop) (g : Int → Int → D) : DR2 := fun v w S Q => ∃ i j, v = .int i ∧ w = .int j ∧ C i j ∧ Q (g i j) S
def oI0 (g : Int → Int → D) : DR2 := fun v w S Q => ∃ i j, v = .int i ∧ w = .int j ∧ Q (g i j) S
theorem simI {M : Md} {C : Int → Int → Prop} {g : Int → Int → V} {g' : Int → Int → D} (h : ∀ K io H i j, RD K io H (g' i j) (g i j)) : Sim2 M (rI C g) (oI C g') := fun io H S x y v w Qd Q r dv dw ⟨i, j, e1, e2, hc, q⟩ c => by
  subst e1 e2
  exact ⟨i, j, dv, dw, hc, c.here r (h _ _ _ i j) q⟩
theorem simI0 {M : Md} {g : Int → Int → V} {g' : Int → Int → D} (h : ∀ K io H i j, RD K io H (g' i j) (g i j)) : Sim2 M (rI0 g) (oI0 g') := fun io H S x y v w Qd Q r dv dw ⟨i, j, e1, e2, q⟩ c => by
  subst e1 e2
  exact ⟨i, j, dv, dw, c.here r (h _ _ _ i j) q⟩
def dNot (t : DT) : DT := fun ρ S Q => t ρ S fun b S' => Q (!b) S'
def dAnd (t u : DT) : DT := fun ρ S Q => t ρ S fun b S' => if b = true then u ρ S' Q else Q false S'
def dOr (t u : DT) : DT := fun ρ S Q => t ρ S fun b S' => if b = true then Q true S' else u ρ S' Q
def dIf (t : DT) (da db : DE) : DE := fun ρ S Q => t ρ S fun b S' => if b = true then da ρ S' Q else db ρ S' Q
section
variable {M : Md} {X : Cx} {pos : Pos} {a b c : Expr} {da db : DE} {ta tb : DT} {rest : List Expr}
theorem q_not (ha : QT M X a ta) : QT M X (.UnaryOp .Not a pos) (dNot ta) :=
  PT.imp (pt_not ha) fun σ H Q ⟨io, S, ρ, Qd, r1, re, h, c⟩ => ⟨io, S, ρ, _, r1, re, h, fun i1 H1 S1 b s1 r1 h1 => c i1 H1 S1 _ s1 r1 h1⟩
theorem w_and1 (ha : QT M X a ta) : QW M X (.BoolOp .And [a] pos) ta := pw_and1 ha
theorem w_or1 (ha : QT M X a ta) : QW M X (.BoolOp .Or [a] pos) ta := pw_or1 ha
theorem w_and (ha : QT M X a ta) (hb : QW M X (.BoolOp .And (b :: rest) pos) tb) : QW M X (.BoolOp .And (a :: b :: rest) pos) (dAnd ta tb) :=
  PW.imp (pw_and ha hb) fun σ H Q ⟨io, S, ρ, Qd, r1, re, h, c⟩ => ⟨io, S, ρ, _, r1, re, h, fun i1 H1 S1 b s1 r1 h1 => by
    cases b with
    | true => exact ⟨i1, S1, ρ, Qd, r1, re.mono s1, h1, c.to s1⟩
    | false => exact c i1 H1 S1 _ s1 r1 h1⟩
theorem w_or (ha : QT M X a ta) (hb : QW M X (.BoolOp .Or (b :: rest) pos) tb) : QW M X (.BoolOp .Or (a :: b :: rest) pos) (dOr ta tb) :=
  PW.imp (pw_or ha hb) fun σ H Q ⟨io, S, ρ, Qd, r1, re, h, c⟩ => ⟨io, S, ρ, _, r1, re, h, fun i1 H1 S1 b s1 r1 h1 => by
    cases b with
    | true => exact c i1 H1 S1 _ s1 r1 h1
    | false => exact ⟨i1, S1, ρ, Qd, r1, re.mono s1, h1, c.to s1⟩⟩
theorem q_w (h : QW M X a ta) : QT M X a ta := h.pt
theorem q_ifE (hc : QT M X c ta) (ha : QE M X a da) (hb : QE M X b db) : QE M X (.IfExp c a b pos) (dIf ta da db) :=
  PE.imp (pe_ifExp hc ha hb) fun σ H Q ⟨io, S, ρ, Qd, r1, re, h, c⟩ => ⟨io, S, ρ, _, r1, re, h, fun i1 H1 S1 b s1 r1 h1 => by
    cases b with
    | true => exact ⟨i1, S1, ρ, Qd, r1, re.mono s1, h1, c.to s1⟩
    | false => exact ⟨i1, S1, ρ, Qd, r1, re.mono s1, h1, c.to s1⟩⟩
theorem q_val (h : QE M X a da) (he : ∀ whole, isTrue a X.env whole = (do let v ← whole; standAt a.pos; holding [v] (truthy v)) := by intro _; rfl) : QT M X a (dTst da) :=
  PT.imp (pt_val h he) fun σ H Q ⟨io, S, ρ, Qd, r1, re, h, c⟩ => ⟨io, S, ρ, _, r1, re, h, fun i1 H1 S1 v x s1 r1 d1 ⟨k, e, q⟩ => by
    subst e
    exact ⟨k, d1, c i1 H1 S1 k s1 r1 q⟩⟩
def dAndV (da db : DE) : DE := fun ρ S Q => da ρ S fun v S' => ∃ b, v = .bl b ∧ if b = true then db ρ S' Q else Q (.bl false) S'
def dOrV (da db : DE) : DE := fun ρ S Q => da ρ S fun v S' => ∃ b, v = .bl b ∧ if b = true then Q (.bl true) S' else db ρ S' Q
def dNotV (da : DE) : DE := fun ρ S Q => da ρ S fun v S' => ∃ b, v = .bl b ∧ Q (.bl (!b)) S'
theorem q_one {op} (h : QE M X a da) : QE M X (.BoolOp op [a] pos) da := pe_one h
theorem q_and (ha : QE M X a da) (hb : QE M X (.BoolOp .And (b :: rest) pos) db) : QE M X (.BoolOp .And (a :: b :: rest) pos) (dAndV da db) :=
  PE.imp (pe_and ha hb) fun σ H Q ⟨io, S, ρ, Qd, r1, re, h, c⟩ => ⟨io, S, ρ, _, r1, re, h, fun i1 H1 S1 v x s1 r1 d1 ⟨k, e, q⟩ => by
    subst e
    refine ⟨k, d1, ?_⟩
    cases k with
    | true => exact ⟨i1, S1, ρ, Qd, r1, re.mono s1, q, c.to s1⟩
    | false => exact c i1 H1 S1 (.bl false) _ s1 r1 rfl q⟩
theorem q_notV (ha : QE M X a da) : QE M X (.UnaryOp .Not a pos) (dNotV da) :=
  PE.imp (pe_not ha) fun σ H Q ⟨io, S, ρ, Qd, r1, re, h, c⟩ => ⟨io, S, ρ, _, r1, re, h, fun i1 H1 S1 v x s1 r1 d1 ⟨k, e, q⟩ => by
    subst e
    exact ⟨k, d1, c i1 H1 S1 (.bl (!k)) _ s1 r1 rfl q⟩⟩
end
end L3
end
section
set_option Elab.async false
set_option linter.all false
set_option maxRecDepth 100000
set_option maxHeartbeats 2000000
namespace L3
open PySem PySem.Spec PyProof.Rows L2

section
variable {M : Md} {io : Pl} {H : Hp} {S : Sto}
theorem RDs.empty {ds : List D} {xs : List V} (h : RDs M.K io H ds xs) : xs.isEmpty = ds.isEmpty := by
  cases ds with
  | nil => rw [show xs = [] from h]; rfl
  | cons d ds => obtain ⟨x, r, rfl, _⟩ := h; rfl
theorem RS.lst (r : RS M io H S) {l : Nat} {ds : List D} {x : V} (e : S l = some (.lst ds)) (h : RD M.K io H (.ref l) x) : ∃ a xs, x = .ref a ∧ io[l]? = some (a, a) ∧ H a = some (.lst xs) ∧ RDs M.K io H ds xs := by
  obtain ⟨p, e1, h1⟩ := r.ob l _ e
  obtain ⟨q, e2, rfl⟩ := h
  rw [e1] at e2; cases e2
  obtain ⟨e3, xs, h2, h3⟩ := h1
  obtain ⟨p1, p2⟩ := p
  have e3 : p2 = p1 := e3
  subst e3
  exact ⟨_, xs, rfl, e1, h2, h3⟩
theorem RS.dic (r : RS M io H S) {l : Nat} {ks : List Key} {ds : List D} {x : V} (e : S l = some (.dic ks ds)) (h : RD M.K io H (.ref l) x) :
    ∃ a kvs, x = .ref a ∧ io[l]? = some (a, a) ∧ H a = some (.dK kvs) ∧ kvs.map (·.1) = ks ∧ RDs M.K io H ds (kvs.map (·.2)) := by
  obtain ⟨p, e1, h1⟩ := r.ob l _ e
  obtain ⟨q, e2, rfl⟩ := h
  rw [e1] at e2; cases e2
  obtain ⟨e3, xs, h2, h3, h4⟩ := h1
  obtain ⟨p1, p2⟩ := p
  have e3 : p2 = p1 := e3
  subst e3
  exact ⟨_, xs, rfl, e1, h2, h3, h4⟩
def seqD (S : Sto) : D → Option (List D)
  | .tup ds => some ds
  | .lst ds => some ds
  | .kl ds => some ds
  | .kt ds => some ds
  | .ref l => (match S l with
    | some (.lst ds) => some ds
    | _ => none)
  | _ => none
theorem seq_of (r : RS M io H S) {v : D} {x : V} {ds : List D} (h : RD M.K io H v x) (e : seqD S v = some ds) : ∃ a xs, x = .ref a ∧ (SqL M.K H a xs ∨ SqT M.K H a xs) ∧ RDs M.K io H ds xs := by
  cases v with
  | tup ds' =>
    cases e
    obtain ⟨a, xs, e1, h1, h2⟩ := h
    exact ⟨a, xs, e1, .inr (SqT.of h1), h2⟩
  | lst ds' =>
    cases e
    obtain ⟨a, xs, e1, h1, h2⟩ := h
    exact ⟨a, xs, e1, .inl h1.sq, h2⟩
  | kl ds' =>
    cases e
    obtain ⟨a, xs, e1, h1, h2⟩ := h
    exact ⟨a, xs, e1, .inl (.inr h1), h2⟩
  | kt ds' =>
    cases e
    obtain ⟨a, o, xs, e1, h1, _, h2⟩ := h
    exact ⟨a, xs, e1, .inr (.inl (.inr ⟨o, h1⟩)), h2⟩
  | ref l =>
    have e' : (match S l with | some (.lst ds) => some ds | _ => none) = some ds := e
    cases q : S l with
    | none => rw [q] at e'; cases e'
    | some o =>
      rw [q] at e'
      cases o with
      | lst ds' =>
        cases e'
        obtain ⟨a, xs, e1, _, h1, h2⟩ := r.lst q h
        exact ⟨a, xs, e1, .inl (SqL.of h1), h2⟩
      | _ => cases e'
  | _ => cases e
def lstD (S : Sto) : D → Option (List D)
  | .lst ds => some ds
  | .kl ds => some ds
  | .ref l => (match S l with
    | some (.lst ds) => some ds
    | _ => none)
  | _ => none
def lstR (S : Sto) : D → Option (List D)
  | .lst ds => some ds
  | .ref l => (match S l with
    | some (.lst ds) => some ds
    | _ => none)
  | _ => none
theorem lst_rd (r : RS M io H S) {v : D} {x : V} {ds : List D} (h : RD M.K io H v x) (e : lstR S v = some ds) : ∃ a xs, x = .ref a ∧ Rd H a (.lst xs) ∧ RDs M.K io H ds xs := by
  cases v with
  | lst ds' =>
    cases e
    obtain ⟨a, xs, e1, h1, h2⟩ := h
    exact ⟨a, xs, e1, h1.rd, h2⟩
  | ref l =>
    have e' : (match S l with | some (.lst ds) => some ds | _ => none) = some ds := e
    cases q : S l with
    | none => rw [q] at e'; cases e'
    | some o =>
      rw [q] at e'
      cases o with
      | lst ds' =>
        cases e'
        obtain ⟨a, xs, e1, _, h1, h2⟩ := r.lst q h
        exact ⟨a, xs, e1, .inl h1, h2⟩
      | _ => cases e'
  | _ => cases e
theorem lst_of (r : RS M io H S) {v : D} {x : V} {ds : List D} (h : RD M.K io H v x) (e : lstD S v = some ds) : ∃ a xs, x = .ref a ∧ SqL M.K H a xs ∧ RDs M.K io H ds xs := by
  cases v with
  | lst ds' =>
    cases e
    obtain ⟨a, xs, e1, h1, h2⟩ := h
    exact ⟨a, xs, e1, h1.sq, h2⟩
  | kl ds' =>
    cases e
    obtain ⟨a, xs, e1, h1, h2⟩ := h
    exact ⟨a, xs, e1, .inr h1, h2⟩
  | ref l =>
    have e' : (match S l with | some (.lst ds) => some ds | _ => none) = some ds := e
    cases q : S l with
    | none => rw [q] at e'; cases e'
    | some o =>
      rw [q] at e'
      cases o with
      | lst ds' =>
        cases e'
        obtain ⟨a, xs, e1, _, h1, h2⟩ := r.lst q h
        exact ⟨a, xs, e1, SqL.of h1, h2⟩
      | _ => cases e'
  | _ => cases e
def dicD (S : Sto) : D → Option (List Key × List D)
  | .dic ks ds => some (ks, ds)
  | .ref l => (match S l with
    | some (.dic ks ds) => some (ks, ds)
    | _ => none)
  | _ => none
theorem dic_of (r : RS M io H S) {v : D} {x : V} {p : List Key × List D} (h : RD M.K io H v x) (e : dicD S v = some p) : ∃ a kvs, x = .ref a ∧ Rd H a (.dK kvs) ∧ kvs.map (·.1) = p.1 ∧ RDs M.K io H p.2 (kvs.map (·.2)) := by
  cases v with
  | dic ks ds' =>
    cases e
    obtain ⟨a, o, kvs, e1, h1, h2, h3⟩ := h
    exact ⟨a, kvs, e1, .inr ⟨o, h1⟩, h2, h3⟩
  | ref l =>
    have e' : (match S l with | some (.dic ks ds) => some (ks, ds) | _ => none) = some p := e
    cases q : S l with
    | none => rw [q] at e'; cases e'
    | some o =>
      rw [q] at e'
      cases o with
      | dic ks ds' =>
        cases e'
        obtain ⟨a, kvs, e1, _, h1, h2, h3⟩ := r.dic q h
        exact ⟨a, kvs, e1, .inl h1, h2, h3⟩
      | _ => cases e'
  | _ => cases e
end
def truB (S : Sto) (v : D) (k : Bool) : Prop := match v with
  | .non => k = false
  | .bl b => k = b
  | .int i => k = (i != 0)
  | .str x => x.length ≤ sizeLine ∧ k = ((x.length : Int) != 0)
  | v => (∃ ds, seqD S v = some ds ∧ k = !ds.isEmpty) ∨ ∃ l ks ds, v = .ref l ∧ S l = some (.dic ks ds) ∧ k = !ks.isEmpty
def dTru (d : DE) : DT := fun ρ S Q => d ρ S fun v S' => ∃ k, truB S' v k ∧ Q k S'
theorem tru_of {M : Md} {io : Pl} {H : Hp} {S : Sto} (r : RS M io H S) {v : D} {x : V} {k : Bool} (h : RD M.K io H v x) (t : truB S v k) : TruV M.K x H k := by
  have sq : ((∃ ds, seqD S v = some ds ∧ k = !ds.isEmpty) ∨ ∃ l ks ds, v = .ref l ∧ S l = some (.dic ks ds) ∧ k = !ks.isEmpty) → TruV M.K x H k := fun t => by
    rcases t with ⟨ds, e, rfl⟩ | ⟨l, ks, ds, rfl, e, rfl⟩
    · obtain ⟨a, xs, rfl, s, rr⟩ := seq_of r h e
      rw [← rr.empty]
      rcases s with s | s
      · exact .inl ⟨xs, s, rfl⟩
      · exact .inr (.inl ⟨xs, s, rfl⟩)
    · obtain ⟨a, kvs, rfl, _, h1, h2, _⟩ := r.dic e h
      refine .inr (.inr ⟨kvs, h1, ?_⟩)
      rw [← h2]
      cases kvs <;> rfl
  cases v with
  | non => rw [show x = .non from h]; exact t
  | bl b => rw [show x = .bl b from h]; exact t
  | int b => rw [show x = .int b from h]; exact t
  | str b => rw [show x = .str b from h]; exact t
  | tup ds => exact sq t
  | lst ds => exact sq t
  | kl ds => exact sq t
  | kt ds => exact sq t
  | dic ks ds => exact sq t
  | ref l => exact sq t
  | raw w => exact sq t
theorem q_truth {M : Md} {X : Cx} {a : Expr} {da : DE} (hM : M.K = X.K) (ha : QE M X a da) (he : ∀ whole, isTrue a X.env whole = (do let v ← whole; standAt a.pos; holding [v] (truthy v)) := by intro _; rfl) : QT M X a (dTru da) :=
  PT.imp (pt_truth ha he) fun σ H Q ⟨io, S, ρ, Qd, r1, re, h, c⟩ => ⟨io, S, ρ, _, r1, re, h, fun i1 H1 S1 v x s1 r1 d1 ⟨k, t, q⟩ => ⟨k, by rw [← hM]; exact tru_of r1 d1 t, c i1 H1 S1 k s1 r1 q⟩⟩
theorem inv_freeze {X : Cx} {pins : List (Addr × Obj)} {σ : L2.St} {H : Hp} {s : Shared} {a : Addr} {u : HO} (I : Inv X pins σ H s) (e : H a = some u) (h1 : ∀ xs, u ≠ .tup xs) (h2 : ∀ o x, u ≠ .frz o x) (h3 : ∀ ps, u ≠ .tbl ps) (h4 : ∀ x, u ≠ .own x) :
    ∃ o, Inv X pins σ (upd H a (.frz o u)) s := by
  obtain ⟨o, ho⟩ : ∃ o, s.heap.get? a = some o := by
    have q := (I.hok a u e).lt
    rcases h : s.heap.get? a with _ | o
    · exfalso
      have z := I.hok a u e
      cases u with
      | lst xs => obtain ⟨_, _, _, _, z⟩ := z; rw [h] at z; cases z
      | tup xs => exact h1 _ rfl
      | dK kvs => obtain ⟨_, _, _, _, _, _, _, z, _⟩ := z; rw [h] at z; cases z
      | dT kvs => obtain ⟨_, _, _, _, _, _, _, z, _⟩ := z; rw [h] at z; cases z
      | set S n => obtain ⟨_, _, _, _, z, _⟩ := z; rw [h] at z; cases z
      | ins C dx fs => obtain ⟨_, _, _, z, _⟩ := z; rw [h] at z; cases z
      | own y => exact h4 _ rfl
      | xd fs => obtain ⟨_, ⟨_, _, _, z, _⟩, _⟩ := z; rw [h] at z; cases z
      | rng lo hi => obtain ⟨_, _, _, z⟩ := z; rw [h] at z; cases z
      | frz ob x => exact h2 _ _ rfl
      | tbl ps => exact h3 _ rfl
      | met f y => have z : s.heap.get? a = _ := z; rw [h] at z; cases z
      | ext φ => obtain ⟨_, ⟨_, z⟩, _⟩ := z; rw [h] at z; cases z
    · exact ⟨o, rfl⟩
  refine ⟨o, ?_⟩
  have ne : ∀ b x, H b = some x → x ≠ u → b ≠ a := fun b x q z w => by subst w; rw [e] at q; exact z (Option.some.inj q).symm
  have nn : ∀ b, H b = none → b ≠ a := fun b q w => by subst w; rw [e] at q; cases q
  have J := I.un (H' := upd H a (.frz o u)) (h' := s.heap) (t' := s.toks) ⟨fun b ob q _ _ _ => q, fun b ob q _ _ _ => ⟨ob.slots, q⟩, fun b ob q n _ => by rw [upd_ne (nn b n)]; exact n, fun b ob q _ => ⟨ob, q⟩, fun b xs q => by rw [upd_ne (ne b _ q (h1 xs).symm)]; exact q,
    fun b ob x q => by rw [upd_ne (ne b _ q (h2 ob x).symm)]; exact q, fun b ps q => ⟨#[], by rw [upd_ne (ne b _ q (h3 ps).symm), q]; simp⟩⟩ (fun b x q => by
      by_cases hb : b = a
      · subst hb
        rw [upd_same] at q; cases q
        refine ⟨ho, (I.hok b u e).stay (fun _ _ _ z => z) (fun c z => ?_) fun c xs z => ?_⟩
        · rw [upd_ne (ne c _ z (h4 b).symm)]; exact z
        · rw [upd_ne (ne c _ z (h1 xs).symm)]; exact z
      · rw [upd_ne hb] at q
        refine (I.hok b x q).stay (fun _ _ _ z => z) (fun c z => ?_) fun c xs z => ?_
        · rw [upd_ne (ne c _ z (h4 b).symm)]; exact z
        · rw [upd_ne (ne c _ z (h1 xs).symm)]; exact z)
  exact J
def frzO : Ob → Option D
  | .lst ds => some (.lst ds)
  | .dic ks ds => some (.dic ks ds)
  | _ => none
def dFrz (d : DE) : DE := fun ρ S Q => d ρ S fun v S' => ∃ l o w, v = .ref l ∧ S' l = some o ∧ frzO o = some w ∧ Q w (S'.del l)
theorem RS.freeze {M : Md} {io : Pl} {H : Hp} {S : Sto} {l : Nat} {o : Ob} {p : Addr × Addr} {ob : Obj} {u : HO} {w : D} (r : RS M io H S) (e : S l = some o) (hp : io[l]? = some p) (hu : H p.1 = some u) (hw : frzO o = some w) :
    RS M io (upd H p.1 (.frz ob u)) (S.del l) ∧ Stp io H io (upd H p.1 (.frz ob u)) ∧ RD M.K io (upd H p.1 (.frz ob u)) w (.ref p.1) := by
  obtain ⟨p', e1, h1⟩ := r.ob l o e
  rw [hp] at e1; cases e1
  obtain ⟨⟨u1, a1, b1, c1, d1⟩, _⟩ := h1.there
  rw [hu] at a1; cases a1
  have ne : ∀ b x, H b = some x → x ≠ u → b ≠ p.1 := fun b x q z w => by subst w; rw [hu] at q; exact z (Option.some.inj q).symm
  have st : Stp io H io (upd H p.1 (.frz ob u)) := ⟨⟨[], by simp⟩, fun a xs q => by rw [upd_ne (ne _ _ q (b1 xs).symm)]; exact q, fun a o2 x q => by rw [upd_ne (ne _ _ q (c1 o2 x).symm)]; exact q⟩
  refine ⟨⟨fun m o2 q => ?_, fun m m' o1 o2 p1 p2 q1 q2 hn z1 z2 => ?_, fun P hP => ?_, sz_upd r.sz (have z : SzO u := r.sz _ _ hu; z), r.bs.trans st⟩, st, ?_⟩
  · have hm : m ≠ l := fun z => by subst z; rw [Sto.del_same] at q; cases q
    rw [Sto.del_ne hm] at q
    obtain ⟨p2, e2, h2⟩ := r.ob m o2 q
    obtain ⟨s1, s2, s3, s4⟩ := r.sep m l o2 o p2 p q e hm e2 hp
    exact ⟨p2, e2, h2.keep st (upd_ne s1) (upd_ne s3)⟩
  · have hm : m ≠ l := fun z => by subst z; rw [Sto.del_same] at q1; cases q1
    have hm' : m' ≠ l := fun z => by subst z; rw [Sto.del_same] at q2; cases q2
    rw [Sto.del_ne hm] at q1
    rw [Sto.del_ne hm'] at q2
    exact r.sep m m' o1 o2 p1 p2 q1 q2 hn z1 z2
  · exact (r.tab P hP).keep st.frz fun ps h => by rw [upd_ne (ne _ _ h (d1 ps).symm)]; exact h
  · cases o with
    | lst ds =>
      cases hw
      obtain ⟨_, xs, h2, h3⟩ := h1
      rw [hu] at h2; cases h2
      exact ⟨p.1, xs, rfl, ⟨ob, upd_same⟩, h3.mono st⟩
    | dic ks ds =>
      cases hw
      obtain ⟨_, kvs, h2, h3, h4⟩ := h1
      rw [hu] at h2; cases h2
      exact ⟨p.1, ob, kvs, rfl, upd_same, h3, h4.mono st⟩
    | _ => cases hw
theorem q_frz {M : Md} {X : Cx} {a : Expr} {da : DE} (ha : QE M X a da) : QE M X a (dFrz da) := by
  refine ⟨fun pins s σ H Q I ⟨io, S, ρ, Qd, r, re, h, c⟩ => ?_⟩
  refine thn (ha.run pins s σ H (fun x H' => ∃ io' S' v, Stp io H io' H' ∧ RS M io' H' S' ∧ RD M.K io' H' v x ∧ ∃ l o w, v = .ref l ∧ S' l = some o ∧ frzO o = some w ∧ Qd w (S'.del l)) I
    ⟨io, S, ρ, _, r, re, h, fun i1 H1 S1 v x s1 r1 d1 q => ⟨i1, S1, v, s1, r1, d1, q⟩⟩) fun u s' ⟨x, H', I', rx, i1, S1, v, s1, r1, d1, l, o, w, ev, el, hw, q⟩ => ?_
  subst ev
  obtain ⟨p, e1, h1⟩ := r1.ob l o el
  obtain ⟨p', e2, ex⟩ := d1
  rw [e1] at e2; cases e2
  obtain ⟨⟨u1, a1, b1, c1, d1'⟩, _⟩ := h1.there
  have h4 : ∀ y, u1 ≠ .own y := by
    cases o with
    | lst ds => obtain ⟨_, xs, h2, _⟩ := h1; rw [a1] at h2; cases h2; simp
    | dic ks ds => obtain ⟨_, xs, h2, _⟩ := h1; rw [a1] at h2; cases h2; simp
    | _ => cases hw
  obtain ⟨ob, I2⟩ := inv_freeze I' a1 b1 c1 d1' h4
  obtain ⟨r2, s2, d2⟩ := r1.freeze (ob := ob) el e1 a1 hw
  refine ⟨x, _, I2, rx, ?_⟩
  subst ex
  exact c i1 _ _ w _ (s1.trans s2) r2 d2 q
def dNext : DS := fun E ρ S => E.nx ρ S
def dSeq (a b : DS) : DS := fun E ρ S => a { E with nx := fun ρ' S' => b E ρ' S' } ρ S
def dDrop (d : DE) : DS := fun E ρ S => d ρ S fun _ S' => E.nx ρ S'
def dRet (d : DE) : DS := fun E ρ S => d ρ S E.rt
def dRetN : DS := fun E _ S => E.rt .non S
def dIfS (t : DT) (a b : DS) : DS := fun E ρ S => t ρ S fun k S' => if k = true then a E ρ S' else b E ρ S'
def dBreak : DS := fun E ρ S => E.bk ρ S
def dSet (i : Nat) (d : DE) : DS := fun E ρ S => d ρ S fun v S' => E.nx (ρ.set i (some v)) S'
section
variable {M : Md} {X : Cx} {pos : Pos} {st : Stmt} {rest : List Stmt} {e : Expr} {d : DE} {t : DT} {a b : DS}
theorem s_never : QS M X st (fun _ _ _ => False) := PS.imp ps_never fun E σ H ⟨io, S, ρ, Ed, r, re, h, _⟩ => h
theorem ss_nil : QSs M X [] dNext := PSs.imp pss_nil fun E σ H ⟨io, S, ρ, Ed, r, re, h, c1, _⟩ => c1 io H S ρ σ (Stp.refl _ _) r re h
theorem ss_cons (h1 : QS M X st a) (h2 : QSs M X rest b) : QSs M X (st :: rest) (dSeq a b) :=
  PSs.imp (pss_cons h1 h2) fun E σ H ⟨io, S, ρ, Ed, r, re, h, c1, c2, c3, c4⟩ => ⟨io, S, ρ, _, r, re, h, fun i1 H1 S1 ρ1 σ1 s1 r1 re1 h1 => ⟨i1, S1, ρ1, Ed, r1, re1, h1, c1.to s1, c2.to s1, c3.to s1, c4.to s1⟩, c2, c3, c4⟩
theorem ss_one (h1 : QS M X st a) : QSs M X [st] a := pss_one h1
theorem s_expr (he : QE M X e d) (hs : swapsWith e none pos.line X.env = pure false := by rfl) : QS M X (.Expr e pos) (dDrop d) :=
  PS.imp (ps_expr he hs) fun E σ H ⟨io, S, ρ, Ed, r, re, h, c1, c2, c3, c4⟩ => ⟨io, S, ρ, _, r, re, h, fun i1 H1 S1 v x s1 r1 _ h1 => c1 i1 H1 S1 ρ σ s1 r1 (re.mono s1) h1⟩
theorem s_ret (he : QE M X e d) : QS M X (.Return (some e) pos) (dRet d) :=
  PS.imp (ps_ret he) fun E σ H ⟨io, S, ρ, Ed, r, re, h, c1, c2, c3, c4⟩ => ⟨io, S, ρ, _, r, re, h, c2⟩
theorem s_if {c : Expr} {as bs : List Stmt} (hc : QT M X c t) (ha : QSs M X as a) (hb : QSs M X bs b) : QS M X (.If c as bs pos) (dIfS t a b) :=
  PS.imp (ps_if hc ha hb) fun E σ H ⟨io, S, ρ, Ed, r, re, h, c1, c2, c3, c4⟩ => ⟨io, S, ρ, _, r, re, h, fun i1 H1 S1 k s1 r1 h1 => by
    cases k with
    | true => exact ⟨i1, S1, ρ, Ed, r1, re.mono s1, h1, c1.to s1, c2.to s1, c3.to s1, c4.to s1⟩
    | false => exact ⟨i1, S1, ρ, Ed, r1, re.mono s1, h1, c1.to s1, c2.to s1, c3.to s1, c4.to s1⟩⟩
theorem s_set {i : Nat} {x : Str} {pos' : Pos} (hN : X.N.Nodup) (hi : X.N[i]? = some x) (hx : Loc X.env.scope x) (he : QE M X e d) (hs : swapsWith e (some (.Name x pos')) pos.line X.env = pure false := by rfl)
    (hf : X.fn x = true ∨ X.env.scope.names.lookup x = some .local := by first | exact .inl rfl | exact .inr rfl | assumption) : QS M X (.Assign [.Name x pos'] e pos) (dSet i d) :=
  PS.imp (ps_set hN hi hx he hs hf) fun E σ H ⟨io, S, ρ, Ed, r, re, h, c1, c2, c3, c4⟩ => ⟨io, S, ρ, _, r, re, h, fun i1 H1 S1 v x s1 r1 d1 h1 => c1 i1 H1 S1 _ _ s1 r1 ((re.mono s1).set i d1) h1⟩
end
inductive Tg where
  | one (i : Nat)
  | many (is : List Nat)
def gMany : List Nat → TGs
  | [] => gNil
  | i :: is => gCons (gName i) (gMany is)
def Tg.g (K : PySem.W.Frag) : Tg → TG
  | .one i => gName i
  | .many is => gTup K is.length (gMany is)
def setsE : List Nat → List D → En → En
  | i :: is, d :: ds, ρ => setsE is ds (ρ.set i (some d))
  | _, _, ρ => ρ
def setsV : List Nat → List V → L2.St → L2.St
  | i :: is, x :: xs, σ => setsV is xs (σ.set i (some x))
  | _, _, σ => σ
def Tg.d (t : Tg) (v : D) (ρ : En) (Q : En → Prop) : Prop := match t with
  | .one i => Q (ρ.set i (some v))
  | .many is => ∃ ds, v = .tup ds ∧ ds.length = is.length ∧ Q (setsE is ds ρ)
def Tg.in_ (t : Tg) (vs : List Nat) : Prop := match t with
  | .one i => i ∈ vs
  | .many is => ∀ i ∈ is, i ∈ vs
theorem RE.sets {K : PySem.W.Frag} {io : Pl} {H : Hp} : ∀ (is : List Nat) {ds : List D} {xs : List V} {ρ : En} {σ : L2.St}, RE K io H ρ σ → RDs K io H ds xs → RE K io H (setsE is ds ρ) (setsV is xs σ)
  | [], _, _, _, _, r, _ => r
  | i :: is, [], _, _, _, r, h => by rw [show _ = _ from h]; exact r
  | i :: is, d :: ds, _, _, _, r, h => by
    obtain ⟨x, xs, rfl, h1, h2⟩ := h
    exact RE.sets is (r.set i h1) h2
theorem gMany_of : ∀ (is : List Nat) {xs : List V} {σ : L2.St} {H : Hp} {Q : L2.St → Hp → Prop}, xs.length = is.length → Q (setsV is xs σ) H → gMany is xs σ H Q
  | [], xs, _, _, _, hl, q => by
    have e : xs = [] := List.eq_nil_of_length_eq_zero hl
    subst e
    exact ⟨rfl, q⟩
  | i :: is, [], _, _, _, hl, q => by simp at hl
  | i :: is, x :: xs, _, _, _, hl, q => ⟨x, xs, rfl, gMany_of is (by simpa using hl) q⟩
theorem tg_sim {M : Md} {io : Pl} {H : Hp} {t : Tg} {v : D} {x : V} {ρ : En} {σ : L2.St} {Qe : En → Prop} {Q : L2.St → Hp → Prop} (re : RE M.K io H ρ σ) (h : RD M.K io H v x) (q : t.d v ρ Qe)
    (k : ∀ ρ' σ', RE M.K io H ρ' σ' → Qe ρ' → (∀ vs, t.in_ vs → wipe σ' vs = wipe σ vs) → Q σ' H) : t.g M.K x σ H Q := by
  have w0 : ∀ (vs : List Nat) (σ : L2.St) (i : Nat) (x : Option V), wipe (σ.set i x) vs = if i ∈ vs then wipe σ vs else (wipe σ vs).set i x := fun vs => by
    induction vs with
    | nil => intro σ i x; simp [wipe]
    | cons j vs ih =>
      intro σ i x
      show (wipe (σ.set i x) vs).set j none = _
      rw [ih]
      by_cases h1 : i ∈ vs
      · rw [if_pos h1, if_pos (List.mem_cons_of_mem _ h1)]; rfl
      · rw [if_neg h1]
        by_cases e : i = j
        · subst e
          rw [if_pos List.mem_cons_self, List.set_set]; rfl
        · rw [if_neg (fun z => (List.mem_cons.mp z).elim e h1), List.set_comm _ _ e]; rfl
  have w1 : ∀ (σ : L2.St) (i : Nat) (x : V) (vs : List Nat), i ∈ vs → wipe (σ.set i (some x)) vs = wipe σ vs := fun σ i x vs hi => by rw [w0, if_pos hi]
  have wm : ∀ (is : List Nat) (σ : L2.St) (xs : List V) (vs : List Nat), (∀ i ∈ is, i ∈ vs) → wipe (setsV is xs σ) vs = wipe σ vs := fun is => by
    induction is with
    | nil => intro σ xs vs _; rfl
    | cons i is ih =>
      intro σ xs vs hi
      cases xs with
      | nil => rfl
      | cons x xs =>
        show wipe (setsV is xs (σ.set i (some x))) vs = _
        rw [ih _ _ _ fun j hj => hi j (List.mem_cons_of_mem _ hj), w1 _ _ _ _ (hi i List.mem_cons_self)]
  cases t with
  | one i => exact k _ _ (re.set i h) q fun vs hi => w1 _ _ _ _ hi
  | many is =>
    obtain ⟨ds, rfl, hl, q⟩ := q
    obtain ⟨a, xs, rfl, s, r⟩ := h
    exact ⟨a, xs, rfl, SqT.of s, by rw [r.len, hl], gMany_of is (by rw [r.len, hl]) (k _ _ (re.sets is r) q fun vs hi => wm is σ xs vs hi)⟩
end L3
end
section
set_option Elab.async false
set_option linter.all false
set_option maxRecDepth 100000
set_option maxHeartbeats 2000000
namespace L3
open PySem PySem.Spec PyProof.Rows L2

abbrev Gs := List (Nat × Ob)
def Gs.ok (gs : Gs) (S : Sto) : Prop := ∀ g ∈ gs, S g.1 = some g.2
theorem Gs.ok_nil {S : Sto} : Gs.ok [] S := fun _ h => by simp at h
theorem Gs.ok_sub {gs : Gs} {S S' : Sto} (h : gs.ok S) (s : S.sub S') : gs.ok S' := fun g hg => s _ _ (h g hg)
structure ItOk (M : Md) (J : It) (ds : List D) (gs : Gs) (io : Pl) (H : Hp) : Prop where
  go : ∀ (io2 : Pl) (H2 : Hp) (S2 : Sto) (i : Nat) (d : D), Stp io H io2 H2 → RS M io2 H2 S2 → gs.ok S2 → ds[i]? = some d → J.go i H2 ∧ ∀ x H3, J.yld i H2 x H3 → ∃ io3, Stp io2 H2 io3 H3 ∧ RS M io3 H3 S2 ∧ RD M.K io3 H3 d x
  stop : ∀ (io2 : Pl) (H2 : Hp) (S2 : Sto), Stp io H io2 H2 → RS M io2 H2 S2 → gs.ok S2 → J.stop ds.length H2
abbrev DI := En → Sto → (List D → Gs → Sto → Prop) → Prop
def liftI (M : Md) (di : DI) : TI := fun σ H R => ∃ io S ρ Rd, RS M io H S ∧ RE M.K io H ρ σ ∧ di ρ S Rd ∧ ∀ io' H' S' J ds gs, Stp io H io' H' → RS M io' H' S' → ItOk M J ds gs io' H' → Rd ds gs S' → R J H'
abbrev QI (M : Md) (X : Cx) (tg e : Expr) (d : DI) : Prop := PI X tg e (liftI M d)
theorem PI.imp {X : Cx} {tg e : Expr} {t t' : TI} (h : PI X tg e t) (k : ∀ σ H R, t' σ H R → t σ H R) : PI X tg e t' := ⟨fun pins s σ H R I q => h.run pins s σ H R I (k σ H R q)⟩

def gsOf (v : D) (o : Ob) : Gs := match v with
  | .ref l => [(l, o)]
  | _ => []
section
variable {M : Md} {io : Pl} {H : Hp} {S : Sto}
theorem lst_src (r : RS M io H S) {v : D} {x : V} {ds : List D} (h : RD M.K io H v x) (e : lstD S v = some ds) :
    ∃ a, x = .ref a ∧ ∀ (io2 : Pl) (H2 : Hp) (S2 : Sto), Stp io H io2 H2 → RS M io2 H2 S2 → (gsOf v (.lst ds)).ok S2 → ∃ xs, SqL M.K H2 a xs ∧ RDs M.K io2 H2 ds xs := by
  cases v with
  | lst ds' =>
    cases e
    obtain ⟨a, xs, e1, h1, h2⟩ := h
    exact ⟨a, e1, fun io2 H2 S2 st _ _ => ⟨xs, (st.fzL h1).sq, h2.mono st⟩⟩
  | kl ds' =>
    cases e
    obtain ⟨a, xs, e1, h1, h2⟩ := h
    exact ⟨a, e1, fun io2 H2 S2 st _ _ => ⟨xs, .inr h1, h2.mono st⟩⟩
  | ref l =>
    obtain ⟨p, e1, e2⟩ := h
    refine ⟨p.1, e2, fun io2 H2 S2 st r2 g => ?_⟩
    have g' : S2 l = some (.lst ds) := g (l, .lst ds) (by simp [gsOf])
    obtain ⟨a, xs, e3, _, h1, h2⟩ := r2.lst (x := .ref p.1) g' ⟨p, st.at_ e1, rfl⟩
    cases e3
    exact ⟨xs, SqL.of h1, h2⟩
  | _ => cases e
theorem tup_src {ds : List D} {x : V} (h : ∃ a xs, x = .ref a ∧ SqT M.K H a xs ∧ RDs M.K io H ds xs) :
    ∃ a xs, x = .ref a ∧ ∀ (io2 : Pl) (H2 : Hp), Stp io H io2 H2 → SqT M.K H2 a xs ∧ RDs M.K io2 H2 ds xs := by
  obtain ⟨a, xs, e1, h1, h2⟩ := h
  exact ⟨a, xs, e1, fun io2 H2 st => ⟨st.sqT h1, h2.mono st⟩⟩
theorem itl_ok {a : Addr} {ds : List D} {gs : Gs} (h : ∀ (io2 : Pl) (H2 : Hp) (S2 : Sto), Stp io H io2 H2 → RS M io2 H2 S2 → gs.ok S2 → ∃ xs, SqL M.K H2 a xs ∧ RDs M.K io2 H2 ds xs) : ItOk M (Itl M.K a) ds gs io H where
  go := fun io2 H2 S2 i d st r g e => by
    obtain ⟨xs, h1, h2⟩ := h io2 H2 S2 st r g
    obtain ⟨x, e1, h3⟩ := h2.get e
    refine ⟨⟨xs, x, h1, e1⟩, fun y H3 ⟨e2, q⟩ => ?_⟩
    subst e2
    have := q xs h1
    rw [e1] at this; cases this
    exact ⟨io2, Stp.refl _ _, r, h3⟩
  stop := fun io2 H2 S2 st r g => by
    obtain ⟨xs, h1, h2⟩ := h io2 H2 S2 st r g
    exact ⟨xs, h1, by rw [h2.len]; exact Nat.le_refl _⟩
theorem itt_ok {a : Addr} {ds : List D} {xs : List V} (h : ∀ (io2 : Pl) (H2 : Hp), Stp io H io2 H2 → SqT M.K H2 a xs ∧ RDs M.K io2 H2 ds xs) : ItOk M (Itt M.K a) ds [] io H where
  go := fun io2 H2 S2 i d st r g e => by
    obtain ⟨h1, h2⟩ := h io2 H2 st
    obtain ⟨x, e1, h3⟩ := h2.get e
    refine ⟨⟨xs, x, h1, e1⟩, fun y H3 ⟨e2, q⟩ => ?_⟩
    subst e2
    have := q xs h1
    rw [e1] at this; cases this
    exact ⟨io2, Stp.refl _ _, r, h3⟩
  stop := fun io2 H2 S2 st r g => by
    obtain ⟨h1, h2⟩ := h io2 H2 st
    exact ⟨xs, h1, by rw [h2.len]; exact Nat.le_refl _⟩
theorem itr_ok {lo : Int} {n : Nat} : ItOk M (Itr lo n) ((List.range n).map fun i : Nat => D.int (lo + i)) [] io H where
  go := fun io2 H2 S2 i d st r g e => by
    rw [List.getElem?_map] at e
    have hi : i < n := by
      by_cases hi : i < n
      · exact hi
      · rw [List.getElem?_eq_none (by simpa using hi)] at e; cases e
    rw [List.getElem?_range hi] at e
    cases e
    exact ⟨hi, fun x H3 ⟨e1, e2⟩ => by subst e1 e2; exact ⟨io2, Stp.refl _ _, r, rfl⟩⟩
  stop := fun io2 H2 S2 st r g => by
    show n ≤ _
    simp
theorem pair_new {x y : V} {d e : D} {T : Addr} (r : RS M io H S) (hT : H T = none) (h1 : RD M.K io H d x) (h2 : RD M.K io H e y) : ∃ io3, Stp io H io3 (upd H T (.tup [x, y])) ∧ RS M io3 (upd H T (.tup [x, y])) S ∧ RD M.K io3 (upd H T (.tup [x, y])) (.tup [d, e]) (.ref T) := by
  obtain ⟨r2, s2⟩ := r.keepNew (u := .tup [x, y]) hT (by show 2 ≤ sizeLine; decide)
  exact ⟨io, s2, r2, T, [x, y], rfl, upd_same, RDs.cons (h1.mono s2) (RDs.one (h2.mono s2))⟩
end
section
variable {M : Md} {X : Cx} {tg e e2 : Expr} {d d2 : DE} {da : DA} {pos p : Pos}
def iSeq (d : DE) : DI := fun ρ S R => d ρ S fun v S' => ∃ ds, seqD S' v = some ds ∧ R ds (gsOf v (.lst ds)) S'
theorem q_iSeq (hM : M.K = X.K) (he : QE M X e d) : QI M X tg e (iSeq d) := by
  refine ⟨fun pins s σ H R I ⟨io, S, ρ, Rd, r, re, h, c⟩ => ?_⟩
  refine thn (he.run pins s σ H (fun x H1 => ∃ io1 S1 v, Stp io H io1 H1 ∧ RS M io1 H1 S1 ∧ RD M.K io1 H1 v x ∧ ∃ ds, seqD S1 v = some ds ∧ Rd ds (gsOf v (.lst ds)) S1) I
    ⟨io, S, ρ, _, r, re, h, fun i1 H1 S1 v x s1 r1 d1 q => ⟨i1, S1, v, s1, r1, d1, q⟩⟩) fun v s1 ⟨x, H1, I1, r1, i1, S1, w, st1, rs1, d1, ds, e1, q1⟩ => ?_
  have fin : ∀ {J : It} {tn : Nat → Heap → Prop} (o : Obj), Turn X.prog X.w X.K tg J [s1.heap.objs.size] s1.heap.objs.size tn → tn 0 (s1.heap.push o) → ItOk M J ds (gsOf w (.lst ds)) i1 H1 → PIE X pins σ tg R (.ref s1.heap.objs.size) { s1 with heap := s1.heap.push o } := fun {J tn} o T t0 ok => by
    refine ⟨s1.heap.objs.size, [s1.heap.objs.size], tn, J, H1, rfl, I1.kept (t' := s1.toks) fun b o e => Heap.get?_push_of_some _ e, T, t0, fun b hb => ?_, c i1 H1 S1 J ds _ st1 rs1 ok q1⟩
    have e : b = s1.heap.objs.size := by simpa using hb
    subst e
    exact I1.fpOk (Nat.le_refl _) (I1.hok.fresh (Nat.le_refl _))
  have lst : ∀ {ds' : List D}, lstD S1 w = some ds' → ds' = ds → wpAny (model X.prog X.w) X.A (pyIter v) (PIE X pins σ tg R) X.xe s1 := fun {ds'} e2 e3 => by
    subst e3
    obtain ⟨a, ex, hs⟩ := lst_src rs1 d1 e2
    subst ex
    cases r1
    obtain ⟨a', xs, ex, hq, _⟩ := lst_of rs1 d1 e2
    cases ex
    rw [hM] at hq
    obtain ⟨its, rv, p, hz⟩ := I1.list hq
    refine wpAny_pyIter_list p.isList (fin _ (turn_list a _) ⟨_, Heap.get?_push_size _ rfl, rfl, rfl⟩ ?_)
    rw [← hM]; exact itl_ok hs
  cases w with
  | tup ds' =>
    cases e1
    obtain ⟨a, xs, ex, hs⟩ := tup_src d1.tup_sq
    subst ex
    cases r1
    have hq := (hs i1 H1 (Stp.refl _ _)).1
    rw [hM] at hq
    obtain ⟨its, rv, p, hz⟩ := I1.tuple hq
    refine wpAny_pyIter_tuple (show s1.heap.IsTuple a its.toArray from p) (fin _ (turn_tuple a _) ⟨_, Heap.get?_push_size _ rfl, rfl, rfl⟩ ?_)
    rw [← hM]; exact itt_ok hs
  | lst ds' => exact lst rfl (Option.some.inj e1)
  | kl ds' => exact lst rfl (Option.some.inj e1)
  | kt ds' =>
    cases e1
    obtain ⟨a, xs, ex, hs⟩ := tup_src d1.kt_sq
    subst ex
    cases r1
    have hq := (hs i1 H1 (Stp.refl _ _)).1
    rw [hM] at hq
    obtain ⟨its, rv, p, hz⟩ := I1.tuple hq
    refine wpAny_pyIter_tuple (show s1.heap.IsTuple a its.toArray from p) (fin _ (turn_tuple a _) ⟨_, Heap.get?_push_size _ rfl, rfl, rfl⟩ ?_)
    rw [← hM]; exact itt_ok hs
  | ref l => exact lst (ds' := ds) e1 rfl
  | _ => cases e1
def iR1 (d : DA) : DI := fun ρ S R => d ρ S fun ds S' => ∃ j : Int, ds = [.int j] ∧ (-(2 ^ 62) ≤ j ∧ j < 2 ^ 62) ∧ R ((List.range j.toNat).map fun i : Nat => D.int i) [] S'
theorem q_range1 {a : Expr} (hg : Gl X "range") (hm : X.mg "range" = none) (ha : QA M X [a] da) (hs : starEach [a] X.env = [(false, eval a X.env)] := by rfl) : QI M X tg (.Call (.Name "range" p) [a] [] pos) (iR1 da) :=
  PI.imp (pi_range1 hg hm ha hs) fun σ H R ⟨io, S, ρ, Rd, r, re, h, c⟩ => ⟨io, S, ρ, _, r, re, h, fun i1 H1 S1 ds xs s1 r1 d1 ⟨j, e, ⟨b1, b2⟩, q⟩ => by
    subst e
    obtain ⟨x, t, rfl, hx, ht⟩ := d1
    have ht : t = [] := ht
    have hx : x = .int j := hx
    subst ht hx
    refine ⟨j, rfl, b1, b2, c i1 H1 S1 _ _ [] s1 r1 ?_ q⟩
    have z := itr_ok (M := M) (io := i1) (H := H1) (lo := 0) (n := j.toNat)
    simpa using z⟩
def iR2 (d : DA) : DI := fun ρ S R => d ρ S fun ds S' => ∃ i j : Int, ds = [.int i, .int j] ∧ (-(2 ^ 62) ≤ i ∧ i < 2 ^ 62 ∧ -(2 ^ 62) ≤ j ∧ j < 2 ^ 62) ∧ R ((List.range (j - i).toNat).map fun k : Nat => D.int (i + k)) [] S'
def iEn (d : DA) : DI := fun ρ S R => d ρ S fun vs S' => ∃ v ds, vs = [v] ∧ lstD S' v = some ds ∧ R ((List.range ds.length).zip ds |>.map fun p => D.tup [.int p.1, p.2]) (gsOf v (.lst ds)) S'
theorem q_enum {elts : List Expr} {kk : Nat} {tpos : Pos} (hM : M.K = X.K) (hg : Gl X "enumerate") (hm : X.mg "enumerate" = none) (ha : QA M X [e] da) (hs : starEach [e] X.env = [(false, eval e X.env)] := by rfl) :
    QI M X (.Tuple elts kk tpos) (.Call (.Name "enumerate" p) [e] [] pos) (iEn da) :=
  PI.imp (pi_enum hg hm ha hs) fun σ H R ⟨io, S, ρ, Rd, r, re, h, c⟩ => ⟨io, S, ρ, _, r, re, h, fun i1 H1 S1 vs xs s1 r1 d1 ⟨v, ds, e1, e2, q⟩ => by
    subst e1
    obtain ⟨x, t, rfl, hx, ht⟩ := d1
    have ht : t = [] := ht
    subst ht
    obtain ⟨a, ex, src⟩ := lst_src r1 hx e2
    subst ex
    obtain ⟨a', xs, ex, hq, _⟩ := lst_of r1 hx e2
    cases ex
    refine ⟨a, xs, rfl, by rw [← hM]; exact hq, c i1 H1 S1 _ _ _ s1 r1 ⟨fun io2 H2 S2 i d st r2 g ed => ?_, fun io2 H2 S2 st r2 g => ?_⟩ q⟩
    · obtain ⟨ys, h1, h2⟩ := src io2 H2 S2 st r2 g
      rw [List.getElem?_map] at ed
      cases ei : ds[i]? with
      | none =>
        have : ds.length ≤ i := List.getElem?_eq_none_iff.mp ei
        rw [List.getElem?_eq_none (by simpa using this)] at ed; cases ed
      | some d0 =>
        have hi : i < ds.length := (List.getElem?_eq_some_iff.mp ei).1
        have ez : ((List.range ds.length).zip ds)[i]? = some (i, d0) := List.getElem?_zip_eq_some.mpr ⟨List.getElem?_range hi, ei⟩
        rw [ez] at ed
        cases ed
        obtain ⟨y, e3, h3⟩ := h2.get ei
        refine ⟨⟨ys, y, by rw [← hM]; exact h1, e3⟩, fun z H3 ⟨T, y', e4, hT, e5, hy⟩ => ?_⟩
        have := hy ys (by rw [← hM]; exact h1)
        rw [e3] at this; cases this
        subst e4 e5
        exact pair_new r2 hT (d := .int i) rfl h3
    · obtain ⟨ys, h1, h2⟩ := src io2 H2 S2 st r2 g
      exact ⟨ys, by rw [← hM]; exact h1, by rw [h2.len]; simp⟩⟩
end
def forW (gs : Gs) (t : Tg) (body : DS) (E : DEnds) : List D → En → Sto → Prop
  | [], ρ, S => gs.ok S ∧ E.nx ρ S
  | d :: ds, ρ, S => gs.ok S ∧ t.d d ρ fun ρ1 => body { E with nx := fun ρ2 S2 => ∃ ρ3 S3, Wk ρ3 ρ2 ∧ S3.sub S2 ∧ forW gs t body E ds ρ3 S3, ct := fun ρ2 S2 => ∃ ρ3 S3, Wk ρ3 ρ2 ∧ S3.sub S2 ∧ forW gs t body E ds ρ3 S3, bk := E.nx } ρ1 S
def dFor (di : DI) (t : Tg) (body : DS) : DS := fun E ρ S => di ρ S fun ds gs S1 => forW gs t body E ds ρ S1
theorem q_for {M : Md} {X : Cx} {tg iter : Expr} {body : List Stmt} {di : DI} {t : Tg} {b : DS} {pos : Pos} (hM : M.K = X.K) (hp : PassesOwn (model X.prog X.w) X.A X.env X.xe) (hc : X.calm = true) (hi : QI M X tg iter di) (hg : PG X tg (t.g X.K)) (hb : QSs M X body b)
    (hs : ∀ x, foldedSetIterable iter X.env x = pure x := by intro _; rfl) : QS M X (.For tg iter body [] pos) (dFor di t b) :=
  PS.imp (ps_for hp hc hi hg hb hs) fun E σ H ⟨io, S, ρ, Ed, r, re, h, c1, c2, c3, c4⟩ => ⟨io, S, ρ, _, r, re, h, fun i1 H1 S1 J ds gs s1 r1 ok q => by
    refine ⟨fun i m σ' H' => m = ds.length - i ∧ i ≤ ds.length ∧ ∃ io2 S2 ρ2, Stp i1 H1 io2 H' ∧ RS M io2 H' S2 ∧ RE M.K io2 H' ρ2 σ' ∧ forW gs t b Ed (ds.drop i) ρ2 S2, ⟨ds.length, by simp, Nat.zero_le _, i1, S1, ρ, Stp.refl _ _, r1, re.mono s1, by simpa using q⟩, ?_⟩
    rintro i m σ2 H2 ⟨rfl, hi, io2, S2, ρ2, st2, r2, re2, q2⟩
    by_cases hlt : i < ds.length
    · have ed : ds[i]? = some ds[i] := List.getElem?_eq_getElem hlt
      rw [List.drop_eq_getElem_cons hlt] at q2
      obtain ⟨g2, q2⟩ := q2
      obtain ⟨go, yl⟩ := ok.go io2 H2 S2 i _ st2 r2 g2 ed
      refine .inr ⟨go, fun σ' H' => ∃ io3 S3 ρ3, Stp i1 H1 io3 H' ∧ RS M io3 H' S3 ∧ RE M.K io3 H' ρ3 σ' ∧ forW gs t b Ed (ds.drop (i + 1)) ρ3 S3, fun σ' H' z => ⟨ds.length - (i + 1), by omega, rfl, hlt, z⟩, fun x H3 y => ?_⟩
      obtain ⟨io3, st3, r3, d3⟩ := yl x H3 y
      have stb : Stp io H io3 H3 := s1.trans (st2.trans st3)
      have nx : CoS M io3 H3 σ2 (fun ρ2 S2 => ∃ ρ3 S3, Wk ρ3 ρ2 ∧ S3.sub S2 ∧ forW gs t b Ed (ds.drop (i + 1)) ρ3 S3) fun σ' H' => ∃ io3 S3 ρ3, Stp i1 H1 io3 H' ∧ RS M io3 H' S3 ∧ RE M.K io3 H' ρ3 σ' ∧ forW gs t b Ed (ds.drop (i + 1)) ρ3 S3 :=
        fun io4 H4 S4 ρ4 σ4 st4 r4 re4 ⟨ρ5, S5, w5, s5, q5⟩ => ⟨io4, S5, ρ5, (st2.trans st3).trans st4, r4.sub s5, re4.wk w5, q5⟩
      rw [← hM]
      refine tg_sim (re2.mono st3) d3 q2 fun ρ4 σ4 re4 q4 _ => ?_
      exact ⟨io3, S2, ρ4, _, r3, re4, q4, nx, c2.to stb, c1.to stb, nx⟩
    · have e : i = ds.length := by omega
      subst e
      rw [List.drop_length] at q2
      obtain ⟨g2, q2⟩ := q2
      exact .inl ⟨ok.stop io2 H2 S2 st2 r2 g2, c1 io2 H2 S2 ρ2 σ2 (s1.trans st2) r2 re2 q2⟩⟩
def whileW (t : DT) (body : DS) (E : DEnds) : Nat → En → Sto → Prop
  | 0, _, _ => False
  | n + 1, ρ, S => t ρ S fun k S' => if k = true then body { E with nx := fun ρ2 S2 => ∃ ρ3 S3, Wk ρ3 ρ2 ∧ S3.sub S2 ∧ whileW t body E n ρ3 S3, ct := fun ρ2 S2 => ∃ ρ3 S3, Wk ρ3 ρ2 ∧ S3.sub S2 ∧ whileW t body E n ρ3 S3, bk := E.nx } ρ S' else E.nx ρ S'
def dWhile (t : DT) (body : DS) : DS := fun E ρ S => ∃ n, whileW t body E n ρ S
end L3
end
section
set_option Elab.async false
set_option linter.all false
set_option maxRecDepth 100000
set_option maxHeartbeats 2000000
namespace L3
open PySem PySem.Spec PyProof.Rows L2

def wipeD (ρ : En) : List Nat → En
  | [] => ρ
  | v :: vs => (wipeD ρ vs).set v none
theorem RE.wipe {K : PySem.W.Frag} {io : Pl} {H : Hp} {ρ : En} {σ : L2.St} (r : RE K io H ρ σ) : ∀ vs : List Nat, RE K io H (wipeD ρ vs) (L2.wipe σ vs)
  | [] => r
  | v :: vs => by
    have ih := RE.wipe r vs
    refine ⟨by simp [wipeD, L2.wipe, ih.1], fun i d e => ?_⟩
    have hi : i ≠ v := fun z => by
      subst z
      have e' : ((wipeD ρ vs).set i none)[i]? = some (some d) := e
      by_cases hl : i < (wipeD ρ vs).length
      · rw [List.getElem?_set_self hl] at e'; cases e'
      · rw [List.getElem?_eq_none (by simpa using hl)] at e'; cases e'
    have e' : ((wipeD ρ vs).set v none)[i]? = some (some d) := e
    rw [List.getElem?_set_ne (Ne.symm hi)] at e'
    obtain ⟨x, e1, h⟩ := ih.2 i d e'
    exact ⟨x, by show ((L2.wipe σ vs).set v none)[i]? = _; rw [List.getElem?_set_ne (Ne.symm hi)]; exact e1, h⟩
theorem wipe_get (σ : L2.St) : ∀ (vs : List Nat) (i : Nat), (L2.wipe σ vs)[i]? = if i ∈ vs then σ[i]?.map (fun _ => none) else σ[i]?
  | [], i => by simp [L2.wipe]
  | v :: vs, i => by
    show ((L2.wipe σ vs).set v none)[i]? = _
    rw [List.getElem?_set, wipe_get σ vs i, wipe_length]
    by_cases h : v = i
    · subst h
      simp only [List.mem_cons, true_or, if_true]
      by_cases hl : v < σ.length
      · rw [if_pos hl, List.getElem?_eq_getElem hl]; rfl
      · rw [if_neg hl, List.getElem?_eq_none (by omega)]; rfl
    · rw [if_neg h]
      have : (i ∈ v :: vs) ↔ (i ∈ vs) := by
        rw [List.mem_cons]
        exact ⟨fun z => z.elim (fun z => absurd z.symm h) id, .inr⟩
      simp only [this]
theorem wipe_twice (σ : L2.St) (vs : List Nat) : L2.wipe (L2.wipe σ vs) vs = L2.wipe σ vs := by
  apply List.ext_getElem?
  intro i
  rw [wipe_get, wipe_get]
  by_cases h : i ∈ vs
  · rw [if_pos h, if_pos h]
    cases σ[i]? <;> rfl
  · rw [if_neg h]
theorem lst_len {M : Md} {io : Pl} {H : Hp} {S : Sto} (r : RS M io H S) {v : D} {x : V} {ds : List D} (h : RD M.K io H v x) (e : seqD S v = some ds) : ds.length ≤ sizeLine := by
  obtain ⟨a, xs, _, s, rr⟩ := seq_of r h e
  rw [← rr.len]
  rcases s with s | s
  · exact r.lenL s
  · exact r.lenT s
def compW (gs : Gs) (t : Tg) (tt : DT) (te : DE) (ρ : En) (Q : List D → Sto → Prop) : List D → List D → Sto → Prop
  | [], acc, S => gs.ok S ∧ Q acc S
  | d :: ds, acc, S => gs.ok S ∧ acc.length < sizeLine ∧ ∀ l o, S l = none → t.d d ρ fun ρ1 => tt ρ1 (S.set l o) fun b S2 =>
      if b = true then te ρ1 S2 fun v S3 => S3 l = some o ∧ ∃ S4, S4.sub (S3.del l) ∧ compW gs t tt te ρ Q ds (acc ++ [v]) S4
      else S2 l = some o ∧ ∃ S4, S4.sub (S2.del l) ∧ compW gs t tt te ρ Q ds acc S4
def dLc (di : DI) (t : Tg) (tt : DT) (te : DE) (vs : List Nat) : DE := fun ρ S Q => di ρ S fun ds gs S1 => compW gs t tt te (wipeD ρ vs) (fun acc S2 => ∀ l, S2 l = none → Q (.ref l) (S2.set l (.lst acc))) ds [] S1
def dYes : DT := fun _ S Q => Q true S
abbrev QTs (M : Md) (X : Cx) (ifs : List Expr) (d : DT) : Prop := PTs X ifs (liftT M d)
theorem q_noif {M : Md} {X : Cx} : QTs M X [] dYes := ⟨fun pins s σ H Q I ⟨io, S, ρ, Qd, r, re, h, c⟩ => pts_nil.run pins s σ H Q I (c.here r h)⟩
theorem q_if1 {M : Md} {X : Cx} {c : Expr} {t : DT} (h : QT M X c t) : QTs M X [c] t := pts_one h
section
variable {M : Md} {di : DI} {t : Tg} {tt : DT} {te : DE} {vs : List Nat} {K : PySem.W.Frag}
theorem lc_sim (hM : M.K = K) (hv : t.in_ vs) : ∀ σ H Q, lift M (dLc di t tt te vs) σ H Q → tLc (liftI M di) (t.g K) (liftT M tt) (lift M te) vs σ H Q :=
  fun σ H Q ⟨io, S, ρ, Qd, r, re, h, c⟩ => ⟨io, S, ρ, _, r, re, h, fun i1 H1 S1 J ds gs s1 r1 ok q D hD => by
    -- the new list takes a place of its own
    obtain ⟨r2, s2, f2, at2⟩ := r1.new (u := .lst []) (o := .lst []) hD (Nat.zero_le _) ⟨rfl, [], upd_same, RDs.nil⟩
    refine ⟨fun i m H' => m = ds.length - i ∧ i ≤ ds.length ∧ ∃ io2 S2 acc, Stp (i1 ++ [(D, D)]) (upd H1 D (.lst [])) io2 H' ∧ RS M io2 H' (S2.set i1.length (.lst acc)) ∧ S2 i1.length = none ∧ compW gs t tt te (wipeD ρ vs) (fun acc S2 => ∀ l, S2 l = none → Qd (.ref l) (S2.set l (.lst acc))) (ds.drop i) acc S2,
      ⟨ds.length, by simp, Nat.zero_le _, _, S1, [], Stp.refl _ _, r2, f2, by simpa using q⟩, ?_⟩
    rintro i m H2 ⟨rfl, hi, io2, S2, acc, st2, r2, n2, q2⟩
    have sg : S2.sub (S2.set i1.length (.lst acc)) := Sto.sub_set n2
    have atD : ∀ {io3 : Pl} {H3 : Hp}, Stp io2 H2 io3 H3 → io3[i1.length]? = some (D, D) := fun st => st.at_ (st2.at_ at2)
    by_cases hlt : i < ds.length
    · have ed : ds[i]? = some ds[i] := List.getElem?_eq_getElem hlt
      rw [List.drop_eq_getElem_cons hlt] at q2
      obtain ⟨g2, hz, q2⟩ := q2
      obtain ⟨go, yl⟩ := ok.go io2 H2 _ i _ (s2.trans st2) r2 (Gs.ok_sub g2 sg) ed
      refine .inr ⟨go, fun H' => ∃ io3 S3 acc, Stp (i1 ++ [(D, D)]) (upd H1 D (.lst [])) io3 H' ∧ RS M io3 H' (S3.set i1.length (.lst acc)) ∧ S3 i1.length = none ∧ compW gs t tt te (wipeD ρ vs) (fun acc S2 => ∀ l, S2 l = none → Qd (.ref l) (S2.set l (.lst acc))) (ds.drop (i + 1)) acc S3,
        fun H' z => ⟨ds.length - (i + 1), by omega, rfl, hlt, z⟩, fun x H3 y => ?_⟩
      obtain ⟨io3, st3, r3, d3⟩ := yl x H3 y
      have q3 := q2 i1.length (.lst acc) n2
      have stb : Stp io H io3 H3 := (s1.trans s2).trans (st2.trans st3)
      rw [← hM]
      refine tg_sim ((re.mono stb).wipe vs) d3 q3 fun ρ4 σ4 re4 q4 hw => ⟨(hw vs hv).trans (wipe_twice σ vs), ?_⟩
      refine ⟨io3, _, ρ4, _, r3, re4, q4, fun io5 H5 S5 b st5 r5 q5 => ?_⟩
      cases b with
      | true =>
        rw [if_pos rfl] at q5 ⊢
        refine ⟨io5, S5, ρ4, _, r5, re4.mono st5, q5, fun io6 H6 S6 v z st6 r6 d6 ⟨e6, S7, s7, q7⟩ => ?_⟩
        have a6 : io6[i1.length]? = some (D, D) := atD ((st3.trans st5).trans st6)
        obtain ⟨p, ep, e8, xs, hx, rx⟩ := r6.ob _ _ e6
        rw [a6] at ep; cases ep
        have hlen : xs.length < sizeLine := by rw [rx.len]; exact hz
        obtain ⟨r8, s8⟩ := r6.put (H' := upd H6 D (.lst (xs ++ [z]))) (o' := .lst (acc ++ [v])) e6 a6 (fun b h1 _ => upd_ne h1)
          (fun u hu => by
            have : upd H6 D (.lst (xs ++ [z])) D = some u := hu.elim id id
            rw [upd_same] at this; cases this
            show (xs ++ [z]).length ≤ sizeLine
            simp; omega)
          fun st => ⟨rfl, _, upd_same, (rx.mono st).app (RDs.one (d6.mono st))⟩
        refine ⟨xs, hx, hlen, _, S7, acc ++ [v], ((st2.trans st3).trans (st5.trans st6)).trans s8, r8.sub fun l o e => ?_, ?_, q7⟩
        · by_cases hl : l = i1.length
          · subst hl; rw [Sto.set_same] at e ⊢; exact e
          · rw [Sto.set_ne hl] at e ⊢
            have := s7 l o e
            rw [Sto.del_ne hl] at this; exact this
        · cases e : S7 i1.length with
          | none => rfl
          | some o =>
            have := s7 _ _ e
            rw [Sto.del_same] at this; cases this
      | false =>
        rw [if_neg Bool.false_ne_true] at q5 ⊢
        obtain ⟨e5, S7, s7, q7⟩ := q5
        refine ⟨io5, S7, acc, (st2.trans st3).trans st5, r5.sub fun l o e => ?_, ?_, q7⟩
        · by_cases hl : l = i1.length
          · subst hl; rw [Sto.set_same] at e; rw [e5]; exact e
          · rw [Sto.set_ne hl] at e
            have := s7 l o e
            rw [Sto.del_ne hl] at this; exact this
        · cases e : S7 i1.length with
          | none => rfl
          | some o =>
            have := s7 _ _ e
            rw [Sto.del_same] at this; cases this
    · have e : i = ds.length := by omega
      subst e
      rw [List.drop_length] at q2
      obtain ⟨g2, q2⟩ := q2
      refine .inl ⟨ok.stop io2 H2 _ (s2.trans st2) r2 (Gs.ok_sub g2 sg), ?_⟩
      exact c io2 H2 _ (.ref i1.length) (.ref D) ((s1.trans s2).trans st2) r2 ⟨_, st2.at_ at2, rfl⟩ (q2 _ n2)⟩
end
section
variable {M : Md} {X : Cx} {elt tg iter : Expr} {ifs : List Expr} {scope : Scope} {own : List (Str × Nat)} {pos spos py : Pos} {di : DI} {t : Tg} {tt : DT} {te : DE} {y : Str} {i : Nat}
theorem q_lc (hM : M.K = X.K) (hc : X.calm = true) (hN : X.N.Nodup) (hi : QI M X tg iter di) (ok : BlkOk X.N X.env.scope scope own) (hv : t.in_ (own.map (·.2)))
    (hg : ∀ (s : Shared) (H : Hp) (C : Addr) (cl : List (Str × Addr)) (fp : List Addr), PG (X.blk s H scope (compEnvC scope cl C X.env) fp) tg (t.g X.K)) (ht : ∀ (s : Shared) (H : Hp) (C : Addr) (cl : List (Str × Addr)) (fp : List Addr), QTs M (X.blk s H scope (compEnvC scope cl C X.env) fp) ifs tt)
    (he : ∀ (s : Shared) (H : Hp) (C : Addr) (cl : List (Str × Addr)) (fp : List Addr), QE M (X.blk s H scope (compEnvC scope cl C X.env) fp) elt te) (hs : ∀ x, foldedSetIterable iter X.env x = pure x := by intro _; rfl) :
    QE M X (.ListComp elt [⟨tg, iter, ifs, 0⟩] scope pos) (dLc di t tt te (own.map (·.2))) :=
  PE.imp (pe_lc hc hN hi ok hg ht he hs) (lc_sim hM hv)
theorem s_setLc (hM : M.K = X.K) (hc : X.calm = true) (hN : X.N.Nodup) (hy : X.N[i]? = some y) (hyl : X.env.scope.names.lookup y = some .local)
    (hsw : swapsWith (.ListComp elt [⟨tg, iter, ifs, 0⟩] scope pos) (some (.Name y py)) spos.line X.env = pure true) (hi : QI M X tg iter di) (ok : BlkOk X.N X.env.scope scope own) (hv : t.in_ (own.map (·.2)))
    (hg : ∀ (s : Shared) (H : Hp) (C : Addr) (cl : List (Str × Addr)) (fp : List Addr), PG (X.blk s H scope (compEnvC scope cl C X.env) fp) tg (t.g X.K)) (ht : ∀ (s : Shared) (H : Hp) (C : Addr) (cl : List (Str × Addr)) (fp : List Addr), QTs M (X.blk s H scope (compEnvC scope cl C X.env) fp) ifs tt)
    (he : ∀ (s : Shared) (H : Hp) (C : Addr) (cl : List (Str × Addr)) (fp : List Addr), QE M (X.blk s H scope (compEnvC scope cl C X.env) fp) elt te) (hs : ∀ x, foldedSetIterable iter X.env x = pure x := by intro _; rfl) :
    QS M X (.Assign [.Name y py] (.ListComp elt [⟨tg, iter, ifs, 0⟩] scope pos) spos) (dSet i (dLc di t tt te (own.map (·.2)))) :=
  PS.imp (ps_setLc hc hN hy hyl hsw hi ok hg ht he hs) fun E σ H ⟨io, S, ρ, Ed, r, re, h, c1, c2, c3, c4⟩ =>
    lc_sim hM hv σ H _ ⟨io, S, ρ, _, r, re, h, fun i1 H1 S1 v x s1 r1 d1 h1 => c1 i1 H1 S1 _ _ s1 r1 ((re.mono s1).set i d1) h1⟩
end
section
variable {gs : Gs} {t : Tg} {tt : DT} {te : DE} {ρ : En} {Q : List D → Sto → Prop} {S : Sto}
end
end L3
end
section
set_option Elab.async false
set_option linter.all false
set_option maxRecDepth 100000
set_option maxHeartbeats 2000000
namespace L3
open PySem PySem.Spec PyProof.Rows L2

def aNil : DA := fun _ S Q => Q [] S
def aCons (d : DE) (t : DA) : DA := fun ρ S Q => d ρ S fun v S1 => t ρ S1 fun vs S2 => Q (v :: vs) S2
def aStar (d : DE) (t : DA) : DA := fun ρ S Q => d ρ S fun v S1 => ∃ ds, seqD S1 v = some ds ∧ t ρ S1 fun vs S2 => Q (ds ++ vs) S2
def dTup (t : DA) : DE := fun ρ S Q => t ρ S fun ds S1 => ds.length ≤ sizeLine ∧ Q (.tup ds) S1
def dLst (t : DA) : DE := fun ρ S Q => t ρ S fun ds S1 => ds.length ≤ sizeLine ∧ ∀ l, S1 l = none → Q (.ref l) (S1.set l (.lst ds))
section
variable {M : Md} {X : Cx} {e : Expr} {es : List Expr} {d : DE} {t : DA} {pos p : Pos}
theorem a_nil : QA M X [] aNil := PA.imp pa_nil fun σ H Q ⟨io, S, ρ, Qd, r, re, h, c⟩ => c io H S [] [] (Stp.refl _ _) r rfl h
theorem a_cons (he : QE M X e d) (hr : QA M X es t) (hs : starEach (e :: es) X.env = (false, eval e X.env) :: starEach es X.env := by rfl) : QA M X (e :: es) (aCons d t) :=
  PA.imp (pa_cons he hr hs) fun σ H Q ⟨io, S, ρ, Qd, r, re, h, c⟩ => ⟨io, S, ρ, _, r, re, h, fun i1 H1 S1 v x s1 r1 d1 h1 => ⟨i1, S1, ρ, _, r1, re.mono s1, h1, fun i2 H2 S2 vs xs s2 r2 d2 h2 =>
    c i2 H2 S2 (v :: vs) (x :: xs) (s1.trans s2) r2 (RDs.cons (d1.mono s2) d2) h2⟩⟩
theorem a_star (hM : M.K = X.K) (he : QE M X e d) (hr : QA M X es t) (hs : starEach (.Starred e p :: es) X.env = (true, eval e X.env) :: starEach es X.env := by rfl) : QA M X (.Starred e p :: es) (aStar d t) :=
  PA.imp (StX.pa_star he hr hs) fun σ H Q ⟨io, S, ρ, Qd, r, re, h, c⟩ => ⟨io, S, ρ, _, r, re, h, fun i1 H1 S1 v x s1 r1 d1 ⟨ds, e1, h1⟩ => by
    obtain ⟨a, xs, ex, sq, rr⟩ := seq_of r1 d1 e1
    refine ⟨a, xs, ex, by rw [← hM]; exact sq.symm, i1, S1, ρ, _, r1, re.mono s1, h1, fun i2 H2 S2 vs ys s2 r2 d2 h2 => ?_⟩
    exact c i2 H2 S2 _ _ (s1.trans s2) r2 ((rr.mono s2).app d2) h2⟩
theorem q_tup {k : Nat} (h : QA M X es t) : QE M X (.Tuple es k pos) (dTup t) :=
  PE.imp (pe_tup h) fun σ H Q ⟨io, S, ρ, Qd, r, re, h, c⟩ => ⟨io, S, ρ, _, r, re, h, fun i1 H1 S1 ds xs s1 r1 d1 ⟨hz, h1⟩ => ⟨by rw [d1.len]; exact hz, fun p hp => by
    obtain ⟨r2, s2⟩ := r1.keepNew (u := .tup xs) hp (by show xs.length ≤ _; rw [d1.len]; exact hz)
    exact c i1 _ S1 (.tup ds) (.ref p) (s1.trans s2) r2 ⟨p, xs, rfl, upd_same, d1.mono s2⟩ h1⟩⟩
theorem q_lst (h : QA M X es t) : QE M X (.List es pos) (dLst t) :=
  PE.imp (pe_lst h) fun σ H Q ⟨io, S, ρ, Qd, r, re, h, c⟩ => ⟨io, S, ρ, _, r, re, h, fun i1 H1 S1 ds xs s1 r1 d1 ⟨hz, h1⟩ => ⟨by rw [d1.len]; exact hz, fun p hp => by
    have hz' : xs.length ≤ sizeLine := by rw [d1.len]; exact hz
    have st0 : Stp i1 H1 (i1 ++ [(p, p)]) (upd H1 p (.lst xs)) := ⟨⟨_, rfl⟩, fun a ys h => by rw [upd_ne (ne_of_none h hp)]; exact h, fun a o y h => by rw [upd_ne (ne_of_none h hp)]; exact h⟩
    obtain ⟨r2, s2, n2, at2⟩ := r1.new (u := .lst xs) (o := .lst ds) hp hz' ⟨rfl, xs, upd_same, d1.mono st0⟩
    exact c _ _ _ (.ref i1.length) (.ref p) (s1.trans s2) r2 ⟨_, at2, rfl⟩ (h1 _ n2)⟩⟩
end
section
variable {M : Md} {X : Cx} {e : Expr} {es : List Expr} {t : DA} {pos p : Pos} {x : Str} {id T : String} {r : List V → Hp → VK → Prop} {dr : DRA}
theorem seqA (hs : SimA M r dr) : ∀ σ H Q, lift M (dCB dr t) σ H Q → tCB r (liftA M t) σ H Q := fun σ H Q ⟨io, S, ρ, Qd, r1, re, h, c⟩ =>
  ⟨io, S, ρ, _, r1, re, h, fun i1 H1 S1 ds xs s1 r2 d1 h1 => hs i1 H1 S1 xs ds Qd Q r2 d1 h1 (c.to s1)⟩
theorem q_callB (hs : SimA M r dr) (hc : CallR X (.builtin id) r) (hg : Gl X x) (hm : X.mg x = none) (hv : bootBuiltins x = some (.builtin id)) (ha : QA M X (e :: es) t) (hn : x ≠ "__name__" := by decide) (hdb : (x == ("__debug__" : Str)) = false := by decide)
    (he : starEach (e :: es) X.env = (false, eval e X.env) :: starEach es X.env := by rfl) (hpl : (backTo pos (starEach es X.env)).any (·.1) = false := by rfl) : QE M X (.Call (.Name x p) (e :: es) [] pos) (dCB dr t) :=
  PE.imp (pe_callB hc hg hm hv ha hn hdb he hpl) (seqA hs)
theorem q_callTy (hs : SimA M r dr) (hc : CallR X (.type T) r) (hg : Gl X x) (hm : X.mg x = none) (hv : bootBuiltins x = some (.type T)) (ha : QA M X (e :: es) t) (hn : x ≠ "__name__" := by decide) (hdb : (x == ("__debug__" : Str)) = false := by decide)
    (he : starEach (e :: es) X.env = (false, eval e X.env) :: starEach es X.env := by rfl) (hpl : (backTo pos (starEach es X.env)).any (·.1) = false := by rfl) : QE M X (.Call (.Name x p) (e :: es) [] pos) (dCB dr t) :=
  PE.imp (pe_callTy hc hg hm hv ha hn hdb he hpl) (seqA hs)
end
abbrev DXK := Value → List Str → List D → Sto → Prop
abbrev DSp := List D → Sto → DK → DXK → Prop
def RX (K : PySem.W.Frag) (io : Pl) (H : Hp) (S : Sto) (d : Option Addr) (ns : List Str) (ds : List D) : Prop := match d with
  | none => ns = [] ∧ ds = []
  | some a => (∀ l o p, S l = some o → io[l]? = some p → p.1 ≠ a ∧ p.2 ≠ a) ∧ ∃ vs, H a = some (.xd (ns.zip vs)) ∧ vs.length = ns.length ∧ RDs K io H ds vs
def ExOk (M : Md) (Ed : DXK) (E : XK) : Prop := ∀ (io' : Pl) (H' : Hp) (S' : Sto) (cls : Value) (d : Option Addr) (ns : List Str) (ds : List D), RS M io' H' S' → RX M.K io' H' S' d ns ds → Ed cls ns ds S' → E cls d H'
def noX : DXK := fun _ _ _ _ => False
theorem exOk_no (M : Md) (E : XK) : ExOk M noX E := fun _ _ _ _ _ _ _ _ _ h => h.elim
def liftSp (K : PySem.W.Frag) (tabs : List (Addr × Str)) (sp : DSp) : Sp := fun vs H Q E => ∃ io S ds Qd Ed, RS ⟨K, tabs, io, H⟩ io H S ∧ RDs K io H ds vs ∧ sp ds S Qd Ed ∧ Co ⟨K, tabs, io, H⟩ io H Qd Q ∧ ExOk ⟨K, tabs, io, H⟩ Ed E
theorem call_sim {M : Md} {sp : DSp} {io : Pl} {H : Hp} {S : Sto} {ds : List D} {vs : List V} {Qd : DK} {Q : VK} {Ed : DXK} {E : XK} (r : RS M io H S) (d : RDs M.K io H ds vs) (h : sp ds S Qd Ed) (c : Co M io H Qd Q) (hE : ExOk M Ed E) : liftSp M.K M.tabs sp vs H Q E :=
  ⟨io, S, ds, Qd, Ed, r.re, d, h, fun i1 H1 S1 v x s1 r1 d1 q => c i1 H1 S1 v x s1 (r.back r1) d1 q, fun i1 H1 S1 cls a ns es r1 x1 q => hE i1 H1 S1 cls a ns es (r.back r1) x1 q⟩
structure FN (P : Program) (w : World) (K : PySem.W.Frag) (mg : Str → Option Value) (base : Heap) (CX : CXT) (tabs : List (Addr × Str)) (k : Nat) (f : Addr) (params : Arguments) (ps : List Str) (sp : DSp) : Prop where
  ex : ∃ fd, FnOk P w K mg base CX k f fd ps (liftSp K tabs sp) ∧ Binds K fd ps [] ∧ PySem.W.keepIn K (.ref f) = true ∧ ∃ x qual body scope kV doc pm an cdv ct, fd = PySem.W.fnOf x qual params body scope .none kV doc pm an cdv ct
theorem FN.mono {P : Program} {w : World} {K : PySem.W.Frag} {mg : Str → Option Value} {base : Heap} {CX : CXT} {tabs : List (Addr × Str)} {j k : Nat} {f : Addr} {params : Arguments} {ps : List Str} {sp : DSp} (F : FN P w K mg base CX tabs j f params ps sp) (h : j ≤ k) :
    FN P w K mg base CX tabs k f params ps sp := by
  obtain ⟨fd, a, b⟩ := F.ex
  exact ⟨fd, a.mono h, b⟩
theorem FN.imp {P : Program} {w : World} {K : PySem.W.Frag} {mg : Str → Option Value} {base : Heap} {CX : CXT} {tabs : List (Addr × Str)} {k : Nat} {f : Addr} {params : Arguments} {ps : List Str} {sp sp' : DSp} (F : FN P w K mg base CX tabs k f params ps sp)
    (h : ∀ ds S Q E, sp' ds S Q E → sp ds S Q E) : FN P w K mg base CX tabs k f params ps sp' := by
  obtain ⟨fd, a, b⟩ := F.ex
  exact ⟨fd, a.imp fun vs H Q E ⟨io, S, ds, Qd, Ed, r, d, s, c, x⟩ => ⟨io, S, ds, Qd, Ed, r, d, h _ _ _ _ s, c, x⟩, b⟩
theorem FN.raw {P : Program} {w : World} {K : PySem.W.Frag} {mg : Str → Option Value} {base : Heap} {CX : CXT} {tabs : List (Addr × Str)} {k : Nat} {f : Addr} {params : Arguments} {ps : List Str} {sp : DSp} (F : FN P w K mg base CX tabs k f params ps sp) :
    FnR P w K mg base CX k f (liftSp K tabs sp) := by
  obtain ⟨fd, a, b, _⟩ := F.ex
  exact (a.raw b .nil).imp fun vs H Q E h => by rw [List.append_nil]; exact h
def dCall (sp : DSp) (Ed : DXK) (t : DA) : DE := fun ρ S Q => t ρ S fun ds S1 => sp ds S1 Q Ed
def dMethSl (C : Addr) (sp : DSp) (Ed : DXK) (d : DE) (t : DA) : DE := fun ρ S Q => d ρ S fun v S1 => ∃ l vs, v = .ref l ∧ S1 l = some (.slt C vs) ∧ t ρ S1 fun ds S2 => sp (v :: ds) S2 Q Ed
def dMeth (C : Addr) (m : Str) (sp : DSp) (Ed : DXK) (d : DE) (t : DA) : DE := fun ρ S Q => d ρ S fun v S1 => ∃ l fs vs, v = .ref l ∧ S1 l = some (.ins C fs vs) ∧ m ∉ fs ∧ t ρ S1 fun ds S2 => sp (v :: ds) S2 Q Ed
def dSlot (C : Addr) (i : Nat) (d : DE) : DE := fun ρ S Q => d ρ S fun v S1 => ∃ l vs w, v = .ref l ∧ S1 l = some (.slt C vs) ∧ vs[i]? = some (some w) ∧ Q w S1
def putD (i : Nat) (v : D) (vs : List (Option D)) : List (Option D) := (vs ++ List.replicate (i + 1 - vs.length) none).set i (some v)
def dSetSlot (C : Addr) (i : Nat) (d v : DE) : DS := fun E ρ S => v ρ S fun w S1 => d ρ S1 fun o S2 => ∃ l vs, o = .ref l ∧ S2 l = some (.slt C vs) ∧ E.nx ρ (S2.set l (.slt C (putD i w vs)))
theorem RDo.get {K : PySem.W.Frag} {io : Pl} {H : Hp} : ∀ {ds : List (Option D)} {xs : List (Option V)} {i : Nat} {d : D}, RDo K io H ds xs → ds[i]? = some (some d) → ∃ x, xs[i]? = some (some x) ∧ RD K io H d x
  | [], _, _, _, _, e => by simp at e
  | none :: ds, _, 0, _, _, e => by simp at e
  | some d :: ds, _, 0, d', h, e => by
    obtain ⟨x, r, rfl, h1, _⟩ := h
    simp at e; subst e
    exact ⟨x, rfl, h1⟩
  | none :: ds, _, i + 1, d', h, e => by
    obtain ⟨x, r, rfl, h2⟩ := h
    obtain ⟨y, e1, e2⟩ := RDo.get (i := i) h2 (by simpa using e)
    exact ⟨y, by simpa using e1, e2⟩
  | some d :: ds, _, i + 1, d', h, e => by
    obtain ⟨x, r, rfl, _, h2⟩ := h
    obtain ⟨y, e1, e2⟩ := RDo.get (i := i) h2 (by simpa using e)
    exact ⟨y, by simpa using e1, e2⟩
theorem RDo.len {K : PySem.W.Frag} {io : Pl} {H : Hp} : ∀ {ds : List (Option D)} {xs : List (Option V)}, RDo K io H ds xs → xs.length = ds.length
  | [], _, h => by rw [show _ = _ from h]; rfl
  | none :: ds, _, h => by
    obtain ⟨x, r, rfl, h2⟩ := h
    simp [RDo.len h2]
  | some d :: ds, _, h => by
    obtain ⟨x, r, rfl, _, h2⟩ := h
    simp [RDo.len h2]
theorem RDo.app {K : PySem.W.Frag} {io : Pl} {H : Hp} : ∀ {ds es : List (Option D)} {xs ys : List (Option V)}, RDo K io H ds xs → RDo K io H es ys → RDo K io H (ds ++ es) (xs ++ ys)
  | [], _, _, _, h, h' => by rw [show _ = _ from h]; exact h'
  | none :: ds, _, _, _, h, h' => by
    obtain ⟨x, r, rfl, h2⟩ := h
    exact ⟨x, r ++ _, rfl, RDo.app h2 h'⟩
  | some d :: ds, _, _, _, h, h' => by
    obtain ⟨x, r, rfl, h1, h2⟩ := h
    exact ⟨x, r ++ _, rfl, h1, RDo.app h2 h'⟩
theorem RDo.nones {K : PySem.W.Frag} {io : Pl} {H : Hp} : ∀ n : Nat, RDo K io H (List.replicate n none) (List.replicate n none)
  | 0 => rfl
  | n + 1 => ⟨none, _, rfl, RDo.nones n⟩
theorem RDo.set {K : PySem.W.Frag} {io : Pl} {H : Hp} : ∀ {ds : List (Option D)} {xs : List (Option V)} (i : Nat) {d : D} {x : V}, RDo K io H ds xs → RD K io H d x → RDo K io H (ds.set i (some d)) (xs.set i (some x))
  | [], _, _, _, _, h, _ => by rw [show _ = _ from h]; exact rfl
  | none :: ds, _, 0, _, _, h, h' => by
    obtain ⟨x, r, rfl, h2⟩ := h
    exact ⟨_, r, rfl, h', h2⟩
  | some d :: ds, _, 0, _, _, h, h' => by
    obtain ⟨x, r, rfl, _, h2⟩ := h
    exact ⟨_, r, rfl, h', h2⟩
  | none :: ds, _, i + 1, _, _, h, h' => by
    obtain ⟨x, r, rfl, h2⟩ := h
    exact ⟨x, _, rfl, RDo.set i h2 h'⟩
  | some d :: ds, _, i + 1, _, _, h, h' => by
    obtain ⟨x, r, rfl, h1, h2⟩ := h
    exact ⟨x, _, rfl, h1, RDo.set i h2 h'⟩
theorem RDo.put {K : PySem.W.Frag} {io : Pl} {H : Hp} {ds : List (Option D)} {xs : List (Option V)} (i : Nat) {d : D} {x : V} (h : RDo K io H ds xs) (h' : RD K io H d x) : RDo K io H (putD i d ds) (SlX.putS i x xs) := by
  unfold putD SlX.putS
  rw [h.len]
  exact (h.app (RDo.nones _)).set i h'
theorem RS.slt {M : Md} {io : Pl} {H : Hp} {S : Sto} (r : RS M io H S) {l : Nat} {C : Addr} {ds : List (Option D)} {x : V} (e : S l = some (.slt C ds)) (h : RD M.K io H (.ref l) x) :
    ∃ p xs, x = .ref p.1 ∧ io[l]? = some p ∧ p.2 ≠ p.1 ∧ SlX.Slt H p.1 C p.2 xs ∧ RDo M.K io H ds xs := by
  obtain ⟨p, e1, h1⟩ := r.ob l _ e
  obtain ⟨q, e2, rfl⟩ := h
  rw [e1] at e2; cases e2
  obtain ⟨e3, _, xs, h2, h3⟩ := h1
  exact ⟨p, xs, rfl, e1, e3, h2, h3⟩
theorem RS.ins {M : Md} {io : Pl} {H : Hp} {S : Sto} (r : RS M io H S) {l : Nat} {C : Addr} {fs : List Str} {ds : List D} {x : V} (e : S l = some (.ins C fs ds)) (h : RD M.K io H (.ref l) x) :
    ∃ p xs, x = .ref p.1 ∧ io[l]? = some p ∧ p.2 ≠ p.1 ∧ H p.2 = some (.own p.1) ∧ H p.1 = some (.ins C p.2 (fs.zip xs)) ∧ xs.length = fs.length ∧ RDs M.K io H ds xs := by
  obtain ⟨p, e1, h1⟩ := r.ob l _ e
  obtain ⟨q, e2, rfl⟩ := h
  rw [e1] at e2; cases e2
  obtain ⟨e3, h0, xs, h2, h3, h4⟩ := h1
  exact ⟨p, xs, rfl, e1, e3, h0, h2, h3, h4⟩
section
variable {M : Md} {X : Cx} {CX : CXT} {k : Nat} {f C : Addr} {params : Arguments} {ps : List Str} {sp : DSp} {Ed : DXK} {E : XK} {x m : Str} {p pos apos : Pos} {e o value : Expr} {es : List Expr} {d dv : DE} {t : DA}
theorem q_call (hK : M.K = X.K) (F : FN X.prog X.w X.K X.mg X.base CX M.tabs k f params ps sp) (hr : Room k X.A) (hg : Gl X x) (hm : X.mg x = some (.ref f)) (hx : Passes CX X E) (hE : ExOk M Ed E)
    (ha : QA M X (e :: es) t) (hdb : (x == ("__debug__" : Str)) = false := by decide) (he : starEach (e :: es) X.env = (false, eval e X.env) :: starEach es X.env := by rfl) (hpl : (backTo pos (starEach es X.env)).any (·.1) = false := by rfl) :
    QE M X (.Call (.Name x p) (e :: es) [] pos) (dCall sp Ed t) := by
  obtain ⟨fd, a, b, kp, _⟩ := F.ex
  exact PE.imp (pe_call a hr hg hm kp b .nil hx ha hdb he hpl) fun σ H Q ⟨io, S, ρ, Qd, r, re, h, c⟩ => ⟨io, S, ρ, _, r, re, h, fun i1 H1 S1 ds xs s1 r1 d1 h1 => by
    show liftSp X.K M.tabs sp (xs ++ []) H1 Q E
    rw [List.append_nil, ← hK]
    exact call_sim r1 d1 h1 (c.to s1) hE⟩
theorem q_methSl {pl : Sem Bool} (hK : M.K = X.K) (ho : QE M X o d) (c : SlX.SCls X.K C) (hm : Meth X.K C m f) (F : FN X.prog X.w X.K X.mg X.base CX M.tabs k f params ps sp) (hr : Room k X.A) (hx : Passes CX X E) (hE : ExOk M Ed E) (ha : QA M X (e :: es) t)
    (hst : starEach (e :: es) X.env = (false, eval e X.env) :: starEach es X.env := by rfl) (hpl : (backTo pos (starEach es X.env)).any (·.1) = false := by rfl)
    (ht : eval (.Call (.Attribute o m apos) (e :: es) [] pos) X.env = (do
      let ov ← eval o X.env
      standAt apos.atName
      let (f, first) ← holding [ov] (getMethod ov m pl)
      callWith pos f first (backTo pos (starEach (e :: es) X.env)) (backToKw pos (keywordEach [] X.env))) := by rfl) :
    QE M X (.Call (.Attribute o m apos) (e :: es) [] pos) (dMethSl C sp Ed d t) :=
  PE.imp (SlX.pe_methSl ho c hm F.raw hr hx ha hst hpl ht) fun σ H Q ⟨io, S, ρ, Qd, r, re, h, c⟩ => ⟨io, S, ρ, _, r, re, h, fun i1 H1 S1 v x s1 r1 d1 ⟨l, vs, ev, el, h1⟩ => by
    subst ev
    obtain ⟨p, xs, ex, _, _, sl, _⟩ := r1.slt el d1
    refine ⟨p.1, p.2, xs, ex, sl, i1, S1, ρ, _, r1, re.mono s1, h1, fun i2 H2 S2 ds ys s2 r2 d2 h2 => ?_⟩
    show liftSp X.K M.tabs sp (x :: ys) H2 Q E
    rw [← hK]
    exact call_sim r2 (RDs.cons (d1.mono s2) d2) h2 (c.to (s1.trans s2)) hE⟩
theorem q_methSl0 {pl : Sem Bool} (hK : M.K = X.K) (ho : QE M X o d) (c : SlX.SCls X.K C) (hm : Meth X.K C m f) (F : FN X.prog X.w X.K X.mg X.base CX M.tabs k f params ps sp) (hr : Room k X.A) (hx : Passes CX X E) (hE : ExOk M Ed E)
    (ht : eval (.Call (.Attribute o m apos) [] [] pos) X.env = (do
      let ov ← eval o X.env
      standAt apos.atName
      let (f, first) ← holding [ov] (getMethod ov m pl)
      callWith pos f first (backTo pos (starEach [] X.env)) (backToKw pos (keywordEach [] X.env))) := by rfl) :
    QE M X (.Call (.Attribute o m apos) [] [] pos) (dMethSl C sp Ed d aNil) :=
  PE.imp (SlX.pe_methSl0 ho c hm F.raw hr hx ht) fun σ H Q ⟨io, S, ρ, Qd, r, re, h, c⟩ => ⟨io, S, ρ, _, r, re, h, fun i1 H1 S1 v x s1 r1 d1 ⟨l, vs, ev, el, h1⟩ => by
    subst ev
    obtain ⟨p, xs, ex, _, _, sl, _⟩ := r1.slt el d1
    refine ⟨p.1, p.2, xs, ex, sl, ?_⟩
    show liftSp X.K M.tabs sp [x] H1 Q E
    rw [← hK]
    exact call_sim r1 (RDs.one d1) h1 (c.to s1) hE⟩
theorem q_slot {pa : Addr} {i : Nat} (c : SlX.SCls X.K C) (k : SlX.Slot1 X.K C x pa i) (he : QE M X e d) (hb : attributeBase e x X.env (eval e X.env) = eval e X.env := by rfl) : QE M X (.Attribute e x pos) (dSlot C i d) :=
  PE.imp (SlX.pe_sl he hb) fun σ H Q ⟨io, S, ρ, Qd, r, re, h, cc⟩ => ⟨io, S, ρ, _, r, re, h, fun i1 H1 S1 v x s1 r1 d1 ⟨l, vs, w, ev, el, hw, h1⟩ => by
    subst ev
    obtain ⟨p, xs, ex, _, _, sl, rd⟩ := r1.slt el d1
    obtain ⟨y, ey, dy⟩ := rd.get hw
    exact ⟨p.1, C, p.2, pa, xs, i, y, ex, sl, c, k, ey, cc i1 H1 S1 w y s1 r1 dy h1⟩⟩
theorem s_slot {pa : Addr} {i : Nat} {pos' : Pos} (c : SlX.SCls X.K C) (k : SlX.Slot1 X.K C x pa i) (ho : QE M X o d) (hv : QE M X value dv) (hs : swapsWith value (some (.Attribute o x pos')) pos.line X.env = pure false := by rfl) :
    QS M X (.Assign [.Attribute o x pos'] value pos) (dSetSlot C i d dv) :=
  PS.imp (SlX.ps_sl ho hv hs) fun En σ H ⟨io, S, ρ, Edd, r, re, h, c1, c2, c3, c4⟩ => ⟨io, S, ρ, _, r, re, h, fun i1 H1 S1 w y s1 r1 dw h1 => ⟨i1, S1, ρ, _, r1, re.mono s1, h1, fun i2 H2 S2 v x s2 r2 d2 ⟨l, vs, ev, el, hn⟩ => by
    subst ev
    obtain ⟨p, xs, ex, hp, ne, sl, rd⟩ := r2.slt el d2
    refine ⟨p.1, C, p.2, pa, xs, i, ex, sl, c, k, ?_⟩
    obtain ⟨r3, s3⟩ := r2.put (H' := SlX.slH H2 p.1 C p.2 (SlX.putS i y xs)) (o' := .slt C (putD i w vs)) el hp (fun b h1 h2 => SlX.slH_ne h1 h2) (fun u hu => by
        rcases hu with hu | hu
        · unfold SlX.slH at hu; rw [upd_same] at hu; cases hu; trivial
        · unfold SlX.slH at hu; rw [upd_ne ne, upd_same] at hu; cases hu; trivial)
      (fun st => ⟨ne, .inr (by unfold SlX.slH; rw [upd_ne ne, upd_same]), _, SlX.slH_slt ne, (rd.mono st).put i ((dw.mono s2).mono st)⟩)
    exact c1 i2 _ _ ρ σ ((s1.trans s2).trans s3) r3 (re.mono ((s1.trans s2).trans s3)) hn⟩⟩
end
end L3
end
section
set_option Elab.async false
set_option linter.all false
set_option maxRecDepth 100000
set_option maxHeartbeats 2000000
namespace L3
open PySem PySem.Spec PyProof.Rows L2

theorem RS.newI {M : Md} {io : Pl} {H : Hp} {S : Sto} (r : RS M io H S) {x dx C : Addr} {o : Ob} (hx : H x = none) (hd : H dx = none) (ne : dx ≠ x) (ho : o = .slt C [] ∨ o = .ins C [] []) :
    RS M (io ++ [(x, dx)]) (upd (upd H dx (.own x)) x (.ins C dx [])) (S.set io.length o) ∧ Stp io H (io ++ [(x, dx)]) (upd (upd H dx (.own x)) x (.ins C dx [])) ∧ S io.length = none ∧ (io ++ [(x, dx)])[io.length]? = some (x, dx) := by
  have at_ : ∀ b, b ≠ x → b ≠ dx → upd (upd H dx (.own x)) x (.ins C dx []) b = H b := fun b h1 h2 => by rw [upd_ne h1, upd_ne h2]
  have nx : ∀ {b : Addr} {u : HO}, H b = some u → b ≠ x ∧ b ≠ dx := fun h => ⟨ne_of_none h hx, ne_of_none h hd⟩
  have st : Stp io H (io ++ [(x, dx)]) (upd (upd H dx (.own x)) x (.ins C dx [])) := ⟨⟨_, rfl⟩, fun a xs h => by rw [at_ a (nx h).1 (nx h).2]; exact h, fun a ob u h => by rw [at_ a (nx h).1 (nx h).2]; exact h⟩
  have hat : (io ++ [(x, dx)])[io.length]? = some (x, dx) := by simp
  have hS : S io.length = none := by
    cases e : S io.length with
    | none => rfl
    | some o =>
      obtain ⟨p, e1, _⟩ := r.ob _ _ e
      rw [List.getElem?_eq_none (Nat.le_refl _)] at e1; cases e1
  have own : upd (upd H dx (.own x)) x (.ins C dx []) dx = some (.own x) := by rw [upd_ne ne, upd_same]
  have old : ∀ l o', S l = some o' → l ≠ io.length ∧ ∃ p, io[l]? = some p ∧ (io ++ [(x, dx)])[l]? = some p ∧ RO M.K io H p o' ∧ p.1 ≠ x ∧ p.1 ≠ dx ∧ p.2 ≠ x ∧ p.2 ≠ dx := fun l o' e => by
    obtain ⟨p, e1, h1⟩ := r.ob l o' e
    obtain ⟨⟨_, a1, _⟩, ⟨_, a2, _⟩⟩ := h1.there
    exact ⟨fun z => (by subst z; rw [hS] at e; exact nomatch e), p, e1, st.at_ e1, h1, (nx a1).1, (nx a1).2, (nx a2).1, (nx a2).2⟩
  refine ⟨⟨fun l o' e => ?_, fun l m o1 o2 p1 p2 e1 e2 hn h1 h2 => ?_, fun P hP => ?_, sz_upd (sz_upd r.sz trivial) trivial, r.bs.trans st⟩, st, hS, hat⟩
  · by_cases hl : l = io.length
    · subst hl; rw [Sto.set_same] at e; cases e
      refine ⟨_, hat, ?_⟩
      rcases ho with rfl | rfl
      · exact ⟨ne, .inl own, [], .inl ⟨upd_same, rfl⟩, rfl⟩
      · exact ⟨ne, own, [], upd_same, rfl, RDs.nil⟩
    · rw [Sto.set_ne hl] at e
      obtain ⟨_, p, e1, e2, h1, n1, n2, n3, n4⟩ := old l o' e
      exact ⟨p, e2, h1.keep st (at_ _ n1 n2) (at_ _ n3 n4)⟩
  · by_cases hl : l = io.length
    · subst hl
      rw [hat] at h1; cases h1
      have hm : m ≠ io.length := fun z => hn z.symm
      rw [Sto.set_ne hm] at e2
      obtain ⟨_, p, z1, z2, _, n1, n2, n3, n4⟩ := old m o2 e2
      rw [z2] at h2; cases h2
      exact ⟨n1.symm, n3.symm, n2.symm, n4.symm⟩
    · rw [Sto.set_ne hl] at e1
      obtain ⟨_, p, z1, z2, _, n1, n2, n3, n4⟩ := old l o1 e1
      rw [z2] at h1; cases h1
      by_cases hm : m = io.length
      · subst hm
        rw [hat] at h2; cases h2
        exact ⟨n1, n2, n3, n4⟩
      · rw [Sto.set_ne hm] at e2
        obtain ⟨_, p', z1', z2', _⟩ := old m o2 e2
        rw [z2'] at h2; cases h2
        exact r.sep l m o1 o2 _ _ e1 e2 hn z1 z1'
  · exact (r.tab P hP).keep st.frz fun ps h => by rw [at_ _ (nx h).1 (nx h).2]; exact h
theorem RD.ref {K : PySem.W.Frag} {io : Pl} {H : Hp} {l : Nat} {p : Addr × Addr} (h : io[l]? = some p) : RD K io H (.ref l) (.ref p.1) := ⟨p, h, rfl⟩
def dMakeSl (C : Addr) (sp : DSp) (Ed : DXK) (t : DA) : DE := fun ρ S Q => t ρ S fun ds S1 => ∀ l, S1 l = none → sp (.ref l :: ds) (S1.set l (.slt C [])) (fun v S2 => v = .non ∧ Q (.ref l) S2) Ed
def dMake (C : Addr) (sp : DSp) (Ed : DXK) (t : DA) : DE := fun ρ S Q => t ρ S fun ds S1 => ∀ l, S1 l = none → sp (.ref l :: ds) (S1.set l (.ins C [] [])) (fun v S2 => v = .non ∧ Q (.ref l) S2) Ed
section
variable {M : Md} {X : Cx} {CX : CXT} {k : Nat} {f C : Addr} {params : Arguments} {ps : List Str} {sp : DSp} {Ed : DXK} {E : XK} {x : Str} {p pos : Pos} {e : Expr} {es : List Expr} {t : DA}
theorem make_sim (hK : M.K = X.K) {o : Ob} (ho : o = .slt C [] ∨ o = .ins C [] []) (hE : ExOk M Ed E) {io : Pl} {H : Hp} {S : Sto} {ds : List D} {vs : List V} {Qd : DK} {Q : VK} (r : RS M io H S) (d : RDs M.K io H ds vs) (c : Co M io H Qd Q)
    (h : ∀ l, S l = none → sp (.ref l :: ds) (S.set l o) (fun v S2 => v = .non ∧ Qd (.ref l) S2) Ed) :
    ∀ x dx, H x = none → H dx = none → dx ≠ x → liftSp X.K M.tabs sp (.ref x :: vs) (upd (upd H dx (.own x)) x (.ins C dx [])) (fun v H2 => v = .non ∧ Q (.ref x) H2) E := fun x dx hx hd ne => by
  obtain ⟨r2, s2, n2, at2⟩ := r.newI hx hd ne ho
  rw [← hK]
  refine call_sim r2 (RDs.cons (RD.ref at2) (d.mono s2)) (h _ n2) (fun i1 H1 S1 v y s1 r1 d1 ⟨e, q⟩ => ?_) hE
  subst e
  exact ⟨d1, c i1 H1 S1 _ _ (s2.trans s1) r1 (RD.ref (s1.at_ at2)) q⟩
theorem q_makeSl (hK : M.K = X.K) (Mk_ : Mk X.K C f) (F : FN X.prog X.w X.K X.mg X.base CX M.tabs k f params ps sp) (hr : Room (k + 1) X.A) (hg : Gl X x) (hm : X.mg x = some (.ref C)) (hx : Passes CX X E) (hE : ExOk M Ed E)
    (ha : QA M X (e :: es) t) (hdb : (x == ("__debug__" : Str)) = false := by decide) (he : starEach (e :: es) X.env = (false, eval e X.env) :: starEach es X.env := by rfl) (hpl : (backTo pos (starEach es X.env)).any (·.1) = false := by rfl) :
    QE M X (.Call (.Name x p) (e :: es) [] pos) (dMakeSl C sp Ed t) :=
  PE.imp (StX.pe_makeR Mk_ F.raw hr hg hm hx ha hdb he hpl) fun σ H Q ⟨io, S, ρ, Qd, r, re, h, c⟩ => ⟨io, S, ρ, _, r, re, h, fun i1 H1 S1 ds xs s1 r1 d1 h1 => make_sim hK (.inl rfl) hE r1 d1 (c.to s1) h1⟩
end
def drp (P : Sto → Prop) (S : Sto) : Prop := ∃ S', S'.sub S ∧ P S'
theorem drp_of {P : Sto → Prop} {S : Sto} (h : P S) : drp P S := ⟨S, Sto.sub_refl S, h⟩
def EndsD (Q : DK) : DEnds := { nx := fun _ S => drp (Q .non) S, rt := fun v S => drp (Q v) S }
def startD (N : List Str) (ds : List D) : En := ds.map some ++ List.replicate (N.length - ds.length) none
theorem RE.start {K : PySem.W.Frag} {io : Pl} {H : Hp} {N : List Str} {ds : List D} {vs : List V} (d : RDs K io H ds vs) : RE K io H (startD N ds) (L2.start N vs) := by
  have hl := d.len
  refine ⟨by simp [startD, L2.start, hl], fun i v e => ?_⟩
  unfold startD at e
  by_cases hi : i < ds.length
  · rw [List.getElem?_append_left (by simpa using hi), List.getElem?_map] at e
    cases ei : ds[i]? with
    | none => rw [ei] at e; cases e
    | some d0 =>
      rw [ei] at e; cases e
      obtain ⟨x, e1, h⟩ := d.get ei
      refine ⟨x, ?_, h⟩
      unfold L2.start
      rw [List.getElem?_append_left (by rw [List.length_map, hl]; exact hi), List.getElem?_map, e1]; rfl
  · rw [List.getElem?_append_right (by simpa using hi), List.getElem?_replicate] at e
    split at e <;> cases e
section
variable {P : Program} {w : World} {K : PySem.W.Frag} {mg : Str → Option Value} {base : Heap} {x qual : Str} {params : Arguments} {body : List Stmt} {scope : Scope} {f : Addr} {fd : FuncData} {N ps : List Str} {k : Nat} {sp : DSp} {tabs : List (Addr × Str)}
theorem body_sim {io : Pl} {H : Hp} {S : Sto} {ds : List D} {vs : List V} {Qd : DK} {Q : VK} {d : DS} (r : RS ⟨K, tabs, io, H⟩ io H S) (dd : RDs K io H ds vs) (c : Co ⟨K, tabs, io, H⟩ io H Qd Q) (h : d (EndsD Qd) (startD N ds) S) :
    liftS ⟨K, tabs, io, H⟩ d { nx := fun _ H' => Q .non H', rt := Q } (L2.start N vs) H :=
  ⟨io, S, startD N ds, EndsD Qd, r, RE.start dd, h, fun i1 H1 S1 ρ1 σ1 s1 r1 re1 ⟨S2, h1, h2⟩ => c i1 H1 S2 .non .non s1 (r1.sub h1) rfl h2, fun i1 H1 S1 v x s1 r1 d1 ⟨S2, h1, h2⟩ => c i1 H1 S2 v x s1 (r1.sub h1) d1 h2,
    fun _ _ _ _ _ _ _ _ h => h.elim, fun _ _ _ _ _ _ _ _ h => h.elim⟩
theorem funD_fn (F : FunD K x qual params body scope [] [] f fd) : ∃ x qual body scope kV doc pm an cdv ct, fd = PySem.W.fnOf x qual params body scope .none kV doc pm an cdv ct := by
  obtain ⟨oc, od, dV, kV, doc, pm, an, cdv, ct, osl, rfl, lk, hcd, hD, hK⟩ := F.ex
  rcases hD with ⟨_, rfl⟩ | ⟨e, _⟩
  · exact ⟨_, _, _, _, _, _, _, _, _, _, rfl⟩
  · exact absurd rfl e
end
end L3
end
section
set_option Elab.async false
set_option linter.all false
set_option maxRecDepth 100000
set_option maxHeartbeats 2000000
namespace L3
open PySem PySem.Spec PyProof.Rows L2

theorem Sim2.or {M : Md} {r r' : R2} {d d' : DR2} (h : Sim2 M r d) (h' : Sim2 M r' d') : Sim2 M (fun x y H Q => r x y H Q ∨ r' x y H Q) (fun v w S Q => d v w S Q ∨ d' v w S Q) :=
  fun io H S x y v w Qd Q rs dv dw q c => q.elim (fun q => .inl (h io H S x y v w Qd Q rs dv dw q c)) fun q => .inr (h' io H S x y v w Qd Q rs dv dw q c)
theorem SimA.or {M : Md} {r r' : List V → Hp → VK → Prop} {d d' : DRA} (h : SimA M r d) (h' : SimA M r' d') : SimA M (fun x H Q => r x H Q ∨ r' x H Q) (fun v S Q => d v S Q ∨ d' v S Q) :=
  fun io H S x v Qd Q rs dv q c => q.elim (fun q => .inl (h io H S x v Qd Q rs dv q c)) fun q => .inr (h' io H S x v Qd Q rs dv q c)
theorem CallR.or {X : Cx} {f : Value} {r r' : List V → Hp → VK → Prop} (h : CallR X f r) (h' : CallR X f r') : CallR X f (fun x H Q => r x H Q ∨ r' x H Q) := by
  intro pins s σ H xs us Q I rv q
  rcases q with q | q
  · exact h pins s σ H xs us Q I rv q
  · exact h' pins s σ H xs us Q I rv q
section
variable {M : Md} {io : Pl} {H : Hp} {S : Sto}
theorem new_lst (r : RS M io H S) {q : Addr} {ds : List D} {xs : List V} {Qd : DK} {Q : VK} (hq : H q = none) (hz : ds.length ≤ sizeLine) (d : RDs M.K io H ds xs) (c : Co M io H Qd Q) (h : ∀ l, S l = none → Qd (.ref l) (S.set l (.lst ds))) : Q (.ref q) (upd H q (.lst xs)) := by
  have st0 : Stp io H (io ++ [(q, q)]) (upd H q (.lst xs)) := ⟨⟨_, rfl⟩, fun a ys h => by rw [upd_ne (ne_of_none h hq)]; exact h, fun a o y h => by rw [upd_ne (ne_of_none h hq)]; exact h⟩
  obtain ⟨r2, s2, n2, at2⟩ := r.new (u := .lst xs) (o := .lst ds) hq (by show xs.length ≤ _; rw [d.len]; exact hz) ⟨rfl, xs, upd_same, d.mono st0⟩
  exact c _ _ _ (.ref io.length) (.ref q) s2 r2 (RD.ref at2) (h _ n2)
theorem new_tup (r : RS M io H S) {q : Addr} {ds : List D} {xs : List V} {Qd : DK} {Q : VK} (hq : H q = none) (hz : ds.length ≤ sizeLine) (d : RDs M.K io H ds xs) (c : Co M io H Qd Q) (h : Qd (.tup ds) S) : Q (.ref q) (upd H q (.tup xs)) := by
  obtain ⟨r2, s2⟩ := r.keepNew (u := .tup xs) hq (by show xs.length ≤ _; rw [d.len]; exact hz)
  exact c io _ S (.tup ds) (.ref q) s2 r2 ⟨q, xs, rfl, upd_same, d.mono s2⟩ h
theorem RDs.inj1 {d : D} {vs : List V} (h : RDs M.K io H [d] vs) : ∃ x, vs = [x] ∧ RD M.K io H d x := by
  obtain ⟨x, r, rfl, h1, h2⟩ := h
  have h2 : r = [] := h2
  subst h2
  exact ⟨x, rfl, h1⟩
theorem RDs.inj2 {d e : D} {vs : List V} (h : RDs M.K io H [d, e] vs) : ∃ x y, vs = [x, y] ∧ RD M.K io H d x ∧ RD M.K io H e y := by
  obtain ⟨x, r, rfl, h1, y, r', rfl, h2, h3⟩ := h
  have h3 : r' = [] := h3
  subst h3
  exact ⟨x, y, rfl, h1, h2⟩
theorem RDs.nil_iff {ds : List D} {xs : List V} (h : RDs M.K io H ds xs) : xs = [] ↔ ds = [] := by
  cases ds with
  | nil => exact ⟨fun _ => rfl, fun _ => h⟩
  | cons d ds => obtain ⟨x, r, rfl, _⟩ := h; simp
end
def oAddI : DR2 := oI0 fun i j => .int (i + j)
def oAddS : DR2 := fun v w S Q => ∃ a b, v = .str a ∧ w = .str b ∧ a.length + b.length ≤ sizeLine ∧ Q (.str (a ++ b)) S
def oAddT : DR2 := fun v w S Q => ∃ ds es, v = .tup ds ∧ w = .tup es ∧ ds.length + es.length ≤ sizeLine ∧ Q (.tup (ds ++ es)) S
def oAddL : DR2 := fun v w S Q => ∃ ds es, lstR S v = some ds ∧ lstR S w = some es ∧ ds.length + es.length ≤ sizeLine ∧ ∀ l, S l = none → Q (.ref l) (S.set l (.lst (ds ++ es)))
def rCatR : R2 := fun x y H Q => ∃ l b xs zs, x = .ref l ∧ y = .ref b ∧ Rd H l (.lst xs) ∧ Rd H b (.lst zs) ∧ xs.length + zs.length ≤ sizeLine ∧ ∀ p, H p = none → Q (.ref p) (upd H p (.lst (xs ++ zs)))
theorem rd_lst {X : Cx} {pins : List (Addr × Obj)} {σ : L2.St} {H : Hp} {s : Shared} {l : Addr} {xs : List V} (I : Inv X pins σ H s) (h : Rd H l (.lst xs)) :
    xs.length ≤ sizeLine ∧ ∃ (its : List Value) (n : Nat), Vals xs its ∧ xs.length = its.length ∧ s.heap.get? l = some { cls := .type "list", data := .seq its.toArray n } := by
  obtain ⟨z, its, n, r, e⟩ := h.ok I.hok
  exact ⟨z, its, n, r, r.length, e⟩
theorem op_catR {X : Cx} : OpR X (binaryOp .Add) rCatR := by
  intro pins s σ H x y v u Q I rx ry h
  obtain ⟨l, b, xs, zs, rfl, rfl, hH, hB, hz, q⟩ := h
  cases rx
  cases ry
  obtain ⟨z, its, n, r, hl, e⟩ := rd_lst I hH
  obtain ⟨z2, its2, n2, r2, hl2, e2⟩ := rd_lst I hB
  refine PySem.P.add_list e e2 ?_ (by rw [List.size_toArray, List.size_toArray]; omega)
  have ea : its.toArray ++ its2.toArray = (its ++ its2).toArray := by simp
  rw [ea]
  exact ⟨.ref _, _, I.lnew (t' := s.toks) (r.append r2) (by rw [List.length_append]; omega), rfl, q _ I.fresh⟩
theorem sim_addT {M : Md} {K : PySem.W.Frag} (hM : M.K = K) : Sim2 M (rCatA K) oAddT := fun io H S x y v w Qd Q r dv dw ⟨ds, es, e1, e2, hz, q⟩ c => by
  subst e1 e2
  obtain ⟨a, xs, rfl, s1, d1⟩ := dv
  obtain ⟨b, ys, rfl, s2, d2⟩ := dw
  rw [← hM]
  refine ⟨a, b, xs, ys, rfl, rfl, SqT.of s1, SqT.of s2, by rw [d1.len, d2.len]; exact hz, fun e => ?_, fun _ e => ?_, fun _ _ p hp => ?_⟩
  · have e' := d1.nil_iff.mp e
    subst e'
    exact c.here r (v := .tup es) ⟨b, ys, rfl, s2, d2⟩ q
  · have e' := d2.nil_iff.mp e
    subst e'
    rw [List.append_nil] at q
    exact c.here r (v := .tup ds) ⟨a, xs, rfl, s1, d1⟩ q
  · exact new_tup r hp (by rw [List.length_append]; exact hz) (d1.app d2) c q
theorem sim_addL {M : Md} : Sim2 M rCatR oAddL := fun io H S x y v w Qd Q r dv dw ⟨ds, es, e1, e2, hz, q⟩ c => by
  obtain ⟨a, xs, rfl, s1, d1⟩ := lst_rd r dv e1
  obtain ⟨b, ys, rfl, s2, d2⟩ := lst_rd r dw e2
  exact ⟨a, b, xs, ys, rfl, rfl, s1, s2, by rw [d1.len, d2.len]; exact hz, fun p hp => new_lst r hp (by rw [List.length_append]; exact hz) (d1.app d2) c q⟩
def oMulI : DR2 := oI CMul fun i j => .int (i * j)
def oRepL : DR2 := fun v w S Q => ∃ ds k, lstR S v = some ds ∧ w = .int k ∧ 0 ≤ k ∧ k < 2 ^ 62 ∧ ds.length * k.toNat ≤ sizeLine ∧ ∀ l, S l = none → Q (.ref l) (S.set l (.lst (List.replicate k.toNat ds).flatten))
def rRepR : R2 := fun x y H Q => ∃ l k xs, x = .ref l ∧ y = .int k ∧ Rd H l (.lst xs) ∧ -(2 ^ 63) ≤ k ∧ k < 2 ^ 63 ∧ xs.length * k.toNat ≤ sizeLine ∧
  ∀ p, H p = none → Q (.ref p) (upd H p (.lst (List.replicate k.toNat xs).flatten))
theorem op_repR {X : Cx} : OpR X (binaryOp .Mult) rRepR := by
  intro pins s σ H x y v u Q I rx ry h
  obtain ⟨l, k, xs, ex, ey, hH, h1, h2, hz, q⟩ := h
  rcases hH with hH | ⟨o, hH⟩
  · exact op_rep pins s σ H x y v u Q I rx ry ⟨l, k, xs, ex, ey, hH, h1, h2, hz, q⟩
  · subst ex ey
    cases rx
    obtain ⟨t, rfl⟩ := ry
    obtain ⟨z, its, n, r, hl, e⟩ := rd_lst I (.inr ⟨o, hH⟩)
    have hlen : its.toArray.size * k.toNat ≤ sizeLine := by rw [List.size_toArray, ← hl]; exact hz
    have hcap : ¬ its.toArray.size * k.toNat > (2 ^ 63 - 1) / 8 := by
      have : (sizeLine : Nat) ≤ (2 ^ 63 - 1) / 8 := by decide
      omega
    have hfit : ¬ (!Builtin.List.listFitsIndex k) = true := by
      rw [fitsIndex_both h1 h2]
      exact Bool.false_ne_true
    have hlong : ¬ Builtin.List.listTooLong (its.toArray.size * k.toNat) = true := by
      rw [notLongL hlen]
      exact Bool.false_ne_true
    have hnew : List.foldl (fun x1 x2 => x1 ++ x2) #[] (List.replicate (if its.toArray.isEmpty = true then 0 else k.toNat) its.toArray) = (List.replicate k.toNat its).flatten.toArray := by
      have f0 : ∀ m : Nat, List.foldl (fun x1 x2 => x1 ++ x2) #[] (List.replicate m its.toArray) = (List.replicate m its).flatten.toArray := fun m => by
        have := foldl_rep its m []
        rw [List.nil_append] at this
        exact this
      rw [f0]
      cases its with
      | nil => simp
      | cons a r' => rw [if_neg (by simp)]
    refine wpAny_binaryOp_repeat_ref (T := "list") (U := "int") (by decide) ⟨_, e, rfl⟩ (fun s' => typeIs_int s' k t) noFill_list_mul F.fills_int_mul F.slot_int_rmul repeat_list F.slot_int_index.lookup
      (call_meets F.slot_int_rmul (typeIs_int s k t) F.entry_int_rmul (F.args_int_rmul_2 _ _) (int___rmul___int_list k t l its.toArray n)
        ⟨e, rfl, ⟨_, e, rfl⟩, call_meets F.slot_list_mul ⟨_, e, rfl⟩ F.entry_list_mul (F.args_list_mul_2 _ _) (AutoListH.list___mul___list_int_3 l its.toArray n k t hfit hcap hlong) ⟨e, ?_⟩⟩)
    rw [hnew]
    exact ⟨.ref _, _, I.lnew (t' := s.toks) (r.rep k.toNat) (by rw [PyProof.Rows.lm_len_rep_flat, Nat.mul_comm]; exact hz), rfl, q _ I.fresh⟩
theorem RDs.rep {K : PySem.W.Frag} {io : Pl} {H : Hp} {ds : List D} {xs : List V} (h : RDs K io H ds xs) : ∀ k : Nat, RDs K io H (List.replicate k ds).flatten (List.replicate k xs).flatten
  | 0 => RDs.nil
  | k + 1 => by
    rw [List.replicate_succ, List.replicate_succ, List.flatten_cons, List.flatten_cons]
    exact h.app (RDs.rep h k)
theorem rep_len {α : Type} (ds : List α) : ∀ k : Nat, (List.replicate k ds).flatten.length = ds.length * k
  | 0 => by simp
  | k + 1 => by
    rw [List.replicate_succ, List.flatten_cons, List.length_append, rep_len ds k, Nat.mul_succ, Nat.add_comm]
theorem sim_repL {M : Md} : Sim2 M rRepR oRepL := fun io H S x y v w Qd Q r dv dw ⟨ds, k, e1, e2, h0, h1, hz, q⟩ c => by
  subst e2
  obtain ⟨a, xs, rfl, s1, d1⟩ := lst_rd r dv e1
  exact ⟨a, k, xs, rfl, dw, s1, by omega, by omega, by rw [d1.len]; exact hz, fun p hp => new_lst r hp (by rw [rep_len]; exact hz) (d1.rep k.toNat) c q⟩
mutual
def pyD : D → Option PyData
  | .non => some .none
  | .bl b => some (.bool b)
  | .int i => some (.int i)
  | .str x => some (.str x)
  | .tup ds => (pyDs ds).map .tuple
  | .lst ds => (pyDs ds).map .list
  | .kl _ => none
  | .kt ds => (pyDs ds).map .tuple
  | .dic _ _ => none
  | .ref _ => none
  | .raw _ => none
def pyDs : List D → Option (List PyData)
  | [] => some []
  | d :: ds => (pyD d).bind fun p => (pyDs ds).map fun ps => p :: ps
end
def pyR (S : Sto) (v : D) : Option PyData := match v with
  | .ref l => (match S l with
    | some (.lst ds) => (pyDs ds).map .list
    | _ => none)
  | v => pyD v
section
variable {M : Md} {io : Pl} {H : Hp}
mutual
theorem dp_of : ∀ (d : D) {v : V} {p : PyData}, RD M.K io H d v → pyD d = some p → Dp M.K H v p
  | .non, v, p, h, e => by cases e; rw [show v = .non from h]; exact .non
  | .bl b, v, p, h, e => by cases e; rw [show v = .bl b from h]; exact .bl b
  | .int b, v, p, h, e => by cases e; rw [show v = .int b from h]; exact .int b
  | .str b, v, p, h, e => by cases e; rw [show v = .str b from h]; exact .str b
  | .tup ds, v, p, h, e => by
    obtain ⟨a, xs, rfl, s, r⟩ := h
    have e' : (pyDs ds).map PyData.tuple = some p := e
    cases q : pyDs ds with
    | none => rw [q] at e'; cases e'
    | some ps => rw [q] at e'; cases e'; exact .tup (SqT.of s) (dps_of ds r q)
  | .lst ds, v, p, h, e => by
    obtain ⟨a, xs, rfl, s, r⟩ := h
    have e' : (pyDs ds).map PyData.list = some p := e
    cases q : pyDs ds with
    | none => rw [q] at e'; cases e'
    | some ps => rw [q] at e'; cases e'; exact .lst s.sq (dps_of ds r q)
  | .kl _, v, p, h, e => by cases e
  | .kt ds, v, p, h, e => by
    obtain ⟨a, o, xs, rfl, s, _, r⟩ := h
    have e' : (pyDs ds).map PyData.tuple = some p := e
    cases q : pyDs ds with
    | none => rw [q] at e'; cases e'
    | some ps => rw [q] at e'; cases e'; exact .tup (.inl (.inr ⟨o, s⟩)) (dps_of ds r q)
  | .dic _ _, v, p, h, e => by cases e
  | .ref _, v, p, h, e => by cases e
  | .raw _, v, p, h, e => by cases e
theorem dps_of : ∀ (ds : List D) {vs : List V} {ps : List PyData}, RDs M.K io H ds vs → pyDs ds = some ps → DpAll M.K H vs ps
  | [], vs, ps, h, e => by cases e; rw [show vs = [] from h]; exact .nil
  | d :: ds, vs, ps, h, e => by
    obtain ⟨x, r, rfl, h1, h2⟩ := h
    have e' : ((pyD d).bind fun p => (pyDs ds).map fun ps => p :: ps) = some ps := e
    cases q : pyD d with
    | none => rw [q] at e'; cases e'
    | some p =>
      rw [q] at e'
      cases q2 : pyDs ds with
      | none => rw [q2] at e'; cases e'
      | some ps' => rw [q2] at e'; cases e'; exact .cons (dp_of d h1 q) (dps_of ds h2 q2)
end
theorem dpr_of {S : Sto} (r : RS M io H S) {d : D} {v : V} {p : PyData} (h : RD M.K io H d v) (e : pyR S d = some p) : Dp M.K H v p := by
  cases d with
  | ref l =>
    have e' : (match S l with | some (.lst ds) => (pyDs ds).map PyData.list | _ => none) = some p := e
    cases q : S l with
    | none => rw [q] at e'; cases e'
    | some o =>
      rw [q] at e'
      cases o with
      | lst ds =>
        have e' : (pyDs ds).map PyData.list = some p := e'
        obtain ⟨a, xs, rfl, _, h1, h2⟩ := r.lst q h
        cases q2 : pyDs ds with
        | none => rw [q2] at e'; cases e'
        | some ps => rw [q2] at e'; cases e'; exact .lst (SqL.of h1) (dps_of ds h2 q2)
      | _ => cases e'
  | _ => exact dp_of _ h e
end
def oEqD : DR2 := fun v w S Q => ∃ p q, pyR S v = some p ∧ pyR S w = some q ∧ SeqAt.shaped p = true ∧ SeqAt.shaped q = true ∧ Q (.bl (PyData.eqv p q)) S
def oNeD : DR2 := fun v w S Q => ∃ p q, pyR S v = some p ∧ pyR S w = some q ∧ SeqAt.shaped p = true ∧ SeqAt.shaped q = true ∧ Q (.bl (!PyData.eqv p q)) S
theorem sim_eqD {M : Md} {K : PySem.W.Frag} (hM : M.K = K) : Sim2 M (rEqD K) oEqD := fun io H S x y v w Qd Q r dv dw ⟨p, q, e1, e2, s1, s2, k⟩ c =>
  ⟨p, q, hM ▸ dpr_of r dv e1, hM ▸ dpr_of r dw e2, s1, s2, c.here r (v := .bl _) rfl k⟩
theorem sim_neD {M : Md} {K : PySem.W.Frag} (hM : M.K = K) : Sim2 M (rNeD K) oNeD := fun io H S x y v w Qd Q r dv dw ⟨p, q, e1, e2, s1, s2, k⟩ c =>
  ⟨p, q, hM ▸ dpr_of r dv e1, hM ▸ dpr_of r dw e2, s1, s2, c.here r (v := .bl _) rfl k⟩
def oInD : DR2 := fun v w S Q => ∃ p qs, pyR S v = some p ∧ pyR S w = some (.list qs) ∧ SeqAt.shaped p = true ∧ SeqAt.shaped (.list qs) = true ∧ Q (.bl (qs.any fun z => PyData.eqv z p)) S
def oNotInD : DR2 := fun v w S Q => ∃ p qs, pyR S v = some p ∧ pyR S w = some (.list qs) ∧ SeqAt.shaped p = true ∧ SeqAt.shaped (.list qs) = true ∧ Q (.bl (!qs.any fun z => PyData.eqv z p)) S
theorem sim_notInD {M : Md} {K : PySem.W.Frag} (hM : M.K = K) : Sim2 M (rNotInD K) oNotInD := fun io H S x y v w Qd Q r dv dw ⟨p, q, e1, e2, s1, s2, k⟩ c =>
  ⟨p, q, hM ▸ dpr_of r dv e1, hM ▸ dpr_of r dw e2, s1, s2, c.here r (v := .bl _) rfl k⟩
def oIsN : DR2 := fun v w S Q => w = .non ∧ ((v = .non ∧ Q (.bl true) S) ∨ (isNonD v = some false ∧ Q (.bl false) S))
where isNonD : D → Option Bool
  | .non => some true
  | .raw _ => none
  | _ => some false
theorem nonD_of {K : PySem.W.Frag} {io : Pl} {H : Hp} {v : D} {x : V} (h : RD K io H v x) (e : oIsN.isNonD v = some false) : x ≠ .non := by
  cases v with
  | non => cases e
  | bl b => rw [show x = .bl b from h]; simp
  | int b => rw [show x = .int b from h]; simp
  | str b => rw [show x = .str b from h]; simp
  | tup ds => obtain ⟨a, xs, rfl, _⟩ := h; simp
  | lst ds => obtain ⟨a, xs, rfl, _⟩ := h; simp
  | kl ds => obtain ⟨a, xs, rfl, _⟩ := h; simp
  | kt ds => obtain ⟨a, o, xs, rfl, _⟩ := h; simp
  | dic ks ds => obtain ⟨a, o, kvs, rfl, _⟩ := h; simp
  | ref l => obtain ⟨p, _, rfl⟩ := h; simp
  | raw w => cases e
theorem sim_isN {M : Md} : Sim2 M (fun x y H Q => y = .non ∧ Q (.bl (decide (x = .non))) H) oIsN := fun io H S x y v w Qd Q r dv dw ⟨e, h⟩ c => by
  subst e
  refine ⟨dw, ?_⟩
  rcases h with ⟨e, q⟩ | ⟨e, q⟩
  · subst e
    rw [show x = .non from dv]
    exact c.here r (v := .bl true) rfl q
  · rw [decide_eq_false (nonD_of dv e)]
    exact c.here r (v := .bl false) rfl q
end L3
end
section
set_option Elab.async false
set_option linter.all false
set_option maxRecDepth 100000
set_option maxHeartbeats 2000000
namespace L3
open PySem PySem.Spec PyProof.Rows L2

theorem RDs.at_ {K : PySem.W.Frag} {io : Pl} {H : Hp} {ds : List D} {xs : List V} {i : Int} {u : D} (h : RDs K io H ds xs) (e : atI ds i = some u) : ∃ x, atI xs i = some x ∧ RD K io H u x := by
  unfold atI at e ⊢
  rw [h.len]
  cases q : ixN ds.length i with
  | none => rw [q] at e; cases e
  | some j =>
    rw [q] at e
    obtain ⟨x, e1, h1⟩ := h.get (i := j) e
    exact ⟨x, e1, h1⟩
def oIx : DR2 := fun v w S Q => ∃ ds i u, seqD S v = some ds ∧ w = .int i ∧ atI ds i = some u ∧ Q u S
theorem sim_ix {M : Md} {K : PySem.W.Frag} (hM : M.K = K) : Sim2 M (fun x y H Q => rIxL K x y H Q ∨ rIxT K x y H Q) oIx := fun io H S x y v w Qd Q r dv dw ⟨ds, i, u, e1, e2, e3, q⟩ c => by
  subst e2
  obtain ⟨a, xs, rfl, s, rr⟩ := seq_of r dv e1
  obtain ⟨z, e4, dz⟩ := rr.at_ e3
  rw [← hM]
  rcases s with s | s
  · exact .inl ⟨a, xs, i, z, rfl, dw, s, e4, c.here r dz q⟩
  · exact .inr ⟨a, xs, i, z, rfl, dw, s, e4, c.here r dz q⟩
section
variable {M : Md} {X : Cx} {a b : Expr} {da db : DE} {pos p2 : Pos}
theorem q_ix (hM : M.K = X.K) (ha : QE M X a da) (hb : QE M X b db) (hs : PlainIx b := by intro _ _; rfl) : QE M X (.Subscript a b pos) (dOp oIx da db) :=
  PE.imp (pe_ix (ix_list.or ix_tup) ha hb hs) (seq2 (sim_ix hM))
end
abbrev DO := En → Sto → (Option Int → Sto → Prop) → Prop
def liftO (M : Md) (d : DO) : TO := fun σ H Q => ∃ io S ρ Qd, RS M io H S ∧ RE M.K io H ρ σ ∧ d ρ S Qd ∧ ∀ io' H' S' o, Stp io H io' H' → RS M io' H' S' → Qd o S' → Q o H'
abbrev QO (M : Md) (X : Cx) (e : Option Expr) (d : DO) : Prop := PO X e (liftO M d)
theorem PO.imp {X : Cx} {e : Option Expr} {t t' : TO} (h : PO X e t) (k : ∀ σ H Q, t' σ H Q → t σ H Q) : PO X e t' := ⟨fun pins s σ H Q I q => h.run pins s σ H Q I (k σ H Q q)⟩
def dNoP : DO := fun _ S Q => Q none S
def dPart (d : DE) : DO := fun ρ S Q => d ρ S fun v S' => ∃ i, v = .int i ∧ Q (some i) S'
theorem o_none {M : Md} {X : Cx} : QO M X none dNoP := PO.imp po_none fun σ H Q ⟨io, S, ρ, Qd, r, re, h, c⟩ => c io H S _ (Stp.refl _ _) r h
theorem o_some {M : Md} {X : Cx} {e : Expr} {d : DE} (h : QE M X e d) : QO M X (some e) (dPart d) :=
  PO.imp (po_some h) fun σ H Q ⟨io, S, ρ, Qd, r, re, h, c⟩ => ⟨io, S, ρ, _, r, re, h, fun i1 H1 S1 v x s1 r1 d1 ⟨i, e, q⟩ => by
    subst e
    exact ⟨i, d1, c i1 H1 S1 _ s1 r1 q⟩⟩
def cutD {α : Type} (ds : List α) (lo hi : Option Int) : List α := (ds.drop (HT.sIx ds.length 0 lo)).take (HT.sIx ds.length ds.length hi - HT.sIx ds.length 0 lo)
theorem cutD_len {α : Type} (ds : List α) (lo hi : Option Int) : (cutD ds lo hi).length ≤ ds.length := by
  unfold cutD
  rw [List.length_take, List.length_drop]
  omega
theorem RDs.cut {K : PySem.W.Frag} {io : Pl} {H : Hp} {ds : List D} {xs : List V} (h : RDs K io H ds xs) (lo hi : Option Int) : RDs K io H (cutD ds lo hi) (cutV xs lo hi) := by
  unfold cutD cutV
  rw [h.len]
  exact (h.drop _).take _
def dSl (d : DE) (l h : DO) : DE := fun ρ S Q => d ρ S fun v S1 => l ρ S1 fun lo S2 => h ρ S2 fun hi S3 =>
  (∃ ds, lstD S3 v = some ds ∧ ∀ m, S3 m = none → Q (.ref m) (S3.set m (.lst (cutD ds lo hi)))) ∨ ∃ ds, v = .tup ds ∧ Q (.tup (cutD ds lo hi)) S3
theorem q_slice {M : Md} {X : Cx} {e : Expr} {lo hi : Option Expr} {d : DE} {l h : DO} {pos p2 : Pos} (hM : M.K = X.K) (he : QE M X e d) (hl : QO M X lo l) (hh : QO M X hi h) : QE M X (.Subscript e (.Slice lo hi none p2) pos) (dSl d l h) :=
  PE.imp (pe_slice (sl_list.or sl_tupA) he hl hh) fun σ H Q ⟨io, S, ρ, Qd, r, re, hh, c⟩ => ⟨io, S, ρ, _, r, re, hh, fun i1 H1 S1 v x s1 r1 d1 h1 => ⟨i1, S1, ρ, _, r1, re.mono s1, h1, fun i2 H2 S2 lo s2 r2 h2 => ⟨i2, S2, ρ, _, r2, re.mono (s1.trans s2), h2,
    fun i3 H3 S3 hi s3 r3 h3 => by
      have dv := d1.mono (s2.trans s3)
      have c3 := c.to (s1.trans (s2.trans s3))
      rw [← hM]
      rcases h3 with ⟨ds, e, q⟩ | ⟨ds, e, q⟩
      · obtain ⟨a, xs, rfl, sq, rr⟩ := lst_of r3 dv e
        refine .inl ⟨a, xs, rfl, sq, fun p hp => new_lst r3 hp ?_ (rr.cut lo hi) c3 q⟩
        have := cutD_len ds lo hi
        have := r3.lenL sq
        rw [rr.len] at this
        omega
      · subst e
        obtain ⟨a, xs, rfl, sq, rr⟩ := dv
        refine .inr ⟨a, xs, rfl, SqT.of sq, fun hw => ?_, fun hw p hp => ?_⟩
        · have e : cutD ds lo hi = ds := by
            unfold cutD
            rw [← rr.len, hw.1, hw.2]
            simp [rr.len]
          rw [e] at q
          exact c3.here r3 (v := .tup ds) ⟨a, xs, rfl, sq, rr⟩ q
        · refine new_tup r3 hp ?_ (rr.cut lo hi) c3 q
          have := cutD_len ds lo hi
          have := r3.lenT (SqT.of (K := M.K) sq)
          rw [rr.len] at this
          omega⟩⟩⟩
abbrev DRB := D → List D → Sto → DK → Prop
def SimB (M : Md) (r : V → List V → Hp → VK → Prop) (dr : DRB) : Prop := ∀ (io : Pl) (H : Hp) (S : Sto) (x : V) (xs : List V) (v : D) (ds : List D) (Qd : DK) (Q : VK), RS M io H S → RD M.K io H v x → RDs M.K io H ds xs → dr v ds S Qd → Co M io H Qd Q → r x xs H Q
def tyB (S : Sto) (T : String) (v : D) : Prop := (T = "list" ∧ ∃ ds, lstD S v = some ds) ∨ (T = "dict" ∧ ∃ l ks ds, v = .ref l ∧ S l = some (.dic ks ds)) ∨ (T = "str" ∧ ∃ x, v = .str x)
def dBM (T : String) (dr : DRB) (d : DE) (t : DA) : DE := fun ρ S Q => d ρ S fun v S1 => tyB S1 T v ∧ t ρ S1 fun ds S2 => dr v ds S2 Q
theorem tyB_of {M : Md} {io : Pl} {H : Hp} {S : Sto} {T : String} {v : D} {x : V} (r : RS M io H S) (h : RD M.K io H v x) (t : tyB S T v) : tyV M.K T x H := by
  rcases t with ⟨rfl, ds, e⟩ | ⟨rfl, l, ks, ds, rfl, e⟩ | ⟨rfl, z, rfl⟩
  · obtain ⟨a, xs, rfl, sq, _⟩ := lst_of r h e
    exact .inl ⟨rfl, xs, sq⟩
  · obtain ⟨a, kvs, rfl, _, h1, _⟩ := r.dic e h
    exact .inr (.inr (.inl ⟨rfl, .inl ⟨kvs, h1⟩⟩))
  · rw [show x = .str z from h]; rfl
section
variable {M : Md} {X : Cx} {o e : Expr} {es : List Expr} {d : DE} {t : DA} {name : Str} {apos cpos : Pos} {T id : String} {r : V → List V → Hp → VK → Prop} {dr : DRB}
theorem q_bm (hM : M.K = X.K) (hs : SimB M r dr) (pa : PlainAttrs T) (slot : Slot T name id) (hty : typeOf (.builtin id) = pure (.type "method_descriptor")) (hm : MtR X id r) (ho : QE M X o d) (ha : QA M X (e :: es) t)
    (hbase : attributeBase o name X.env (eval o X.env) = eval o X.env := by rfl)
    (hfew : ((backTo cpos (starEach (e :: es) X.env)).all (fun x => !x.1) && (backToKw cpos (keywordEach [] X.env)).all (fun x => x.1.isSome)
      && decide ((e :: es).length + ([] : List Keyword).length + (if ([] : List Keyword).isEmpty then 0 else 1) < 30)) = true := by rfl)
    (hline : (apos.endLine == cpos.line) = true := by rfl) (hst : starEach (e :: es) X.env = (false, eval e X.env) :: starEach es X.env := by rfl) (hplain : (backTo cpos (starEach es X.env)).any (·.1) = false := by rfl) :
    QE M X (.Call (.Attribute o name apos) (e :: es) [] cpos) (dBM T dr d t) :=
  PE.imp (pe_bm pa slot hty hm ho ha hbase hfew hline hst hplain) fun σ H Q ⟨io, S, ρ, Qd, r, re, hh, c⟩ => ⟨io, S, ρ, _, r, re, hh, fun i1 H1 S1 v x s1 r1 d1 ⟨ty, h1⟩ => ⟨by rw [← hM]; exact tyB_of r1 d1 ty, i1, S1, ρ, _, r1, re.mono s1, h1,
    fun i2 H2 S2 ds xs s2 r2 d2 h2 => hs i2 H2 S2 x xs v ds Qd Q r2 (d1.mono s2) d2 h2 (c.to (s1.trans s2))⟩⟩
end
section
variable {M : Md}
theorem put_lst {io : Pl} {H : Hp} {S : Sto} (r : RS M io H S) {l : Nat} {ds es : List D} {a : Addr} {ys : List V} (e : S l = some (.lst ds)) (at_ : io[l]? = some (a, a)) (hz : es.length ≤ sizeLine) (h : RDs M.K io H es ys) :
    RS M io (upd H a (.lst ys)) (S.set l (.lst es)) ∧ Stp io H io (upd H a (.lst ys)) :=
  r.put e at_ (fun b h1 _ => upd_ne h1) (fun u hu => by
    have : upd H a (.lst ys) a = some u := hu.elim id id
    rw [upd_same] at this; cases this
    show ys.length ≤ sizeLine
    rw [h.len]; exact hz) fun st => ⟨rfl, ys, upd_same, h.mono st⟩
def mAppend : DRB := fun v ds S Q => ∃ l es w, v = .ref l ∧ ds = [w] ∧ S l = some (.lst es) ∧ es.length < sizeLine ∧ Q .non (S.set l (.lst (es ++ [w])))
theorem sim_append : SimB M rAppend mAppend := fun io H S x xs v ds Qd Q r dv dd ⟨l, es, w, e1, e2, e3, hz, q⟩ c => by
  subst e1 e2
  obtain ⟨a, ys, rfl, at_, h1, rr⟩ := r.lst e3 dv
  obtain ⟨y, rfl, dy⟩ := dd.inj1
  obtain ⟨r2, s2⟩ := put_lst r e3 at_ (es := es ++ [w]) (by simp; omega) (rr.app (RDs.one dy))
  exact ⟨a, ys, y, rfl, rfl, h1, by rw [rr.len]; exact hz, c io _ _ .non .non s2 r2 rfl q⟩
def mExtend : DRB := fun v ds S Q => ∃ l es w zs, v = .ref l ∧ ds = [w] ∧ S l = some (.lst es) ∧ lstR S w = some zs ∧ es.length + zs.length ≤ sizeLine ∧ Q .non (S.set l (.lst (es ++ zs)))
def mPop : DRB := fun v ds S Q => ∃ l es w, v = .ref l ∧ ds = [] ∧ S l = some (.lst es) ∧ es[es.length - 1]? = some w ∧ Q w (S.set l (.lst es.dropLast))
theorem RDs.dropLast {K : PySem.W.Frag} {io : Pl} {H : Hp} {ds : List D} {xs : List V} (h : RDs K io H ds xs) : RDs K io H ds.dropLast xs.dropLast := by
  rw [List.dropLast_eq_take, List.dropLast_eq_take, h.len]
  exact h.take _
def mPopAt : DRB := fun v ds S Q => ∃ l es i k w, v = .ref l ∧ ds = [.int i] ∧ S l = some (.lst es) ∧ ixN es.length i = some k ∧ es[k]? = some w ∧ Q w (S.set l (.lst (es.eraseIdx k)))
theorem sim_popAt : SimB M rPopAt mPopAt := fun io H S x xs v ds Qd Q r dv dd ⟨l, es, i, k, w, e1, e2, e3, e4, e5, q⟩ c => by
  subst e1 e2
  obtain ⟨a, ys, rfl, at_, h1, rr⟩ := r.lst e3 dv
  obtain ⟨y, rfl, dy⟩ := dd.inj1
  have dy : y = .int i := dy
  subst dy
  obtain ⟨z, ez, dz⟩ := rr.get e5
  have hl := lst_len r (v := .ref l) dv (ds := es) (by simp [seqD, e3])
  obtain ⟨r2, s2⟩ := put_lst r e3 at_ (es := es.eraseIdx k) (by have := len_erase es k; omega) (rr.era k)
  obtain ⟨h2, h3, h4, h5⟩ := ixN_seq e4
  have hs : (sizeLine : Nat) = 16777216 := sizeLine_eq
  exact ⟨a, ys, i, k, z, rfl, rfl, h1, by omega, by omega, by rw [rr.len]; exact h2, ez, c io _ _ w z s2 r2 (dz.mono s2) q⟩
def mIndex : DRB := fun v ds S Q => ∃ (p : PyData) (qs : List PyData) (j : Nat) (z : PyData) (w : D), pyR S v = some (.list qs) ∧ ds = [w] ∧ pyR S w = some p ∧ SeqAt.shaped (.list qs) = true ∧ SeqAt.shaped p = true ∧ qs[j]? = some z ∧ PyData.eqv z p = true ∧
  (∀ (m : Nat) (z' : PyData), m < j → qs[m]? = some z' → PyData.eqv z' p = false) ∧ Q (.int (j : Nat)) S
theorem sim_index {K : PySem.W.Frag} (hM : M.K = K) : SimB M (rIndexD K) mIndex := fun io H S x xs v ds Qd Q r dv dd ⟨p, qs, j, z, w, e1, e2, e3, h1, h2, h3, h4, h5, q⟩ c => by
  subst e2
  obtain ⟨y, rfl, dy⟩ := dd.inj1
  have d1 := dpr_of r dv e1
  have d2 := dpr_of r dy e3
  rw [hM] at d1 d2
  cases d1 with
  | lst hs ha => exact ⟨_, y, p, qs, j, z, rfl, rfl, .lst hs ha, d2, h1, h2, h3, h4, h5, c.here r (v := .int j) rfl q⟩
end
section
variable {M : Md}
def bLen : DRA := fun ds S Q => ∃ v, ds = [v] ∧ ((∃ es, seqD S v = some es ∧ Q (.int es.length) S) ∨ (∃ x, v = .str x ∧ x.length ≤ sizeLine ∧ Q (.int x.length) S))
theorem sim_len {K : PySem.W.Frag} (hM : M.K = K) : SimA M (fun xs H Q => ∃ x n, xs = [x] ∧ LenV K x H n ∧ Q (.int n) H) bLen := fun io H S xs ds Qd Q r dd ⟨v, e1, h⟩ c => by
  subst e1
  obtain ⟨y, rfl, dy⟩ := dd.inj1
  rcases h with ⟨es, e, q⟩ | ⟨x, e, hz, q⟩
  · obtain ⟨a, ys, rfl, sq, rr⟩ := seq_of r dy e
    rw [hM] at sq
    refine ⟨_, es.length, rfl, ?_, c.here r (v := .int es.length) rfl q⟩
    rcases sq with sq | sq
    · exact .inl ⟨ys, sq, rr.len.symm⟩
    · exact .inr ⟨ys, sq, rr.len.symm⟩
  · subst e
    have dy : y = .str x := dy
    subst dy
    exact ⟨_, x.length, rfl, ⟨hz, rfl⟩, c.here r (v := .int x.length) rfl q⟩
def bAbs : DRA := fun ds S Q => ∃ i, ds = [.int i] ∧ Q (.int (if i < 0 then -i else i)) S
theorem sim_abs : SimA M (fun xs H Q => ∃ i, xs = [.int i] ∧ Q (.int (if i < 0 then -i else i)) H) bAbs := fun io H S xs ds Qd Q r dd ⟨i, e1, q⟩ c => by
  subst e1
  obtain ⟨y, rfl, dy⟩ := dd.inj1
  have dy : y = .int i := dy
  subst dy
  exact ⟨i, rfl, c.here r (v := .int _) rfl q⟩
def bInt : DRA := fun ds S Q => (∃ i, ds = [.int i] ∧ Q (.int i) S) ∨ ∃ b, ds = [.bl b] ∧ Q (.int (if b then 1 else 0)) S
theorem sim_int : SimA M (fun xs H Q => (∃ i, xs = [.int i] ∧ Q (.int i) H) ∨ ∃ k, xs = [.bl k] ∧ Q (.int (if k then 1 else 0)) H) bInt := fun io H S xs ds Qd Q r dd h c => by
  rcases h with ⟨i, e, q⟩ | ⟨i, e, q⟩
  · subst e
    obtain ⟨y, rfl, dy⟩ := dd.inj1
    have dy : y = .int i := dy
    subst dy
    exact .inl ⟨i, rfl, c.here r (v := .int _) rfl q⟩
  · subst e
    obtain ⟨y, rfl, dy⟩ := dd.inj1
    have dy : y = .bl i := dy
    subst dy
    exact .inr ⟨i, rfl, c.here r (v := .int _) rfl q⟩
def bMin2 : DRA := fun ds S Q => ∃ i j, ds = [.int i, .int j] ∧ Q (.int (if j < i then j else i)) S
def bMax2 : DRA := fun ds S Q => ∃ i j, ds = [.int i, .int j] ∧ Q (.int (if j > i then j else i)) S
theorem sim_min2 : SimA M (fun xs H Q => ∃ i j, xs = [.int i, .int j] ∧ Q (.int (if j < i then j else i)) H) bMin2 := fun io H S xs ds Qd Q r dd ⟨i, j, e1, q⟩ c => by
  subst e1
  obtain ⟨y, z, rfl, dy, dz⟩ := dd.inj2
  have dy : y = .int i := dy
  have dz : z = .int j := dz
  subst dy dz
  exact ⟨i, j, rfl, c.here r (v := .int _) rfl q⟩
theorem RDs.bls : ∀ {io : Pl} {H : Hp} {bs : List Bool} {xs : List V}, RDs M.K io H (bs.map D.bl) xs → xs = bs.map V.bl
  | _, _, [], _, h => h
  | _, _, b :: bs, _, h => by
    obtain ⟨x, r, rfl, h1, h2⟩ := h
    rw [show x = .bl b from h1, RDs.bls h2]; rfl
theorem RDs.strs : ∀ {io : Pl} {H : Hp} {bs : List Str} {xs : List V}, RDs M.K io H (bs.map D.str) xs → xs = bs.map V.str
  | _, _, [], _, h => h
  | _, _, b :: bs, _, h => by
    obtain ⟨x, r, rfl, h1, h2⟩ := h
    rw [show x = .str b from h1, RDs.strs h2]; rfl
theorem RDs.ofStrs {io : Pl} {H : Hp} : ∀ {bs : List Str}, RDs M.K io H (bs.map D.str) (bs.map V.str)
  | [] => RDs.nil
  | b :: bs => RDs.cons rfl RDs.ofStrs
def bAll : DRA := fun ds S Q => ∃ (v : D) (bs : List Bool), ds = [v] ∧ lstD S v = some (bs.map D.bl) ∧ Q (.bl (bs.all id)) S
def bAny : DRA := fun ds S Q => ∃ (v : D) (bs : List Bool), ds = [v] ∧ lstD S v = some (bs.map D.bl) ∧ Q (.bl (bs.any id)) S
theorem sim_all {K : PySem.W.Frag} (hM : M.K = K) : SimA M (rAll K) bAll := fun io H S xs ds Qd Q r dd ⟨v, bs, e1, e2, q⟩ c => by
  subst e1
  obtain ⟨y, rfl, dy⟩ := dd.inj1
  obtain ⟨a, ys, rfl, sq, rr⟩ := lst_of r dy e2
  rw [rr.bls, hM] at sq
  exact ⟨a, bs, rfl, sq, c.here r (v := .bl _) rfl q⟩
def tupOf : D → List D → D
  | .kt ds, _ => .kt ds
  | _, es => .tup es
def bTuple : DRA := fun ds S Q => ∃ v es, ds = [v] ∧ seqD S v = some es ∧ Q (tupOf v es) S
def bList : DRA := fun ds S Q => ∃ v es, ds = [v] ∧ seqD S v = some es ∧ ∀ l, S l = none → Q (.ref l) (S.set l (.lst es))
theorem sim_tuple {K : PySem.W.Frag} (hM : M.K = K) : SimA M (fun xs H Q => ∃ p ys, xs = [.ref p] ∧ ((SqL K H p ys ∧ ∀ l, H l = none → Q (.ref l) (upd H l (.tup ys))) ∨ (SqT K H p ys ∧ Q (.ref p) H))) bTuple :=
  fun io H S xs ds Qd Q r dd ⟨v, es, e1, e2, q⟩ c => by
    subst e1 hM
    obtain ⟨y, rfl, dy⟩ := dd.inj1
    have hl := lst_len r dy e2
    have L : lstD S v = some es → Qd (.tup es) S → ∃ p ys, [y] = [.ref p] ∧ ((SqL M.K H p ys ∧ ∀ l, H l = none → Q (.ref l) (upd H l (.tup ys))) ∨ (SqT M.K H p ys ∧ Q (.ref p) H)) := fun e q => by
      obtain ⟨a, ys, rfl, sq, rr⟩ := lst_of r dy e
      exact ⟨a, ys, rfl, .inl ⟨sq, fun l hp => new_tup r hp hl rr c q⟩⟩
    cases v with
    | kt ds' =>
      cases e2
      obtain ⟨a, o, xs, rfl, s, od, r'⟩ := dy
      exact ⟨a, xs, rfl, .inr ⟨.inl (.inr ⟨o, s⟩), c.here r (v := .kt es) ⟨a, o, xs, rfl, s, od, r'⟩ q⟩⟩
    | tup ds' =>
      cases e2
      obtain ⟨a, xs, rfl, s, r'⟩ := dy
      exact ⟨a, xs, rfl, .inr ⟨SqT.of s, c.here r (v := .tup es) ⟨a, xs, rfl, s, r'⟩ q⟩⟩
    | lst ds' => exact L e2 q
    | kl ds' => exact L e2 q
    | ref l => exact L e2 q
    | _ => cases e2
theorem sim_list {K : PySem.W.Frag} (hM : M.K = K) : SimA M (fun xs H Q => ∃ p ys, xs = [.ref p] ∧ (SqL K H p ys ∨ SqT K H p ys) ∧ ∀ l, H l = none → Q (.ref l) (upd H l (.lst ys))) bList :=
  fun io H S xs ds Qd Q r dd ⟨v, es, e1, e2, q⟩ c => by
    subst e1
    obtain ⟨y, rfl, dy⟩ := dd.inj1
    have hl := lst_len r dy e2
    obtain ⟨a, ys, rfl, sq, rr⟩ := seq_of r dy e2
    rw [hM] at sq
    exact ⟨a, ys, rfl, sq, fun l hp => new_lst r hp hl rr c q⟩
def kD : Key → D
  | .inl i => .int i
  | .inr x => .str x
theorem RDs.keys {io : Pl} {H : Hp} : ∀ {ks : List Key}, RDs M.K io H (ks.map kD) (ks.map kV)
  | [] => RDs.nil
  | .inl i :: ks => RDs.cons rfl RDs.keys
  | .inr i :: ks => RDs.cons rfl RDs.keys
def bListD : DRA := fun ds S Q => ∃ v p, ds = [v] ∧ dicD S v = some p ∧ ∀ l, S l = none → Q (.ref l) (S.set l (.lst (p.1.map kD)))
theorem RS.lenD {io : Pl} {H : Hp} {S : Sto} (r : RS M io H S) {a : Addr} {kvs : List (Key × V)} (h : Rd H a (.dK kvs)) : kvs.length ≤ sizeLine := by
  rcases h with h | ⟨o, h⟩
  · exact r.sz _ _ h
  · exact r.sz _ _ h
theorem sim_listD : SimA M (fun xs H Q => ∃ (a : Addr) (kvs : List (Key × V)), xs = [.ref a] ∧ Rd H a (.dK kvs) ∧ ∀ p, H p = none → Q (.ref p) (upd H p (.lst (kvs.map fun kv => kV kv.1)))) bListD :=
  fun io H S xs ds Qd Q r dd ⟨v, p, e1, e2, q⟩ c => by
    subst e1
    obtain ⟨y, rfl, dy⟩ := dd.inj1
    obtain ⟨a, kvs, rfl, hd, hk, rr⟩ := dic_of r dy e2
    have hz := r.lenD hd
    refine ⟨a, kvs, rfl, hd, fun l hp => ?_⟩
    have e : (kvs.map fun kv => kV kv.1) = p.1.map kV := by rw [← hk, List.map_map]; rfl
    rw [e]
    exact new_lst r hp (by rw [List.length_map, ← hk, List.length_map]; exact hz) RDs.keys c q
def bSortS : DRA := fun ds S Q => ∃ (v : D) (xs : List Str), ds = [v] ∧ lstD S v = some (xs.map D.str) ∧ xs.length < 64 ∧ ∀ (ys : List Str) (l : Nat), ys.Perm xs → sortedS ys = true → S l = none → Q (.ref l) (S.set l (.lst (ys.map D.str)))
theorem sim_sortS {K : PySem.W.Frag} (hM : M.K = K) : SimA M (rSortedS K) bSortS := fun io H S xs ds Qd Q r dd ⟨v, zs, e1, e2, hz, q⟩ c => by
  subst e1
  obtain ⟨y, rfl, dy⟩ := dd.inj1
  obtain ⟨a, ys, rfl, sq, rr⟩ := lst_of r dy e2
  rw [rr.strs, hM] at sq
  exact ⟨a, zs, rfl, sq, hz, fun us p hp hs hn => new_lst r hn (by rw [List.length_map, hp.length_eq]; exact small64 hz) RDs.ofStrs c fun l hl => q us l hp hs hl⟩
end
def tyD (S : Sto) : D → Option String
  | .non => some "NoneType"
  | .bl _ => some "bool"
  | .int _ => some "int"
  | .str _ => some "str"
  | .tup _ => some "tuple"
  | .lst _ => some "list"
  | .kl _ => some "list"
  | .kt _ => some "tuple"
  | .dic _ _ => some "dict"
  | .ref l => (match S l with
    | some (.lst _) => some "list"
    | some (.dic _ _) => some "dict"
    | _ => none)
  | .raw _ => none
theorem ty_of {M : Md} {io : Pl} {H : Hp} {S : Sto} (r : RS M io H S) {v : D} {x : V} {T : String} (h : RD M.K io H v x) (e : tyD S v = some T) : TyX M.K H x (.type T) := by
  cases v with
  | non => cases e; rw [show x = .non from h]; exact .base .non
  | bl b => cases e; rw [show x = .bl b from h]; exact .base (.bl b)
  | int b => cases e; rw [show x = .int b from h]; exact .base (.int b)
  | str b => cases e; rw [show x = .str b from h]; exact .base (.str b)
  | tup ds =>
    cases e
    obtain ⟨a, xs, rfl, sq, _⟩ := h
    exact .base (.tup sq)
  | lst ds =>
    cases e
    obtain ⟨a, xs, rfl, ⟨o, sq⟩, _⟩ := h
    exact .base (.frz sq)
  | kl ds =>
    cases e
    obtain ⟨a, xs, rfl, ⟨o, its, n, h1, h2, _⟩, _⟩ := h
    exact .kList h1 h2
  | kt ds =>
    cases e
    obtain ⟨a, o, xs, rfl, sq, _⟩ := h
    exact .fTuple sq
  | dic ks ds =>
    cases e
    obtain ⟨a, o, kvs, rfl, sq, _⟩ := h
    exact .fDict sq
  | ref l =>
    have e' : (match S l with | some (.lst _) => some "list" | some (.dic _ _) => some "dict" | _ => none) = some T := e
    cases q : S l with
    | none => rw [q] at e'; cases e'
    | some o =>
      rw [q] at e'
      cases o with
      | lst ds =>
        cases e'
        obtain ⟨a, xs, rfl, _, h1, _⟩ := r.lst q h
        exact .base (.lst h1)
      | dic ks ds =>
        cases e'
        obtain ⟨a, xs, rfl, _, h1, _⟩ := r.dic q h
        exact .base (.dK h1)
      | _ => cases e'
  | raw w => cases e
def isK (a b : String) : Bool := a == b || (a == "bool" && b == "int")
def kinds : List String := ["NoneType", "bool", "int", "str", "tuple", "list", "dict"]
theorem kit_all : ∀ a ∈ kinds, ∀ b ∈ kinds.tail, kitB a b = some (isK a b) := by decide +kernel
theorem tyD_in {S : Sto} {v : D} {T : String} (e : tyD S v = some T) : T ∈ kinds := by
  cases v with
  | ref l =>
    have e' : (match S l with | some (.lst _) => some "list" | some (.dic _ _) => some "dict" | _ => none) = some T := e
    split at e' <;> cases e' <;> decide
  | raw w => cases e
  | _ => cases e; decide
def dIsi (T : String) (d : DE) : DE := fun ρ S Q => d ρ S fun v S1 => ∃ t, tyD S1 v = some t ∧ Q (.bl (isK t T)) S1
def dIsi2 (T U : String) (d : DE) : DE := fun ρ S Q => d ρ S fun v S1 => ∃ t, tyD S1 v = some t ∧ Q (.bl (isK t T || isK t U)) S1
section
variable {M : Md} {X : Cx} {e : Expr} {d : DE} {p q pos p1 p2 : Pos} {x y : Str} {T U : String}
theorem q_isi (hM : M.K = X.K) (hg : Gl X "isinstance") (hm : X.mg "isinstance" = none) (he : QE M X e d) (hgx : Gl X x) (hmx : X.mg x = none) (hv : bootBuiltins x = some (.type T)) (hT : T ∈ kinds.tail)
    (hn : x ≠ "__name__" := by decide) (hd : (x == ("__debug__" : Str)) = false := by decide)
    (hs : starEach [e, .Name x q] X.env = (false, eval e X.env) :: starEach [.Name x q] X.env := by rfl) (hs2 : starEach [.Name x q] X.env = [(false, eval (.Name x q) X.env)] := by rfl) (hpl : (backTo pos (starEach [.Name x q] X.env)).any (·.1) = false := by rfl) :
    QE M X (.Call (.Name "isinstance" p) [e, .Name x q] [] pos) (dIsi T d) :=
  PE.imp (pe_callB call_isi hg hm (by decide +kernel) (pa_cons he (pa_cons (pe_bltn (v := .ty T) hgx hmx hv rfl hn hd) pa_nil hs2) hs) (by decide) (by decide) hs hpl) fun σ H Q ⟨io, S, ρ, Qd, r, re, h, c⟩ =>
    ⟨io, S, ρ, _, r, re, h, fun i1 H1 S1 v z s1 r1 d1 ⟨t, e1, h1⟩ => ⟨z, .ty T, .type t, .type T, _, rfl, .ty T, by rw [← hM]; exact ty_of r1 d1 e1, kit_ty (kit_all t (tyD_in e1) T hT), c i1 H1 S1 (.bl _) _ s1 r1 rfl h1⟩⟩
theorem q_isi2 {k : Nat} (hM : M.K = X.K) (hg : Gl X "isinstance") (hm : X.mg "isinstance" = none) (he : QE M X e d) (hgx : Gl X x) (hmx : X.mg x = none) (hv : bootBuiltins x = some (.type T)) (hT : T ∈ kinds.tail) (hgy : Gl X y) (hmy : X.mg y = none) (hvy : bootBuiltins y = some (.type U)) (hU : U ∈ kinds.tail)
    (hn : x ≠ "__name__" := by decide) (hd : (x == ("__debug__" : Str)) = false := by decide) (hny : y ≠ "__name__" := by decide) (hdy : (y == ("__debug__" : Str)) = false := by decide)
    (hs : starEach [e, .Tuple [.Name x q, .Name y p1] k p2] X.env = (false, eval e X.env) :: starEach [.Tuple [.Name x q, .Name y p1] k p2] X.env := by rfl)
    (hs2 : starEach [.Tuple [.Name x q, .Name y p1] k p2] X.env = [(false, eval (.Tuple [.Name x q, .Name y p1] k p2) X.env)] := by rfl)
    (hs3 : starEach [.Name x q, .Name y p1] X.env = (false, eval (.Name x q) X.env) :: starEach [.Name y p1] X.env := by rfl) (hs4 : starEach [.Name y p1] X.env = [(false, eval (.Name y p1) X.env)] := by rfl)
    (hpl : (backTo pos (starEach [.Tuple [.Name x q, .Name y p1] k p2] X.env)).any (·.1) = false := by rfl) :
    QE M X (.Call (.Name "isinstance" p) [e, .Tuple [.Name x q, .Name y p1] k p2] [] pos) (dIsi2 T U d) :=
  PE.imp (pe_callB call_isiT hg hm (by decide +kernel) (pa_cons he (pa_cons (pe_tup (pa_cons (pe_bltn (v := .ty T) hgx hmx hv rfl hn hd) (pa_cons (pe_bltn (v := .ty U) hgy hmy hvy rfl hny hdy) pa_nil hs4) hs3)) pa_nil hs2) hs) (by decide) (by decide) hs hpl)
    fun σ H Q ⟨io, S, ρ, Qd, r, re, h, c⟩ =>
    ⟨io, S, ρ, _, r, re, h, fun i1 H1 S1 v z s1 r1 d1 ⟨t, e1, h1⟩ => ⟨(by decide : 2 ≤ sizeLine), fun a ha => by
      obtain ⟨r2, s2⟩ := r1.keepNew (u := .tup [.ty T, .ty U]) ha (by show 2 ≤ sizeLine; decide)
      refine ⟨z, a, [.ty T, .ty U], .type t, [.type T, .type U], isK t T || isK t U, rfl, upd_same, .cons (.ty T) (.cons (.ty U) .nil), by rw [← hM]; exact ty_of r2 (d1.mono s2) e1, ?_, c i1 _ S1 (.bl _) _ (s1.trans s2) r2 rfl h1⟩
      refine kitAny_cons (kit_ty (kit_all t (tyD_in e1) T hT)) (fun hb => ?_) fun hb => by rw [hb]; rfl
      refine kitAny_cons (kit_ty (kit_all t (tyD_in e1) U hU)) (fun hb2 => ?_) fun hb2 => by rw [hb2, Bool.or_true]
      rw [hb, hb2]
      exact kitAny_nil⟩⟩
end
end L3
end
section
set_option Elab.async false
set_option linter.all false
set_option maxRecDepth 100000
set_option maxHeartbeats 2000000
namespace L3
open PySem PySem.Spec PyProof.Rows L2

abbrev gx (X : Cx) (A : Around) (s : Shared) (H : Hp) (env : Env) (fp : List Addr) : Cx :=
  { X with A := A, s_0 := s, H_0 := H, env := env, outer := X.stack, stack := env :: X.stack, ex := fp, fn := fun _ => false, pn := [], xe := fun _ _ => False }
abbrev gEnv (X : Cx) (scope : Scope) (C : Addr) (code : Value) : Env := genEnv scope (cloFrom X.env.cells scope.names []) C code builtinsNs X.env
theorem inv_gens {X : Cx} {pins : List (Addr × Obj)} {σ : L2.St} {H : Hp} {s : Shared} {g' : Array GenState} (I : Inv X pins σ H s) (hb : AllBare g') : Inv X pins σ H { s with gens := g' } :=
  ⟨I.ok, I.os, hb, I.base, I.loc, I.cell, I.free, I.freeC, I.pin, I.hok, I.len⟩
section
variable {X : Cx} {pins : List (Addr × Obj)} {σ : L2.St} {H : Hp} {s : Shared}
theorem noCell_from : ∀ (names : List (Str × NameKind)) (n : Nat) (acc : List (Str × Addr)), (∀ y ∈ names, y.2 ≠ .cell) → cellsFrom n names acc = acc
  | [], _, _, _ => rfl
  | (_, k) :: r, n, acc, h => by
    have hk : (k == NameKind.cell) = false := by
      have := h _ (List.mem_cons_self ..)
      cases k <;> first | rfl | exact absurd rfl this
    unfold cellsFrom
    rw [hk]
    exact noCell_from r n acc fun y hy => h y (List.mem_cons_of_mem _ hy)
theorem noCell_push : ∀ (names : List (Str × NameKind)) (h : Heap), (∀ y ∈ names, y.2 ≠ .cell) → pushCells h names = h
  | [], _, _ => rfl
  | (_, k) :: r, h, hc => by
    have hk : (k == NameKind.cell) = false := by
      have := hc _ (List.mem_cons_self ..)
      cases k <;> first | rfl | exact absurd rfl this
    unfold pushCells
    rw [hk]
    exact noCell_push r h fun y hy => hc y (List.mem_cons_of_mem _ hy)
theorem rel_free (env : Env) (x : Str) : ∀ names : List (Str × NameKind), names.lookup x = some .free → ∀ f : Str × NameKind → Str × NameKind, (∀ p, (f p).1 = p.1) → (∀ p, p.2 = .free → (f p).2 = .cell ∨ (f p).2 = .free) →
    (names.map f).lookup x = some .cell ∨ (names.map f).lookup x = some .free
  | [], h, _, _, _ => by cases h
  | (n, k) :: r, h, f, h1, h2 => by
    have e : f (n, k) = (n, (f (n, k)).2) := Prod.ext (h1 (n, k)) rfl
    rw [List.map_cons, e, List.lookup_cons]
    rw [List.lookup_cons] at h
    cases hx : x == n with
    | true =>
      rw [hx] at h
      exact (h2 (n, k) (Option.some.inj h)).imp (congrArg some) (congrArg some)
    | false =>
      rw [hx] at h
      exact rel_free env x r h f h1 h2
theorem gen_start {scope : Scope} {own : List (Str × Nat)} {fp : List Addr} {A : Around} {code : Value} {s' : Shared} {m0 : Str → Option Value} (I : Inv X pins σ H s) (ok : BlkOk X.N X.env.scope scope own) (hN : X.N.Nodup)
    (hcell : ∀ y ∈ scope.names, y.2 ≠ .cell) (hfp : ∀ b ∈ fp, FpOk X pins H b ∧ b < s.heap.objs.size) (kp : ∀ b o, s.heap.get? b = some o → s'.heap.get? b = some o) (os : s'.os = s.os) (hb : AllBare s'.gens)
    (hns : s'.heap.Ns s.heap.objs.size m0) (hA : A.handled = none) (hf : A.frames = some (gEnv X scope s.heap.objs.size code :: X.stack)) :
    Inv (gx X A s H (gEnv X scope s.heap.objs.size code) fp) [] (wipe σ (own.map (·.2))) H s' := by
  have B := block_start I ok hN hfp
  rw [noCell_from _ _ _ hcell, noCell_push _ _ hcell] at B
  have free' : ∀ x, scope.names.lookup x = some .free → (relabel scope X.env).names.lookup x = some .cell ∨ (relabel scope X.env).names.lookup x = some .free := fun x e =>
    rel_free X.env x scope.names e _ (fun p => by dsimp only; split <;> rfl) fun p e' => by
      dsimp only
      split
      · exact .inl rfl
      · exact .inr e'
  have down : ∀ {c v}, c ≠ s.heap.objs.size → (s.heap.push { cls := .type "dict", data := .dict #[] }).IsCell c v → s'.heap.IsCell c v := fun {c v} ne ⟨o, e, d⟩ => by
    rw [Heap.get?_push_ne _ _ _ ne] at e
    exact ⟨o, kp _ _ e, d⟩
  have kinds : ∀ x, (scope.names.lookup x = some .cell ∨ scope.names.lookup x = some .free) → scope.names.lookup x = some .free := fun x e =>
    e.elim (fun e => absurd rfl (hcell _ (PySem.mem_of_lookup e))) id
  exact
    { ok :=
        { mod := B.ok.mod, kind := ok.kind, glob := B.ok.glob, blt := rfl, above := Nat.le_refl _, inj := B.ok.inj
          has := fun x hx => B.ok.has x (free' x (kinds x hx))
          cab := fun _ _ e => by cases e
          hd := fun _ => hA, frames := hf, stk := .inr ⟨rfl, rfl⟩, exf := B.ok.exf
          bs := B.ok.bs, bsz := B.ok.bsz, noex := B.ok.noex, exfs := B.ok.exfs, funs := B.ok.funs, frf := B.ok.frf }
      os := os, bare := hb, base := Un.kept kp
      loc := ⟨m0, hns, fun i x v ei ev hx => by
        obtain ⟨m, hm, hl⟩ := B.loc
        -- a name of the block that still holds something is none of its own
        have hx' : scope.names.lookup x = some .free := by
          have hx : Vis scope x := hx
          rcases hx with e | e | e
          · exfalso
            obtain ⟨_, hni⟩ := wipe_some ev
            rcases ok.own _ (PySem.mem_of_lookup e) (.inl rfl) with z | z
            · obtain ⟨⟨y, j⟩, hp, rfl⟩ := List.mem_map.mp z
              exact hni (List.mem_map.mpr ⟨_, hp, nodup_ix hN (ok.ix _ hp) ei⟩)
            · exact z (List.mem_of_getElem? ei)
          · exact kinds x (.inl e)
          · exact e
        obtain ⟨u, ru, lk⟩ := hl i x v ei ev (.inr (free' x hx'))
        refine ⟨u, ru, .inr ⟨.inr hx', ?_⟩⟩
        rcases lk with ⟨_, k⟩ | ⟨_, c, ec, hc⟩
        · rw [hm.agree (Heap.Ns.new s.heap _) x] at k
          cases k
        · exact ⟨c, ec, down (B.cne x c ec) hc⟩⟩
      cell := fun x c e => (B.cell x c e).imp fun _ h => down (B.cne x c e) h
      free := B.free, freeC := B.freeC
      pin := fun p hp => nomatch (show p ∈ ([] : List (Addr × Obj)) from hp)
      hok := I.hok.kept kp, len := B.len }
end
def nextW (gs : Gs) (t : Tg) (tt : DT) (te : DE) (ρ : En) (z : D) (Q : DK) : List D → Sto → Prop
  | [], S => gs.ok S ∧ Q z S
  | d :: ds, S => gs.ok S ∧ t.d d ρ fun ρ1 => tt ρ1 S fun b S2 => if b = true then te ρ1 S2 Q else ∃ S3, S3.sub S2 ∧ nextW gs t tt te ρ z Q ds S3
def dNextG (di : DI) (t : Tg) (tt : DT) (te : DE) (vs : List Nat) (z : D) : DE := fun ρ S Q => di ρ S fun ds gs S1 => nextW gs t tt te (wipeD ρ vs) z Q ds S1
theorem over_gen {A : Around} {elt : Expr} {cl : List Comprehension} {scope : Scope} {gpos : Pos} {it : Value} {env : Env} : A.over (.compLoop (.GeneratorExp elt cl scope gpos) 0 it .none env) [] = A.deeper env := by
  obtain ⟨hd, d, fr, gs, u⟩ := A
  simp [Around.over, Around.deeper, marksOver, frameCount, unitsOf, envsOf, guardsOf, pushEnvs, pushGuards, Code.envs, Code.env?, Code.isFrame, Code.guards, Code.isGuard, Code.weight, Code.frames, Code.isCreation, Code.isCaller, Code.cUnits]
section
variable {M : Md} {X : Cx} {elt tg iter de : Expr} {ifs : List Expr} {scope : Scope} {own : List (Str × Nat)} {p pos gpos : Pos} {di : DI} {t : Tg} {tt : DT} {te : DE} {k : Nat} {z : D} {zx : V} {zv : Value} {c P : Addr}
theorem q_nextA (hM : M.K = X.K) (hP : (P, ("" : Str)) ∈ M.tabs) (hone : OneT M.tabs) (hc : X.calm = true) (hN : X.N.Nodup) (hr : Room (k + 1) X.A) (hg : Gl X "next") (hm : X.mg "next" = none) (hzd : ∀ io H, RD M.K io H z zx) (hzv : RelV zx zv) (hde : ∀ {pins : List (Addr × Obj)} {σ : L2.St} {H : Hp} {s : Shared} {Q : Value → Shared → Prop} {E : Value → Shared → Prop}, Inv X pins σ H s → Q zv s → wpAny (model X.prog X.w) X.A (eval de X.env) Q E s) (TB : GxR.TabB X.base X.mg c P) (hcode : X.env.code = .ref c)
    (hi : QI M X tg iter di) (ok : BlkOk X.N X.env.scope scope own) (hcell : ∀ y ∈ scope.names, y.2 ≠ .cell) (hco : scope.isCoroutine = false) (h0 : scope.names.lookup (".0" : Str) = some NameKind.local) (hv : t.in_ (own.map (·.2)))
    (hgt : ∀ (A : Around) (s : Shared) (H : Hp) (C : Addr) (code : Value) (fp : List Addr), Room k A → PG (gx X A s H (gEnv X scope C code) fp) tg (t.g X.K))
    (ht : ∀ (A : Around) (s : Shared) (H : Hp) (C : Addr) (code : Value) (fp : List Addr), Room k A → QTs M (gx X A s H (gEnv X scope C code) fp) ifs tt)
    (he : ∀ (A : Around) (s : Shared) (H : Hp) (C : Addr) (code : Value) (fp : List Addr), Room k A → QE M (gx X A s H (gEnv X scope C code) fp) elt te)
    (hs : ∀ v, genFold iter X.env v = pure v) 
    (hst1 : starEach [de] X.env = [(false, eval de X.env)] := by rfl) :
    QE M X (.Call (.Name "next" p) [.GeneratorExp elt [⟨tg, iter, ifs, 0⟩] scope gpos, de] [] pos) (dNextG di t tt te (own.map (·.2)) z) := by
  refine ⟨fun pins s σ H Q I ⟨io, S, ρ, Qd, r, re, h, co⟩ => ?_⟩
  refine wpAny_Call_Name_kw (ld_blt I hg hm PyProof.Rows.boot_next ?_)
  have hst : starEach [.GeneratorExp elt [⟨tg, iter, ifs, 0⟩] scope gpos, de] X.env = (false, eval (.GeneratorExp elt [⟨tg, iter, ifs, 0⟩] scope gpos) X.env) :: [(false, eval de X.env)] := by
    rw [← hst1]; rfl
  refine PyProof.Rows.callWith_builtin1 ?_ (by rfl) (by rw [hst1]; rfl)
  rw [hst]
  show wpAny _ _ (spliced ((false, eval (.GeneratorExp elt [⟨tg, iter, ifs, 0⟩] scope gpos) X.env) :: [(false, eval de X.env)])) _ _ s
  refine Calls.spliced_cons ?_
  have hfree : ∀ y ∈ scope.names, y.2 = .free → ∃ c, X.env.cells.lookup y.1 = some c := fun y hy e => by
    rcases ok.free y hy e with k | k
    · exact I.ok.has _ (.inl k)
    · exact I.ok.has _ (.inr k)
  refine wpAny_GeneratorExp_make hco (closure_ok hfree) hcell h0 ok.kind hr.depth ?_ hs
  refine thn (hi.run pins s σ H (fun J H1 => ∃ io1 S1 ds gs, Stp io H io1 H1 ∧ RS M io1 H1 S1 ∧ ItOk M J ds gs io1 H1 ∧ nextW gs t tt te (wipeD ρ (own.map (·.2))) z Qd ds S1) I
    ⟨io, S, ρ, _, r, re, h, fun i1 H1 S1 J ds gs s1 r1 j1 q => ⟨i1, S1, ds, gs, s1, r1, j1, q⟩⟩) fun xv s1 hx => thn hx fun itv s2 h2 => ?_
  obtain ⟨it, fp, tn, J, H2, e, I2, T, st2, f2, i2, S2, ds, gs, sp2, r2, j2, q2⟩ := h2
  subst e
  refine ⟨I2.nolimit, ?_⟩
  obtain ⟨ps, hPt, htr, _⟩ := r2.tab _ hP
  have hPt : H2 P = some (.tbl ps) := hPt
  have hPs : s2.heap.get? P = some { cls := .none, data := .fields ps } := I2.hok P _ hPt
  have cd : PySem.W.CodeHd s2.heap c P := TB.code.keeps fun b u e => I2.bk b u e
  have sz : ∀ b ∈ fp, b < s2.heap.objs.size := fun b hb => by
    obtain ⟨o, e, _⟩ := T.obj _ _ st2 b hb
    exact Heap.lt_size e
  have nP : ∀ b ∈ fp, b ≠ P := fun b hb e => by
    have := (f2 b hb).1
    rw [e, hPt] at this; cases this
  have cont : ∀ (code : Value) (h3 : Heap) (tk3 : Nat) (ps' : Array Value), Heap.ExtBut P s2.heap h3 → s2.heap.objs.size ≤ h3.objs.size → h3.get? P = some { cls := .none, data := .fields ps' } → (∃ more, ps' = ps ++ more) → TriplesOk ps'.toList →
      wpAny (model X.prog X.w) X.A (builtinsFor X.env.globals X.env.builtins) (fun bi s₄ =>
        ∀ h', h'.Ns s₄.heap.objs.size (fun y => if y = ".0" then some (.ref it) else none) → Heap.SameBut s₄.heap.objs.size (s₄.heap.push { cls := .type "frame", data := .dict #[] }) h' →
          wpAny (model X.prog X.w) X.A (spliced [(false, eval de X.env)]) (fun vs s₂ => wpAny (model X.prog X.w) X.A (call (.builtin "next") (.ref h'.objs.size :: vs)) (EP X pins σ Q) X.xe s₂) X.xe
            { s₄ with
              gens := s₄.gens.push (.fresh (.compStart (.GeneratorExp elt [⟨tg, iter, ifs, 0⟩] scope gpos) 0 (.ref it) .none (genEnv scope (cloFrom X.env.cells scope.names []) s₄.heap.objs.size code bi X.env))),
              toks := s₄.toks + 1 + 1 + 1,
              heap := h'.push { cls := .type "generator", data := .fields #[.int s₄.gens.size 0, .str "<genexpr>" (s₄.toks + 1), .str (X.env.qual ++ "<genexpr>") (s₄.toks + 1 + 1)] } }) X.xe { s2 with heap := h3, toks := tk3 } := by
    intro code h3 tk3 ps' hx hsz hP3 ⟨more, hmore⟩ ht3
    obtain ⟨bm, ob, e1, e2, e3, e4, e5, e6, e7, e8⟩ := TB.bm
    have keep3 : ∀ b u, b ≠ P → s2.heap.get? b = some u → h3.get? b = some u := fun b u hb e => hx b u hb e
    subst hmore
    have I3 : Inv X pins σ (upd H2 P (.tbl (ps ++ more))) { s2 with heap := h3, toks := tk3 } := GxR.inv_tab (g' := s2.gens) (d' := s2.drawn) (t' := tk3) I2 hPt keep3 hP3 I2.bare
    obtain ⟨r3, s3⟩ : RS M i2 (upd H2 P (.tbl (ps ++ more))) S2 ∧ Stp i2 H2 i2 (upd H2 P (.tbl (ps ++ more))) := by
      have ne : ∀ {b : Addr} {x : HO}, H2 b = some x → (∀ q, x ≠ .tbl q) → b ≠ P := fun {b x} e h z => by
        rw [z, hPt] at e
        exact h ps (Option.some.inj e).symm
      have st : Stp i2 H2 i2 (upd H2 P (.tbl (ps ++ more))) := ⟨⟨[], by simp⟩, fun a xs e => by rw [upd_ne (ne e (by simp))]; exact e, fun a o x e => by rw [upd_ne (ne e (by simp))]; exact e⟩
      refine ⟨⟨fun l o e => ?_, r2.sep, fun P' hP' => ?_, sz_upd r2.sz trivial, r2.bs.trans st⟩, st⟩
      · obtain ⟨p, e1, h1⟩ := r2.ob l o e
        obtain ⟨⟨u1, a1, _, _, d1⟩, ⟨u2, a2, _, _, d2⟩⟩ := h1.there
        exact ⟨p, e1, h1.keep st (upd_ne (ne a1 d1)) (upd_ne (ne a2 d2))⟩
      · by_cases z : P'.1 = P
        · obtain ⟨qs, hq, _, hn'⟩ := r2.tab P' hP'
          obtain ⟨P1, q1⟩ := P'
          subst z
          exact ⟨_, upd_same, ht3, fun z => absurd (hone _ hP' _ hP rfl) z⟩
        · exact (r2.tab P' hP').keep st.frz fun qs h => by rw [upd_ne z]; exact h
    have f3 : ∀ b ∈ fp, FpOk X pins (upd H2 P (.tbl (ps ++ more))) b ∧ b < h3.objs.size := fun b hb => ⟨⟨by rw [upd_ne (nP b hb)]; exact (f2 b hb).1, (f2 b hb).2⟩, Nat.lt_of_lt_of_le (sz b hb) hsz⟩
    have st3 : tn 0 h3 := T.keep _ _ _ st2 fun b hb o e => keep3 b o (nP b hb) e
    generalize upd H2 P (.tbl (ps ++ more)) = H3 at I3 r3 s3 f3
    refine wpAny_builtinsFor (m := X.mg) (by rw [I3.ok.glob]; exact I3.mod.glob.keeps I3.bk) e1 e2 (keep3 _ _ e4 (I2.bk _ _ e5)) e6 e7 e8 ?_
    intro h4 hns4 hsb4
    have hns4 : h4.Ns h3.objs.size (fun y => if y = ".0" then some (.ref it) else none) := hns4
    have hsb4 : Heap.SameBut h3.objs.size (h3.push { cls := .type "frame", data := .dict #[] }) h4 := hsb4
    have sz4 : h4.objs.size = h3.objs.size + 1 := by rw [hsb4.1, Heap.size_push]
    have keep4 : ∀ b o, h3.get? b = some o → h4.get? b = some o := fun b o e => hsb4.extBut b o (Nat.ne_of_lt (Heap.lt_size e)) (Heap.get?_push_of_some _ e)
    have keep5 : ∀ b o, h3.get? b = some o → (h4.push { cls := .type "generator", data := .fields #[.int s2.gens.size 0, .str "<genexpr>" (tk3 + 1), .str (X.env.qual ++ "<genexpr>") (tk3 + 1 + 1)] }).get? b = some o := fun b o e => Heap.get?_push_of_some _ (keep4 b o e)
    have I5 : Inv X pins σ H3 { s2 with
        gens := s2.gens.push (.fresh (.compStart (.GeneratorExp elt [⟨tg, iter, ifs, 0⟩] scope gpos) 0 (.ref it) .none (gEnv X scope h3.objs.size code))), toks := tk3 + 1 + 1 + 1,
        heap := h4.push { cls := .type "generator", data := .fields #[.int s2.gens.size 0, .str "<genexpr>" (tk3 + 1), .str (X.env.qual ++ "<genexpr>") (tk3 + 1 + 1)] } } :=
      inv_gens (I3.kept (t' := tk3 + 1 + 1 + 1) keep5) (I2.bare.push rfl)
    refine Calls.spliced_cons (hde I5 (Calls.spliced_nil ?_))
    refine Calls.call_function_entry (by decide +kernel) (by decide +kernel) PySem.W.kdk_entry_next (PySem.W.kdk_args_next2 _ _) ?_
    unfold Builtin.«next»
    refine wpAny_bind (m := someArgs "next" 1 2 _) (wpAny_of_eq (a := [Value.ref h4.objs.size, zv]) (by first | rfl | kernel_rfl!) ?_)
    dsimp only
    have hG : (h4.push { cls := .type "generator", data := .fields #[.int s2.gens.size 0, .str "<genexpr>" (tk3 + 1), .str (X.env.qual ++ "<genexpr>") (tk3 + 1 + 1)] } : Heap).IsGen h4.objs.size s2.gens.size := ⟨_, _, _, Heap.get?_push_size _ rfl, rfl, rfl, rfl⟩
    refine wpAny_bind (wpAny_specialOf (name := Str.ofString "__next__") hG.typeIs slot_gen_next.lookup ?_)
    refine wpAny_ite_split (fun hab => absurd hab (by decide)) (fun _ => ?_)
    refine wpAny_bind (PySem.wpAny_pyNext_genexpQ (n := 1) (P := fun _ _ s1 => ∃ H', Inv X pins σ H' s1 ∧ Q zx H') (Y := fun _ _ v s1 _ => ∃ x H', Inv X pins σ H' s1 ∧ RelV x v ∧ Q x H') hr.hd I5.nolimit hr.depth hG (Array.getElem?_push_size ..) ⟨rfl, ?_⟩
      (fun v s1 gs' hb ⟨x, H', I', rv, q⟩ => wpAny_pure ⟨_, rfl, x, H', inv_gens I' (allBare_setGen I'.bare hb), rv, q⟩)
      (fun s1 ⟨H', I', q⟩ h' hk => wpAny_pure ⟨_, rfl, zx, H', (inv_gens I' (allBare_setGen I'.bare rfl)).kept (t' := s1.toks) hk, hzv, q⟩))
    -- the frame's around
    have seg : ∀ A0 : Around, A0.handled = none → A0.frames = some X.stack → Room k (A0.deeper (gEnv X scope h3.objs.size code)) → ∀ (s₀ s6 : Shared), s6.os = s2.os → AllBare s6.gens → (∀ b o, h3.get? b = some o → s6.heap.get? b = some o) → s6.heap.Ns h3.objs.size (fun y => if y = ".0" then some (.ref it) else none) →
        Seg (model X.prog X.w) A0 (fun _ _ r s1 => r = .ok .next ∧ ∃ H', Inv X pins σ H' s1 ∧ Q zx H') (fun _ _ v s1 _ => ∃ x H', Inv X pins σ H' s1 ∧ RelV x v ∧ Q x H') 1 s₀
          (.compStart (.GeneratorExp elt [⟨tg, iter, ifs, 0⟩] scope gpos) 0 (.ref it) .none (gEnv X scope h3.objs.size code))
          ((model X.prog X.w).den (.compStart (.GeneratorExp elt [⟨tg, iter, ifs, 0⟩] scope gpos) 0 (.ref it) .none (gEnv X scope h3.objs.size code))) [] s6 := by
      intro A0 hA0 hF0 hR0 s₀ s6 os6 gb6 kp6 hn6
      have fin : ∀ {σ' : L2.St} {H' : Hp} {s' : Shared} {pn : List (Addr × Obj)}, Inv (gx X (A0.deeper (gEnv X scope h3.objs.size code)) { s2 with heap := h3, toks := tk3 } H3 (gEnv X scope h3.objs.size code) fp) pn σ' H' s' → Inv X pins σ H' s' := fun {σ' H' s' pn} I' =>
        I3.call' (ch := fp) I'.os I'.base I'.hok I'.bare fun b hb => ⟨(f3 b hb).1.2.2.2.1, (f3 b hb).1.2.1, (f3 b hb).1.2.2.2.2.1, (f3 b hb).1.2.2.2.2.2⟩
      have I6 : Inv (gx X (A0.deeper (gEnv X scope h3.objs.size code)) { s2 with heap := h3, toks := tk3 } H3 (gEnv X scope h3.objs.size code) fp) [] (wipe σ (own.map (·.2))) H3 s6 :=
        gen_start I3 ok hN hcell f3 kp6 os6 gb6 hn6 hA0 (by show pushEnvs [_] A0.frames = _; rw [hF0]; rfl)
      have stat : ∀ {σ' : L2.St} {H' : Hp} {s' : Shared}, Inv (gx X (A0.deeper (gEnv X scope h3.objs.size code)) { s2 with heap := h3, toks := tk3 } H3 (gEnv X scope h3.objs.size code) fp) [] σ' H' s' → (∀ b ∈ fp, H' b = none) →
          ∀ b ∈ fp, FpOk (gx X (A0.deeper (gEnv X scope h3.objs.size code)) { s2 with heap := h3, toks := tk3 } H3 (gEnv X scope h3.objs.size code) fp) [] H' b := fun {σ' H' s'} I' hn b hb =>
        ⟨hn b hb, (I'.ok.exf b hb).1, I'.ok.exfs b hb, .inl hb, fun x c e => (I'.ok.exf b hb).2 x c e, fun p hp => absurd (show p ∈ ([] : List (Addr × Obj)) ++ [] from hp) (by simp)⟩
      have pg := hgt (A0.deeper (gEnv X scope h3.objs.size code)) { s2 with heap := h3, toks := tk3 } H3 h3.objs.size code fp hR0
      have pt := ht (A0.deeper (gEnv X scope h3.objs.size code)) { s2 with heap := h3, toks := tk3 } H3 h3.objs.size code fp hR0
      have pe := he (A0.deeper (gEnv X scope h3.objs.size code)) { s2 with heap := h3, toks := tk3 } H3 h3.objs.size code fp hR0
      have st6 : tn 0 s6.heap := T.keep _ _ _ st3 fun b hb o e => kp6 b o e
      have n6 : ∀ b ∈ fp, H3 b = none := fun b hb => (f3 b hb).1.1
      generalize hce : gEnv X scope h3.objs.size code = ce at *
      have hco' : ce.scope.isCoroutine = false := by rw [← hce]; exact hco
      have hy : ∀ v, yieldOut ce v = yieldValue v := fun v => by simp only [yieldOut, hco', Bool.false_eq_true, if_false]
      have loop : ∀ (n i : Nat) (s₀ s7 : Shared) (H7 : Hp) (i7 : Pl) (S7 : Sto), i + n = ds.length → Inv (gx X (A0.deeper ce) { s2 with heap := h3, toks := tk3 } H3 ce fp) [] (wipe σ (own.map (·.2))) H7 s7 → tn i s7.heap → (∀ b ∈ fp, H7 b = none) → Stp i2 H3 i7 H7 → RS M i7 H7 S7 →
          nextW gs t tt te (wipeD ρ (own.map (·.2))) z Qd (ds.drop i) S7 →
          Seg (model X.prog X.w) A0 (fun _ _ r s1 => r = .ok .next ∧ ∃ H', Inv X pins σ H' s1 ∧ Q zx H') (fun _ _ v s1 _ => ∃ x H', Inv X pins σ H' s1 ∧ RelV x v ∧ Q x H') 1 s₀
            (.compLoop (.GeneratorExp elt [⟨tg, iter, ifs, 0⟩] scope gpos) 0 (.ref it) .none ce) ((model X.prog X.w).den (.compLoop (.GeneratorExp elt [⟨tg, iter, ifs, 0⟩] scope gpos) 0 (.ref it) .none ce)) [] s7 := by
        intro n
        induction n with
        | zero =>
          intro i s₀ s7 H7 i7 S7 hn I7 st7 n7 sp7 r7 q7
          have hi : i = ds.length := by omega
          subst hi
          rw [List.drop_length] at q7
          obtain ⟨g7, q7⟩ := q7
          show Seg _ A0 _ _ _ s₀ _ ((compTurn (.GeneratorExp elt [⟨tg, iter, ifs, 0⟩] scope gpos) 0 (.ref it) .none ce).onRaise (leaving ce)) [] s7
          rw [compTurn_gen, Sem.onRaise_eq_wrap]
          refine seg_bind_wrap (wpAny_standAt ?_)
          refine seg_bind_wrap ?_
          rw [over_gen]
          refine thnF (T.done (gx X (A0.deeper ce) { s2 with heap := h3, toks := tk3 } H3 ce fp) rfl rfl rfl hc _ [] s7 _ H7 (fun _ _ => False) I7 (stat I7 n7) st7 (j2.stop i7 H7 S7 (s3.trans sp7) r7 g7)) fun r s8 ⟨hr8, I8⟩ => ?_
          subst hr8
          exact seg_end (.ok .next) ⟨rfl, H7, fin I8, co i7 H7 S7 z zx (sp2.trans (s3.trans sp7)) r7 (hzd _ _) q7⟩
        | succ n ih =>
          intro i s₀ s7 H7 i7 S7 hn I7 st7 n7 sp7 r7 q7
          have hlt : i < ds.length := by omega
          have ed : ds[i]? = some ds[i] := List.getElem?_eq_getElem hlt
          rw [List.drop_eq_getElem_cons hlt] at q7
          obtain ⟨g7, q7⟩ := q7
          obtain ⟨go, yl⟩ := j2.go i7 H7 S7 i _ (s3.trans sp7) r7 g7 ed
          show Seg _ A0 _ _ _ s₀ _ ((compTurn (.GeneratorExp elt [⟨tg, iter, ifs, 0⟩] scope gpos) 0 (.ref it) .none ce).onRaise (leaving ce)) [] s7
          rw [compTurn_gen, Sem.onRaise_eq_wrap]
          refine seg_bind_wrap (wpAny_standAt ?_)
          refine seg_bind_wrap ?_
          rw [over_gen]
          refine thnF (T.item (gx X (A0.deeper ce) { s2 with heap := h3, toks := tk3 } H3 ce fp) rfl rfl rfl hc _ [] s7 _ H7 (fun _ _ => False) I7 (stat I7 n7) st7 go) fun r s8 ⟨u, hr8, h8⟩ => ?_
          subst hr8
          refine seg_bind_wrap ?_
          rw [over_gen]
          refine thnF h8 fun _ s9 ⟨x, H9, I9, r9, y9, st9, n9⟩ => ?_
          obtain ⟨i9, sp9, rs9, d9⟩ := yl x H9 y9
          have I9' := I9.pinned (stat I9 n9) (T.obj _ _ st9)
          refine seg_bind_wrap ?_
          rw [over_gen]
          have re9 : RE M.K i9 H9 (wipeD ρ (own.map (·.2))) (wipe σ (own.map (·.2))) := (re.mono (sp2.trans (s3.trans (sp7.trans sp9)))).wipe _
          refine thnF (pg.run _ s9 _ H9 x u (fun σ' H' => H' = H9 ∧ ∃ ρ', RE M.K i9 H9 ρ' σ' ∧ wipe σ' (own.map (·.2)) = wipe σ (own.map (·.2)) ∧ tt ρ' S7 fun b S2 => if b = true then te ρ' S2 Qd else ∃ S3, S3.sub S2 ∧ nextW gs t tt te (wipeD ρ (own.map (·.2))) z Qd (ds.drop (i + 1)) S3) I9' r9
            (hM ▸ tg_sim re9 d9 q7 fun ρ' σ' re' q' hw => ⟨rfl, ρ', re', (hw _ hv).trans (wipe_twice σ _), q'⟩)) fun _ sA ⟨σA, HA, IA, eA, ρA, reA, hwA, qA⟩ => ?_
          subst eA
          refine seg_bind_wrap ?_
          rw [over_gen]
          refine thnF (pt.run _ sA σA _ (fun b H' => ∃ iB SB, Stp i9 HA iB H' ∧ RS M iB H' SB ∧ if b = true then te ρA SB Qd else ∃ S3, S3.sub SB ∧ nextW gs t tt te (wipeD ρ (own.map (·.2))) z Qd (ds.drop (i + 1)) S3) IA
            ⟨i9, S7, ρA, _, rs9, reA, qA, fun iB HB SB b spB rB qB => ⟨iB, SB, spB, rB, qB⟩⟩) fun b sB ⟨HB, IB, iB, SB, spB, rB, qB⟩ => ?_
          cases b with
          | false =>
            simp only [Bool.false_eq_true, if_false] at qB ⊢
            obtain ⟨S3, sub3, q3⟩ := qB
            have pin' : ∀ b ∈ fp, ∀ o, s9.heap.get? b = some o → sB.heap.get? b = some o ∧ HB b = none := fun b hb o e =>
              let z := IB.pin (b, o) (List.mem_append_right _ (List.mem_append_right _ (mem_pinsAt hb e)))
              ⟨z.1, z.2.1⟩
            have hl : (wipe σ (own.map (·.2))).length = σA.length := by rw [← hwA, wipe_length]
            refine seg_again rfl (ih (i + 1) _ sB HB iB S3 (by omega) ((IB.unpinned (pins := [])).weak hl fun j v e => ?_) (T.keep _ _ _ st9 fun b hb o e => (pin' b hb o e).1) (fun b hb => ?_) (sp7.trans (sp9.trans spB)) (rB.sub sub3) q3)
            · rw [← hwA] at e
              exact (wipe_some e).1
            · obtain ⟨o, e, _⟩ := T.obj _ _ st9 b hb
              exact (pin' b hb o e).2
          | true =>
            simp only [if_true] at qB ⊢
            simp only [hy]
            rw [Sem.bind_eq_wrap', Sem.bind_eq_wrap', Sem.wrap_wrap, Sem.wrap_wrap]
            refine seg_wrap ?_
            rw [over_gen]
            refine thnF (pe.run _ sB σA HB Q IB ⟨iB, SB, ρA, Qd, rB, reA.mono spB, qB, co.to (sp2.trans (s3.trans (sp7.trans (sp9.trans spB))))⟩) fun v sC ⟨x, HC, IC, rC, qC⟩ => ?_
            exact seg_at (seg_yield rfl rfl rfl ⟨x, HC, fin IC, rC, qC⟩)
      have body := loop ds.length 0
      show Seg _ A0 _ _ _ s₀ _ ((compStart (.GeneratorExp elt [⟨tg, iter, ifs, 0⟩] scope gpos) 0 (.ref it) .none ce).onRaise (leaving ce)) [] s6
      unfold compStart
      rw [Sem.onRaise_eq_wrap]
      show Seg _ A0 _ _ _ s₀ _ ((ask >>= _).wrap _ _ _ _) [] s6
      refine seg_bind_wrap (wpAny_askSetting ?_)
      have lp : ∀ s₀, Seg (model X.prog X.w) A0 (fun _ _ r s1 => r = .ok .next ∧ ∃ H', Inv X pins σ H' s1 ∧ Q zx H') (fun _ _ v s1 _ => ∃ x H', Inv X pins σ H' s1 ∧ RelV x v ∧ Q x H') 1 s₀
            (.compLoop (.GeneratorExp elt [⟨tg, iter, ifs, 0⟩] scope gpos) 0 (.ref it) .none ce) ((model X.prog X.w).den (.compLoop (.GeneratorExp elt [⟨tg, iter, ifs, 0⟩] scope gpos) 0 (.ref it) .none ce)) [] s6 :=
        fun s₀ => body s₀ s6 H3 i2 S2 (Nat.zero_add _) I6 st6 n6 (Stp.refl _ _) r3 q2
      split
      · exact seg_again rfl (lp _)
      · refine seg_bind_wrap (wpAny_rule ?_)
        show Seg _ A0 _ _ _ s₀ _ ((standAt iter.pos >>= _).wrap _ _ _ _) [] s6
        exact seg_bind_wrap (wpAny_standAt (seg_bind_wrap (T.self _ 0 _ _ _ st6 (seg_again rfl (lp _)))))
    refine seg _ ?_ ?_ ⟨?_, ?_, ?_⟩ _ _ ?_ ?_ ?_ ?_
    · exact hr.hd
    · exact I.ok.frames
    · exact hr.hd
    · have := hr.dp
      show X.A.depth + 1 + 3 * k + 5 < _
      omega
    · have := hr.un
      show X.A.units + _ + _ + 3 + 16 * k + 200 < _
      omega
    · rfl
    · exact allBare_setGen (I2.bare.push rfl) rfl
    · exact keep5
    · exact hns4.push _
  cases hf : codeAmong gpos ps.toList with
  | none =>
    refine wpAny_genexprCodeX hcode (cd.code hPs htr) (cd.tab hPs) hf fun c' h' tk hx hge hlt hco' _ htab' _ => ?_
    obtain ⟨o1, vs, f1, tf, fl, tg, inF, tx, tt, op, _, _, _, _, _, _, _, _, _, htr, _⟩ := hco'
    exact cont _ h' tk _ hx (Nat.le_trans hge (Nat.le_of_lt hlt)) htab'.2 ⟨_, rfl⟩ htr
  | some cv =>
    refine wpAny_genexprCode_hit hcode (cd.code hPs htr) hf ?_
    exact cont cv s2.heap s2.toks ps (Heap.ExtBut.refl _ _) (Nat.le_refl _) hPs ⟨#[], by simp⟩ htr
theorem q_nextG {pd : Pos} {y zs : Str} {tk : Tok} (hM : M.K = X.K) (hP : (P, ("" : Str)) ∈ M.tabs) (hone : OneT M.tabs) (hc : X.calm = true) (hN : X.N.Nodup) (hr : Room (k + 1) X.A) (hg : Gl X "next") (hm : X.mg "next" = none) (hgy : Gl X y) (hmy : X.mg y = some (.str zs tk)) (TB : GxR.TabB X.base X.mg c P) (hcode : X.env.code = .ref c)
    (hi : QI M X tg iter di) (ok : BlkOk X.N X.env.scope scope own) (hcell : ∀ y ∈ scope.names, y.2 ≠ .cell) (hco : scope.isCoroutine = false) (h0 : scope.names.lookup (".0" : Str) = some NameKind.local) (hv : t.in_ (own.map (·.2)))
    (hgt : ∀ (A : Around) (s : Shared) (H : Hp) (C : Addr) (code : Value) (fp : List Addr), Room k A → PG (gx X A s H (gEnv X scope C code) fp) tg (t.g X.K))
    (ht : ∀ (A : Around) (s : Shared) (H : Hp) (C : Addr) (code : Value) (fp : List Addr), Room k A → QTs M (gx X A s H (gEnv X scope C code) fp) ifs tt)
    (he : ∀ (A : Around) (s : Shared) (H : Hp) (C : Addr) (code : Value) (fp : List Addr), Room k A → QE M (gx X A s H (gEnv X scope C code) fp) elt te)
    (hs : ∀ v, genFold iter X.env v = pure v) (hdb : (y == ("__debug__" : Str)) = false := by decide) :
    QE M X (.Call (.Name "next" p) [.GeneratorExp elt [⟨tg, iter, ifs, 0⟩] scope gpos, .Name y pd] [] pos) (dNextG di t tt te (own.map (·.2)) (.str zs)) :=
  q_nextA (k := k) (zx := .str zs) (zv := .str zs tk) hM hP hone hc hN hr hg hm (fun _ _ => rfl) ⟨tk, rfl⟩ (fun I q => ld_glob I hgy hmy q hdb) TB hcode hi ok hcell hco h0 hv hgt ht he hs
theorem q_nextN {pd : Pos} {j : Nat} (hM : M.K = X.K) (hP : (P, ("" : Str)) ∈ M.tabs) (hone : OneT M.tabs) (hc : X.calm = true) (hN : X.N.Nodup) (hr : Room (k + 1) X.A) (hg : Gl X "next") (hm : X.mg "next" = none) (TB : GxR.TabB X.base X.mg c P) (hcode : X.env.code = .ref c)
    (hi : QI M X tg iter di) (ok : BlkOk X.N X.env.scope scope own) (hcell : ∀ y ∈ scope.names, y.2 ≠ .cell) (hco : scope.isCoroutine = false) (h0 : scope.names.lookup (".0" : Str) = some NameKind.local) (hv : t.in_ (own.map (·.2)))
    (hgt : ∀ (A : Around) (s : Shared) (H : Hp) (C : Addr) (code : Value) (fp : List Addr), Room k A → PG (gx X A s H (gEnv X scope C code) fp) tg (t.g X.K))
    (ht : ∀ (A : Around) (s : Shared) (H : Hp) (C : Addr) (code : Value) (fp : List Addr), Room k A → QTs M (gx X A s H (gEnv X scope C code) fp) ifs tt)
    (he : ∀ (A : Around) (s : Shared) (H : Hp) (C : Addr) (code : Value) (fp : List Addr), Room k A → QE M (gx X A s H (gEnv X scope C code) fp) elt te)
    (hs : ∀ v, genFold iter X.env v = pure v) :
    QE M X (.Call (.Name "next" p) [.GeneratorExp elt [⟨tg, iter, ifs, 0⟩] scope gpos, .Constant .none j pd] [] pos) (dNextG di t tt te (own.map (·.2)) .non) :=
  q_nextA (k := k) (zx := .non) (zv := .none) hM hP hone hc hN hr hg hm (fun _ _ => rfl) rfl (fun _ q => Constant_none q) TB hcode hi ok hcell hco h0 hv hgt ht he hs
end
end L3
end
section
set_option Elab.async false
set_option linter.all false
set_option maxRecDepth 100000
set_option maxHeartbeats 2000000
namespace L3
open PySem PySem.Spec PyProof.Rows L2

abbrev DG := D → En → Sto → (En → Sto → Prop) → Prop
abbrev DGs := List D → En → Sto → (En → Sto → Prop) → Prop
def liftG (M : Md) (g : DG) : TG := fun x σ H Q => ∃ io S ρ v Qd, RS M io H S ∧ RE M.K io H ρ σ ∧ RD M.K io H v x ∧ g v ρ S Qd ∧ CoS M io H σ Qd Q
def liftGs (M : Md) (g : DGs) : TGs := fun xs σ H Q => ∃ io S ρ vs Qd, RS M io H S ∧ RE M.K io H ρ σ ∧ RDs M.K io H vs xs ∧ g vs ρ S Qd ∧ CoS M io H σ Qd Q
abbrev QG (M : Md) (X : Cx) (e : Expr) (g : DG) : Prop := PG X e (liftG M g)
abbrev QGs (M : Md) (X : Cx) (es : List Expr) (g : DGs) : Prop := PGs X es (liftGs M g)
theorem PG.imp {X : Cx} {e : Expr} {t t' : TG} (h : PG X e t) (k : ∀ x σ H Q, t' x σ H Q → t x σ H Q) : PG X e t' := ⟨fun pins s σ H v u Q I r q => h.run pins s σ H v u Q I r (k v σ H Q q)⟩
theorem PGs.imp {X : Cx} {e : List Expr} {t t' : TGs} (h : PGs X e t) (k : ∀ x σ H Q, t' x σ H Q → t x σ H Q) : PGs X e t' := ⟨fun pins s σ H v u Q I r q => h.run pins s σ H v u Q I r (k v σ H Q q)⟩
def gdName (i : Nat) : DG := fun v ρ S Q => Q (ρ.set i (some v)) S
def gdNil : DGs := fun vs ρ S Q => vs = [] ∧ Q ρ S
def gdCons (g : DG) (t : DGs) : DGs := fun vs ρ S Q => ∃ v r, vs = v :: r ∧ g v ρ S fun ρ1 S1 => t r ρ1 S1 Q
def gdTup (n : Nat) (t : DGs) : DG := fun v ρ S Q => ∃ ds, v = .tup ds ∧ ds.length = n ∧ t ds ρ S Q
def gdSub (d di : DE) : DG := fun v ρ S Q => d ρ S fun o S1 => di ρ S1 fun i S2 => ∃ l es k j, o = .ref l ∧ i = .int k ∧ S2 l = some (.lst es) ∧ ixN es.length k = some j ∧ Q ρ (S2.set l (.lst (es.set j v)))
section
variable {M : Md} {X : Cx} {pos : Pos}
theorem g_name {i : Nat} {x : Str} (hN : X.N.Nodup) (hi : X.N[i]? = some x) (hx : Loc X.env.scope x) (hf : X.fn x = true ∨ X.env.scope.names.lookup x = some .local := by first | exact .inl rfl | exact .inr rfl | assumption) : QG M X (.Name x pos) (gdName i) :=
  PG.imp (pg_name hN hi hx hf) fun x σ H Q ⟨io, S, ρ, v, Qd, r, re, d, h, c⟩ => c io H S _ _ (Stp.refl _ _) r (re.set i d) h
theorem gs_nil : QGs M X [] gdNil := PGs.imp pgs_nil fun xs σ H Q ⟨io, S, ρ, vs, Qd, r, re, d, ⟨e, h⟩, c⟩ => by
  subst e
  exact ⟨d, c io H S ρ σ (Stp.refl _ _) r re h⟩
theorem gs_cons {e : Expr} {es : List Expr} {g : DG} {t : DGs} (h1 : QG M X e g) (h2 : QGs M X es t) (hs : (assignEach (e :: es) X.env).map (·.2) = assign e X.env :: (assignEach es X.env).map (·.2) := by rfl) : QGs M X (e :: es) (gdCons g t) :=
  PGs.imp (pgs_cons h1 h2 hs) fun xs σ H Q ⟨io, S, ρ, vs, Qd, r, re, d, ⟨v, w, e, h⟩, c⟩ => by
    subst e
    obtain ⟨x, ys, rfl, d1, d2⟩ := d
    exact ⟨x, ys, rfl, io, S, ρ, v, _, r, re, d1, h, fun i1 H1 S1 ρ1 σ1 s1 r1 re1 h1 => ⟨i1, S1, ρ1, w, Qd, r1, re1, d2.mono s1, h1, c.to s1⟩⟩
theorem g_tup {es : List Expr} {k n : Nat} {t : DGs} (hM : M.K = X.K) (hc : X.calm = true) (h : QGs M X es t) (hn : (assignEach es X.env).length = n := by rfl) (hst : (assignEach es X.env).findIdx? (·.1) = none := by rfl) : QG M X (.Tuple es k pos) (gdTup n t) :=
  PG.imp (pg_tup hc h hn hst) fun x σ H Q ⟨io, S, ρ, v, Qd, r, re, d, ⟨ds, e, hl, h⟩, c⟩ => by
    subst e
    obtain ⟨a, xs, rfl, sq, rr⟩ := d
    exact ⟨a, xs, rfl, by rw [← hM]; exact (SqT.of sq), by rw [rr.len, hl], io, S, ρ, ds, Qd, r, re, rr, h, c⟩
theorem g_sub {o i : Expr} {d di : DE} (ho : QE M X o d) (hi : QE M X i di)
    (ha : ∀ v, assign (.Subscript o i pos) X.env v = (do
      let ov ← holding [v] (eval o X.env)
      let iv ← holding [v, ov] (eval i X.env)
      standAt pos
      holding [v, ov, iv] (setItem ov iv v)
      release [v, ov, iv] []) := by intro _; rfl) : QG M X (.Subscript o i pos) (gdSub d di) :=
  PG.imp (pg_sub ho hi set_list ha) fun x σ H Q ⟨io, S, ρ, v, Qd, r, re, dv, h, c⟩ => ⟨io, S, ρ, _, r, re, h, fun i1 H1 S1 o x1 s1 r1 d1 h1 => ⟨i1, S1, ρ, _, r1, re.mono s1, h1, fun i2 H2 S2 w x2 s2 r2 d2 ⟨l, es, k, j, e1, e2, e3, e4, h2⟩ => by
    subst e1 e2
    obtain ⟨a, ys, rfl, at_, hy, rr⟩ := r2.lst e3 (d1.mono s2)
    have hz := lst_len r2 (v := .ref l) (d1.mono s2) (ds := es) (by simp [seqD, e3])
    obtain ⟨r3, s3⟩ := put_lst r2 e3 at_ (es := es.set j v) (by rw [List.length_set]; exact hz) (rr.set j (dv.mono (s1.trans s2)))
    exact ⟨a, ys, k, j, rfl, d2, hy, by rw [rr.len]; exact e4, c i2 _ _ ρ σ (s1.trans (s2.trans s3)) r3 (re.mono (s1.trans (s2.trans s3))) h2⟩⟩⟩
def gdSlot (C : Addr) (i : Nat) (d : DE) : DG := fun w ρ S Q => d ρ S fun o S2 => ∃ l vs, o = .ref l ∧ S2 l = some (.slt C vs) ∧ Q ρ (S2.set l (.slt C (putD i w vs)))
theorem slot_put {io : Pl} {H : Hp} {S : Sto} {l : Nat} {C : Addr} {vs : List (Option D)} {x : V} {w : D} {y : V} {i : Nat} (r : RS M io H S) (el : S l = some (.slt C vs)) (d : RD M.K io H (.ref l) x) (dw : RD M.K io H w y) :
    ∃ (p : Addr × Addr) (xs : List (Option V)), x = .ref p.1 ∧ SlX.Slt H p.1 C p.2 xs ∧ RS M io (SlX.slH H p.1 C p.2 (SlX.putS i y xs)) (S.set l (.slt C (putD i w vs))) ∧ Stp io H io (SlX.slH H p.1 C p.2 (SlX.putS i y xs)) := by
  obtain ⟨p, xs, ex, hp, ne, sl, rd⟩ := r.slt el d
  obtain ⟨r3, s3⟩ := r.put (H' := SlX.slH H p.1 C p.2 (SlX.putS i y xs)) (o' := .slt C (putD i w vs)) el hp (fun b h1 h2 => SlX.slH_ne h1 h2) (fun u hu => by
      rcases hu with hu | hu
      · unfold SlX.slH at hu; rw [upd_same] at hu; cases hu; trivial
      · unfold SlX.slH at hu; rw [upd_ne ne, upd_same] at hu; cases hu; trivial)
    (fun st => ⟨ne, .inr (by unfold SlX.slH; rw [upd_ne ne, upd_same]), _, SlX.slH_slt ne, (rd.mono st).put i (dw.mono st)⟩)
  exact ⟨p, xs, ex, sl, r3, s3⟩
theorem g_slot {o : Expr} {x : Str} {C pa : Addr} {i : Nat} {d : DE} (c : SlX.SCls X.K C) (k : SlX.Slot1 X.K C x pa i) (ho : QE M X o d)
    (ha : ∀ v, assign (.Attribute o x pos) X.env v = (do
      let ov ← holding [v] (eval o X.env)
      standAt pos.atName
      holding [v, ov] (setAttr ov x v)
      release [v, ov] []) := by intro _; rfl) : QG M X (.Attribute o x pos) (gdSlot C i d) := by
  refine ⟨fun pins s σ H y u Q I r ⟨io, S, ρ, w, Qd, rs, re, dw, h, cc⟩ => ?_⟩
  rw [ha]
  refine wpAny_bind (wpAny_holding (thn (ho.run pins s σ H (fun z H1 => ∃ i1 S1 o, Stp io H i1 H1 ∧ RS M i1 H1 S1 ∧ RD M.K i1 H1 o z ∧ ∃ l vs, o = .ref l ∧ S1 l = some (.slt C vs) ∧ Qd ρ (S1.set l (.slt C (putD i w vs)))) I
    ⟨io, S, ρ, _, rs, re, h, fun i1 H1 S1 v x s1 r1 d1 q => ⟨i1, S1, v, s1, r1, d1, q⟩⟩) fun ov s1 ⟨z, H1, I1, r1, i1, S1, o', s1', rs1, d1, l, vs, e1, e2, q⟩ => ?_))
  subst e1
  obtain ⟨p, xs, ex, sl, r3, s3⟩ := slot_put (i := i) rs1 e2 d1 (dw.mono s1')
  subst ex
  cases r1
  refine wpAny_bind (wpAny_standAt (wpAny_bind (wpAny_holding (SlX.setslot_ok I1 sl c k r fun s2 I2 => ?_))))
  exact wpAny_release ⟨σ, _, I2, cc i1 _ _ ρ σ (s1'.trans s3) r3 (re.mono (s1'.trans s3)) q⟩
def dAsg (d : DE) (g : DG) : DS := fun E ρ S => d ρ S fun v S1 => g v ρ S1 E.nx
theorem s_asg {tg e : Expr} {d : DE} {g : DG} (he : QE M X e d) (hg : QG M X tg g) (hs : swapsWithSole [tg] e pos.line X.env = pure false := by rfl) (hw : swappedStores [tg] e X.env = pure none := by rfl)
    (h1 : (assignEach [tg] X.env).map (·.2) = [assign tg X.env] := by rfl) : QS M X (.Assign [tg] e pos) (dAsg d g) :=
  PS.imp (ps_asg he hg hs hw h1) fun E σ H ⟨io, S, ρ, Ed, r, re, h, c1, _⟩ => ⟨io, S, ρ, _, r, re, h, fun i1 H1 S1 v x s1 r1 d1 h1 => ⟨i1, S1, ρ, v, _, r1, re.mono s1, d1, h1, c1.to s1⟩⟩
def dPar (i j : Nat) (t : DA) : DS := fun E ρ S => t ρ S fun ds S1 => ∃ v w, ds = [v, w] ∧ E.nx ((ρ.set i (some v)).set j (some w)) S1
theorem s_par {i j : Nat} {x y : Str} {a b : Expr} {t : DA} {px py pt : Pos} {kt k2 pt2} (hc : X.calm = true) (hN : X.N.Nodup) (hi : X.N[i]? = some x) (hj : X.N[j]? = some y) (hij : i ≠ j)
    (hx : X.env.scope.names.lookup x = some .local) (hy : X.env.scope.names.lookup y = some .local) (ha : QA M X [a, b] t)
    (hw : swappedStores [.Tuple [.Name x px, .Name y py] kt pt] (.Tuple [a, b] k2 pt2) X.env = pure (some [x, y]))
    (hs : swapsWithSole [.Tuple [.Name x px, .Name y py] kt pt] (.Tuple [a, b] k2 pt2) pos.line X.env = pure false := by rfl) :
    QS M X (.Assign [.Tuple [.Name x px, .Name y py] kt pt] (.Tuple [a, b] k2 pt2) pos) (dPar i j t) :=
  PS.imp (ps_par hc hN hi hj hij hx hy ha hw hs) fun E σ H ⟨io, S, ρ, Ed, r, re, h, c1, _⟩ => ⟨io, S, ρ, _, r, re, h, fun i1 H1 S1 ds xs s1 r1 d1 ⟨v, w, e, h1⟩ => by
    subst e
    obtain ⟨y1, y2, rfl, dy, dz⟩ := d1.inj2
    exact ⟨y1, y2, rfl, c1 i1 H1 S1 _ _ s1 r1 (((re.mono s1).set i dy).set j dz) h1⟩⟩
def dOrT (da db : DE) : DE := fun ρ S Q => da ρ S fun v S1 => ∃ k, truB S1 v k ∧ if k = true then Q v S1 else db ρ S1 Q
theorem q_orT {a b : Expr} {rest : List Expr} {da db : DE} (hM : M.K = X.K) (ha : QE M X a da) (hb : QE M X (.BoolOp .Or (b :: rest) pos) db) : QE M X (.BoolOp .Or (a :: b :: rest) pos) (dOrT da db) :=
  PE.imp (pe_orT ha hb) fun σ H Q ⟨io, S, ρ, Qd, r, re, h, c⟩ => ⟨io, S, ρ, _, r, re, h, fun i1 H1 S1 v x s1 r1 d1 ⟨k, t, q⟩ => ⟨k, by rw [← hM]; exact tru_of r1 d1 t, by
    cases k with
    | true => exact c i1 H1 S1 v x s1 r1 d1 q
    | false => exact ⟨i1, S1, ρ, Qd, r1, re.mono s1, q, c.to s1⟩⟩⟩
end
def dListV (d : DE) : DE := fun ρ S Q => d ρ S fun v S1 => ∃ p, dicD S1 v = some p ∧ ∀ l, S1 l = none → Q (.ref l) (S1.set l (.lst p.2))
theorem vals_at {kvs : List (Key × V)} {vs : List (Key × Value)} (kv : KV kvs vs) : ∀ {us : List Value}, us.length = vs.length → (∀ (j : Nat) (v : Value), us[j]? = some v → ∃ k, vs[j]? = some (k, v)) → Vals (kvs.map (·.2)) us := by
  induction kv with
  | nil =>
    intro us hl _
    have : us = [] := List.eq_nil_of_length_eq_zero (by simpa using hl)
    subst this
    exact .nil
  | cons h t ih =>
    intro us hl hus
    cases us with
    | nil => simp at hl
    | cons u us =>
      obtain ⟨k, e⟩ := hus 0 u rfl
      have e := Option.some.inj e
      refine .cons ?_ (ih (by simpa using hl) fun j v e => hus (j + 1) v (by simpa using e))
      subst e
      exact h.2
theorem q_listV {M : Md} {X : Cx} {e : Expr} {d : DE} {p apos cpos pos : Pos} (hc : X.calm = true) (hg : Gl X "list") (hm : X.mg "list" = none) (he : QE M X e d)
    (hbase : attributeBase e "values" X.env (eval e X.env) = eval e X.env := by rfl) (hline : (apos.endLine == cpos.line) = true := by rfl)
    (hst : starEach [.Call (.Attribute e "values" apos) [] [] cpos] X.env = [(false, eval (.Call (.Attribute e "values" apos) [] [] cpos) X.env)] := by rfl) :
    QE M X (.Call (.Name "list" p) [.Call (.Attribute e "values" apos) [] [] cpos] [] pos) (dListV d) := by
  refine ⟨fun pins s σ H Q I ⟨io, S, ρ, Qd, r, re, h, c⟩ => ?_⟩
  refine Call_ (ld_blt (u := .type "list") I hg hm (by decide +kernel) (PyProof.Rows.callWith_type1 ?_ hst rfl))
  rw [hst]
  show wpAny _ _ (spliced [(false, eval (.Call (.Attribute e "values" apos) [] [] cpos) X.env)]) _ _ s
  refine Calls.spliced_cons ?_
  refine wpAny_Call_method (T := "dict") (id := "dict.values") hbase rfl hline F.plainAttrs_dict F.slot_dict_values F.type_dict_values (thn (he.run pins s σ H (fun x H1 => ∃ i1 S1 v, Stp io H i1 H1 ∧ RS M i1 H1 S1 ∧ RD M.K i1 H1 v x ∧ ∃ p, dicD S1 v = some p ∧ ∀ l, S1 l = none → Qd (.ref l) (S1.set l (.lst p.2))) I
    ⟨io, S, ρ, _, r, re, h, fun i1 H1 S1 v x s1 r1 d1 q => ⟨i1, S1, v, s1, r1, d1, q⟩⟩) fun u s1 ⟨x, H1, I1, rx, i1, S1, v, st1, r1, d1, pp, e1, q⟩ => ?_)
  obtain ⟨a, kvs, rfl, hd, hk, rr⟩ := dic_of r1 d1 e1
  cases rx
  obtain ⟨hz, lo, vs, kv, dd⟩ := dk_rd I1.hok hd
  have hl : kvs.length = vs.length := Paired.length kv
  refine ⟨dd.typeIs, dd.mapOf.noDict, ?_⟩
  show wpAny _ _ (callWith cpos (.builtin "dict.values") [.ref a] [] []) _ X.xe s1
  refine method_meetsIn F.slot_dict_values F.entry_dict_values rfl (PySem.evalArgs_none ⟨rfl, dd.typeIs, F.args_dict_values_1 _, _, meets_dict_values (mixKind X.prog X.w) a lo, ⟨vs, dd⟩, ?_⟩)
  have I2 : Inv X pins σ H1 { s1 with heap := s1.heap.push { cls := .type "dict_values", data := .fields #[.ref a] } } := I1.kept (t' := s1.toks) fun b ob q => Heap.get?_push_of_some _ q
  refine Calls.spliced_nil ?_
  obtain ⟨ep, hat⟩ := dd.dictAt
  refine PySem.W.kdl_call (PySem.W.kdl_values (knd := mixKind X.prog X.w) (d := a) (kvs := vs) (ep := ep)) (I.ok.hd hc) ⟨⟨_, Heap.get?_push_size _ rfl, rfl, rfl⟩, hat.push _⟩ (by rw [← hl]; exact hz) fun h' tk acc c' hk' hD hacc => ?_
  have hv : Vals (kvs.map (·.2)) acc.toList := vals_at kv (by rw [Array.length_toList]; exact hacc.1) fun j v e => hacc.2 j v (by rw [← Array.getElem?_toList]; exact e)
  refine ⟨.ref _, upd H1 _ (.lst (kvs.map (·.2))), I2.laid (t' := tk) hk' (Nat.le_refl _) (show ObjOk X.prog X.w _ _ _ (.lst (kvs.map (·.2))) from ⟨by rw [List.length_map]; exact hz, acc.toList, c', hv, by rw [Array.toArray_toList]; exact hD⟩), rfl, ?_⟩
  exact new_lst r1 (I2.hok.fresh (Nat.le_refl _)) (by rw [← rr.len, List.length_map]; exact hz) rr (c.to st1) q
end L3
end
section
set_option Elab.async false
set_option linter.all false
set_option maxRecDepth 100000
set_option maxHeartbeats 2000000
namespace L3
open PySem PySem.Spec PyProof.Rows L2

section
variable {M : Md} {X : Cx} {tg e e2 : Expr} {da : DA} {pos p : Pos}
def iZpA (d : DA) : DI := fun ρ S R => d ρ S fun vs S' => ∃ v w ds es, vs = [v, w] ∧ ((lstD S' v = some ds ∧ lstD S' w = some es) ∨ (v = .tup ds ∧ w = .tup es)) ∧ R ((ds.zip es).map fun p => D.tup [p.1, p.2]) (gsOf v (.lst ds) ++ gsOf w (.lst es)) S'
theorem q_zipA {elts : List Expr} {kk : Nat} {tpos : Pos} (hM : M.K = X.K) (hg : Gl X "zip") (hm : X.mg "zip" = none) (ha : QA M X [e, e2] da)
    (hs : starEach [e, e2] X.env = (false, eval e X.env) :: starEach [e2] X.env := by rfl) (hpl : (backTo pos (starEach [e2] X.env)).any (·.1) = false := by rfl) :
    QI M X (.Tuple elts kk tpos) (.Call (.Name "zip" p) [e, e2] [] pos) (iZpA da) :=
  PI.imp (RZ.pi_zipA hg hm ha hs hpl) fun σ H R ⟨io, S, ρ, Rd, r, re, h, c⟩ => ⟨io, S, ρ, _, r, re, h, fun i1 H1 S1 vs xs s1 r1 d1 ⟨v, w, ds, es, e1, e2, q⟩ => by
    subst e1
    obtain ⟨x, y, rfl, hx, hy⟩ := d1.inj2
    rcases e2 with ⟨e2, e3⟩ | ⟨e2, e3⟩
    · obtain ⟨a, ex, src⟩ := lst_src r1 hx e2
      subst ex
      obtain ⟨b, ey, src2⟩ := lst_src r1 hy e3
      subst ey
      obtain ⟨a', xs, ex, hq, _⟩ := lst_of r1 hx e2
      cases ex
      obtain ⟨b', ys, ey, hq2, _⟩ := lst_of r1 hy e3
      cases ey
      have gl : ∀ {S2 : Sto}, Gs.ok (gsOf v (.lst ds) ++ gsOf w (.lst es)) S2 → Gs.ok (gsOf v (.lst ds)) S2 ∧ Gs.ok (gsOf w (.lst es)) S2 := fun g => ⟨fun z hz => g z (List.mem_append_left _ hz), fun z hz => g z (List.mem_append_right _ hz)⟩
      refine ⟨a, b, xs, ys, rfl, .inl ⟨by rw [← hM]; exact hq, by rw [← hM]; exact hq2, c i1 H1 S1 _ _ _ s1 r1 ⟨fun io2 H2 S2 i d st r2 g ed => ?_, fun io2 H2 S2 st r2 g => ?_⟩ q⟩⟩
      · obtain ⟨xs2, h1, h2⟩ := src io2 H2 S2 st r2 (gl g).1
        obtain ⟨ys2, h3, h4⟩ := src2 io2 H2 S2 st r2 (gl g).2
        rw [List.getElem?_map] at ed
        cases ez : (ds.zip es)[i]? with
        | none => rw [ez] at ed; cases ed
        | some p =>
          rw [ez] at ed
          cases ed
          obtain ⟨f1, f2⟩ := List.getElem?_zip_eq_some.mp ez
          obtain ⟨x1, g1, k1⟩ := h2.get f1
          obtain ⟨y1, g2, k2⟩ := h4.get f2
          refine ⟨⟨xs2, ys2, x1, y1, by rw [← hM]; exact h1, by rw [← hM]; exact h3, g1, g2⟩, fun z H3 ⟨T, x', y', e4, hT, e5, hx', hy'⟩ => ?_⟩
          have z1 := hx' xs2 (by rw [← hM]; exact h1)
          have z2 := hy' ys2 (by rw [← hM]; exact h3)
          rw [g1] at z1; cases z1
          rw [g2] at z2; cases z2
          subst e4 e5
          exact pair_new r2 hT k1 k2
      · obtain ⟨xs2, h1, h2⟩ := src io2 H2 S2 st r2 (gl g).1
        obtain ⟨ys2, h3, h4⟩ := src2 io2 H2 S2 st r2 (gl g).2
        refine ⟨xs2, ys2, by rw [← hM]; exact h1, by rw [← hM]; exact h3, ?_⟩
        rw [h2.len, h4.len]
        simp only [List.length_map, List.length_zip]
        omega
    · subst e2 e3
      obtain ⟨a, xs2, ex, src⟩ := tup_src hx.tup_sq
      subst ex
      obtain ⟨b, ys2, ey, src2⟩ := tup_src hy.tup_sq
      subst ey
      have t1 := (src i1 H1 (Stp.refl _ _)).1
      have t2 := (src2 i1 H1 (Stp.refl _ _)).1
      refine ⟨a, b, xs2, ys2, rfl, .inr ⟨by rw [← hM]; exact t1, by rw [← hM]; exact t2, c i1 H1 S1 _ _ _ s1 r1 ⟨fun io2 H2 S2 i d st r2 g ed => ?_, fun io2 H2 S2 st r2 g => ?_⟩ q⟩⟩
      · obtain ⟨h1, h2⟩ := src io2 H2 st
        obtain ⟨h3, h4⟩ := src2 io2 H2 st
        rw [List.getElem?_map] at ed
        cases ez : (ds.zip es)[i]? with
        | none => rw [ez] at ed; cases ed
        | some p =>
          rw [ez] at ed
          cases ed
          obtain ⟨f1, f2⟩ := List.getElem?_zip_eq_some.mp ez
          obtain ⟨x1, g1, k1⟩ := h2.get f1
          obtain ⟨y1, g2, k2⟩ := h4.get f2
          refine ⟨⟨xs2, ys2, x1, y1, by rw [← hM]; exact h1, by rw [← hM]; exact h3, g1, g2⟩, fun z H3 ⟨T, x', y', e4, hT, e5, hx', hy'⟩ => ?_⟩
          have z1 := hx' xs2 (by rw [← hM]; exact h1)
          have z2 := hy' ys2 (by rw [← hM]; exact h3)
          rw [g1] at z1; cases z1
          rw [g2] at z2; cases z2
          subst e4 e5
          exact pair_new r2 hT k1 k2
      · obtain ⟨h1, h2⟩ := src io2 H2 st
        obtain ⟨h3, h4⟩ := src2 io2 H2 st
        refine ⟨xs2, ys2, by rw [← hM]; exact h1, by rw [← hM]; exact h3, ?_⟩
        rw [h2.len, h4.len]
        simp only [List.length_map, List.length_zip]
        omega⟩
end
def pick {α : Type} (is : List Nat) (xs : List α) : List α := is.filterMap fun i => xs[i]?
theorem pick_vals {vs : List V} {us : List Value} (h : Vals vs us) : ∀ is : List Nat, Vals (pick is vs) (pick is us)
  | [] => .nil
  | i :: is => by
    have ih := pick_vals h is
    unfold pick at ih ⊢
    rw [List.filterMap_cons, List.filterMap_cons]
    cases e : vs[i]? with
    | none => rw [h.none_of e]; exact ih
    | some x =>
      obtain ⟨u, e2, r⟩ := h.get e
      rw [e2]
      exact .cons r ih
theorem pick_rds {K : PySem.W.Frag} {io : Pl} {H : Hp} {ds : List D} {xs : List V} (h : RDs K io H ds xs) : ∀ is : List Nat, RDs K io H (pick is ds) (pick is xs)
  | [] => RDs.nil
  | i :: is => by
    have ih := pick_rds h is
    unfold pick at ih ⊢
    rw [List.filterMap_cons, List.filterMap_cons]
    cases e : ds[i]? with
    | none =>
      have : xs[i]? = none := List.getElem?_eq_none (by rw [h.len]; exact List.getElem?_eq_none_iff.mp e)
      rw [this]; exact ih
    | some d =>
      obtain ⟨x, e2, r⟩ := h.get e
      rw [e2]
      exact RDs.cons r ih
abbrev QK (M : Md) (X : Cx) (kws : List Keyword) (d : DA) : Prop := PK X kws (liftA M d)
theorem PK.imp {X : Cx} {es : List Keyword} {t t' : TA} (h : PK X es t) (k : ∀ σ H Q, t' σ H Q → t σ H Q) : PK X es t' := ⟨fun p pins s σ H Q I q => h.run p pins s σ H Q I (k σ H Q q)⟩
def dCallP (n : Nat) (sp : DSp) (Ed : DXK) (is : List Nat) (t : DA) : DE := fun ρ S Q => t ρ S fun ds S1 => ds.length = n ∧ sp (pick is ds) S1 Q Ed
section
variable {M : Md} {X : Cx} {CX : CXT} {k : Nat} {f : Addr} {params : Arguments} {ps ks : List Str} {sp : DSp} {Ed : DXK} {E : XK} {x : Str} {p pos kpos : Pos} {e : Expr} {kws : List Keyword} {d : DE} {t : DA} {is : List Nat} {nm : Option Str}
theorem k_nil : QK M X [] aNil := PK.imp pk_nil fun σ H Q ⟨io, S, ρ, Qd, r, re, h, c⟩ => c io H S [] [] (Stp.refl _ _) r rfl h
theorem k_cons (he : QE M X e d) (hr : QK M X kws t) : QK M X (⟨nm, e, kpos⟩ :: kws) (aCons d t) :=
  PK.imp (pk_cons he hr) fun σ H Q ⟨io, S, ρ, Qd, r, re, h, c⟩ => ⟨io, S, ρ, _, r, re, h, fun i1 H1 S1 v x s1 r1 d1 h1 => ⟨i1, S1, ρ, _, r1, re.mono s1, h1, fun i2 H2 S2 vs xs s2 r2 d2 h2 =>
    c i2 H2 S2 (v :: vs) (x :: xs) (s1.trans s2) r2 (RDs.cons (d1.mono s2) d2) h2⟩⟩
theorem q_callK0 (hK : M.K = X.K) (F : FN X.prog X.w X.K X.mg X.base CX M.tabs k f params ps sp) (hr : Room k X.A) (hg : Gl X x) (hm : X.mg x = some (.ref f)) (hx : Passes CX X E) (hE : ExOk M Ed E)
    (hb : ∀ (fx qual : Str) (body : List Stmt) (scope : Scope) (kV doc pm : Value) (an : Option Addr) (cdv ct : Value) (us : List Value), us.length = ks.length → bindArgs (PySem.W.fnOf fx qual params body scope .none kV doc pm an cdv ct) ⟨[], ks.zip us⟩ = pure (ps.zip (pick is us)))
    (ha : QK M X kws t) (hall : (backToKw pos (keywordEach kws X.env)).all (·.1.isSome) = true := by rfl) (hks : (backToKw pos (keywordEach kws X.env)).filterMap (·.1) = ks := by rfl) (hdb : (x == ("__debug__" : Str)) = false := by decide)
    (hpl : ((backTo pos (starEach [] X.env)).any (·.1) || (backToKw pos (keywordEach kws X.env)).any (·.1.isNone)) = false := by rfl) :
    QE M X (.Call (.Name x p) [] kws pos) (dCallP ks.length sp Ed is t) := by
  obtain ⟨fd, a, b, kp, fx, qual, body, scope, kV, doc, pm, an, cdv, ct, rfl⟩ := F.ex
  have kb : KBn X.K (PySem.W.fnOf fx qual params body scope .none kV doc pm an cdv ct) ps 0 ks (fun _ ws => pick is ws) (fun _ zs => pick is zs) :=
    ⟨fun s us ws _ h1 h2 => by
      have e : us = [] := List.eq_nil_of_length_eq_zero h1
      subst e
      exact .of_eq (hb _ _ _ _ _ _ _ _ _ _ ws h2), fun _ r => pick_vals r is⟩
  refine ⟨fun pins s σ H Q I ⟨io, S, ρ, Qd, r, re, h, c⟩ => ?_⟩
  refine wpAny_Call_Name_kw (ld_glob I hg hm ?_ hdb)
  refine PySem.W.callWith_KW0 (h₀ := X.base) I.ok.mod.kin kp hall ?_ hpl
  refine thn (ha.run pos pins s σ H (fun zs H1 => zs.length = ks.length ∧ liftSp X.K M.tabs sp (pick is zs) H1 Q E) I ⟨io, S, ρ, _, r, re, h, fun i1 H1 S1 ds xs s1 r1 d1 ⟨hl, h1⟩ => ⟨by rw [d1.len]; exact hl, by
      rw [← hK]
      exact call_sim r1 (pick_rds d1 is) h1 (c.to s1) hE⟩⟩) fun ws s2 ⟨zs, H2, I2, rz, l2, q2⟩ => ⟨I2.kIn, ?_⟩
  rw [hks]
  exact run_fnN a hr kb hx I2 .nil rz rfl l2 q2
end
def putKs (ks : List Key) (k : Key) : List Key := if (ks.any fun x => decide (x = k)) = true then ks else ks ++ [k]
def putDs (ks : List Key) (es : List D) (k : Key) (z : D) : List D := if (ks.any fun x => decide (x = k)) = true then (ks.zip es).map fun p => if p.1 = k then z else p.2 else es ++ [z]
theorem putK_any (kvs : List (Key × V)) (k : Key) : ((kvs.map (·.1)).any fun x => decide (x = k)) = kvs.any fun kv => decide (kv.1 = k) := by rw [List.any_map]; rfl
theorem put_keys {kvs : List (Key × V)} {ks : List Key} (h : kvs.map (·.1) = ks) (k : Key) (v : V) : (putK kvs k v).map (·.1) = putKs ks k := by
  unfold putK putKs
  subst h
  rw [putK_any]
  by_cases e : (kvs.any fun kv => decide (kv.1 = k)) = true
  · rw [if_pos e, if_pos e, List.map_map]
    apply List.map_congr_left
    intro p _
    show (if p.1 = k then (p.1, v) else p).1 = p.1
    split <;> rfl
  · rw [if_neg e, if_neg e, List.map_append]; rfl
theorem put_vals {K : PySem.W.Frag} {io : Pl} {H : Hp} {k : Key} {z : D} {v : V} (hv : RD K io H z v) : ∀ {kvs : List (Key × V)} {es : List D}, RDs K io H es (kvs.map (·.2)) →
    RDs K io H (((kvs.map (·.1)).zip es).map fun p => if p.1 = k then z else p.2) ((kvs.map fun kv => if kv.1 = k then (kv.1, v) else kv).map (·.2))
  | [], es, _ => RDs.nil
  | p :: kvs, [], h => by cases h
  | p :: kvs, e :: es, h => by
    obtain ⟨x, r, e1, h1, h2⟩ := h
    cases e1
    have ih := put_vals (k := k) hv h2
    show RDs K io H ((if p.1 = k then z else e) :: _) ((if p.1 = k then (p.1, v) else p).2 :: _)
    refine RDs.cons ?_ ih
    by_cases e : p.1 = k
    · rw [if_pos e, if_pos e]; exact hv
    · rw [if_neg e, if_neg e]; exact h1
theorem put_rds {K : PySem.W.Frag} {io : Pl} {H : Hp} {k : Key} {z : D} {v : V} {kvs : List (Key × V)} {ks : List Key} {es : List D} (hk : kvs.map (·.1) = ks) (h : RDs K io H es (kvs.map (·.2))) (hv : RD K io H z v) :
    RDs K io H (putDs ks es k z) ((putK kvs k v).map (·.2)) := by
  unfold putK putDs
  subst hk
  rw [putK_any]
  by_cases e : (kvs.any fun kv => decide (kv.1 = k)) = true
  · rw [if_pos e, if_pos e]
    exact put_vals hv h
  · rw [if_neg e, if_neg e, List.map_append]
    exact h.app (RDs.one hv)
theorem kD_V {K : PySem.W.Frag} {io : Pl} {H : Hp} {k : Key} {x : V} (h : RD K io H (kD k) x) : x = kV k := by
  cases k with
  | inl i => exact h
  | inr i => exact h
theorem putK_len (kvs : List (Key × V)) (k : Key) (v : V) : (putK kvs k v).length ≤ kvs.length + 1 := length_putK kvs k v
def dicW (gs : Gs) (t : Tg) (tt : DT) (tk tv : DE) (ρ : En) (Q : List Key → List D → Sto → Prop) : List D → List Key → List D → Sto → Prop
  | [], ks, es, S => gs.ok S ∧ Q ks es S
  | d :: ds, ks, es, S => gs.ok S ∧ ks.length < sizeLine ∧ ∀ l o, S l = none → t.d d ρ fun ρ1 => tt ρ1 (S.set l o) fun b S2 =>
      if b = true then tk ρ1 S2 fun y S3 => tv ρ1 S3 fun z S4 => ∃ k, y = kD k ∧ S4 l = some o ∧ ∃ S5, S5.sub (S4.del l) ∧ dicW gs t tt tk tv ρ Q ds (putKs ks k) (putDs ks es k z) S5
      else S2 l = some o ∧ ∃ S4, S4.sub (S2.del l) ∧ dicW gs t tt tk tv ρ Q ds ks es S4
def dDc (di : DI) (t : Tg) (tt : DT) (tk tv : DE) (vs : List Nat) : DE := fun ρ S Q => di ρ S fun ds gs S1 => dicW gs t tt tk tv (wipeD ρ vs) (fun ks es S2 => ∀ l, S2 l = none → Q (.ref l) (S2.set l (.dic ks es))) ds [] [] S1
section
variable {M : Md} {di : DI} {t : Tg} {tt : DT} {tk tv : DE} {vs : List Nat} {K : PySem.W.Frag}
theorem dc_sim (hM : M.K = K) (hv : t.in_ vs) : ∀ σ H Q, lift M (dDc di t tt tk tv vs) σ H Q → tDc (liftI M di) (t.g K) (liftT M tt) (lift M tk) (lift M tv) vs σ H Q :=
  fun σ H Q ⟨io, S, ρ, Qd, r, re, h, c⟩ => ⟨io, S, ρ, _, r, re, h, fun i1 H1 S1 J ds gs s1 r1 ok q D hD => by
    obtain ⟨r2, s2, f2, at2⟩ := r1.new (u := .dK []) (o := .dic [] []) hD (Nat.zero_le _) ⟨rfl, [], upd_same, rfl, RDs.nil⟩
    refine ⟨fun i m H' => m = ds.length - i ∧ i ≤ ds.length ∧ ∃ io2 S2 ks es, Stp (i1 ++ [(D, D)]) (upd H1 D (.dK [])) io2 H' ∧ RS M io2 H' (S2.set i1.length (.dic ks es)) ∧ S2 i1.length = none ∧ dicW gs t tt tk tv (wipeD ρ vs) (fun ks es S2 => ∀ l, S2 l = none → Qd (.ref l) (S2.set l (.dic ks es))) (ds.drop i) ks es S2,
      ⟨ds.length, by simp, Nat.zero_le _, _, S1, [], [], Stp.refl _ _, r2, f2, by simpa using q⟩, ?_⟩
    rintro i m H2 ⟨rfl, hi, io2, S2, ks, es, st2, r2, n2, q2⟩
    have sg : S2.sub (S2.set i1.length (.dic ks es)) := Sto.sub_set n2
    have atD : ∀ {io3 : Pl} {H3 : Hp}, Stp io2 H2 io3 H3 → io3[i1.length]? = some (D, D) := fun st => st.at_ (st2.at_ at2)
    by_cases hlt : i < ds.length
    · have ed : ds[i]? = some ds[i] := List.getElem?_eq_getElem hlt
      rw [List.drop_eq_getElem_cons hlt] at q2
      obtain ⟨g2, hz, q2⟩ := q2
      obtain ⟨go, yl⟩ := ok.go io2 H2 _ i _ (s2.trans st2) r2 (Gs.ok_sub g2 sg) ed
      refine .inr ⟨go, fun H' => ∃ io3 S3 ks es, Stp (i1 ++ [(D, D)]) (upd H1 D (.dK [])) io3 H' ∧ RS M io3 H' (S3.set i1.length (.dic ks es)) ∧ S3 i1.length = none ∧ dicW gs t tt tk tv (wipeD ρ vs) (fun ks es S2 => ∀ l, S2 l = none → Qd (.ref l) (S2.set l (.dic ks es))) (ds.drop (i + 1)) ks es S3,
        fun H' z => ⟨ds.length - (i + 1), by omega, rfl, hlt, z⟩, fun x H3 y => ?_⟩
      obtain ⟨io3, st3, r3, d3⟩ := yl x H3 y
      have q3 := q2 i1.length (.dic ks es) n2
      have stb : Stp io H io3 H3 := (s1.trans s2).trans (st2.trans st3)
      rw [← hM]
      refine tg_sim ((re.mono stb).wipe vs) d3 q3 fun ρ4 σ4 re4 q4 hw => ⟨(hw vs hv).trans (wipe_twice σ vs), ?_⟩
      refine ⟨io3, _, ρ4, _, r3, re4, q4, fun io5 H5 S5 b st5 r5 q5 => ?_⟩
      have keepN : ∀ {S7 S8 : Sto} {o : Ob}, S7.sub (S8.del i1.length) → S8 i1.length = some o → (∀ l o', (S7.set i1.length o) l = some o' → S8 l = some o') ∧ S7 i1.length = none := fun {S7 S8 o} s7 e8 => by
        refine ⟨fun l o' e => ?_, ?_⟩
        · by_cases hl : l = i1.length
          · subst hl; rw [Sto.set_same] at e; rw [e8]; exact e
          · rw [Sto.set_ne hl] at e
            have := s7 l o' e
            rw [Sto.del_ne hl] at this; exact this
        · cases e : S7 i1.length with
          | none => rfl
          | some o =>
            have := s7 _ _ e
            rw [Sto.del_same] at this; cases this
      cases b with
      | true =>
        dsimp only
        rw [if_pos rfl] at q5 ⊢
        refine ⟨io5, S5, ρ4, _, r5, re4.mono st5, q5, fun io6 H6 S6 v z st6 r6 d6 q6 => ⟨io6, S6, ρ4, _, r6, re4.mono (st5.trans st6), q6, fun io7 H7 S7 w u st7 r7 d7 ⟨k, ek, e7, S9, s9, q9⟩ => ?_⟩⟩
        have a7 : io7[i1.length]? = some (D, D) := atD ((st3.trans st5).trans (st6.trans st7))
        obtain ⟨p, ep, e8, kvs, hx, hk, rx⟩ := r7.ob _ _ e7
        rw [a7] at ep; cases ep
        have hlen : kvs.length < sizeLine := by
          have : kvs.length = ks.length := by rw [← hk, List.length_map]
          omega
        obtain ⟨r8, s8⟩ := r7.put (H' := upd H7 D (.dK (putK kvs k u))) (o' := .dic (putKs ks k) (putDs ks es k w)) e7 a7 (fun b h1 _ => upd_ne h1)
          (fun u' hu => by
            have : upd H7 D (.dK (putK kvs k u)) D = some u' := hu.elim id id
            rw [upd_same] at this; cases this
            show (putK kvs k u).length ≤ sizeLine
            have := putK_len kvs k u
            omega)
          fun st => ⟨rfl, _, upd_same, put_keys hk k u, put_rds hk (rx.mono st) (d7.mono st)⟩
        obtain ⟨kn, nn⟩ := keepN (o := .dic ks es) s9 e7
        subst ek
        refine ⟨kvs, k, kD_V d6, hx, hlen, _, S9, _, _, ((st2.trans st3).trans (st5.trans (st6.trans st7))).trans s8, r8.sub fun l o e => ?_, nn, q9⟩
        by_cases hl : l = i1.length
        · subst hl; rw [Sto.set_same] at e ⊢; exact e
        · rw [Sto.set_ne hl] at e ⊢
          exact kn l o (by rw [Sto.set_ne hl]; exact e)
      | false =>
        dsimp only
        rw [if_neg Bool.false_ne_true] at q5 ⊢
        obtain ⟨e5, S7, s7, q7⟩ := q5
        obtain ⟨kn, nn⟩ := keepN s7 e5
        exact ⟨io5, S7, ks, es, (st2.trans st3).trans st5, r5.sub kn, nn, q7⟩
    · have e : i = ds.length := by omega
      subst e
      rw [List.drop_length] at q2
      obtain ⟨g2, q2⟩ := q2
      refine .inl ⟨ok.stop io2 H2 _ (s2.trans st2) r2 (Gs.ok_sub g2 sg), ?_⟩
      exact c io2 H2 _ (.ref i1.length) (.ref D) ((s1.trans s2).trans st2) r2 ⟨_, st2.at_ at2, rfl⟩ (q2 _ n2)⟩
end
section
variable {M : Md} {X : Cx} {kx vx tg iter : Expr} {ifs : List Expr} {scope : Scope} {own : List (Str × Nat)} {pos : Pos} {di : DI} {t : Tg} {tt : DT} {tk tv : DE}
theorem q_dc (hM : M.K = X.K) (hc : X.calm = true) (hN : X.N.Nodup) (hi : QI M X tg iter di) (ok : BlkOk X.N X.env.scope scope own) (hv : t.in_ (own.map (·.2)))
    (hg : ∀ (s : Shared) (H : Hp) (C : Addr) (cl : List (Str × Addr)) (fp : List Addr), PG (X.blk s H scope (compEnvC scope cl C X.env) fp) tg (t.g X.K)) (ht : ∀ (s : Shared) (H : Hp) (C : Addr) (cl : List (Str × Addr)) (fp : List Addr), QTs M (X.blk s H scope (compEnvC scope cl C X.env) fp) ifs tt)
    (hk : ∀ (s : Shared) (H : Hp) (C : Addr) (cl : List (Str × Addr)) (fp : List Addr), QE M (X.blk s H scope (compEnvC scope cl C X.env) fp) kx tk)
    (he : ∀ (s : Shared) (H : Hp) (C : Addr) (cl : List (Str × Addr)) (fp : List Addr), QE M (X.blk s H scope (compEnvC scope cl C X.env) fp) vx tv) (hs : ∀ x, foldedSetIterable iter X.env x = pure x := by intro _; rfl) :
    QE M X (.DictComp kx vx [⟨tg, iter, ifs, 0⟩] scope pos) (dDc di t tt tk tv (own.map (·.2))) :=
  PE.imp (pe_dc hc hN hi ok hg ht hk he hs) (dc_sim hM hv)
end
def comp2W (gs : Gs) (t : Tg) (tt : DT) (di1 : DI) (t1 : Tg) (tt1 : DT) (te : DE) (vs1 : List Nat) (ρ : En) (Q : List D → Sto → Prop) : List D → List D → Sto → Prop
  | [], acc, S => gs.ok S ∧ Q acc S
  | d :: ds, acc, S => gs.ok S ∧ ∀ l o, S l = none → t.d d ρ fun ρ1 => tt ρ1 (S.set l o) fun b S2 =>
      if b = true then di1 ρ1 S2 fun ds1 gs1 S3 => S3 l = some o ∧ ∃ S4, S4.sub (S3.del l) ∧ compW gs1 t1 tt1 te (wipeD ρ1 vs1) (fun acc' S5 => ∃ S6, S6.sub S5 ∧ comp2W gs t tt di1 t1 tt1 te vs1 ρ Q ds acc' S6) ds1 acc S4
      else S2 l = some o ∧ ∃ S4, S4.sub (S2.del l) ∧ comp2W gs t tt di1 t1 tt1 te vs1 ρ Q ds acc S4
def dLc2 (di : DI) (t : Tg) (tt : DT) (di1 : DI) (t1 : Tg) (tt1 : DT) (te : DE) (vs vs1 : List Nat) : DE := fun ρ S Q => di ρ S fun ds gs S1 =>
  comp2W gs t tt di1 t1 tt1 te vs1 (wipeD ρ vs) (fun acc S2 => ∀ l, S2 l = none → Q (.ref l) (S2.set l (.lst acc))) ds [] S1
theorem sub_back {S7 S8 : Sto} {n : Nat} {o : Ob} (s7 : S7.sub (S8.del n)) (e8 : S8 n = some o) : (∀ l o', (S7.set n o) l = some o' → S8 l = some o') ∧ S7 n = none := by
  refine ⟨fun l o' e => ?_, ?_⟩
  · by_cases hl : l = n
    · subst hl; rw [Sto.set_same] at e; rw [e8]; exact e
    · rw [Sto.set_ne hl] at e
      have := s7 l o' e
      rw [Sto.del_ne hl] at this; exact this
  · cases e : S7 n with
    | none => rfl
    | some o =>
      have := s7 _ _ e
      rw [Sto.del_same] at this; cases this
section
variable {M : Md} {di di1 : DI} {t t1 : Tg} {tt tt1 : DT} {te : DE} {vs vs1 : List Nat} {K : PySem.W.Frag}
theorem lc2_sim (hM : M.K = K) (hv : t.in_ vs) (hv1 : t1.in_ vs1) : ∀ σ H Q, lift M (dLc2 di t tt di1 t1 tt1 te vs vs1) σ H Q → tLc2 (liftI M di) (t.g K) (liftT M tt) (liftI M di1) (t1.g K) (liftT M tt1) (lift M te) vs vs1 σ H Q :=
  fun σ H Q ⟨io, S, ρ, Qd, r, re, h, c⟩ => ⟨io, S, ρ, _, r, re, h, fun i1 H1 S1 J ds gs s1 r1 ok q D hD => by
    obtain ⟨r2, s2, f2, at2⟩ := r1.new (u := .lst []) (o := .lst []) hD (Nat.zero_le _) ⟨rfl, [], upd_same, RDs.nil⟩
    -- the state between turns of the outer clause
    let Pv : Nat → Hp → Prop := fun i H' => ∃ io2 S2 acc, Stp (i1 ++ [(D, D)]) (upd H1 D (.lst [])) io2 H' ∧ RS M io2 H' (S2.set i1.length (.lst acc)) ∧ S2 i1.length = none ∧
      comp2W gs t tt di1 t1 tt1 te vs1 (wipeD ρ vs) (fun acc S2 => ∀ l, S2 l = none → Qd (.ref l) (S2.set l (.lst acc))) (ds.drop i) acc S2
    refine ⟨fun i m H' => m = ds.length - i ∧ i ≤ ds.length ∧ Pv i H', ⟨ds.length, by simp, Nat.zero_le _, _, S1, [], Stp.refl _ _, r2, f2, by simpa using q⟩, ?_⟩
    rintro i m H2 ⟨rfl, hi, io2, S2, acc, st2, r2, n2, q2⟩
    have sg : S2.sub (S2.set i1.length (.lst acc)) := Sto.sub_set n2
    have atD : ∀ {io3 : Pl} {H3 : Hp}, Stp io2 H2 io3 H3 → io3[i1.length]? = some (D, D) := fun st => st.at_ (st2.at_ at2)
    by_cases hlt : i < ds.length
    · have ed : ds[i]? = some ds[i] := List.getElem?_eq_getElem hlt
      rw [List.drop_eq_getElem_cons hlt] at q2
      obtain ⟨g2, q2⟩ := q2
      obtain ⟨go, yl⟩ := ok.go io2 H2 _ i _ (s2.trans st2) r2 (Gs.ok_sub g2 sg) ed
      refine .inr ⟨go, fun H' => Pv (i + 1) H', fun H' z => ⟨ds.length - (i + 1), by omega, rfl, hlt, z⟩, fun x H3 y => ?_⟩
      obtain ⟨io3, st3, r3, d3⟩ := yl x H3 y
      have q3 := q2 i1.length (.lst acc) n2
      have stb : Stp io H io3 H3 := (s1.trans s2).trans (st2.trans st3)
      rw [← hM]
      refine tg_sim ((re.mono stb).wipe vs) d3 q3 fun ρ4 σ4 re4 q4 hw => ⟨(hw vs hv).trans (wipe_twice σ vs), ?_⟩
      refine ⟨io3, _, ρ4, _, r3, re4, q4, fun io5 H5 S5 b st5 r5 q5 => ?_⟩
      cases b with
      | false =>
        dsimp only
        rw [if_neg Bool.false_ne_true] at q5 ⊢
        obtain ⟨e5, S7, s7, q7⟩ := q5
        obtain ⟨kn, nn⟩ := sub_back s7 e5
        exact ⟨io5, S7, acc, (st2.trans st3).trans st5, r5.sub kn, nn, q7⟩
      | true =>
        dsimp only
        rw [if_pos rfl] at q5 ⊢
        refine ⟨io5, S5, ρ4, _, r5, re4.mono st5, q5, fun i6 H6 S6 J1 ds1 gs1 s6 r6 ok1 ⟨e6, S7, s7, q7⟩ => ?_⟩
        obtain ⟨kn, nn⟩ := sub_back s7 e6
        have re6 : RE M.K i6 H6 ρ4 σ4 := re4.mono (st5.trans s6)
        refine ⟨fun j m H' => m = ds1.length - j ∧ j ≤ ds1.length ∧ ∃ io8 S8 acc8, Stp i6 H6 io8 H' ∧ RS M io8 H' (S8.set i1.length (.lst acc8)) ∧ S8 i1.length = none ∧
          compW gs1 t1 tt1 te (wipeD ρ4 vs1) (fun acc' S5 => ∃ S6, S6.sub S5 ∧ comp2W gs t tt di1 t1 tt1 te vs1 (wipeD ρ vs) (fun acc S2 => ∀ l, S2 l = none → Qd (.ref l) (S2.set l (.lst acc))) (ds.drop (i + 1)) acc' S6) (ds1.drop j) acc8 S8,
          ⟨ds1.length, by simp, Nat.zero_le _, i6, S7, acc, Stp.refl _ _, r6.sub (S' := S7.set i1.length (.lst acc)) kn, nn, by simpa using q7⟩, ?_⟩
        rintro j m H8 ⟨rfl, hj, io8, S8, acc8, st8, r8, n8, q8⟩
        have sg8 : S8.sub (S8.set i1.length (.lst acc8)) := Sto.sub_set n8
        have stD : Stp io2 H2 io8 H8 := (st3.trans st5).trans (s6.trans st8)
        by_cases hlt1 : j < ds1.length
        · have ed1 : ds1[j]? = some ds1[j] := List.getElem?_eq_getElem hlt1
          rw [List.drop_eq_getElem_cons hlt1] at q8
          obtain ⟨g8, hz8, q8⟩ := q8
          obtain ⟨go1, yl1⟩ := ok1.go io8 H8 _ j _ st8 r8 (Gs.ok_sub g8 sg8) ed1
          refine .inr ⟨go1, fun H' => ∃ io9 S9 acc9, Stp i6 H6 io9 H' ∧ RS M io9 H' (S9.set i1.length (.lst acc9)) ∧ S9 i1.length = none ∧
            compW gs1 t1 tt1 te (wipeD ρ4 vs1) (fun acc' S5 => ∃ S6, S6.sub S5 ∧ comp2W gs t tt di1 t1 tt1 te vs1 (wipeD ρ vs) (fun acc S2 => ∀ l, S2 l = none → Qd (.ref l) (S2.set l (.lst acc))) (ds.drop (i + 1)) acc' S6) (ds1.drop (j + 1)) acc9 S9,
            fun H' z => ⟨ds1.length - (j + 1), by omega, rfl, hlt1, z⟩, fun x H9 y => ?_⟩
          obtain ⟨io9, st9, r9, d9⟩ := yl1 x H9 y
          have q9 := q8 i1.length (.lst acc8) n8
          refine tg_sim ((re6.mono (st8.trans st9)).wipe vs1) d9 q9 fun ρA σA reA qA hwA => ⟨(hwA vs1 hv1).trans (wipe_twice σ4 vs1), ?_⟩
          refine ⟨io9, _, ρA, _, r9, reA, qA, fun ioB HB SB b stB rB qB => ?_⟩
          cases b with
          | true =>
            dsimp only
            rw [if_pos rfl] at qB ⊢
            refine ⟨ioB, SB, ρA, _, rB, reA.mono stB, qB, fun ioC HC SC v z stC rC dC ⟨eC, SD, sD, qD⟩ => ?_⟩
            have aC : ioC[i1.length]? = some (D, D) := atD (stD.trans ((st9.trans stB).trans stC))
            obtain ⟨p, ep, e8, xs, hx, rx⟩ := rC.ob _ _ eC
            rw [aC] at ep; cases ep
            have hlen : xs.length < sizeLine := by rw [rx.len]; exact hz8
            obtain ⟨rE, sE⟩ := rC.put (H' := upd HC D (.lst (xs ++ [z]))) (o' := .lst (acc8 ++ [v])) eC aC (fun b h1 _ => upd_ne h1)
              (fun u hu => by
                have : upd HC D (.lst (xs ++ [z])) D = some u := hu.elim id id
                rw [upd_same] at this; cases this
                show (xs ++ [z]).length ≤ sizeLine
                simp; omega)
              fun st => ⟨rfl, _, upd_same, (rx.mono st).app (RDs.one (dC.mono st))⟩
            obtain ⟨kC, nC⟩ := sub_back sD eC
            refine ⟨xs, hx, hlen, _, SD, acc8 ++ [v], (st8.trans (st9.trans (stB.trans stC))).trans sE, rE.sub fun l o e => ?_, nC, qD⟩
            by_cases hl : l = i1.length
            · subst hl; rw [Sto.set_same] at e ⊢; exact e
            · rw [Sto.set_ne hl] at e ⊢
              exact kC l o (by rw [Sto.set_ne hl]; exact e)
          | false =>
            dsimp only
            rw [if_neg Bool.false_ne_true] at qB ⊢
            obtain ⟨eB, SD, sD, qD⟩ := qB
            obtain ⟨kC, nC⟩ := sub_back sD eB
            exact ⟨ioB, SD, acc8, st8.trans (st9.trans stB), rB.sub kC, nC, qD⟩
        · have e : j = ds1.length := by omega
          subst e
          rw [List.drop_length] at q8
          obtain ⟨g8, SE, sE, q8⟩ := q8
          refine .inl ⟨ok1.stop io8 H8 _ st8 r8 (Gs.ok_sub g8 sg8), io8, SE, acc8, st2.trans stD, r8.sub fun l o e => ?_, ?_, q8⟩
          · by_cases hl : l = i1.length
            · subst hl; rw [Sto.set_same] at e ⊢; exact e
            · rw [Sto.set_ne hl] at e ⊢
              exact sE l o e
          · cases e : SE i1.length with
            | none => rfl
            | some o =>
              have := sE _ _ e
              rw [n8] at this; cases this
    · have e : i = ds.length := by omega
      subst e
      rw [List.drop_length] at q2
      obtain ⟨g2, q2⟩ := q2
      refine .inl ⟨ok.stop io2 H2 _ (s2.trans st2) r2 (Gs.ok_sub g2 sg), ?_⟩
      exact c io2 H2 _ (.ref i1.length) (.ref D) ((s1.trans s2).trans st2) r2 ⟨_, st2.at_ at2, rfl⟩ (q2 _ n2)⟩
end
section
variable {M : Md} {X : Cx} {elt tg iter tg1 iter1 : Expr} {ifs ifs1 : List Expr} {scope : Scope} {own : List (Str × Nat)} {vs1 : List Nat} {pos : Pos} {di di1 : DI} {t t1 : Tg} {tt tt1 : DT} {te : DE}
theorem q_lc2 (hM : M.K = X.K) (hc : X.calm = true) (hN : X.N.Nodup) (hi : QI M X tg iter di) (ok : BlkOk X.N X.env.scope scope own) (hvs : ∀ i ∈ vs1, i ∈ own.map (·.2)) (hv : t.in_ (own.map (·.2))) (hv1 : t1.in_ vs1)
    (hg : ∀ (s : Shared) (H : Hp) (C : Addr) (cl : List (Str × Addr)) (fp : List Addr), PG (X.blk s H scope (compEnvC scope cl C X.env) fp) tg (t.g X.K)) (ht : ∀ (s : Shared) (H : Hp) (C : Addr) (cl : List (Str × Addr)) (fp : List Addr), QTs M (X.blk s H scope (compEnvC scope cl C X.env) fp) ifs tt)
    (hi1 : ∀ (s : Shared) (H : Hp) (C : Addr) (cl : List (Str × Addr)) (fp : List Addr), QI M (X.blk s H scope (compEnvC scope cl C X.env) fp) tg1 iter1 di1)
    (hg1 : ∀ (s : Shared) (H : Hp) (C : Addr) (cl : List (Str × Addr)) (fp : List Addr), PG (X.blk s H scope (compEnvC scope cl C X.env) fp) tg1 (t1.g X.K)) (ht1 : ∀ (s : Shared) (H : Hp) (C : Addr) (cl : List (Str × Addr)) (fp : List Addr), QTs M (X.blk s H scope (compEnvC scope cl C X.env) fp) ifs1 tt1)
    (he : ∀ (s : Shared) (H : Hp) (C : Addr) (cl : List (Str × Addr)) (fp : List Addr), QE M (X.blk s H scope (compEnvC scope cl C X.env) fp) elt te) (hs : ∀ x, foldedSetIterable iter X.env x = pure x := by intro _; rfl) (hs1 : ∀ env x, foldedSetIterable iter1 env x = pure x := by intro _ _; rfl) :
    QE M X (.ListComp elt [⟨tg, iter, ifs, 0⟩, ⟨tg1, iter1, ifs1, 0⟩] scope pos) (dLc2 di t tt di1 t1 tt1 te (own.map (·.2)) vs1) :=
  PE.imp (pe_lc2 hc hN hi ok hvs hg ht hi1 hg1 ht1 he hs hs1) (lc2_sim hM hv hv1)
end
end L3
end
section
set_option Elab.async false
set_option linter.all false
set_option maxRecDepth 100000
set_option maxHeartbeats 2000000
namespace L3
open PySem PySem.Spec PyProof.Rows L2

section
variable {M : Md} {X : Cx} {pos : Pos}
theorem qv (i : Nat) {x : Str} (hN : X.N[i]? = some x := by rfl) (hv : Vis X.env.scope x := by first | exact Or.inl rfl | exact Or.inr (Or.inl rfl) | exact Or.inr (Or.inr rfl)) (hd : (x == ("__debug__" : Str)) = false := by decide)
    (hcd : (x == ("__classdict__" : Str)) = false := by decide) : QE M X (.Name x pos) (dVar i) := q_var hN hv hd hcd
theorem QE.imp {e : Expr} {d d' : DE} (h : QE M X e d) (k : ∀ ρ S Q, d' ρ S Q → d ρ S Q) : QE M X e d' :=
  PE.imp h fun σ H Q ⟨io, S, ρ, Qd, r, re, hd, c⟩ => ⟨io, S, ρ, Qd, r, re, k ρ S Qd hd, c⟩
theorem QS.imp {e : Stmt} {d d' : DS} (h : QS M X e d) (k : ∀ E ρ S, d' E ρ S → d E ρ S) : QS M X e d' :=
  PS.imp h fun E σ H ⟨io, S, ρ, Ed, r, re, hd, c⟩ => ⟨io, S, ρ, Ed, r, re, k Ed ρ S hd, c⟩
end
theorem frz_lst {S : Sto} {ds : List D} {Q : DK} (q : Q (.lst ds) S) : ∀ l, S l = none → ∃ l' o w, D.ref l = .ref l' ∧ (S.set l (.lst ds)) l' = some o ∧ frzO o = some w ∧ Q w ((S.set l (.lst ds)).del l') := fun l hl =>
  ⟨l, _, _, rfl, Sto.set_same, rfl, by rw [Sto.del_set hl]; exact q⟩
def turn (t : Tg) (tt : DT) (te : DE) (ρ : En) (d : D) (S' : Sto) (Py : DK) (Pn : Sto → Prop) : Prop := t.d d ρ fun ρ1 => tt ρ1 S' fun b S2 => if b = true then te ρ1 S2 Py else Pn S2
theorem compW_by {gs : Gs} {t : Tg} {tt : DT} {te : DE} {ρ : En} {Q : List D → Sto → Prop} {S : Sto} (f : D → Option D) : ∀ (ds acc : List D), gs.ok S → acc.length + ds.length ≤ sizeLine →
    (∀ d ∈ ds, ∀ (S' : Sto) (Py : DK) (Pn : Sto → Prop), S.sub S' → (∀ v, f d = some v → Py v S') → (f d = none → Pn S') → turn t tt te ρ d S' Py Pn) → Q (acc ++ ds.filterMap f) S → compW gs t tt te ρ Q ds acc S
  | [], acc, g, _, _, q => ⟨g, by simpa using q⟩
  | d :: ds, acc, g, hz, h, q => by
    refine ⟨g, by simp at hz; omega, fun l o hl => ?_⟩
    have ih := fun acc' (hz' : acc'.length + ds.length ≤ sizeLine) (q' : Q (acc' ++ ds.filterMap f) S) => compW_by f ds acc' g hz' (fun d' hd => h d' (List.mem_cons_of_mem _ hd)) q'
    refine h d List.mem_cons_self (S.set l o) _ _ (Sto.sub_set hl) (fun v e => ⟨Sto.set_same, S, ?_, ih (acc ++ [v]) (by simp at hz ⊢; omega) ?_⟩) fun e => ⟨Sto.set_same, S, ?_, ih acc (by simp at hz ⊢; omega) ?_⟩
    · rw [Sto.del_set hl]; exact Sto.sub_refl _
    · rw [List.filterMap_cons, e] at q
      simpa using q
    · rw [Sto.del_set hl]; exact Sto.sub_refl _
    · rw [List.filterMap_cons, e] at q
      exact q
theorem compW_map {gs : Gs} {t : Tg} {te : DE} {ρ : En} {Q : List D → Sto → Prop} {S : Sto} (f : D → D) {ds : List D} (g : gs.ok S) (hz : ds.length ≤ sizeLine)
    (h : ∀ d ∈ ds, ∀ (S' : Sto) (Py : DK), S.sub S' → Py (f d) S' → t.d d ρ fun ρ1 => te ρ1 S' Py) (q : Q (ds.map f) S) : compW gs t dYes te ρ Q ds [] S := by
  refine compW_by (fun d => some (f d)) ds [] g (by simpa using hz) (fun d hd S' Py Pn s hy _ => ?_) ?_
  · have z := h d hd S' Py s (hy _ rfl)
    cases t with
    | one i => exact z
    | many is => exact z
  · rw [List.nil_append]
    show Q (ds.filterMap (some ∘ f)) S
    rw [List.filterMap_eq_map]; exact q
section
variable {P : Program} {w : World} {K : PySem.W.Frag} {mg : Str → Option Value} {base : Heap} {x qual : Str} {params : Arguments} {body : List Stmt} {scope : Scope} {p : He.Defn} {fd : FuncData} {N ps : List Str} {k : Nat} {sp : DSp} {tabs : List (Addr × Str)}
theorem fn_ok0 (F : FunD K x qual params body scope [] [] (He.fAd K p) fd) (S : FnScope N ps scope) (len : ∀ ds S Q E, sp ds S Q E → ds.length = ps.length)
    (hbody : ∀ (A : Around) (outer : List Env) (s : Shared) (H : Hp) (E : XK) (io : Pl), Room k (A.deeper (envOfC qual scope s.heap.objs.size (He.fAd K p) (.ref (He.codeOf K p)))) →
      ∃ d : DS, QSs ⟨K, tabs, io, H⟩ (cxOf C8.CX0 P w K mg base N qual scope (He.fAd K p) (.ref (He.codeOf K p)) A outer s H E).nox body d ∧ ∀ ds S Q Ed, sp ds S Q Ed → d (EndsD Q) (startD N ds) S) : FnOk P w K mg base C8.CX0 (k + 1) (He.fAd K p) fd ps (liftSp K tabs sp) := by
  obtain ⟨oc, od, dV, kV, doc, pm, an, cdv, ct, osl, rfl, lk, hcd, hD, hK⟩ := F.ex
  obtain ⟨c, rfl⟩ := He.codeIn_ref hcd
  have ec : He.codeOf K p = c := He.codeOf_eq lk rfl
  subst ec
  refine fn_of lk hcd S (fun vs H Q E ⟨io, S, ds, Qd, Ed, r, d, h, c, x⟩ => d.len.trans (len _ _ _ _ h)) fun A outer s H vs Q E hr ⟨io, S, ds, Qd, Ed, r, d, h, c, x⟩ => ?_
  obtain ⟨dd, q, v⟩ := hbody A outer s H E io hr
  exact ⟨_, q.nox, body_sim r d c (v ds S Qd Ed h)⟩
theorem fn_def0 (F : FunD K x qual params body scope [] [] (He.fAd K p) fd) (S : FnScope N ps scope)
    (hb : ∀ (kV doc pm : Value) (an : Option Addr) (cdv ct : Value) (us : List Value), us.length = ps.length → bindArgs (PySem.W.fnOf x qual params body scope .none kV doc pm an cdv ct) ⟨us, []⟩ = pure (ps.zip us)) (len : ∀ ds S Q E, sp ds S Q E → ds.length = ps.length)
    (hbody : ∀ (A : Around) (outer : List Env) (s : Shared) (H : Hp) (E : XK) (io : Pl), Room k (A.deeper (envOfC qual scope s.heap.objs.size (He.fAd K p) (.ref (He.codeOf K p)))) →
      ∃ d : DS, QSs ⟨K, tabs, io, H⟩ (cxOf C8.CX0 P w K mg base N qual scope (He.fAd K p) (.ref (He.codeOf K p)) A outer s H E).nox body d ∧ ∀ ds S Q Ed, sp ds S Q Ed → d (EndsD Q) (startD N ds) S) : FN P w K mg base C8.CX0 tabs (k + 1) (He.fAd K p) params ps sp :=
  ⟨fd, fn_ok0 F S len hbody, F.bindsN hb, F.kp, funD_fn F⟩
end
theorem szo_of {P : Program} {w : World} {H : Hp} {h : Heap} {a : Addr} : ∀ {u : HO}, ObjOk P w H h a u → SzO u
  | .lst xs, o => o.1
  | .tup xs, o => o.1
  | .dK kvs, o => o.1
  | .frz ob u, o => szo_of (u := u) o.2
  | .dT _, _ => trivial
  | .set _ _, _ => trivial
  | .ins _ _ _, _ => trivial
  | .own _, _ => trivial
  | .xd _, _ => trivial
  | .rng _ _, _ => trivial
  | .tbl _, _ => trivial
  | .met _ _, _ => trivial
  | .ext _, _ => trivial
theorem law_end {l : PySem.W.OpenLaw} {w : World} {K : PySem.W.Frag} {mg : Str → Option Value} {fa : Addr} {h : Heap} {fd : FuncData} {fas : List He.Fa} {fn : List He.DefD} {tf : List He.Defn} {tn : List Str} {ex : PySem.W.Frag → Bool} {sp : DSp} {k n : Nat} {x : Str}
    (hIn : K.In h) (c : He.SaysX fas fn [] tf ex w h K) (hb : ∀ (s : Shared) (u : Value), BindsTo s fd ⟨[u], []⟩ [(x, u)])
    (hF : ∀ base : Heap, K.In base → base.Ns mainGlobals mg → (∀ p ∈ tf, GxR.TabB base mg (He.cT K p).1 (He.cT K p).2) → FnOk l.prog w K mg base C8.CX0 k fa fd [x] (liftSp K ((tf.zip tn).map fun p => ((He.cT K p.1).2, p.2)) sp))
    (hsp : ∀ (S : Sto) (v : D) (ns : List Int), ns.length ≤ n → (∀ z ∈ ns, Builtin.Int.intBits z ≤ 1048576) → lstD S v = some (ns.map .int) → sp [v] S (fun r _ => r = .bl true) noX) : LamX.LawAtS l w K C8.CX0 k n x mg fa h := by
  refine ⟨fd, tf.map fun p => He.cT K p, fun vs H Q E => (∃ a, vs = [V.ref a]) ∧ ((∀ a u, H a = some u → SzO u) → liftSp K ((tf.zip tn).map fun p => ((He.cT K p.1).2, p.2)) sp vs H Q E), fun p hp => ?_, fun p hp => ?_, fun p hp => ?_, hb, fun H a ns hn hbits hT hS => ⟨⟨a, rfl⟩, fun hz => ?_⟩, fun base hK hG hT => ?_⟩
  · obtain ⟨q, hq, rfl⟩ := List.mem_map.mp hp
    exact c.empty q hq
  · obtain ⟨q, hq, rfl⟩ := List.mem_map.mp hp
    exact c.out q hq
  · obtain ⟨q, hq, rfl⟩ := List.mem_map.mp hp
    exact PySem.W.codeHd_of_K hIn (c.hd q hq)
  · have tabs : ∀ P ∈ (tf.zip tn).map fun p => ((He.cT K p.1).2, p.2), TabOk H P := fun P hP => by
      obtain ⟨q, hq, rfl⟩ := List.mem_map.mp hP
      exact ⟨#[], hT _ (List.mem_map.mpr ⟨q.1, (List.of_mem_zip hq).1, rfl⟩), True.intro, fun _ pos cv h => by
        have z : codeAmong pos [] = some cv := h
        simp [codeAmong] at z⟩
    have fin : ∀ io, Co ⟨K, (tf.zip tn).map fun p => ((He.cT K p.1).2, p.2), io, H⟩ io H (fun r _ => r = .bl true) (fun v _ => v = .bl true) := fun io i1 H1 S1 v y _ _ d q => by
      subst q
      exact d
    have no : ∀ io, RS ⟨K, (tf.zip tn).map fun p => ((He.cT K p.1).2, p.2), io, H⟩ io H (fun _ => none) := fun io => ⟨fun _ _ e => (nomatch e), fun _ _ _ _ _ _ e => (nomatch e), tabs, hz, Stp.refl _ _⟩
    rcases hS with (hS | ⟨o, hS⟩) | hS
    · refine ⟨[(a, a)], fun l => if l = 0 then some (.lst (ns.map .int)) else none, [.ref 0], _, noX, ⟨fun l o e => ?_, fun l m o1 o2 p q e1 e2 hn => ?_, tabs, hz, Stp.refl _ _⟩, RDs.one ⟨_, rfl, rfl⟩, hsp _ _ ns hn hbits rfl, fin _, exOk_no _ _⟩
      · by_cases hl : l = 0
        · subst hl
          cases e
          exact ⟨(a, a), rfl, rfl, _, hS, RDs.ints⟩
        · simp [hl] at e
      · by_cases hl : l = 0
        · by_cases hm : m = 0
          · exact absurd (hl.trans hm.symm) hn
          · simp [hm] at e2
        · simp [hl] at e1
    · exact ⟨[], fun _ => none, [.lst (ns.map .int)], _, noX, no _, RDs.one ⟨a, _, rfl, ⟨o, hS⟩, RDs.ints⟩, hsp _ _ ns hn hbits rfl, fin _, exOk_no _ _⟩
    · exact ⟨[], fun _ => none, [.kl (ns.map .int)], _, noX, no _, RDs.one ⟨a, _, rfl, hS, RDs.ints⟩, hsp _ _ ns hn hbits rfl, fin _, exOk_no _ _⟩
  · have F := hF base hK hG fun p hp => by
      have t := hT (He.cT K p) (List.mem_map.mpr ⟨p, hp, rfl⟩)
      exact ⟨t.code, t.bm, t.gP⟩
    refine ⟨fun vs H Q E ⟨⟨a, e⟩, _⟩ => by subst e; rfl, fun A outer s H args us vs Q E hr he hbd hv hq => F.run A outer s H args us vs Q E hr he hbd hv (hq.2 fun a u e => szo_of (he.hok a u e))⟩
def sclsB (K : PySem.W.Frag) (C : Addr) : Bool := PySem.W.plainGet K C Str.empty && (PySem.W.isClsIn K C && (PySem.W.plainOver K C && He.eqO (PySem.W.findIn K (.ref C) "__setattr__") (some (some (.builtin "object.__setattr__")))))
theorem scls_ok {K : PySem.W.Frag} {C : Addr} (h : sclsB K C = true) : SlX.SCls K C := by
  obtain ⟨h1, h⟩ := He.ba h
  obtain ⟨h2, h⟩ := He.ba h
  obtain ⟨h3, h4⟩ := He.ba h
  exact ⟨h1, h2, h3, He.eqO_ok h4⟩
def slotB (K : PySem.W.Frag) (C : Addr) (f : Str) (i : Nat) : Bool := He.eqO (PySem.W.findIn K (.ref C) f) (some (some (.ref (He.ma K C f)))) && (He.eqO (PySem.W.specialIn K (.ref (He.ma K C f)) "__get__") (some (some (.builtin "member_descriptor.__get__"))) &&
  (decide (PySem.W.takesIn K (.ref (He.ma K C f)) = some true) && (decide (PySem.W.typeIn K (.ref (He.ma K C f)) = some (.type "member_descriptor")) && (decide (PySem.W.slotIn K (He.ma K C f) C = some i) && decide (i < 1000)))))
theorem slot_ok {K : PySem.W.Frag} {C : Addr} {f : Str} {i : Nat} (h : slotB K C f i = true) : SlX.Slot1 K C f (He.ma K C f) i := by
  obtain ⟨h1, h⟩ := He.ba h
  obtain ⟨h2, h⟩ := He.ba h
  obtain ⟨h3, h⟩ := He.ba h
  obtain ⟨h4, h⟩ := He.ba h
  obtain ⟨h5, h6⟩ := He.ba h
  exact ⟨He.eqO_ok h1, He.eqO_ok h2, of_decide_eq_true h3, of_decide_eq_true h4, of_decide_eq_true h5, of_decide_eq_true h6⟩
def oSubI : DR2 := oI0 fun i j => .int (i - j)
def oModI : DR2 := oI (fun _ j => 0 < j) fun i j => .int (i % j)
def oDivI : DR2 := oI CDiv fun i j => .int (i / j)
def oPowI : DR2 := oI CPow fun i j => .int (i ^ j.toNat)
def oLtI : DR2 := oI0 fun i j => .bl (decide (i < j))
def oLeI : DR2 := oI0 fun i j => .bl (decide (i ≤ j))
def oGtI : DR2 := oI0 fun i j => .bl (decide (j < i))
def oGeI : DR2 := oI0 fun i j => .bl (decide (j ≤ i))
theorem units65 {k : Nat} {A : Around} (h : Room k A) : A.units + 65 < cLine := by have := h.un; omega
section
variable {M : Md} {X : Cx} {pos pos' : Pos} {x : Str} {e : Expr} {d : DE}
theorem sset (i : Nat) (hN : X.N.Nodup) (he : QE M X e d) (hi : X.N[i]? = some x := by rfl) (hx : Loc X.env.scope x := by first | exact Or.inl rfl | exact Or.inr rfl) (hs : swapsWith e (some (.Name x pos')) pos.line X.env = pure false := by rfl)
    (hf : X.fn x = true ∨ X.env.scope.names.lookup x = some .local := by first | exact .inl rfl | exact .inr rfl) : QS M X (.Assign [.Name x pos'] e pos) (dSet i d) := s_set hN hi hx he hs hf
theorem gnm (i : Nat) (hN : X.N.Nodup) (hi : X.N[i]? = some x := by rfl) (hx : Loc X.env.scope x := by first | exact Or.inl rfl | exact Or.inr rfl)
    (hf : X.fn x = true ∨ X.env.scope.names.lookup x = some .local := by first | exact .inl rfl | exact .inr rfl) : PG X (.Name x pos) (gName i) := pg_name hN hi hx hf
theorem gdnm (i : Nat) (hN : X.N.Nodup) (hi : X.N[i]? = some x := by rfl) (hx : Loc X.env.scope x := by first | exact Or.inl rfl | exact Or.inr rfl)
    (hf : X.fn x = true ∨ X.env.scope.names.lookup x = some .local := by first | exact .inl rfl | exact .inr rfl) : QG M X (.Name x pos) (gdName i) := g_name hN hi hx hf
theorem ss_never {st : List Stmt} : QSs M X st (fun _ _ _ => False) := PSs.imp pss_never fun E σ H ⟨io, S, ρ, Ed, r, re, h, _⟩ => h
theorem s_frzN {st : Stmt} (i : Nat) (h : QS M X st (dSet i d)) (hi : X.N[i]? = some x := by rfl) : QS M X st (dSet i (dFrz d)) := by
  refine ⟨fun pins s σ H E I ⟨io, S, ρ, Ed, r, re, hd, c1, c2, c3, c4⟩ => ?_⟩
  have hl : i < ρ.length := by
    rw [re.1, I.len]
    exact (List.getElem?_eq_some_iff.mp hi).1
  have at_ : ∀ v : D, (ρ.set i (some v))[i]? = some (some v) := fun v => List.getElem?_set_self hl
  let W : En → Sto → Prop := fun ρ' S1 => ∀ v, ρ'[i]? = some (some v) → ∃ l o w, v = .ref l ∧ S1 l = some o ∧ frzO o = some w ∧ Ed.nx (ρ'.set i (some w)) (S1.del l)
  have eW : (fun (v : D) (S' : Sto) => W (ρ.set i (some v)) S') = fun v S' => ∃ l o w, v = .ref l ∧ S' l = some o ∧ frzO o = some w ∧ Ed.nx (ρ.set i (some w)) (S'.del l) := by
    funext v S'
    refine propext ⟨fun h => ?_, fun ⟨l, o, w, h1, h2, h3, h4⟩ v' e => ?_⟩
    · obtain ⟨l, o, w, h1, h2, h3, h4⟩ := h v (at_ v)
      rw [List.set_set] at h4
      exact ⟨l, o, w, h1, h2, h3, h4⟩
    · rw [at_ v] at e; cases e
      exact ⟨l, o, w, h1, h2, h3, by rw [List.set_set]; exact h4⟩
  have run := h.run pins s σ H { nx := fun σ' H' => ∃ i1 S1 ρ1, Stp io H i1 H' ∧ RS M i1 H' S1 ∧ RE M.K i1 H' ρ1 σ' ∧ W ρ1 S1 ∧ ∃ v, ρ1[i]? = some (some v), rt := fun _ _ => False } I
    ⟨io, S, ρ, { nx := fun ρ' S1 => W ρ' S1 ∧ ∃ v, ρ'[i]? = some (some v), rt := fun _ _ => False }, r, re, ?_, fun i1 H1 S1 ρ1 σ1 s1 r1 re1 q => ⟨i1, S1, ρ1, s1, r1, re1, q.1, q.2⟩, fun _ _ _ _ _ _ _ _ h => h.elim, fun _ _ _ _ _ _ _ _ h => h.elim, fun _ _ _ _ _ _ _ _ h => h.elim⟩
  · refine thn run fun fl s' hs => ?_
    cases fl with
    | next =>
      obtain ⟨σ', H', I', i1, S1, ρ1, st1, r1, re1, hW, v, ev⟩ := hs
      obtain ⟨l, o, w, e0, el, hw, q⟩ := hW v ev
      subst e0
      obtain ⟨p, e1, h1⟩ := r1.ob l o el
      obtain ⟨⟨u1, a1, b1, c1', d1'⟩, _⟩ := h1.there
      have h4 : ∀ y, u1 ≠ .own y := by
        cases o with
        | lst ds => obtain ⟨_, xs, h2, _⟩ := h1; rw [a1] at h2; cases h2; simp
        | dic ks ds => obtain ⟨_, xs, h2, _⟩ := h1; rw [a1] at h2; cases h2; simp
        | _ => cases hw
      obtain ⟨ob, I2⟩ := inv_freeze I' a1 b1 c1' d1' h4
      obtain ⟨r2, s2, d2⟩ := r1.freeze (ob := ob) el e1 a1 hw
      refine ⟨σ', _, I2, c1 i1 _ _ _ σ' (st1.trans s2) r2 ?_ q⟩
      have re3 := re1.mono s2
      refine ⟨by simpa using re3.1, fun j dj ej => ?_⟩
      by_cases hj : j = i
      · subst hj
        have hl1 : j < ρ1.length := (List.getElem?_eq_some_iff.mp ev).1
        rw [List.getElem?_set_self hl1] at ej
        cases ej
        obtain ⟨y, ey, dy⟩ := re3.2 j (.ref l) ev
        obtain ⟨p', ep, ey'⟩ := dy
        rw [e1] at ep; cases ep
        exact ⟨y, ey, by rw [ey']; exact d2⟩
      · rw [List.getElem?_set_ne (Ne.symm hj)] at ej
        exact re3.2 j dj ej
    | brk => obtain ⟨_, _, _, q⟩ := hs; exact q.elim
    | cont => obtain ⟨_, _, _, q⟩ := hs; exact q.elim
    | ret u => obtain ⟨_, _, _, _, _, q⟩ := hs; exact q.elim
  · have eN : (fun (v : D) (S' : Sto) => W (ρ.set i (some v)) S' ∧ ∃ u, (ρ.set i (some v))[i]? = some (some u)) = fun v S' => ∃ l o w, v = .ref l ∧ S' l = some o ∧ frzO o = some w ∧ Ed.nx (ρ.set i (some w)) (S'.del l) := by
      rw [← eW]
      funext v S'
      exact propext ⟨fun h => h.1, fun h => ⟨h, v, at_ v⟩⟩
    show d ρ S (fun (v : D) (S' : Sto) => W (ρ.set i (some v)) S' ∧ ∃ u, (ρ.set i (some v))[i]? = some (some u))
    rw [eN]
    exact hd
end
structure GFx (fa : List He.Fa) (fn : List He.DefD) (tf : List He.Defn) (exs : PySem.W.Frag → List Bool) (w : World) (K : PySem.W.Frag) (mg : Str → Option Value) (base : Heap) : Prop where
  h : ∃ h : Heap, K.In h ∧ h.Ns mainGlobals mg
  d : He.SaysD fa fn K
  e : (exs K).all id = true
  t : ∀ p ∈ tf, GxR.TabB base mg (He.cT K p).1 (He.cT K p).2
section
variable {fa : List He.Fa} {fn : List He.DefD} {tf : List He.Defn} {exs : PySem.W.Frag → List Bool} {w : World} {K : PySem.W.Frag} {mg : Str → Option Value} {base : Heap} (G : GFx fa fn tf exs w K mg base)
include G
theorem GFx.glo (i : Nat) {x : Str} (h : fa[i]? = some (.glo x) := by rfl) : mg x = some (.ref (He.ga K x)) := let ⟨_, X, N⟩ := G.h; He.glo_ok X N (G.d.fact i h)
theorem GFx.free (i : Nat) {x : Str} (h : fa[i]? = some (.free x) := by rfl) : mg x = none := let ⟨_, X, N⟩ := G.h; He.free_ok X N (G.d.fact i h)
theorem GFx.str (i : Nat) {x z : Str} (h : fa[i]? = some (.str x z) := by rfl) : ∃ t, mg x = some (.str z t) := let ⟨_, X, N⟩ := G.h; He.str_ok X N (G.d.fact i h)
theorem GFx.int (i : Nat) {x : Str} {z : Int} (h : fa[i]? = some (.int x z) := by rfl) : ∃ t, mg x = some (.int z t) := let ⟨_, X, N⟩ := G.h; He.int_ok X N (G.d.fact i h)
theorem GFx.meth (i : Nat) {x m : Str} (h : fa[i]? = some (.meth x m) := by rfl) : Meth K (He.ga K x) m (He.ma K (He.ga K x) m) := He.meth_ok (G.d.fact i h)
theorem GFx.mkr (i : Nat) {x : Str} (h : fa[i]? = some (.mkr x) := by rfl) : Mk K (He.ga K x) (He.ma K (He.ga K x) "__init__") := He.mkr_ok (G.d.fact i h)
theorem GFx.ex (i : Nat) {b : Bool} (h : (exs K)[i]? = some b := by rfl) : b = true := List.all_eq_true.mp G.e b (List.mem_of_getElem? h)
theorem GFx.tb (i : Nat) {p : He.Defn} (h : tf[i]? = some p := by rfl) : GxR.TabB base mg (He.codeOf K p) (He.tabOf K (He.codeOf K p)) := G.t p (List.mem_of_getElem? h)
theorem GFx.def_ (i : Nat) {d : He.DefD} (h : fn[i]? = some d := by rfl) : ∃ fd, FunD K d.name d.qual d.params d.body d.scope (d.dvs K) (d.kws K) (He.fAd K d.at_) fd := G.d.def_ i h
end
end L3
end
section
set_option Elab.async false
set_option linter.all false
set_option maxRecDepth 100000
set_option maxHeartbeats 2000000
namespace L3
open PySem PySem.Spec PyProof.Rows L2
section
variable {M : Md} {X : Cx} {e tg : Expr} {es : List Expr}
def mcE (d : DE) : DE := fun ρ S Q => ∃ Q0 : DK, d ρ S Q0 ∧ ∀ v S1, Q0 v S1 → Q v S1
def mcT (d : DT) : DT := fun ρ S Q => ∃ Q0 : Bool → Sto → Prop, d ρ S Q0 ∧ ∀ v S1, Q0 v S1 → Q v S1
def mcA (d : DA) : DA := fun ρ S Q => ∃ Q0 : List D → Sto → Prop, d ρ S Q0 ∧ ∀ v S1, Q0 v S1 → Q v S1
def mcI (d : DI) : DI := fun ρ S Q => ∃ Q0 : List D → Gs → Sto → Prop, d ρ S Q0 ∧ ∀ ds gs S1, Q0 ds gs S1 → Q ds gs S1
def mcO (d : DO) : DO := fun ρ S Q => ∃ Q0 : Option Int → Sto → Prop, d ρ S Q0 ∧ ∀ v S1, Q0 v S1 → Q v S1
theorem QE.mc {d : DE} (h : QE M X e d) : QE M X e (mcE d) := PE.imp h fun σ H Q ⟨io, S, ρ, Qd, r, re, ⟨Q0, hd, k⟩, c⟩ => ⟨io, S, ρ, Q0, r, re, hd, fun i1 H1 S1 v x s1 r1 d1 q => c i1 H1 S1 v x s1 r1 d1 (k _ _ q)⟩
theorem QT.mc {d : DT} (h : QT M X e d) : QT M X e (mcT d) := PT.imp h fun σ H Q ⟨io, S, ρ, Qd, r, re, ⟨Q0, hd, k⟩, c⟩ => ⟨io, S, ρ, Q0, r, re, hd, fun i1 H1 S1 v s1 r1 q => c i1 H1 S1 v s1 r1 (k _ _ q)⟩
theorem QA.mc {d : DA} (h : QA M X es d) : QA M X es (mcA d) := PA.imp h fun σ H Q ⟨io, S, ρ, Qd, r, re, ⟨Q0, hd, k⟩, c⟩ => ⟨io, S, ρ, Q0, r, re, hd, fun i1 H1 S1 v x s1 r1 d1 q => c i1 H1 S1 v x s1 r1 d1 (k _ _ q)⟩
theorem QI.mc {d : DI} (h : QI M X tg e d) : QI M X tg e (mcI d) := PI.imp h fun σ H Q ⟨io, S, ρ, Qd, r, re, ⟨Q0, hd, k⟩, c⟩ => ⟨io, S, ρ, Q0, r, re, hd, fun i1 H1 S1 J ds gs s1 r1 d1 q => c i1 H1 S1 J ds gs s1 r1 d1 (k _ _ _ q)⟩
theorem QO.mc {o : Option Expr} {d : DO} (h : QO M X o d) : QO M X o (mcO d) := PO.imp h fun σ H Q ⟨io, S, ρ, Qd, r, re, ⟨Q0, hd, k⟩, c⟩ => ⟨io, S, ρ, Q0, r, re, hd, fun i1 H1 S1 v s1 r1 q => c i1 H1 S1 v s1 r1 (k _ _ q)⟩
theorem QTs.mc {ifs : List Expr} {d : DT} (h : QTs M X ifs d) : QTs M X ifs (mcT d) := ⟨fun pins s σ H Q I ⟨io, S, ρ, Qd, r, re, ⟨Q0, hd, k⟩, c⟩ => h.run pins s σ H Q I ⟨io, S, ρ, Q0, r, re, hd, fun i1 H1 S1 v s1 r1 q => c i1 H1 S1 v s1 r1 (k _ _ q)⟩⟩
end
abbrev fz (Q : DK) : DK := fun v S' => ∃ l o w, v = .ref l ∧ S' l = some o ∧ frzO o = some w ∧ Q w (S'.del l)
section
variable {M : Md} {X : Cx} {e : Expr} {es : List Expr} {pos : Pos}
def dLstF (t : DA) : DE := fun ρ S Q => t ρ S fun ds S1 => ds.length ≤ sizeLine ∧ Q (.lst ds) S1
theorem q_lstF {t : DA} (h : QA M X es t) : QE M X (.List es pos) (dLstF t) :=
  QE.imp (q_frz (q_lst h.mc)) fun ρ S Q hd => ⟨_, hd, fun ds S1 ⟨z, q⟩ => ⟨z, frz_lst q⟩⟩
theorem q_fzB {dr drF : DRA} {t : DA} (hF : ∀ ds S Q, drF ds S Q → dr ds S (fz Q)) (h : QE M X e (dCB dr (mcA t))) : QE M X e (dCB drF t) :=
  QE.imp (q_frz h) fun ρ S Q hd => ⟨_, hd, fun ds S1 q => hF ds S1 Q q⟩
def bListF : DRA := fun ds S Q => ∃ v es, ds = [v] ∧ seqD S v = some es ∧ Q (.lst es) S
theorem fz_list : ∀ ds S Q, bListF ds S Q → bList ds S (fz Q) := fun ds S Q ⟨v, es, h1, h2, q⟩ => ⟨v, es, h1, h2, frz_lst q⟩
def bListDF : DRA := fun ds S Q => ∃ v p, ds = [v] ∧ dicD S v = some p ∧ Q (.lst (p.1.map kD)) S
def bSortSF : DRA := fun ds S Q => ∃ (v : D) (xs : List Str), ds = [v] ∧ lstD S v = some (xs.map D.str) ∧ xs.length < 64 ∧ ∀ ys : List Str, ys.Perm xs → sortedS ys = true → Q (.lst (ys.map D.str)) S
theorem fz_sortS : ∀ ds S Q, bSortSF ds S Q → bSortS ds S (fz Q) := fun ds S Q ⟨v, xs, h1, h2, h3, q⟩ => ⟨v, xs, h1, h2, h3, fun ys l hy hs hl => frz_lst (q ys hy hs) l hl⟩
theorem q_fzO {dr drF : DR2} {da db : DE} (hF : ∀ v w S Q, drF v w S Q → dr v w S (fz Q)) (h : QE M X e (dOp dr (mcE da) (mcE db))) : QE M X e (dOp drF da db) :=
  QE.imp (q_frz h) fun ρ S Q hd => ⟨_, hd, fun v S1 h1 => ⟨_, h1, fun w S2 q => hF v w S2 Q q⟩⟩
def oAddLF : DR2 := fun v w S Q => ∃ ds es, lstR S v = some ds ∧ lstR S w = some es ∧ ds.length + es.length ≤ sizeLine ∧ Q (.lst (ds ++ es)) S
theorem fz_addL : ∀ v w S Q, oAddLF v w S Q → oAddL v w S (fz Q) := fun v w S Q ⟨ds, es, h1, h2, h3, q⟩ => ⟨ds, es, h1, h2, h3, frz_lst q⟩
def oRepLF : DR2 := fun v w S Q => ∃ ds k, lstR S v = some ds ∧ w = .int k ∧ 0 ≤ k ∧ k < 2 ^ 62 ∧ ds.length * k.toNat ≤ sizeLine ∧ Q (.lst (List.replicate k.toNat ds).flatten) S
theorem fz_repL : ∀ v w S Q, oRepLF v w S Q → oRepL v w S (fz Q) := fun v w S Q ⟨ds, k, h1, h2, h3, h4, h5, q⟩ => ⟨ds, k, h1, h2, h3, h4, h5, frz_lst q⟩
abbrev fzM (Q : DK) : DK := fun v S' => fz Q v S' ∨ Q v S'
theorem q_frzM {da : DE} (ha : QE M X e da) : QE M X e (fun ρ S Q => da ρ S (fzM Q)) := by
  refine ⟨fun pins s σ H Q I ⟨io, S, ρ, Qd, r, re, h, c⟩ => ?_⟩
  refine thn (ha.run pins s σ H (fun x H' => ∃ io' S' v, Stp io H io' H' ∧ RS M io' H' S' ∧ RD M.K io' H' v x ∧ fzM Qd v S') I
    ⟨io, S, ρ, _, r, re, h, fun i1 H1 S1 v x s1 r1 d1 q => ⟨i1, S1, v, s1, r1, d1, q⟩⟩) fun u s' ⟨x, H', I', rx, i1, S1, v, s1, r1, d1, q⟩ => ?_
  rcases q with ⟨l, o, w, ev, el, hw, q⟩ | q
  · subst ev
    obtain ⟨p, e1, h1⟩ := r1.ob l o el
    obtain ⟨p', e2, ex⟩ := d1
    rw [e1] at e2; cases e2
    obtain ⟨⟨u1, a1, b1, c1, d1'⟩, _⟩ := h1.there
    have h4 : ∀ y, u1 ≠ .own y := by
      cases o with
      | lst ds => obtain ⟨_, xs, h2, _⟩ := h1; rw [a1] at h2; cases h2; simp
      | dic ks ds => obtain ⟨_, xs, h2, _⟩ := h1; rw [a1] at h2; cases h2; simp
      | _ => cases hw
    obtain ⟨ob, I2⟩ := inv_freeze I' a1 b1 c1 d1' h4
    obtain ⟨r2, s2, d2⟩ := r1.freeze (ob := ob) el e1 a1 hw
    refine ⟨x, _, I2, rx, ?_⟩
    subst ex
    exact c i1 _ _ w _ (s1.trans s2) r2 d2 q
  · exact ⟨x, H', I', rx, c i1 H' S1 v x s1 r1 d1 q⟩
def dSlF (d : DE) (l h : DO) : DE := fun ρ S Q => d ρ S fun v S1 => l ρ S1 fun lo S2 => h ρ S2 fun hi S3 =>
  (∃ ds, lstD S3 v = some ds ∧ Q (.lst (cutD ds lo hi)) S3) ∨ ∃ ds, v = .tup ds ∧ Q (.tup (cutD ds lo hi)) S3
theorem q_sliceF {lo hi : Option Expr} {d : DE} {l h : DO} {p2 : Pos} (hM : M.K = X.K) (he : QE M X e d) (hl : QO M X lo l) (hh : QO M X hi h) : QE M X (.Subscript e (.Slice lo hi none p2) pos) (dSlF d l h) :=
  QE.imp (q_frzM (q_slice hM he.mc hl.mc hh.mc)) fun ρ S Q hd => ⟨_, hd, fun v S1 h1 => ⟨_, h1, fun o S2 h2 => ⟨_, h2, fun o2 S3 h3 => by
    rcases h3 with ⟨ds, e, q⟩ | ⟨ds, e, q⟩
    · exact .inl ⟨ds, e, fun m hm => .inl (frz_lst q m hm)⟩
    · exact .inr ⟨ds, e, .inr q⟩⟩⟩⟩
def dListVF (d : DE) : DE := fun ρ S Q => d ρ S fun v S1 => ∃ p, dicD S1 v = some p ∧ Q (.lst p.2) S1
theorem Tg.d_mono {t : Tg} {v : D} {ρ : En} {Q Q' : En → Prop} (h : t.d v ρ Q) (k : ∀ ρ1, Q ρ1 → Q' ρ1) : t.d v ρ Q' := by
  cases t with
  | one i => exact k _ h
  | many is => obtain ⟨ds, e, l, q⟩ := h; exact ⟨ds, e, l, k _ q⟩
theorem compW_mc {gs : Gs} {t : Tg} {tt : DT} {te : DE} {ρ : En} {K K' : List D → Sto → Prop} (k : ∀ a S, K a S → K' a S) : ∀ (ds acc : List D) (S : Sto), compW gs t tt te ρ K ds acc S → compW gs t (mcT tt) (mcE te) ρ K' ds acc S
  | [], acc, S, ⟨g, q⟩ => ⟨g, k _ _ q⟩
  | d :: ds, acc, S, ⟨g, z, h⟩ => ⟨g, z, fun l o hl => Tg.d_mono (h l o hl) fun ρ1 h1 => ⟨_, h1, fun b S2 h2 => by
    cases b with
    | true =>
      simp only [if_true] at h2 ⊢
      exact ⟨_, h2, fun v S3 ⟨e3, S4, s4, h4⟩ => ⟨e3, S4, s4, compW_mc k ds _ S4 h4⟩⟩
    | false =>
      simp only [Bool.false_eq_true, if_false] at h2 ⊢
      obtain ⟨e2, S4, s4, h4⟩ := h2
      exact ⟨e2, S4, s4, compW_mc k ds _ S4 h4⟩⟩⟩
def dLcF (di : DI) (t : Tg) (tt : DT) (te : DE) (vs : List Nat) : DE := fun ρ S Q => di ρ S fun ds gs S1 => compW gs t tt te (wipeD ρ vs) (fun acc S2 => Q (.lst acc) S2) ds [] S1
theorem q_fzL {di : DI} {t : Tg} {tt : DT} {te : DE} {vs : List Nat} (h : QE M X e (dLc (mcI di) t (mcT tt) (mcE te) vs)) : QE M X e (dLcF di t tt te vs) :=
  QE.imp (q_frz h) fun ρ S Q hd => ⟨_, hd, fun ds gs S1 q => compW_mc (fun a S2 h => frz_lst h) _ _ _ q⟩
theorem s_fzL {st : Stmt} {x : Str} (i : Nat) {di : DI} {t : Tg} {tt : DT} {te : DE} {vs : List Nat} (h : QS M X st (dSet i (dLc (mcI di) t (mcT tt) (mcE te) vs))) (hi : X.N[i]? = some x := by rfl) : QS M X st (dSet i (dLcF di t tt te vs)) :=
  QS.imp (s_frzN i h hi) fun E ρ S hd => ⟨_, hd, fun ds gs S1 q => compW_mc (fun a S2 h => frz_lst h) _ _ _ q⟩
def dDcF (di : DI) (t : Tg) (tt : DT) (tk tv : DE) (vs : List Nat) : DE := fun ρ S Q => di ρ S fun ds gs S1 => dicW gs t tt tk tv (wipeD ρ vs) (fun ks es S2 => Q (.dic ks es) S2) ds [] [] S1
def dLc2F (di : DI) (t : Tg) (tt : DT) (di1 : DI) (t1 : Tg) (tt1 : DT) (te : DE) (vs vs1 : List Nat) : DE := fun ρ S Q => di ρ S fun ds gs S1 =>
  comp2W gs t tt di1 t1 tt1 te vs1 (wipeD ρ vs) (fun acc S2 => Q (.lst acc) S2) ds [] S1
end
end L3
end
section
set_option Elab.async false
set_option linter.all false
set_option maxRecDepth 100000
set_option maxHeartbeats 2000000
namespace L3
open PySem PySem.Spec PyProof.Rows L2
section
variable {M : Md} {X : Cx}
theorem OpR.or {f : Value → Value → Sem Value} {r r' : R2} (h : OpR X f r) (h' : OpR X f r') : OpR X f (fun x y H Q => r x y H Q ∨ r' x y H Q) := by
  intro pins s σ H x y v u Q I rx ry q
  rcases q with q | q
  · exact h pins s σ H x y v u Q I rx ry q
  · exact h' pins s σ H x y v u Q I rx ry q
def oInF (neg : Bool) : DR2 := fun v w S Q => ∃ (x : Str) (xs : List Str), v = .str x ∧ seqD S w = some (xs.map .str) ∧ Q (.bl (if neg then !decide (x ∈ xs) else decide (x ∈ xs))) S
def oInK (neg : Bool) : DR2 := fun v w S Q => ∃ (k : Key) (p : List Key × List D), v = kD k ∧ dicD S w = some p ∧ Q (.bl (if neg then !p.1.any (fun x => decide (x = k)) else p.1.any fun x => decide (x = k))) S
def oInA : DR2 := fun v w S Q => oInD v w S Q ∨ oInF false v w S Q ∨ oInK false v w S Q
def oNotInA : DR2 := fun v w S Q => oNotInD v w S Q ∨ oInF true v w S Q ∨ oInK true v w S Q
def getKD (ks : List Key) (ds : List D) (k : Key) : Option D := ((ks.zip ds).find? fun p => decide (p.1 = k)).map (·.2)
def oIxK : DR2 := fun v w S Q => ∃ p k d, dicD S v = some p ∧ w = kD k ∧ getKD p.1 p.2 k = some d ∧ Q d S
def oIxA : DR2 := fun v w S Q => oIx v w S Q ∨ oIxK v w S Q
variable {a b : Expr} {da db : DE} {pos p2 : Pos}
def gdSubA (d di : DE) : DG := fun v ρ S Q => d ρ S fun o S1 => di ρ S1 fun i S2 => (∃ l es k j, o = .ref l ∧ i = .int k ∧ S2 l = some (.lst es) ∧ ixN es.length k = some j ∧ Q ρ (S2.set l (.lst (es.set j v)))) ∨
  ∃ l ks es k, o = .ref l ∧ i = kD k ∧ S2 l = some (.dic ks es) ∧ ks.length < sizeLine ∧ Q ρ (S2.set l (.dic (putKs ks k) (putDs ks es k v)))
def dDicE : DE := fun _ S Q => ∀ l, S l = none → Q (.ref l) (S.set l (.dic [] []))
def bSortDF : DRA := fun ds S Q => ∃ (v : D) (p : List Key × List D) (ks : List Str), ds = [v] ∧ dicD S v = some p ∧ p.1 = ks.map Sum.inr ∧ ks.length < 64 ∧ ∀ ys : List Str, ys.Perm ks → sortedS ys = true → Q (.lst (ys.map D.str)) S
def bSortD : DRA := fun ds S Q => ∃ (v : D) (p : List Key × List D) (ks : List Str), ds = [v] ∧ dicD S v = some p ∧ p.1 = ks.map Sum.inr ∧ ks.length < 64 ∧ ∀ (ys : List Str) (l : Nat), ys.Perm ks → sortedS ys = true → S l = none → Q (.ref l) (S.set l (.lst (ys.map D.str)))
def bSum : DRA := fun ds S Q => ∃ (v : D) (ns : List Int), ds = [v] ∧ lstD S v = some (ns.map .int) ∧ Q (.int ns.sum) S
def bMaxL : DRA := fun ds S Q => ∃ (v : D) (ns : List Int), ds = [v] ∧ lstD S v = some (ns.map .int) ∧ 0 < ns.length ∧ ∀ m, m ∈ ns → (∀ y, y ∈ ns → y ≤ m) → Q (.int m) S
def bMinL : DRA := fun ds S Q => ∃ (v : D) (ns : List Int), ds = [v] ∧ lstD S v = some (ns.map .int) ∧ 0 < ns.length ∧ ∀ m, m ∈ ns → (∀ y, y ∈ ns → m ≤ y) → Q (.int m) S
def dGet2 (d di dz : DE) : DE := fun ρ S Q => d ρ S fun v S1 => (∃ p, dicD S1 v = some p) ∧ di ρ S1 fun w S2 => dz ρ S2 fun z S3 => ∃ p k, dicD S3 v = some p ∧ w = kD k ∧ Q ((getKD p.1 p.2 k).getD z) S3
end
end L3
end
section
set_option Elab.async false
set_option linter.all false
set_option maxRecDepth 100000
set_option maxHeartbeats 2000000
namespace L3
open PySem PySem.Spec PyProof.Rows L2
def lnK (xs : List Str) : PyData := .tuple [.int xs.length, .tuple (xs.map .str)]
section
variable {prog : Program} {w : World} {A : Around} {E : Value → Shared → Prop} {s : Shared}
end
def tS (b : List Str) : D := .tup (b.map .str)
def lnLe : List Str → List Str → Bool := PySem.W.dataLe false lnK
def dSortK (d : DE) : DE := fun ρ S Q => d ρ S fun v S1 => ∃ bs : List (List Str), lstD S1 v = some (bs.map tS) ∧ bs.length ≤ 1000 ∧ (∀ b ∈ bs, b.length ≤ 1000) ∧ ∀ l, S1 l = none → Q (.ref l) (S1.set l (.lst ((bs.mergeSort lnLe).map tS)))
theorem alike_strs : ∀ xs ys : List Str, PySem.W.alikeAll (xs.map .str) (ys.map .str) = true
  | [], _ => by cases ‹List Str› <;> rfl
  | _ :: _, [] => rfl
  | x :: xs, y :: ys => by
    show (PySem.W.alike (.str x) (.str y) && PySem.W.alikeAll (xs.map .str) (ys.map .str)) = true
    rw [alike_strs xs ys]; rfl
section
variable {M : Md} {X : Cx} {e : Expr} {d : DE} {x : Str} {params : Arguments} {scope : Scope} {p lpos kpos pos p1 p2 p3 p4 p5 : Pos} {kk k : Nat} {c P : Addr}
end
end L3
end
section
set_option Elab.async false
set_option linter.all false
set_option maxRecDepth 100000
set_option maxHeartbeats 2000000
namespace L3
open PySem PySem.Spec PyProof.Rows L2

def SqB : Bool → PySem.W.Frag → Hp → Addr → List V → Prop
  | true => SqL
  | false => SqT
def IsB : Bool → Heap → Addr → Array Value → Prop
  | true => fun h a its => h.IsList a its
  | false => fun h a its => h.IsTuple a its
def ItB : Bool → Heap → Addr → Addr → Nat → Prop
  | true => fun h i a n => h.IsListIter i a n
  | false => fun h i a n => h.IsTupleIter i a n
def obB : Bool → Addr → Obj
  | true => fun a => { cls := .type "list_iterator", data := .fields #[.ref a, .int 0 0] }
  | false => fun a => { cls := .type "tuple_iterator", data := .fields #[.ref a, .int 0 0] }
theorem begB (b : Bool) (a : Addr) (its : Array Value) : Begins (.ref a) (obB b a) fun h => IsB b h a its := by
  cases b
  · exact begins_tuple a its
  · exact begins_list a its
theorem drwB {prog : Program} {w : World} {A : Around} (hh : A.handled = none) (b : Bool) {i a : Addr} (hne : a ≠ i) (its : Array Value) : Draws prog w A i [i, a] its.size (fun n v => its[n]? = some v) (fun n h => ItB b h i a n ∧ IsB b h a its) := by
  cases b
  · exact Draws.tuple hh i a hne its
  · exact Draws.list hh i a hne its
theorem ItB.new {b : Bool} {h : Heap} {i a : Addr} (e : h.get? i = some (obB b a)) : ItB b h i a 0 := by
  cases b <;> exact ⟨_, e, rfl, rfl⟩
theorem ItB.ob {b : Bool} {h : Heap} {i a : Addr} {n : Nat} (s : ItB b h i a n) : ∃ o vs, h.get? i = some o ∧ o.data = .fields vs := by
  cases b <;> exact let ⟨o, e, _, d⟩ := s; ⟨o, _, e, d⟩
theorem ItB.up {b : Bool} {h h' : Heap} {i a : Addr} {n : Nat} (s : ItB b h i a n) (k : ∀ o, h.get? i = some o → h'.get? i = some o) : ItB b h' i a n := by
  cases b <;> exact let ⟨o, e, r⟩ := s; ⟨o, k o e, r⟩
theorem IsB.lt {b : Bool} {h : Heap} {a : Addr} {its : Array Value} (s : IsB b h a its) : a < h.objs.size := by
  cases b <;> exact let ⟨_, e, _⟩ := s; Heap.lt_size e
section
variable {X : Cx} {pins : List (Addr × Obj)} {σ : L2.St} {H : Hp} {s : Shared}
theorem inv_sq {b : Bool} {a : Addr} {xs : List V} (I : Inv X pins σ H s) (h : SqB b X.K H a xs) : ∃ its : List Value, Vals xs its ∧ IsB b s.heap a its.toArray := by
  cases b
  · exact (I.tuple h).imp fun _ q => ⟨q.1, q.2.1⟩
  · exact (I.list h).imp fun _ q => ⟨q.1, q.2.1.isList⟩
theorem inv_sq1 {b : Bool} {a : Addr} {xs ys : List V} (I : Inv X pins σ H s) (h : SqB b X.K H a xs) (h' : SqB b X.K H a ys) : xs = ys := by
  cases b
  · exact I.tuple_inj h h'
  · exact I.list_inj h h'

variable {it : Addr} {fp fpW wr : List Addr} {n i : Nat} {Pt : Nat → Array Value → Prop} {St : Nat → Heap → Prop} {Mid : Nat → Addr → Heap → Prop}
theorem walk_turn {elts : List Expr} {kk : Nat} {pos : Pos} {Row : List V → Prop} {Q : Value → Shared → Prop} {E : Value → Shared → Prop} (W : WalksT X.prog X.w X.A it fpW wr n Pt St Mid) (I : Inv X pins σ H s) (hf : ∀ b ∈ fp, FpOk X pins H b) (hs : ∀ b ∈ fp, b < s.heap.objs.size) (sub : ∀ b ∈ wr, b ∈ fp)
    (st : St i s.heap) (hi : i < n) (row : ∀ vals, Pt i vals → ∃ ys, ys.length ≤ sizeLine ∧ Vals ys vals.toList ∧ Row ys)
    (h : ∀ T ys s2, H T = none → Row ys → Inv X pins σ (upd H T (.tup ys)) s2 → St (i + 1) s2.heap → (∀ b ∈ fp, upd H T (.tup ys) b = none) → Q (.ref T) s2) :
    wpAny (model X.prog X.w) X.A (pyNext (.ref it)) (fun r s1 => ∃ u, r = some u ∧ wpAny (model X.prog X.w) X.A (letOwnedTupleGo (.Tuple elts kk pos) (.ref it) u) (fun _ s2 => Q u s2) E s1) E s := by
  refine W.item i s _ E hi st fun T vals h1 tk hp hT isT hm k1 => ⟨_, rfl, ?_⟩
  obtain ⟨ys, hz, rv, hr⟩ := row vals hp
  have tup : ObjOk X.prog X.w (upd H T (.tup ys)) h1 T (.tup ys) := ⟨hz, vals.toList, rv, by rw [Array.toArray_toList]; exact isT⟩
  have I1 := I.turnedNew (t' := tk) k1 (fun b hb => hf b (sub b hb)) hT tup
  have off : ∀ b ∈ fp, FpOk X pins (upd H T (.tup ys)) b := fun b hb => ⟨(upd_ne (Nat.ne_of_lt (Nat.lt_of_lt_of_le (hs b hb) hT))).trans (hf b hb).1, (hf b hb).2⟩
  exact W.go elts kk pos i T _ _ E hm fun h2 st2 k2 => h T ys _ (I.hok.fresh hT) hr (I1.turnedL (t' := tk) k2 fun b hb => off b (sub b hb)) st2 fun b hb => (off b hb).1
theorem walk_end {E : Value → Shared → Prop} (W : WalksT X.prog X.w X.A it fpW wr n Pt St Mid) (I : Inv X pins σ H s) (hf : ∀ b ∈ fp, FpOk X pins H b) (sub : ∀ b ∈ wr, b ∈ fp) (st : St n s.heap) :
    wpAny (model X.prog X.w) X.A (pyNext (.ref it)) (fun r s1 => r = none ∧ Inv X pins σ H s1) E s :=
  W.done s _ E st fun h1 tk k1 => ⟨rfl, I.turnedL (t' := tk) k1 fun b hb => hf b (sub b hb)⟩
end
section
variable {X : Cx} {pins : List (Addr × Obj)} {σ : L2.St} {H : Hp} {s : Shared}
theorem src_at {b : Bool} {a : Addr} {xs : List V} {P : Nat → Prop} (I : Inv X pins σ H s) (h : SqB b X.K H a xs) (hp : P xs.length) :
    ∃ its : Array Value, IsB b s.heap a its ∧ P its.size ∧ ∀ (i : Nat) (v : Value), its[i]? = some v → ∃ y, RelV y v ∧ ∀ ys, SqB b X.K H a ys → ys[i]? = some y := by
  obtain ⟨its, rv, hb⟩ := inv_sq I h
  refine ⟨its.toArray, hb, by rw [List.size_toArray, ← rv.length]; exact hp, fun i v e => ?_⟩
  rw [List.getElem?_toArray] at e
  cases ex : xs[i]? with
  | none => rw [rv.none_of ex] at e; cases e
  | some y =>
    obtain ⟨u, eu, ru⟩ := rv.get ex
    rw [eu] at e
    cases e
    exact ⟨y, ru, fun ys hy => by rw [← inv_sq1 I h hy]; exact ex⟩
end
abbrev T2 (b1 b2 : Bool) (z TI TO i1 i2 a1 a2 : Addr) (i : Nat) (h : Heap) : Prop :=
  IsZip h z TI TO .none ∧ IsTupOf2 h TI (.ref i1) (.ref i2) ∧ (∃ x1 x2, IsTupOf2 h TO x1 x2) ∧ ItB b1 h i1 a1 i ∧ ItB b2 h i2 a2 i
abbrev T3 (b1 b2 b3 : Bool) (z TI TO i1 i2 i3 a1 a2 a3 : Addr) (i : Nat) (h : Heap) : Prop :=
  IsZip h z TI TO .none ∧ IsTupOf3 h TI (.ref i1) (.ref i2) (.ref i3) ∧ (∃ x1 x2 x3, IsTupOf3 h TO x1 x2 x3) ∧ ItB b1 h i1 a1 i ∧ ItB b2 h i2 a2 i ∧ ItB b3 h i3 a3 i
theorem T2.obj {b1 b2 : Bool} {z TI TO i1 i2 a1 a2 : Addr} {i : Nat} {h : Heap} (t : T2 b1 b2 z TI TO i1 i2 a1 a2 i h) : ∀ b ∈ [z, TI, TO, i1, i2], ∃ o, h.get? b = some o ∧ ∀ v, o.data ≠ .cell v := by
  obtain ⟨e1, e2, ⟨_, _, e3⟩, e4, e5⟩ := t
  obtain ⟨o4, v4, e4, d4⟩ := e4.ob
  obtain ⟨o5, v5, e5, d5⟩ := e5.ob
  intro b hb
  simp only [List.mem_cons, List.not_mem_nil, or_false] at hb
  rcases hb with rfl | rfl | rfl | rfl | rfl
  · exact ⟨_, e1, fun v q => by cases q⟩
  · exact ⟨_, e2, fun v q => by cases q⟩
  · exact ⟨_, e3, fun v q => by cases q⟩
  · exact ⟨_, e4, fun v q => by rw [d4] at q; cases q⟩
  · exact ⟨_, e5, fun v q => by rw [d5] at q; cases q⟩
theorem T3.obj {b1 b2 b3 : Bool} {z TI TO i1 i2 i3 a1 a2 a3 : Addr} {i : Nat} {h : Heap} (t : T3 b1 b2 b3 z TI TO i1 i2 i3 a1 a2 a3 i h) : ∀ b ∈ [z, TI, TO, i1, i2, i3], ∃ o, h.get? b = some o ∧ ∀ v, o.data ≠ .cell v := by
  obtain ⟨e1, e2, ⟨_, _, _, e3⟩, e4, e5, e6⟩ := t
  obtain ⟨o4, v4, e4, d4⟩ := e4.ob
  obtain ⟨o5, v5, e5, d5⟩ := e5.ob
  obtain ⟨o6, v6, e6, d6⟩ := e6.ob
  intro b hb
  simp only [List.mem_cons, List.not_mem_nil, or_false] at hb
  rcases hb with rfl | rfl | rfl | rfl | rfl | rfl
  · exact ⟨_, e1, fun v q => by cases q⟩
  · exact ⟨_, e2, fun v q => by cases q⟩
  · exact ⟨_, e3, fun v q => by cases q⟩
  · exact ⟨_, e4, fun v q => by rw [d4] at q; cases q⟩
  · exact ⟨_, e5, fun v q => by rw [d5] at q; cases q⟩
  · exact ⟨_, e6, fun v q => by rw [d6] at q; cases q⟩
section
variable {P : Program} {w : World} {K : PySem.W.Frag} {elts : List Expr} {kk : Nat} {pos : Pos} {b1 b2 b3 : Bool} {z TI TO i1 i2 i3 a1 a2 a3 : Addr}
end
def SrcD (M : Md) (io : Pl) (H : Hp) (p : Bool × Addr) (ds : List D) (gs : Gs) : Prop := ∀ (io2 : Pl) (H2 : Hp) (S2 : Sto), Stp io H io2 H2 → RS M io2 H2 S2 → gs.ok S2 → ∃ xs, SqB p.1 M.K H2 p.2 xs ∧ RDs M.K io2 H2 ds xs
section
variable {M : Md} {io : Pl} {H : Hp} {S : Sto}
theorem src_of (r : RS M io H S) {v : D} {x : V} {ds : List D} (h : RD M.K io H v x) (e : seqD S v = some ds) : ∃ p : Bool × Addr, x = .ref p.2 ∧ SrcD M io H p ds (gsOf v (.lst ds)) := by
  have lst : lstD S v = some ds → ∃ p : Bool × Addr, x = .ref p.2 ∧ SrcD M io H p ds (gsOf v (.lst ds)) := fun e => by
    obtain ⟨a, ex, q⟩ := lst_src r h e
    exact ⟨(true, a), ex, q⟩
  cases v with
  | tup es =>
    cases e
    obtain ⟨a, xs, ex, q⟩ := tup_src h.tup_sq
    exact ⟨(false, a), ex, fun io2 H2 _ st _ _ => ⟨xs, q io2 H2 st⟩⟩
  | lst es => exact lst e
  | kl es => exact lst e
  | kt es =>
    cases e
    obtain ⟨a, xs, ex, q⟩ := tup_src h.kt_sq
    exact ⟨(false, a), ex, fun io2 H2 _ st _ _ => ⟨xs, q io2 H2 st⟩⟩
  | ref l => exact lst e
  | _ => cases e
def AtD (i : Nat) : List (List D) → List D → Prop
  | [], es => es = []
  | ds :: dss, es => ∃ e fs, es = e :: fs ∧ ds[i]? = some e ∧ AtD i dss fs
theorem AtD.len {i : Nat} : ∀ {dss : List (List D)} {es : List D}, AtD i dss es → es.length = dss.length ∧ ∀ ds ∈ dss, i < ds.length
  | [], _, e => ⟨by cases e; rfl, fun _ h => nomatch h⟩
  | d :: dss, _, ⟨e, fs, rfl, ed, r⟩ => by
    obtain ⟨h1, h2⟩ := AtD.len r
    refine ⟨by simp [h1], fun ds hd => ?_⟩
    rcases List.mem_cons.mp hd with rfl | hd
    · exact (List.getElem?_eq_some_iff.mp ed).1
    · exact h2 ds hd
end
def rows2 (a b : List D) : List D := (a.zip b).map fun p => D.tup [p.1, p.2]
def rows3 (a b c : List D) : List D := (a.zip (b.zip c)).map fun p => D.tup [p.1, p.2.1, p.2.2]
theorem zip_some {α β : Type} {a : List α} {b : List β} {i : Nat} {p : α × β} (e : (a.zip b)[i]? = some p) : a[i]? = some p.1 ∧ b[i]? = some p.2 := List.getElem?_zip_eq_some.mp e
def iZ2 (d : DA) : DI := fun ρ S R => d ρ S fun vs S' => ∃ u v a b, vs = [u, v] ∧ seqD S' u = some a ∧ seqD S' v = some b ∧ R (rows2 a b) (gsOf u (.lst a) ++ gsOf v (.lst b)) S'
def iZ3 (d : DA) : DI := fun ρ S R => d ρ S fun vs S' => ∃ u v w a b c, vs = [u, v, w] ∧ seqD S' u = some a ∧ seqD S' v = some b ∧ seqD S' w = some c ∧ R (rows3 a b c) (gsOf u (.lst a) ++ (gsOf v (.lst b) ++ gsOf w (.lst c))) S'
theorem ne_add {a n k : Nat} (h : a < n) : a ≠ n + k := by omega
theorem gs_seq {S : Sto} {w : D} {ds : List D} (e : seqD S w = some ds) : (gsOf w (.lst ds)).ok S := fun g hg => by
  cases w with
  | ref l =>
    have eg : g = (l, .lst ds) := by simpa [gsOf] using hg
    rw [eg]
    have e : lstD S (.ref l) = some ds := e
    unfold lstD at e
    dsimp only at e
    split at e
    · rename_i o eo; cases e; exact eo
    · cases e
  | _ => exact nomatch hg
theorem Gs.ok.app {S : Sto} {g g' : Gs} (h : g.ok S) (h' : g'.ok S) : (g ++ g').ok S := fun x hx => (List.mem_append.mp hx).elim (h x) (h' x)
section
variable {M : Md} {X : Cx} {e e2 e3 : Expr} {da : DA} {p pos tpos : Pos} {elts : List Expr} {kk : Nat}
theorem SrcD.more {io : Pl} {H : Hp} {q : Bool × Addr} {ds : List D} {gs gs' : Gs} (h : SrcD M io H q ds gs) (k : ∀ g ∈ gs, g ∈ gs') : SrcD M io H q ds gs' := fun io2 H2 S2 st r g => h io2 H2 S2 st r fun x hx => g x (k x hx)
end
end L3
end
section
set_option Elab.async false
set_option linter.all false
set_option maxRecDepth 100000
set_option maxHeartbeats 2000000
namespace L3
open PySem PySem.Spec PyProof.Rows L2
section
variable {prog : Program} {w : World} {A : Around} {E : Value → Shared → Prop} {s : Shared}
end
def LL (K : PySem.W.Frag) (H : Hp) : List V → List (List V) → Prop
  | [], [] => True
  | x :: xs, ys :: yss => (∃ b, x = V.ref b ∧ SqL K H b ys) ∧ LL K H xs yss
  | _, _ => False
theorem LL.raw {X : Cx} {pins : List (Addr × Obj)} {σ : L2.St} {H : Hp} {s : Shared} (I : Inv X pins σ H s) : ∀ {xs : List V} {yss : List (List V)} {its : List Value}, LL X.K H xs yss → Vals xs its →
    ∃ xss : List (List Value), its.length = xss.length ∧ (∀ (j : Nat) (v : Value) (ws : List Value), its[j]? = some v → xss[j]? = some ws → ∃ b, v = .ref b ∧ s.heap.IsList b ws.toArray) ∧ Vals yss.flatten xss.flatten
  | [], [], _, _, .nil => ⟨[], rfl, fun j v ws e => by simp at e, .nil⟩
  | x :: xs, ys :: yss, _, ⟨⟨b, e, hb⟩, h⟩, .cons (b := u) ru rr => by
    subst e
    obtain rfl : u = Value.ref b := ru
    obtain ⟨zs, rz, pl, _⟩ := I.list hb
    obtain ⟨xss, h1, h2, h3⟩ := LL.raw I h rr
    refine ⟨zs :: xss, by simp [h1], fun j v ws e1 e2 => ?_, ?_⟩
    · cases j with
      | zero => cases e1; cases e2; exact ⟨b, rfl, pl.isList⟩
      | succ j => exact h2 j v ws e1 e2
    · rw [List.flatten_cons, List.flatten_cons]
      exact rz.append h3
  | [], _ :: _, _, h, _ => h.elim
  | _ :: _, [], _, h, _ => h.elim
def LsD (S : Sto) : List D → List (List D) → Prop
  | [], [] => True
  | e :: es, ds :: dss => lstD S e = some ds ∧ LsD S es dss
  | _, _ => False
def bSumL : DRA := fun ds S Q => ∃ (v w : D) (es : List D) (dss : List (List D)), ds = [v, w] ∧ lstD S v = some es ∧ es ≠ [] ∧ lstD S w = some [] ∧ LsD S es dss ∧ dss.flatten.length ≤ sizeLine ∧ ∀ l, S l = none → Q (.ref l) (S.set l (.lst dss.flatten))
def bSumLF : DRA := fun ds S Q => ∃ (v w : D) (es : List D) (dss : List (List D)), ds = [v, w] ∧ lstD S v = some es ∧ es ≠ [] ∧ lstD S w = some [] ∧ LsD S es dss ∧ dss.flatten.length ≤ sizeLine ∧ Q (.lst dss.flatten) S
end L3
end
section
set_option Elab.async false
set_option linter.all false
set_option maxRecDepth 100000
set_option maxHeartbeats 2000000
namespace L3
open PySem PySem.Spec PyProof.Rows L2
def dSortKF (d : DE) : DE := fun ρ S Q => d ρ S fun v S1 => ∃ bs : List (List Str), lstD S1 v = some (bs.map tS) ∧ bs.length ≤ 1000 ∧ (∀ b ∈ bs, b.length ≤ 1000) ∧ Q (.lst ((bs.mergeSort lnLe).map tS)) S1
section
variable {M : Md} {X : Cx} {e : Expr} {d : DE}
end
def tK (xs : List Str) : PyData := .tuple (xs.map .str)
def tLe : List Str → List Str → Bool := PySem.W.dataLe false tK
def bSortT : DRA := fun ds S Q => ∃ (v : D) (bs : List (List Str)), ds = [v] ∧ lstD S v = some (bs.map tS) ∧ bs.length ≤ 1000 ∧ (∀ b ∈ bs, b ≠ []) ∧ ∀ l, S l = none → Q (.ref l) (S.set l (.lst ((bs.mergeSort tLe).map tS)))
def bSortTF : DRA := fun ds S Q => ∃ (v : D) (bs : List (List Str)), ds = [v] ∧ lstD S v = some (bs.map tS) ∧ bs.length ≤ 1000 ∧ (∀ b ∈ bs, b ≠ []) ∧ Q (.lst ((bs.mergeSort tLe).map tS)) S
end L3
end
section
set_option Elab.async false
set_option linter.all false
set_option maxRecDepth 100000
set_option maxHeartbeats 2000000
namespace L3
open PySem PySem.Spec PyProof.Rows L2
def addP (t : SetTable) (x : Value) : SetTable := if t.plain = true then (if plainKind x = true then t else { t with plain := false }) else t
def addL (L : Array (Int × Value) × SetTable × Bool × Bool) (x : Value) : Array (Int × Value) × SetTable :=
  if (!L.2.2.1 && (addP L.2.1 x).tooFull) = true then ((relayAll (addP L.2.1 x) L.1 (SetTable.grown L.1.size)).1, (relayAll (addP L.2.1 x) L.1 (SetTable.grown L.1.size)).2.1) else (L.1, addP L.2.1 x)
def addT (es : Array (Int × Value)) (t : SetTable) (h : Int) (x : Value) : Array (Int × Value) × SetTable := addL (layNew t es h x) x
structure Tb (w : World) (es : Array (Int × Value)) (t : SetTable) : Prop where
  fits : t.fits es.size = true
  ris : Ris t.place.toList
  led : w.params.followText "set-order" = true ∨ t.led = true
theorem addP_place (t : SetTable) (x : Value) : (addP t x).place = t.place ∧ (addP t x).led = t.led := by
  unfold addP
  split
  · split <;> exact ⟨rfl, rfl⟩
  · exact ⟨rfl, rfl⟩
theorem addP_fits {t : SetTable} {n : Nat} {x : Value} (h : t.fits n = true) : (addP t x).fits n = true := by
  unfold addP
  split
  · split
    · exact h
    · exact SetTable.fits_plain_off h
  · exact h
theorem Tb.add {w : World} {es : Array (Int × Value)} {t : SetTable} (h : Int) (x : Value) (T : Tb w es t) : Tb w (addT es t h x).1 (addT es t h x).2 ∧ (addT es t h x).1.toList.Perm (es.toList ++ [(h, x)]) := by
  have hp := layNew_perm t es h x
  rw [Array.toList_push] at hp
  have hf := layNew_fits t es h x
  have hr := layNew_ris t es h x T.ris
  have hl := layNew_led t es h x
  unfold addT
  generalize layNew t es h x = L at hp hf hr hl ⊢
  obtain ⟨es1, t1, wd, gv⟩ := L
  obtain ⟨p1, p2⟩ := addP_place t1 x
  have lay : Tb w es1 (addP t1 x) := ⟨addP_fits hf, by rw [p1]; exact hr, T.led.imp id fun e => by rw [p2, hl]; exact e⟩
  unfold addL
  dsimp only
  generalize addP t1 x = t2 at lay ⊢
  split
  · exact ⟨⟨relayAll_fits t2 es1 _, relayAll_ris t2 es1 _, lay.led.imp id fun e => by rw [relayAll_led]; exact e⟩, (relayAll_perm t2 es1 _).trans hp⟩
  · exact ⟨lay, hp⟩
section
variable {P : Program} {w : World} {A : Around} {E : Value → Shared → Prop} {s : Shared} {K : Type} [DecidableEq K] {knd : KeyKind P w K}
theorem set_add_new {a : Addr} {o : Obj} {es : Array (Int × Value)} {ep : Nat} {t : SetTable} {k : K} {x : Value} {Q : Bool → Shared → Prop} (hkey : knd.is k x = true) (hsc : x.scannable = true) (ho : s.heap.get? a = some o) (hd : o.data = .set es ep t) (hel : ElemsOf knd es.toList)
    (hb : es.size + 1 < scanBound) (hf : t.fits es.size = true) (hno : ∀ e ∈ es.toList, knd.is k e.2 = false)
    (h : ∀ h' ep', Heap.SameBut a s.heap h' → h'.get? a = some { o with data := .set (addT es t (knd.hash k) x).1 ep' (addT es t (knd.hash k) x).2 } → Q true { s with heap := h' }) :
    wpAny (model P w) A (setAddHashed a x (knd.hash k)) Q E s := by
  have gave : ∀ (b : Bool) (s1 : Shared) (Q' : Unit → Shared → Prop), Q' () s1 → wpAny (model P w) A (match b with | true => rule "set.scan.the-table-gave-way" | false => pure ()) Q' E s1 := fun b s1 Q' q => by
    cases b
    · exact wpAny_pure q
    · exact wpAny_rule q
  have none_ : List.findIdx? (fun e => knd.is k e.2) es.toList = none := List.findIdx?_eq_none_iff.mpr hno
  have hp := layNew_perm t es (knd.hash k) x
  have hfit := layNew_fits t es (knd.hash k) x
  unfold addT at h
  unfold setAddHashed setAddHashedIn
  refine wpAny_holding (wpAny_bind (wpAny_setState_of ho hd hf ?_))
  dsimp only
  rw [byScan_of hsc (Nat.lt_of_succ_lt hb) hel]
  simp only [↓reduceIte]
  unfold setAddByScan
  refine wpAny_bind ?_
  refine wpAny_bind (wpAny_rule ?_)
  refine wpAny_bind (wpAny_setScan_of hkey ho hd hf hel ?_)
  rw [none_]
  dsimp only
  generalize layNew t es (knd.hash k) x = L at hp hfit h ⊢
  obtain ⟨es1, t1, wd, gv⟩ := L
  dsimp only at hp hfit h ⊢
  have len1 : es1.size = es.size + 1 := by
    have := hp.length_eq
    rw [Array.toList_push, List.length_append] at this
    simpa using this
  refine wpAny_bind (gave _ _ _ ?_)
  -- what is stored, and stored again where the table has become too full
  have tail : ∀ (t2 : SetTable), t2 = addP t1 x → wpAny (model P w) A (do
        storeSet a es1 t2
        if (!wd && t2.tooFull) = true then do
            (match (relayAll t2 es1 (SetTable.grown es1.size)).2.2 with | true => rule "set.scan.the-table-gave-way" | false => pure ())
            storeSet a (relayAll t2 es1 (SetTable.grown es1.size)).1 (relayAll t2 es1 (SetTable.grown es1.size)).2.1
            pure (some true)
          else pure (some true)) (fun r s' => r = some true ∧ Q true s') E s := by
    intro t2 e2
    unfold addL at h
    dsimp only at h
    rw [← e2] at h
    have fit2 : t2.fits es1.size = true := by rw [e2]; exact addP_fits hfit
    have e1 := store_at (es' := es1) (t' := t2) ho hd
    have b1 := Heap.SameBut.update s.heap a (Obj.putSet es1 t2)
    refine wpAny_bind (wpAny_storeSet_of ho hd ?_ (fits_of_scanBound (by rw [len1]; exact hb)))
    by_cases c : (!wd && t2.tooFull) = true
    · rw [if_pos c] at h ⊢
      have rp := relayAll_perm t2 es1 (SetTable.grown es1.size)
      generalize relayAll t2 es1 (SetTable.grown es1.size) = R at rp h ⊢
      obtain ⟨es2, t3, g2⟩ := R
      dsimp only at rp h ⊢
      have len2 : es2.size = es1.size := by
        have := rp.length_eq
        simpa using this
      refine wpAny_bind (gave _ _ _ ?_)
      refine wpAny_bind (wpAny_storeSet_of (s := { s with heap := s.heap.update a (Obj.putSet es1 t2) }) e1 rfl ?_ (fits_of_scanBound (by rw [len2, len1]; exact hb)))
      exact wpAny_pure ⟨rfl, h _ _ (b1.trans (Heap.SameBut.update _ a _)) (store_at (o := { o with data := .set es1 (ep + 1) t2 }) e1 rfl)⟩
    · rw [if_neg c] at h ⊢
      exact wpAny_pure ⟨rfl, h _ _ b1 e1⟩
  have fin : ∀ t2, t2 = addP t1 x → wpAny (model P w) A (do
        storeSet a es1 t2
        if (!wd && t2.tooFull) = true then do
            (match (relayAll t2 es1 (SetTable.grown es1.size)).2.2 with | true => rule "set.scan.the-table-gave-way" | false => pure ())
            storeSet a (relayAll t2 es1 (SetTable.grown es1.size)).1 (relayAll t2 es1 (SetTable.grown es1.size)).2.1
            pure (some true)
          else pure (some true)) (fun r s' => wpAny (model P w) A (match r with
        | some added => pure added
        | none => setAddHashedIn a x (knd.hash k) 99999) Q E s') E s := fun t2 e => wpAny_mono (tail t2 e) (fun r s' ⟨er, q⟩ => by subst er; exact wpAny_pure q) fun _ _ e => e
  by_cases c : t1.plain = true
  · rw [if_pos c]
    refine wpAny_bind ?_
    rw [hashByValue_scannable 8 hsc]
    refine wpAny_pure ?_
    refine fin _ ?_
    unfold addP
    rw [if_pos c]
  · rw [if_neg c]
    refine wpAny_bind (wpAny_pure ?_)
    refine fin _ ?_
    unfold addP
    rw [if_neg c]; rfl
theorem set_add_old {a : Addr} {o : Obj} {es : Array (Int × Value)} {ep : Nat} {t : SetTable} {k : K} {x : Value} {Q : Bool → Shared → Prop} (hkey : knd.is k x = true) (hsc : x.scannable = true) (ho : s.heap.get? a = some o) (hd : o.data = .set es ep t) (hel : ElemsOf knd es.toList)
    (hb : es.size + 1 < scanBound) (hf : t.fits es.size = true) (hin : ∃ e ∈ es.toList, knd.is k e.2 = true) (h : Q false s) : wpAny (model P w) A (setAddHashed a x (knd.hash k)) Q E s := by
  unfold setAddHashed setAddHashedIn
  refine wpAny_holding (wpAny_bind (wpAny_setState_of ho hd hf ?_))
  dsimp only
  rw [byScan_of hsc (Nat.lt_of_succ_lt hb) hel]
  simp only [↓reduceIte]
  unfold setAddByScan
  refine wpAny_bind ?_
  refine wpAny_bind (wpAny_rule ?_)
  refine wpAny_bind (wpAny_setScan_of hkey ho hd hf hel ?_)
  cases hr : List.findIdx? (fun e => knd.is k e.2) es.toList with
  | some j => exact wpAny_pure (wpAny_pure h)
  | none =>
    obtain ⟨e, he, q⟩ := hin
    have := List.findIdx?_eq_none_iff.mp hr e he
    rw [q] at this; cases this
end
def keyS (e : Int × Value) : Str := match e.2 with
  | .str k _ => k
  | _ => ""
def addK (ks : List Str) (k : Str) : List Str := if k ∈ ks then ks else ks ++ [k]
def TxtS (P : Program) (w : World) (h : Heap) (a : Addr) (ks : List Str) : Prop :=
  ∃ o es ep t, h.get? a = some o ∧ o.ExactSet ∧ o.data = .set es ep t ∧ ElemsOf (strKind P w) es.toList ∧ (es.toList.map keyS).Perm ks ∧ Tb w es t
section
variable {P : Program} {w : World} {A : Around} {E : Value → Shared → Prop} {s : Shared}
theorem keyS_is {es : List (Int × Value)} (h : ElemsOf (strKind P w) es) {e : Int × Value} (he : e ∈ es) (k : Str) : (strKind P w).is k e.2 = true ↔ keyS e = k := by
  obtain ⟨⟨k0, hk, _⟩, _⟩ := h e he
  obtain ⟨t, et⟩ := Value.isStrOf_shape hk
  have e0 : keyS e = k0 := by unfold keyS; rw [et]
  rw [e0]
  exact ⟨fun q => (strKind P w).inj _ _ _ hk q, fun q => by rw [← q]; exact hk⟩
theorem isStr_self (k : Str) (t : Tok) : (strKind P w).is k (.str k t) = true := by
  show Value.isStrOf k (.str k t) = true
  simp [Value.isStrOf]
theorem TxtS.at_ {h h' : Heap} {a : Addr} {ks : List Str} (x : TxtS P w h a ks) (k : ∀ o, h.get? a = some o → h'.get? a = some o) : TxtS P w h' a ks := let ⟨o, es, ep, t, ho, r⟩ := x; ⟨o, es, ep, t, k o ho, r⟩
theorem TxtS.put {a : Addr} {ks : List Str} {k : Str} {tk : Tok} {Q : Bool → Shared → Prop} (x : TxtS P w s.heap a ks) (hb : ks.length + 1 < scanBound)
    (h : ∀ b h', Heap.SameBut a s.heap h' → TxtS P w h' a (addK ks k) → Q b { s with heap := h', toks := s.toks + 1 }) : wpAny (model P w) A (setAdd a (.str k tk)) Q E s := by
  obtain ⟨o, es, ep, t, ho, hex, hd, hel, hp, T⟩ := x
  have len : es.size = ks.length := by have := hp.length_eq; simpa using this
  unfold setAdd
  refine wpAny_holding (wpAny_bind ((strKind P w).pyHash (k := k) (isStr_self k tk) ?_))
  by_cases hk : k ∈ ks
  · obtain ⟨e, he, ee⟩ := List.mem_map.mp (hp.mem_iff.mpr hk)
    refine set_add_old (s := { s with toks := s.toks + 1 }) (knd := strKind P w) (isStr_self k tk) rfl ho hd hel (by rw [len]; exact hb) T.fits ⟨e, he, (keyS_is hel he k).mpr ee⟩ ?_
    exact h false s.heap (Heap.SameBut.refl a s.heap) ⟨o, es, ep, t, ho, hex, hd, hel, by unfold addK; rw [if_pos hk]; exact hp, T⟩
  · refine set_add_new (s := { s with toks := s.toks + 1 }) (knd := strKind P w) (isStr_self k tk) rfl ho hd hel (by rw [len]; exact hb) T.fits (fun e he => ?_) fun h' ep' sb e1 => ?_
    · cases q : (strKind P w).is k e.2 with
      | false => rfl
      | true => exact absurd (hp.mem_iff.mp (List.mem_map.mpr ⟨e, he, (keyS_is hel he k).mp q⟩)) hk
    · obtain ⟨T2, p2⟩ := T.add ((strKind P w).hash k) (.str k tk)
      refine h true h' sb ⟨_, _, ep', _, e1, ⟨hex.1, hex.2.1, hex.2.2⟩, rfl, (hel.push (isStr_self k tk) rfl).perm p2, ?_, T2⟩
      unfold addK
      rw [if_neg hk]
      refine (p2.map keyS).trans ?_
      rw [List.map_append]
      exact hp.append_right _
def foldK (acc ks : List Str) : List Str := ks.foldl addK acc
theorem addK_len (ks : List Str) (k : Str) : (addK ks k).length ≤ ks.length + 1 := by
  unfold addK
  split <;> simp
theorem addK_len0 (ks : List Str) (k : Str) : ks.length ≤ (addK ks k).length := by
  unfold addK
  split <;> simp
theorem foldK_len0 : ∀ (ks acc : List Str), acc.length ≤ (foldK acc ks).length
  | [], _ => Nat.le_refl _
  | k :: ks, acc => Nat.le_trans (addK_len0 acc k) (foldK_len0 ks (addK acc k))
theorem upd_turns {h0 : Heap} {I S l : Addr} {vs : List Value} {ks : List Str} {R : Result → Shared → Prop} (hh : A.handled = none) (hI : h0.objs.size ≤ I) (hS : h0.objs.size ≤ S) (hIS : I ≠ S) (hl : h0.IsList l vs.toArray)
    (hv : Vals (ks.map V.str) vs) : ∀ (k i : Nat) (acc : List Str) (s : Shared), i + k = ks.length → (∀ b o, h0.get? b = some o → s.heap.get? b = some o) → s.heap.IsListIter I l i → TxtS P w s.heap S acc → (foldK acc (ks.drop i)).length + 1 < scanBound →
      (∀ h' tk, (∀ b o, h0.get? b = some o → h'.get? b = some o) → TxtS P w h' S (foldK acc (ks.drop i)) → R (.ok (.ret .none)) { s with heap := h', toks := tk }) →
      codeAny (model P w) A (.builtin "set.update.loop" ⟨[.ref S, .ref I], []⟩) R s := by
  have lt0 : ∀ {b : Addr} {o : Obj}, h0.get? b = some o → b ≠ I ∧ b ≠ S := fun e => ⟨Nat.ne_of_lt (Nat.lt_of_lt_of_le (Heap.lt_size e) hI), Nat.ne_of_lt (Nat.lt_of_lt_of_le (Heap.lt_size e) hS)⟩
  have hlen : ks.length = vs.length := by have := hv.length; simpa using this
  intro k
  induction k with
  | zero =>
    intro i acc s hi old it st _ hR
    obtain ⟨ol, hl0, hlr⟩ := hl
    refine codeAny_builtin PyProof.Rows.F.entry_set_update_loop ?_
    rw [Around.under_plainId PyProof.Rows.F.plain_set_update_loop _]
    show wpAny _ A.in1 (pyNext (.ref I) >>= _) _ _ s
    refine wpAny_bind (wpAny_pyNext_list_end hh it ⟨ol, old _ _ hl0, hlr⟩ (by rw [List.getElem?_toArray]; exact List.getElem?_eq_none (by omega)) fun h1 k1 => ?_)
    show wpAny _ A.in1 (ret Value.none) _ _ _
    refine wpAny_pure (hR h1 s.toks (fun b o e => k1 b o (lt0 e).1 (old b o e)) ?_)
    rw [List.drop_of_length_le (by omega)]
    exact st.at_ fun o e => k1 _ _ hIS.symm e
  | succ k ih =>
    intro i acc s hi old it st hb hR
    obtain ⟨ol, hl0, hlr⟩ := id hl
    have hlt : i < ks.length := by omega
    have hb' : (foldK (addK acc ks[i]) (ks.drop (i + 1))).length + 1 < scanBound := by rw [List.drop_eq_getElem_cons hlt] at hb; exact hb
    have hb0 : acc.length + 1 < scanBound := by have := foldK_len0 (ks.drop i) acc; omega
    obtain ⟨v, ev, tk, rv⟩ := hv.get (show (ks.map V.str)[i]? = some (V.str ks[i]) by rw [List.getElem?_map, List.getElem?_eq_getElem hlt]; rfl)
    refine codeAny_builtin PyProof.Rows.F.entry_set_update_loop ?_
    rw [Around.under_plainId PyProof.Rows.F.plain_set_update_loop _]
    show wpAny _ A.in1 (pyNext (.ref I) >>= _) _ _ s
    refine wpAny_bind (wpAny_pyNext_list_item (x := v) it ⟨ol, old _ _ hl0, hlr⟩ (by rw [List.getElem?_toArray]; exact ev) fun h1 it1 k1 => ?_)
    subst rv
    have S1 : TxtS P w h1 S acc := st.at_ fun o e => k1.extBut _ _ hIS.symm e
    show wpAny _ A.in1 (holding [Value.str ks[i] tk] (setAdd S (.str ks[i] tk)) >>= _) _ _ _
    refine wpAny_bind (wpAny_holding (S1.put (s := { s with heap := h1 }) hb0 fun b h2 sb S2 => ?_))
    refine wpAny_pure ⟨plainId_quiet PyProof.Rows.F.plain_set_update_loop _, ih (i + 1) (addK acc ks[i]) _ (by omega) (fun b o e => sb.extBut _ _ (lt0 e).2 (k1.extBut _ _ (lt0 e).1 (old b o e))) ?_ S2 hb' fun h' tk' o' t' => ?_⟩
    · obtain ⟨o, e, q⟩ := it1
      exact ⟨o, sb.extBut _ _ hIS e, q⟩
    · refine hR h' tk' o' ?_
      rw [List.drop_eq_getElem_cons hlt]
      exact t'
theorem fresh_txt {h : Heap} (w : World) : TxtS P w (h.push { cls := .type "set", dict := none, data := .set #[] 0 (.fresh 0 0 (!w.params.followText "set-order")) }) h.objs.size [] :=
  ⟨_, #[], 0, _, Heap.get?_push_size _ rfl, ⟨rfl, rfl, rfl⟩, rfl, fun e he => by simp at he, .nil, rfl, List.Pairwise.nil, by
    show _ ∨ (!w.params.followText "set-order") = true
    cases w.params.followText "set-order"
    · exact .inr rfl
    · exact .inl rfl⟩
theorem new_led (x : Value) {Q : Value → Shared → Prop} (h : Q (.ref s.heap.objs.size) { s with heap := s.heap.push { cls := .type "set", dict := none, data := .set #[] 0 (.fresh 0 0 (!w.params.followText "set-order")) } }) :
    codeAny (model P w) A (.call (.builtin "set.__new__") ⟨[.type "set", x], []⟩) (wants Q E) s := by
  refine codeAny_of_tree ?_
  show wpAny _ A.in1 (checkBuiltinCall "set.__new__" ⟨[.type "set", x], []⟩ >>= fun _ => again (.builtin "set.__new__" ⟨[.type "set", x], []⟩)) _ _ s
  refine wpAny_bind (wpAny_of_eq (PySem.F.newCall_set_1 x) (wpAny_pure ⟨plainId_quiet PySem.F.plain_set_new _, codeAny_builtin PySem.F.entry_set_new ?_⟩))
  rw [Around.under_plainId PySem.F.plain_set_new _]
  unfold Builtin.«set.__new__» Builtin.Frozenset.newClass
  have sub := sub_set_self
  obtain ⟨hp, g, d, tk, os⟩ := s
  dsimp only
  wp_walk
  refine wpAny_askSetting (wpAny_pure ?_)
  simp only [newObj]
  exact wpAny_bind (wpAny_alloc (wpAny_pure (wpAny_pure h)))
abbrev setObj (w : World) : Obj := { cls := .type "set", dict := none, data := .set #[] 0 (.fresh 0 0 (!w.params.followText "set-order")) }
theorem init_txt {l : Addr} {vs : List Value} {ks : List Str} {Q : Value → Shared → Prop} (hh : A.handled = none) (hl : s.heap.IsList l vs.toArray) (hv : Vals (ks.map V.str) vs) (hb : (foldK [] ks).length + 1 < scanBound)
    (h : ∀ h' tk, (∀ b o, s.heap.get? b = some o → h'.get? b = some o) → TxtS P w h' s.heap.objs.size (foldK [] ks) → Q .none { s with heap := h', toks := tk }) :
    wpAny (model P w) A (Builtin.«set.__init__» ⟨[.ref s.heap.objs.size, .ref l], []⟩) (fun fin s' => ∃ v, fin = .done (.ret v) ∧ Q v s') E { s with heap := s.heap.push (setObj w) } := by
  have hS : (s.heap.push (setObj w)).get? s.heap.objs.size = some (setObj w) := Heap.get?_push_size _ rfl
  have hT : Shared.TypeIs { s with heap := s.heap.push (setObj w) } (.ref s.heap.objs.size) "set" := ⟨_, hS, rfl⟩
  obtain ⟨⟨c, d, x, sl⟩, hol, rfl, n, rfl⟩ := id hl
  have hol' : (s.heap.push (setObj w)).get? l = some { cls := .type "list", dict := d, data := .seq vs.toArray n, slots := sl } := Heap.get?_push_of_some _ hol
  have f1 := PySem.F.sub_list_set
  have f2 := PySem.F.sub_list_frozenset
  have f3 : (Value.type "list" == Value.type "dict") = false := by decide
  have hl1 : (s.heap.push (setObj w)).IsList l vs.toArray := ⟨_, hol', rfl, n, rfl⟩
  unfold Builtin.«set.__init__» noKeywords Builtin.Frozenset.updateFrom
  generalize hPI : pyIter = PI
  wp_walk
  subst hPI
  refine wpAny_pyIter_list hl1 ?_
  have z1 : (s.heap.push (setObj w)).objs.size = s.heap.objs.size + 1 := Heap.size_push ..
  refine wpAny_bind (wpAny_runValue (upd_turns (h0 := s.heap) (I := (s.heap.push (setObj w)).objs.size) (S := s.heap.objs.size) (by simp [hh]) (by rw [z1]; exact Nat.le_succ _) (Nat.le_refl _) (by rw [z1]; exact Nat.ne_of_gt (Nat.lt_succ_self _)) hl hv ks.length 0 [] _ (by omega) (fun b o e => Heap.get?_push_of_some _ (Heap.get?_push_of_some _ e))
    ⟨_, Heap.get?_push_size _ rfl, rfl, rfl⟩ ((fresh_txt w).at_ fun o e => Heap.get?_push_of_some _ e) (by simpa using hb) fun h' tk k1 t1 => ?_))
  refine wpAny_pure ?_
  show wpAny _ _ (ret Value.none) _ _ _
  exact wpAny_pure ⟨_, rfl, h h' tk k1 t1⟩
theorem set_of_list {l : Addr} {vs : List Value} {ks : List Str} {Q : Value → Shared → Prop} (hh : A.handled = none) (hl : s.heap.IsList l vs.toArray) (hv : Vals (ks.map V.str) vs) (hb : (foldK [] ks).length + 1 < scanBound)
    (h : ∀ h' tk, (∀ b o, s.heap.get? b = some o → h'.get? b = some o) → TxtS P w h' s.heap.objs.size (foldK [] ks) → Q (.ref s.heap.objs.size) { s with heap := h', toks := tk }) :
    wpAny (model P w) A (call (.type "set") [.ref l]) Q E s := by
  have ft := PySem.F.called_set
  obtain ⟨c, tl, hmro⟩ := ft.mro
  have g1 := ft.made
  have g2 := ft.sub
  have g3 := ft.notType
  have g4 := ft.canCreate
  have g5 := PySem.F.typeCall_set_1 (.ref l)
  refine wpAny_call (codeAny_of_tree (show wpAny _ _ (callAny (.type "set") _) _ _ _ from wpAny_pure ⟨Code.quiet_builtin _ (by decide +kernel), codeAny_builtin PySem.F.entry_type_call ?_⟩))
  rw [Around.under_plain (weight_type_call_type "set" [.ref l] []) rfl]
  repeat (any_goals (first | assumption | wp_step))
  refine codeAny_mono (new_led (.ref l) (E := E) (Q := fun v s1 => v = .ref s.heap.objs.size ∧ s1 = { s with heap := s.heap.push (setObj w) }) ⟨rfl, rfl⟩) fun r s1 hr => ?_
  match r, hr with
  | .error e, hr => exact hr
  | .ok (.ret v), hr =>
    obtain ⟨rfl, rfl⟩ := hr
    have ty : Shared.TypeIs { s with heap := s.heap.push (setObj w) } (.ref s.heap.objs.size) "set" := ⟨_, Heap.get?_push_size _ rfl, rfl⟩
    have g6 := ft.init.lookup
    have g7 := ft.init.bind (.ref s.heap.objs.size)
    repeat (any_goals (first | assumption | wp_step))
    refine codeAny_mono (codeAny_call_builtin (R := wants (fun v s2 => v = .none ∧ Q (.ref s.heap.objs.size) s2) E) ft.init.plain PySem.F.entry_set_init (check_set_init_1 ty ?_)) fun r2 s2 hr2 => ?_
    · refine wpAny_mono (init_txt (A := _) (E := _) (by simpa using hh) hl hv hb (Q := fun v s2 => v = .none ∧ Q (.ref s.heap.objs.size) s2) fun h' tk k t => ⟨rfl, h h' tk k t⟩) (fun fin s2 hf => ?_) fun _ _ e => e
      obtain ⟨v, rfl, q⟩ := hf
      exact q
    · match r2, hr2 with
      | .error e, hr2 => exact hr2
      | .ok (.ret v), hr2 =>
        obtain ⟨rfl, q⟩ := hr2
        repeat (any_goals (first | assumption | wp_step))
      | .ok .next, hr2 => exact hr2.elim
      | .ok .brk, hr2 => exact hr2.elim
      | .ok .cont, hr2 => exact hr2.elim
  | .ok .next, hr => exact hr.elim
  | .ok .brk, hr => exact hr.elim
  | .ok .cont, hr => exact hr.elim
theorem sorted_txt {a : Addr} {ks : List Str} {Q : Value → Shared → Prop} (hh : A.handled = none) (x : TxtS P w s.heap a ks) (hb : ks.length < scanBound)
    (h : ∀ s' p (out : List Value) (c : Nat) (ys : List Str), (∀ b o, s.heap.get? b = some o → s'.heap.get? b = some o) → s'.gens = s.gens → s'.os = s.os → s.heap.objs.size ≤ p → s'.heap.get? p = some (seqObj "list" out.toArray c) → Vals (ys.map V.str) out → ys.Perm ks → sortedS ys = true → Q (.ref p) s') :
    wpAny (model P w) A (call (.builtin "sorted") [.ref a]) Q E s := by
  obtain ⟨o, es, ep, t, ho, hex, hd, hel, hp, T⟩ := x
  have len : es.size = ks.length := by have := hp.length_eq; simpa using this
  refine Calls.call_function_entry kind_sorted plain_sorted entry_sorted (args_sorted1 _) ?_
  unfold Builtin.«sorted»
  refine wpAny_bind (m := checkCount "sorted" 1 1 _) (wpAny_pure ?_)
  refine wpAny_bind (collect_set (A := A.in1) hh ⟨o, ho, hex.1, hd⟩ T.fits (by rw [len]; exact hb) T.ris T.led fun s1 vs k1 hz g1 o1 pm => ?_)
  have vl : vs.length = ks.length := by rw [pm.length_eq, List.length_map, Array.length_toList]; exact len
  have hsz : vs.length ≤ sizeLine := by rw [vl]; exact fits_of_scanBound hb
  -- the members are texts
  obtain ⟨zs, hzs, hpz⟩ : ∃ zs : List Str, StrsAre vs zs ∧ zs.Perm ks := by
    have each : ∀ l : List Value, (∀ v ∈ l, ∃ k tk, v = Value.str k tk) → ∃ zs, StrsAre l zs ∧ zs = l.map fun v => keyS (0, v) := fun l => by
      induction l with
      | nil => exact fun _ => ⟨[], .nil, rfl⟩
      | cons v l ih =>
        intro hl
        obtain ⟨k, tk, rfl⟩ := hl v List.mem_cons_self
        obtain ⟨zs, h1, h2⟩ := ih fun u hu => hl u (List.mem_cons_of_mem _ hu)
        exact ⟨k :: zs, .cons k tk h1, by rw [List.map_cons, ← h2]; rfl⟩
    obtain ⟨zs, h1, h2⟩ := each vs fun v hv => by
      obtain ⟨e, he, rfl⟩ := List.mem_map.mp (pm.mem_iff.mp hv)
      obtain ⟨⟨k, hk, _⟩, _⟩ := hel e he
      obtain ⟨tk, et⟩ := Value.isStrOf_shape hk
      exact ⟨k, tk, et⟩
    refine ⟨zs, h1, ?_⟩
    rw [h2]
    refine (pm.map fun v => keyS (0, v)).trans ?_
    rw [List.map_map]
    exact hp
  refine wpAny_bind (wpAny_newList ?_ hsz)
  have hoL : (s1.heap.push (seqObj "list" vs.toArray 0)).get? s1.heap.objs.size = some (seqObj "list" vs.toArray 0) := Heap.get?_push_size _ rfl
  refine wpAny_bind (wpAny_holding (wpAny_call_entry slot_list_sort ⟨_, hoL, rfl⟩ entry_list_sort (list_sort_treeKAny strKind_oneLt hoL hzs.keysOf (fun v1 v2 rest e => keyKind_strs (by rw [← e]; exact hzs)) hsz fun st hp2 hs2 => ⟨_, rfl, ?_⟩) (args_list_sort _)))
  obtain ⟨ys, y1, y2, y3⟩ := sorted_out_str hzs hp2 hs2
  obtain ⟨c, hc⟩ := sortedHeap_at (vs := vs) (out := (arrOf st).map (·.2)) hoL
  refine wpAny_pure ⟨_, rfl, h _ s1.heap.objs.size ((arrOf st).map (·.2)).toList c ys (fun b u e => ?_) g1 o1 hz (by rw [Array.toArray_toList]; exact hc) (vals_of_strs y1) (y2.trans hpz) y3⟩
  have q := k1 b u e
  have hlt := Heap.lt_size q
  show (sortedHeap (s1.heap.push (seqObj "list" vs.toArray 0)) s1.heap.objs.size vs _).get? b = some u
  rw [sortedHeap_old (Nat.ne_of_lt hlt) (by rw [size_push']; exact Nat.lt_succ_of_lt hlt)]
  exact Heap.get?_push_of_some _ q
end
theorem foldK_mem : ∀ (ks acc : List Str) (x : Str), x ∈ foldK acc ks ↔ x ∈ acc ∨ x ∈ ks
  | [], acc, x => by simp [foldK]
  | k :: ks, acc, x => by
    show x ∈ foldK (addK acc k) ks ↔ _
    rw [foldK_mem ks]
    unfold addK
    split
    · rename_i h
      rw [List.mem_cons]
      exact ⟨fun q => q.imp id .inr, fun q => q.elim .inl fun q => q.elim (fun e => .inl (e ▸ h)) .inr⟩
    · rw [List.mem_append, List.mem_singleton, List.mem_cons, or_assoc]
theorem foldK_nd : ∀ (ks acc : List Str), acc.Nodup → (foldK acc ks).Nodup
  | [], acc, h => h
  | k :: ks, acc, h => by
    refine foldK_nd ks _ ?_
    unfold addK
    split
    · exact h
    · rename_i hk
      exact List.nodup_append.mpr ⟨h, by simp, fun a ha b hb e => hk (by rw [List.mem_singleton.mp hb] at e; exact e ▸ ha)⟩
theorem foldK_len : ∀ (ks acc : List Str), (foldK acc ks).length ≤ acc.length + ks.length
  | [], acc => Nat.le_refl _
  | k :: ks, acc => by
    have h1 := foldK_len ks (addK acc k)
    have h2 := addK_len acc k
    show (foldK (addK acc k) ks).length ≤ _
    rw [List.length_cons]; omega
def dSortSet (d : DE) : DE := fun ρ S Q => d ρ S fun v S1 => ∃ xs : List Str, lstD S1 v = some (xs.map .str) ∧ xs.length < 1000 ∧ ∀ (ys : List Str) (l : Nat), (∀ x, x ∈ ys ↔ x ∈ xs) → ys.Nodup → sortedS ys = true → S1 l = none → Q (.ref l) (S1.set l (.lst (ys.map .str)))
def dSortSetF (d : DE) : DE := fun ρ S Q => d ρ S fun v S1 => ∃ xs : List Str, lstD S1 v = some (xs.map .str) ∧ xs.length < 1000 ∧ ∀ ys : List Str, (∀ x, x ∈ ys ↔ x ∈ xs) → ys.Nodup → sortedS ys = true → Q (.lst (ys.map .str)) S1
def dSortSetP (Pd : List Str → Prop) (d : DE) : DE := fun ρ S Q => d ρ S fun v S1 => ∃ xs : List Str, lstD S1 v = some (xs.map .str) ∧ Pd xs ∧ ∀ (ys : List Str) (l : Nat), (∀ x, x ∈ ys ↔ x ∈ xs) → ys.Nodup → sortedS ys = true → S1 l = none → Q (.ref l) (S1.set l (.lst (ys.map .str)))
def dSortSetBF (d : DE) : DE := fun ρ S Q => d ρ S fun v S1 => ∃ xs : List Str, lstD S1 v = some (xs.map .str) ∧ (xs.length < 1000000 ∧ (foldK [] xs).length < 4000) ∧ ∀ ys : List Str, (∀ x, x ∈ ys ↔ x ∈ xs) → ys.Nodup → sortedS ys = true → Q (.lst (ys.map .str)) S1
section
variable {M : Md} {X : Cx} {e : Expr} {d : DE} {p p2 pos pos2 : Pos}
theorem q_frzSet {e : Expr} {d : DE} (h : QE M X e (dSortSet (mcE d))) : QE M X e (dSortSetF d) :=
  QE.imp (q_frz h) fun ρ S Q hd => ⟨_, hd, fun v S1 ⟨xs, h1, h2, q⟩ => ⟨xs, h1, h2, fun ys l a b c hl => frz_lst (q ys a b c) l hl⟩⟩
theorem q_sortSetP {Pd : List Str → Prop} (hP : ∀ xs, Pd xs → xs.length < 1000000 ∧ (foldK [] xs).length < 4000) (hM : M.K = X.K) (hc : X.calm = true) (hg : Gl X "sorted") (hm : X.mg "sorted" = none) (hg2 : Gl X "set") (hm2 : X.mg "set" = none) (he : QE M X e d)
    (hst : starEach [.Call (.Name "set" p2) [e] [] pos2] X.env = [(false, eval (.Call (.Name "set" p2) [e] [] pos2) X.env)] := by rfl) (hst2 : starEach [e] X.env = [(false, eval e X.env)] := by rfl) :
    QE M X (.Call (.Name "sorted" p) [.Call (.Name "set" p2) [e] [] pos2] [] pos) (dSortSetP Pd d) := by
  refine ⟨fun pins s σ H Q I ⟨io, S, ρ, Qd, r, re, h, co⟩ => ?_⟩
  refine Call_ (ld_blt I hg hm PyProof.Rows.boot_sorted ?_)
  refine PyProof.Rows.callWith_builtin1 ?_ (by rw [hst]; rfl) (by rfl)
  rw [hst]
  show wpAny _ _ (spliced [(false, eval (.Call (.Name "set" p2) [e] [] pos2) X.env)]) _ _ s
  refine Calls.spliced_cons (Call_ (ld_blt I hg2 hm2 boot_set ?_))
  refine PyProof.Rows.callWith_type1 ?_ (by rw [hst2]; rfl) (by rfl)
  rw [hst2]
  show wpAny _ _ (spliced [(false, eval e X.env)]) _ _ s
  refine Calls.spliced_cons ?_
  refine thn (he.run pins s σ H (fun x H1 => ∃ io1 S1 v, Stp io H io1 H1 ∧ RS M io1 H1 S1 ∧ RD M.K io1 H1 v x ∧ ∃ xs : List Str, lstD S1 v = some (xs.map .str) ∧ Pd xs ∧ ∀ (ys : List Str) (l : Nat), (∀ x, x ∈ ys ↔ x ∈ xs) → ys.Nodup → sortedS ys = true → S1 l = none → Qd (.ref l) (S1.set l (.lst (ys.map .str)))) I
    ⟨io, S, ρ, _, r, re, h, fun i1 H1 S1 v x s1 r1 d1 q => ⟨i1, S1, v, s1, r1, d1, q⟩⟩) fun u s1 ⟨x, H1, I1, rx, i1, S1, v, st1, r1, d1, xs, e1, hP0, q⟩ => Calls.spliced_nil ?_
  obtain ⟨a, zs, rfl, sq, rr⟩ := lst_of r1 d1 e1
  have ez := rr.strs
  subst ez
  rw [hM] at sq
  obtain rfl : u = Value.ref a := rx
  obtain ⟨its, rv, pl, _⟩ := I1.list sq
  have sb : (4003 : Nat) < scanBound := by decide
  obtain ⟨hl, hz0⟩ := hP xs hP0
  refine set_of_list (I1.ok.hd hc) pl.isList rv (by omega) fun h2 tk k2 t2 => Calls.spliced_nil ?_
  refine sorted_txt (s := { s1 with heap := h2, toks := tk }) (I1.ok.hd hc) t2 (by omega) fun s3 p3 out c ys k3 g3 o3 z3 hp3 hv3 hperm hs3 => ?_
  have len3 : ys.length = (foldK [] xs).length := hperm.length_eq
  have hz3 : (ys.map V.str).length ≤ sizeLine := by rw [List.length_map, sizeLine_eq]; omega
  have k13 : ∀ b o, s1.heap.get? b = some o → s3.heap.get? b = some o := fun b o e => k3 b o (k2 b o e)
  have le13 : s1.heap.objs.size ≤ p3 := by
    have hS : s1.heap.objs.size < h2.objs.size := let ⟨_, _, _, _, ho, _⟩ := t2; Heap.lt_size ho
    exact Nat.le_trans (Nat.le_of_lt hS) z3
  have J := I1.laid (h' := s3.heap) (t' := s3.toks) k13 le13 (o := .lst (ys.map V.str)) ⟨hz3, out, c, hv3, hp3⟩
  have hn : H1 p3 = none := I1.hok.fresh le13
  refine ⟨.ref p3, upd H1 p3 (.lst (ys.map V.str)), ⟨J.ok, o3.trans J.os, by rw [g3]; exact J.bare, J.base, J.loc, J.cell, J.free, J.freeC, J.pin, J.hok, J.len⟩, rfl, ?_⟩
  refine new_lst r1 hn (by rw [List.length_map, len3, sizeLine_eq]; omega) RDs.ofStrs (co.to st1) fun l hl1 => q ys l (fun x => ?_) (hperm.nodup_iff.mpr (foldK_nd xs [] .nil)) hs3 hl1
  rw [hperm.mem_iff, foldK_mem]
  simp
theorem q_sortSet (hM : M.K = X.K) (hc : X.calm = true) (hg : Gl X "sorted") (hm : X.mg "sorted" = none) (hg2 : Gl X "set") (hm2 : X.mg "set" = none) (he : QE M X e d)
    (hst : starEach [.Call (.Name "set" p2) [e] [] pos2] X.env = [(false, eval (.Call (.Name "set" p2) [e] [] pos2) X.env)] := by rfl) (hst2 : starEach [e] X.env = [(false, eval e X.env)] := by rfl) :
    QE M X (.Call (.Name "sorted" p) [.Call (.Name "set" p2) [e] [] pos2] [] pos) (dSortSet d) :=
  q_sortSetP (Pd := fun xs => xs.length < 1000) (fun xs h => ⟨by omega, by have := foldK_len xs []; simp at this; omega⟩) hM hc hg hm hg2 hm2 he hst hst2
end
end L3
end
section
set_option Elab.async false
set_option linter.all false
set_option maxRecDepth 100000
namespace L3
open PySem PySem.Spec PyProof.Rows L2 PySem.W
section
variable {M : Md} {X : Cx} {pos : Pos}
def gdLst (n : Nat) (t : DGs) : DG := fun v ρ S Q => ∃ ds, v = .lst ds ∧ ds.length = n ∧ t ds ρ S Q
end
end L3
end
section
set_option Elab.async false
set_option linter.all false
set_option maxRecDepth 100000
set_option maxHeartbeats 2000000
namespace L3
open PySem PySem.Spec PyProof.Rows L2
section
variable {M : Md} {X : Cx} {pos : Pos}
def oNegI : DR1 := fun v S Q => ∃ i, v = .int i ∧ Q (.int (-i)) S
def dRevL (d : DE) : DE := fun ρ S Q => d ρ S fun v S1 => ∃ ds, lstD S1 v = some ds ∧ ∀ l, S1 l = none → Q (.ref l) (S1.set l (.lst ds.reverse))
def dRevLF (d : DE) : DE := fun ρ S Q => d ρ S fun v S1 => ∃ ds, lstD S1 v = some ds ∧ Q (.lst ds.reverse) S1
theorem q_revL {e : Expr} {d : DE} {k : Nat} {p1 p2 p3 : Pos} (hM : M.K = X.K) (he : QE M X e d) : QE M X (.Subscript e (.Slice none none (some (.UnaryOp .USub (.Constant (.int 1) k p1) p2)) p3) pos) (dRevL d) :=
  PE.imp (pe_revL he) fun σ H Q ⟨io, S, ρ, Qd, r, re, h, c⟩ => ⟨io, S, ρ, _, r, re, h, fun i1 H1 S1 v x s1 r1 d1 ⟨ds, e, q⟩ => by
    obtain ⟨a, xs, rfl, sq, rr⟩ := lst_of r1 d1 e
    rw [← hM]
    refine ⟨a, xs, rfl, sq, fun p hp => new_lst r1 hp ?_ rr.rev (c.to s1) q⟩
    have := r1.lenL sq
    rw [rr.len] at this
    rw [List.length_reverse]; exact this⟩
theorem q_frzRev {e : Expr} {d : DE} (h : QE M X e (dRevL (mcE d))) : QE M X e (dRevLF d) :=
  QE.imp (q_frz h) fun ρ S Q hd => ⟨_, hd, fun v S1 ⟨ds, h1, q⟩ => ⟨ds, h1, fun l hl => frz_lst q l hl⟩⟩
end
def dFrzA (d : DE) : DE := fun ρ S Q => d ρ S fun v S' => (∃ l o w, v = .ref l ∧ S' l = some o ∧ frzO o = some w ∧ Q w (S'.del l)) ∨ Q v S'
theorem q_frzA {M : Md} {X : Cx} {a : Expr} {da : DE} (ha : QE M X a da) : QE M X a (dFrzA da) := by
  refine ⟨fun pins s σ H Q I ⟨io, S, ρ, Qd, r, re, h, c⟩ => ?_⟩
  refine thn (ha.run pins s σ H (fun x H' => ∃ io' S' v, Stp io H io' H' ∧ RS M io' H' S' ∧ RD M.K io' H' v x ∧ ((∃ l o w, v = .ref l ∧ S' l = some o ∧ frzO o = some w ∧ Qd w (S'.del l)) ∨ Qd v S')) I
    ⟨io, S, ρ, _, r, re, h, fun i1 H1 S1 v x s1 r1 d1 q => ⟨i1, S1, v, s1, r1, d1, q⟩⟩) fun u s' ⟨x, H', I', rx, i1, S1, v, s1, r1, d1, q⟩ => ?_
  rcases q with ⟨l, o, w, ev, el, hw, q⟩ | q
  · subst ev
    obtain ⟨p, e1, h1⟩ := r1.ob l o el
    obtain ⟨p', e2, ex⟩ := d1
    rw [e1] at e2; cases e2
    obtain ⟨⟨u1, a1, b1, c1, d1'⟩, _⟩ := h1.there
    have h4 : ∀ y, u1 ≠ .own y := by
      cases o with
      | lst ds => obtain ⟨_, xs, h2, _⟩ := h1; rw [a1] at h2; cases h2; simp
      | dic ks ds => obtain ⟨_, xs, h2, _⟩ := h1; rw [a1] at h2; cases h2; simp
      | _ => cases hw
    obtain ⟨ob, I2⟩ := inv_freeze I' a1 b1 c1 d1' h4
    obtain ⟨r2, s2, d2⟩ := r1.freeze (ob := ob) el e1 a1 hw
    subst ex
    exact ⟨_, _, I2, rx, c i1 _ _ w _ (s1.trans s2) r2 d2 q⟩
  · exact ⟨x, _, I', rx, c i1 _ _ v _ s1 r1 d1 q⟩
section
variable {prog : Program} {w : World} {A : Around} {E : Value → Shared → Prop} {s : Shared}
theorem all_bounds (n : Nat) : sliceBounds none none none n = (0, (n : Int), 1) := by
  simp [sliceBounds]
theorem all_parts {sl : Addr} {Q : Value × Value × Value → Shared → Prop} (hs : s.heap.IsSliceOf sl .none .none .none) (h : Q (.none, .none, .none) s) : wpAny (model prog w) A (Builtin.List.listSliceParts (.ref sl)) Q E s := by
  obtain ⟨os, hos, hcs, hds⟩ := hs
  have fld : ∀ {j : Nat} {R : Value → Shared → Prop}, j < 3 → R .none s → wpAny (model prog w) A (field (.ref sl) j) R E s := fun {j R} hj hR => by
    have : j = 0 ∨ j = 1 ∨ j = 2 := by omega
    rcases this with rfl | rfl | rfl <;> exact wpAny_field hos hds (x := .none) rfl hR
  rw [listSliceParts_eq]
  refine wpAny_bind (fld (by decide) (wpAny_bind (wpAny_listPart .none ?_)))
  refine PySem.W.KFB.if_not rfl ?_
  exact wpAny_bind (fld (by decide) (wpAny_bind (wpAny_listPart .none (wpAny_bind (fld (by decide) (wpAny_bind (wpAny_listPart .none (wpAny_pure h))))))))
theorem setAll {l b sl : Addr} {its new : Array Value} {n : Nat} {Q : Unit → Shared → Prop} (e : s.heap.get? l = some { cls := .type "list", data := .seq its n }) (hb : s.heap.IsList b new) (hne : l ≠ b)
    (hs : s.heap.IsSliceOf sl .none .none .none) (hz : its.size + new.size ≤ sizeLine) (h : Q () { s with heap := s.heap.update l (Obj.mapSeq fun xs => xs.extract 0 0 ++ new ++ xs.extract its.size xs.size) }) :
    wpAny (model prog w) A (setItem (.ref l) (.ref sl) (.ref b)) Q E s := by
  have hl : s.heap.IsList l its := PySem.IsL.isList e
  have tl : Shared.TypeIs s (.ref sl) "slice" := let ⟨os, hos, hcs, _⟩ := hs; ⟨os, hos, hcs⟩
  have ns : Builtin.List.listSameRef (.ref l) (.ref b) = false := beq_eq_false_iff_ne.mpr hne
  have g1 := hl.typeIs
  have g2 := hb.typeIs
  have g3 := slice_no_index
  have g4 := notLongL hz
  unfold setItem
  refine wpAny_holding (wpAny_bind (wpAny_sequenceKey g1 (by decide) ?_))
  refine wpAny_bind (wpAny_callSpecial?_slot (name := Str.ofString "__setitem__") g1 slot_list_setitem (wpAny_call_entry slot_list_setitem g1 entry_list_setitem ?_ (args_list_setitem _ _ _)))
  have st1 : ∀ {R : Option Int → Shared → Prop}, R none s → wpAny (model prog w) A.in1 (Builtin.List.listSubscript? (.ref sl)) R E s := fun k => by
    unfold Builtin.List.listSubscript?
    exact wpAny_bind (wpAny_specialOf tl g3 (wpAny_pure k))
  have st2 : ∀ {R : Array Value → Shared → Prop} {z : String}, R new s → wpAny (model prog w) A.in1 (Builtin.List.listAllItems (.ref b) z) R E s := fun k => by
    unfold Builtin.List.listAllItems
    refine wpAny_bind (wpAny_typeOf g2 (PySem.W.KFB.if_so rfl ?_))
    unfold Builtin.List.listItems
    obtain ⟨ob, e2, _, n2, hd2⟩ := hb
    exact wpAny_bind (wpAny_seqItems e2 hd2 (wpAny_pure k))
  have st3 : ∀ {R : Array Value → Shared → Prop}, R its s → wpAny (model prog w) A.in1 (Builtin.List.listItems (.ref l)) R E s := fun k => by
    unfold Builtin.List.listItems
    exact wpAny_bind (wpAny_seqItems e rfl (wpAny_pure k))
  have st4 : ∀ {R : Int × Int × Int → Shared → Prop}, R (0, (its.size : Int), 1) s → wpAny (model prog w) A.in1 (sliceIndices .none .none .none its.size) R E s := fun k =>
    wpAny_of_eq ((sliceIndices_raw none none none its.size (by simp)).trans (congrArg pure (all_bounds its.size))) k
  have mx : (max (0 : Int) (its.size : Int)).toNat = its.size := by omega
  unfold Builtin.«list.__setitem__»
  refine wpAny_bind (wpAny_of_eq (a := (Value.ref l, [Value.ref sl, Value.ref b])) rfl ?_)
  refine wpAny_bind (st1 ?_)
  refine wpAny_bind (wpAny_typeOf tl (PySem.W.KFB.if_not rfl ?_))
  refine wpAny_bind (all_parts hs (PySem.W.KFB.if_not ns ?_))
  refine wpAny_bind (st2 ?_)
  refine wpAny_bind (st3 ?_)
  refine wpAny_bind (st4 (PySem.W.KFB.if_so rfl ?_))
  refine wpAny_bind (wpAny_rule (PySem.W.KFB.if_not g4 ?_))
  rw [mx]
  refine wpAny_bind (wpAny_updateSeq (hz := Nat.le_trans (Nat.le_add_right _ _) hz) (_hz' := ?_) e rfl (wpAny_bind (wpAny_letGo (wpAny_bind (wpAny_pure (wpAny_pure ⟨_, rfl, wpAny_pure h⟩))))))
  simp only [Array.size_append, Array.size_extract]
  omega
end
def gdAll (d : DE) : DG := fun v ρ S Q => d ρ S fun o S2 => ∃ l m es ds, o = .ref l ∧ S2 l = some (.lst es) ∧ ((v = .ref m ∧ m ≠ l ∧ S2 m = some (.lst ds)) ∨ v = .lst ds) ∧ es.length + ds.length ≤ sizeLine ∧ Q ρ (S2.set l (.lst ds))
section
variable {M : Md} {X : Cx} {pos : Pos}
theorem g_all {o : Expr} {d : DE} {p2 : Pos} (hM : M.K = X.K) (ho : QE M X o d)
    (ha : ∀ v, assign (.Subscript o (.Slice none none none p2) pos) X.env v = (do
      let ov ← holding [v] (eval o X.env)
      let iv ← holding [v, ov] (eval (.Slice none none none p2) X.env)
      standAt pos
      holding [v, ov, iv] (setItem ov iv v)
      release [iv, v, ov] []) := by intro _; rfl) : QG M X (.Subscript o (.Slice none none none p2) pos) (gdAll d) := by
  refine ⟨fun pins s σ H y u Q I ru ⟨io, S, ρ, w, Qd, rs, re, dw, h, cc⟩ => ?_⟩
  rw [ha]
  refine wpAny_bind (wpAny_holding (thn (ho.run pins s σ H (fun z H1 => ∃ i1 S1 o, Stp io H i1 H1 ∧ RS M i1 H1 S1 ∧ RD M.K i1 H1 o z ∧ ∃ l m es ds, o = .ref l ∧ S1 l = some (.lst es) ∧ ((w = .ref m ∧ m ≠ l ∧ S1 m = some (.lst ds)) ∨ w = .lst ds) ∧ es.length + ds.length ≤ sizeLine ∧ Qd ρ (S1.set l (.lst ds))) I
    ⟨io, S, ρ, _, rs, re, h, fun i1 H1 S1 v x s1 r1 d1 q => ⟨i1, S1, v, s1, r1, d1, q⟩⟩) fun ov s1 ⟨z, H1, I1, r1, i1, S1, o', s1', rs1, d1, l, m, es, ds, e1, e2, e3, hz, q⟩ => ?_))
  subst e1
  obtain ⟨a, xs, rfl, at_, hx, rr⟩ := rs1.lst e2 d1
  obtain ⟨b, ys, rfl, sb, hab, rb⟩ : ∃ b ys, y = .ref b ∧ SqL M.K H1 b ys ∧ a ≠ b ∧ RDs M.K i1 H1 ds ys := by
    have dw1 := dw.mono s1'
    rcases e3 with ⟨rfl, hml, e3⟩ | rfl
    · obtain ⟨b, ys, ey, bt, hb, rb⟩ := rs1.lst e3 dw1
      exact ⟨b, ys, ey, .inl (.inl hb), (rs1.sep l m _ _ _ _ e2 e3 (Ne.symm hml) at_ bt).1, rb⟩
    · obtain ⟨b, ys, ey, fz, rb⟩ := dw1
      refine ⟨b, ys, ey, fz.sq, fun e => ?_, rb⟩
      obtain ⟨o, fz⟩ := fz
      rw [e, fz] at hx; cases hx
  rw [hM] at sb
  obtain rfl : u = Value.ref b := ru
  obtain rfl : ov = Value.ref a := r1
  have hxl : xs.length = es.length := rr.len
  have hyl : ys.length = ds.length := rb.len
  refine wpAny_bind (wpAny_holding (wpAny_Slice (wpAny_pure (wpAny_pure (wpAny_pure ?_)))))
  refine wpAny_bind (wpAny_standAt ?_)
  have I5 : Inv X pins σ H1 { s1 with heap := s1.heap.push { cls := .type "slice", data := .fields #[.none, .none, .none] } } := I1.kept (t' := s1.toks) fun c oc q => Heap.get?_push_of_some _ q
  obtain ⟨z1, its, n, rv, hl, ea⟩ := I5.lstM hx
  obtain ⟨its2, rv2, pl2, z2⟩ := I5.list sb
  have l2 := rv2.length
  refine wpAny_bind (wpAny_holding (setAll ea pl2.isList hab (Heap.IsSliceOf.new _ _ _ _) (by rw [List.size_toArray, List.size_toArray]; omega) ?_))
  obtain ⟨r3, s3⟩ := put_lst rs1 e2 at_ (by omega) rb
  have I6 := I5.lset (its' := its2) (t' := s1.toks) (f := fun xs => xs.extract 0 0 ++ its2.toArray ++ xs.extract its.toArray.size xs.size) hx ea (by simp) rv2 (by omega)
  exact wpAny_release ⟨σ, _, I6, cc i1 _ _ ρ σ (s1'.trans s3) r3 (re.mono (s1'.trans s3)) q⟩
end
end L3
end
section
set_option Elab.async false
set_option linter.all false
set_option maxRecDepth 100000
set_option maxHeartbeats 2000000
namespace L3
open PySem PySem.Spec PyProof.Rows L2
def Keeps (σ τ : L2.St) : Prop := τ.length = σ.length ∧ ∀ (j : Nat) v, σ[j]? = some (some v) → τ[j]? = some (some v)
theorem Keeps.refl (σ : L2.St) : Keeps σ σ := ⟨rfl, fun _ _ e => e⟩
theorem Keeps.trans {a b c : L2.St} (h : Keeps a b) (k : Keeps b c) : Keeps a c := ⟨k.1.trans h.1, fun j v e => k.2 j v (h.2 j v e)⟩
section
variable {P : Program} {w : World} {A : Around} {kx vx t0 i0 t1 i1 : Expr} {ifs0 ifs1 : List Expr} {scope : Scope} {pos : Pos} {D : Addr} {env : Env} {it : Value}
end
section
variable {X : Cx} {kx vx tg iter tg1 iter1 : Expr} {ifs ifs1 : List Expr} {scope : Scope} {own : List (Str × Nat)} {vs1 : List Nat} {pos : Pos} {wi wi1 : TI} {g g1 : TG} {tt tt1 : TT} {tk tv : TE}
end
end L3
end
section
set_option Elab.async false
set_option linter.all false
set_option maxRecDepth 100000
set_option maxHeartbeats 2000000
namespace L3
open PySem PySem.Spec PyProof.Rows L2
def dic2W (gs : Gs) (t : Tg) (tt : DT) (di1 : DI) (t1 : Tg) (tt1 : DT) (tk tv : DE) (vs1 : List Nat) (ρ : En) (Q : List Key → List D → Sto → Prop) : List D → List Key → List D → Sto → Prop
  | [], ks, es, S => gs.ok S ∧ Q ks es S
  | d :: ds, ks, es, S => gs.ok S ∧ ∀ l o, S l = none → t.d d ρ fun ρ1 => tt ρ1 (S.set l o) fun b S2 =>
      if b = true then di1 ρ1 S2 fun ds1 gs1 S3 => S3 l = some o ∧ ∃ S4, S4.sub (S3.del l) ∧ dicW gs1 t1 tt1 tk tv (wipeD ρ1 vs1) (fun ks' es' S5 => ∃ S6, S6.sub S5 ∧ dic2W gs t tt di1 t1 tt1 tk tv vs1 ρ Q ds ks' es' S6) ds1 ks es S4
      else S2 l = some o ∧ ∃ S4, S4.sub (S2.del l) ∧ dic2W gs t tt di1 t1 tt1 tk tv vs1 ρ Q ds ks es S4
def dDc2 (di : DI) (t : Tg) (tt : DT) (di1 : DI) (t1 : Tg) (tt1 : DT) (tk tv : DE) (vs vs1 : List Nat) : DE := fun ρ S Q => di ρ S fun ds gs S1 =>
  dic2W gs t tt di1 t1 tt1 tk tv vs1 (wipeD ρ vs) (fun ks es S2 => ∀ l, S2 l = none → Q (.ref l) (S2.set l (.dic ks es))) ds [] [] S1
section
variable {M : Md} {di di1 : DI} {t t1 : Tg} {tt tt1 : DT} {tk tv : DE} {vs vs1 : List Nat} {K : PySem.W.Frag}
end
section
variable {M : Md} {X : Cx} {kx vx tg iter tg1 iter1 : Expr} {ifs ifs1 : List Expr} {scope : Scope} {own : List (Str × Nat)} {vs1 : List Nat} {pos : Pos} {di di1 : DI} {t t1 : Tg} {tt tt1 : DT} {tk tv : DE}
end
end L3
end
section
set_option Elab.async false
set_option linter.all false
set_option maxRecDepth 100000
set_option maxHeartbeats 2000000
namespace L3
open PySem PySem.Spec PyProof.Rows L2
section
variable {M : Md} {X : Cx} {pos : Pos}
def dWkA (d : DE) : DE := fun ρ S Q => d ρ S Q
theorem q_wkA {e : Expr} {d : DE} (h : QE M X e d) : QE M X e (dWkA d) := h
theorem lay_kt {pins : List (Addr × Obj)} {σ : L2.St} {H : Hp} {h : Heap} {s : Shared} {io : Pl} {S : Sto} {ds : List D} {xs : List V} {us : List Value} {Qd : DK} {Q : VK} (I : Inv X pins σ H { s with heap := h }) (rv : Vals xs us) (r : RS M io H S) (d : RDs M.K io H ds xs) (z : ds.length ≤ sizeLine)
    (c : Co M io H Qd Q) (q : Qd (.kt ds) S) : EP X pins σ Q (.ref h.objs.size) { s with heap := h.push { cls := .type "tuple", data := .seq us.toArray } } := by
  have hn : H h.objs.size = none := I.hok.fresh (Nat.le_refl _)
  have zl : xs.length ≤ sizeLine := by rw [d.len]; exact z
  have I2 : Inv X pins σ (upd H h.objs.size (.frz { cls := .type "tuple", data := .seq us.toArray } (.tup xs))) { s with heap := h.push { cls := .type "tuple", data := .seq us.toArray } } :=
    I.laid (t' := s.toks) (fun b o e => Heap.get?_push_of_some _ e) (Nat.le_refl _) ⟨Heap.get?_push_size _ rfl, zl, us, rv, ⟨_, Heap.get?_push_size _ rfl, rfl, _, rfl⟩⟩
  obtain ⟨r2, s2⟩ := r.keepNew (u := .frz { cls := .type "tuple", data := .seq us.toArray } (.tup xs)) hn zl
  exact ⟨.ref h.objs.size, _, I2, rfl, c io _ S (.kt ds) _ s2 r2 ⟨_, _, xs, rfl, upd_same, rfl, d.mono s2⟩ q⟩
theorem lay_tt {pins : List (Addr × Obj)} {σ : L2.St} {H : Hp} {h : Heap} {s : Shared} {io : Pl} {S : Sto} {ds : List D} {xs : List V} {us : List Value} {Qd : DK} {Q : VK} (I : Inv X pins σ H { s with heap := h }) (rv : Vals xs us) (r : RS M io H S) (d : RDs M.K io H ds xs) (z : ds.length ≤ sizeLine)
    (c : Co M io H Qd Q) (q : Qd (.tup ds) S) : EP X pins σ Q (.ref h.objs.size) { s with heap := h.push { cls := .type "tuple", data := .seq us.toArray } } := by
  have hn : H h.objs.size = none := I.hok.fresh (Nat.le_refl _)
  have zl : xs.length ≤ sizeLine := by rw [d.len]; exact z
  have I2 : Inv X pins σ (upd H h.objs.size (.tup xs)) { s with heap := h.push { cls := .type "tuple", data := .seq us.toArray } } :=
    I.laid (t' := s.toks) (fun b o e => Heap.get?_push_of_some _ e) (Nat.le_refl _) ⟨zl, us, rv, IsTup.new _ _⟩
  exact ⟨.ref h.objs.size, _, I2, rfl, new_tup r hn z d c q⟩
def dTupK (t : DA) : DE := fun ρ S Q => t ρ S fun ds S1 => ds.length ≤ sizeLine ∧ Q (.kt ds) S1
theorem q_tupK {es : List Expr} {k} {t : DA} (h : QA M X es t) : QE M X (.Tuple es k pos) (dTupK t) := by
  refine ⟨fun pins s σ H Q I ⟨io, S, ρ, Qd, r, re, hd, c⟩ => ?_⟩
  refine wpAny_Tuple_spliced (thn (h.run pos pins s σ H (fun xs H1 => ∃ i1 S1 ds, Stp io H i1 H1 ∧ RS M i1 H1 S1 ∧ RDs M.K i1 H1 ds xs ∧ ds.length ≤ sizeLine ∧ Qd (.kt ds) S1) I
    ⟨io, S, ρ, _, r, re, hd, fun i1 H1 S1 ds xs s1 r1 d1 ⟨z, q⟩ => ⟨i1, S1, ds, s1, r1, d1, z, q⟩⟩) fun us s1 ⟨xs, H1, I1, rv, i1, S1, ds, st, r1, d1, z, q⟩ => ⟨by rw [← rv.length, d1.len]; exact z, ?_⟩)
  exact lay_kt (h := s1.heap) (s := s1) I1 rv r1 d1 z (c.to st) q
def dTupL (d : DE) : DE := fun ρ S Q => d ρ S fun v S1 => ∃ es, lstD S1 v = some es ∧ (Q (.tup es) S1 ∨ Q (.kt es) S1)
theorem q_tupL {e : Expr} {d : DE} {x : Str} {p : Pos} (hM : M.K = X.K) (hg : Gl X "tuple") (hm : X.mg "tuple" = none) (he : QE M X e d)
    (hst : starEach [e] X.env = [(false, eval e X.env)] := by rfl) : QE M X (.Call (.Name "tuple" p) [e] [] pos) (dTupL d) := by
  refine ⟨fun pins s σ H Q I ⟨io, S, ρ, Qd, r, re, h, c⟩ => ?_⟩
  refine Call_ (ld_blt (u := .type "tuple") I hg hm (by decide +kernel) (PyProof.Rows.callWith_type1 ?_ hst rfl))
  rw [hst]
  show wpAny _ _ (spliced [(false, eval e X.env)]) _ _ s
  refine Calls.spliced_cons (thn (he.run pins s σ H (fun x H1 => ∃ i1 S1 v, Stp io H i1 H1 ∧ RS M i1 H1 S1 ∧ RD M.K i1 H1 v x ∧ ∃ es, lstD S1 v = some es ∧ (Qd (.tup es) S1 ∨ Qd (.kt es) S1)) I
    ⟨io, S, ρ, _, r, re, h, fun i1 H1 S1 v x s1 r1 d1 q => ⟨i1, S1, v, s1, r1, d1, q⟩⟩) fun u s1 ⟨x, H1, I1, rx, i1, S1, v, st, r1, d1, es, e1, q⟩ => Calls.spliced_nil ?_)
  obtain ⟨a, xs, rfl, sq, rr⟩ := lst_of r1 d1 e1
  have z := r1.lenL sq
  rw [rr.len] at z
  rw [hM] at sq
  obtain rfl : u = Value.ref a := rx
  obtain ⟨its, rv, pl, hz⟩ := I1.list sq
  refine PySem.call_tuple_list pl.isList (fun h' kp => ?_) (by rw [List.size_toArray, ← rv.length]; exact hz)
  have I2 : Inv X pins σ H1 { s1 with heap := h' } := I1.kept (t' := s1.toks) kp
  rcases q with q | q
  · exact lay_tt (h := h') (s := s1) I2 rv r1 rr z (c.to st) q
  · exact lay_kt (h := h') (s := s1) I2 rv r1 rr z (c.to st) q
end
section
variable {M : Md} {X : Cx} {o e : Expr} {d de : DE} {apos cpos : Pos}
def dTupIx (d de : DE) : DE := fun ρ S Q => d ρ S fun v S1 => ∃ ys : List Str, v = .kt (ys.map .str) ∧ de ρ S1 fun w S2 => ∃ z j, w = .str z ∧ ys[j]? = some z ∧ (∀ m, m < j → ys[m]? ≠ some z) ∧ Q (.int (j : Nat)) S2
end
section
variable {M : Md} {X : Cx} {pos : Pos}
def mergeKD (ps : List (Key × D)) : List Key × List D := ps.foldl (fun acc p => (putKs acc.1 p.1, putDs acc.1 acc.2 p.1 p.2)) ([], [])
def dDictP (d : DE) : DE := fun ρ S Q => d ρ S fun v S1 => ∃ ps : List (Key × D), v = .kt (ps.map fun p => .tup [kD p.1, p.2]) ∧ ps.length ≤ sizeLine ∧ ∀ l, S1 l = none → Q (.ref l) (S1.set l (.dic (mergeKD ps).1 (mergeKD ps).2))
end
end L3
end
section
set_option Elab.async false
set_option linter.all false
set_option maxRecDepth 100000
set_option maxHeartbeats 2000000
namespace L3
open PySem PySem.Spec PyProof.Rows L2
section
variable {P : Program} {w : World} {A : Around} {E : Value → Shared → Prop} {s : Shared} {K : Type} [DecidableEq K] {knd : KeyKind P w K}
end
section
variable {P : Program} {w : World} {A : Around} {E : Value → Shared → Prop} {s : Shared}
end
def dSortSetT (d : DE) : DE := fun ρ S Q => d ρ S fun v S1 => ∃ xs : List Str, v = .tup (xs.map .str) ∧ xs.length < 1000 ∧ ∀ (ys : List Str) (l : Nat), (∀ x, x ∈ ys ↔ x ∈ xs) → ys.Nodup → sortedS ys = true → S1 l = none → Q (.ref l) (S1.set l (.lst (ys.map .str)))
def dSortSetTF (d : DE) : DE := fun ρ S Q => d ρ S fun v S1 => ∃ xs : List Str, v = .tup (xs.map .str) ∧ xs.length < 1000 ∧ ∀ ys : List Str, (∀ x, x ∈ ys ↔ x ∈ xs) → ys.Nodup → sortedS ys = true → Q (.lst (ys.map .str)) S1
section
variable {M : Md} {X : Cx} {e : Expr} {d : DE} {p p2 pos pos2 : Pos}
end
end L3
end
section
set_option Elab.async false
set_option linter.all false
set_option maxRecDepth 100000
set_option maxHeartbeats 1000000
namespace L3
open PySem PySem.Spec PyProof.Rows L2
def oAddTK : DR2 := fun v w S Q => ∃ ds es, v = .kt ds ∧ w = .tup es ∧ ds ≠ [] ∧ ds.length + es.length ≤ sizeLine ∧ Q (.kt (ds ++ es)) S
end L3
end
section
set_option Elab.async false
set_option linter.all false
set_option maxRecDepth 100000
set_option maxHeartbeats 1000000
namespace HT
open PySem PySem.Spec PyProof.Rows
section
variable {prog : Program} {w : World} {A : Around} {E : Value → Shared → Prop} {s : Shared}
end
end HT
namespace L3
open PySem PySem.Spec PyProof.Rows L2
def dRevT (d : DE) : DE := fun ρ S Q => d ρ S fun v S1 => ∃ ds, v = .tup ds ∧ ds.length ≤ sizeLine ∧ Q (.tup ds.reverse) S1
end L3
end
section
set_option Elab.async false
set_option linter.all false
set_option maxRecDepth 100000
set_option maxHeartbeats 1000000
namespace L3
open PySem PySem.Spec PyProof.Rows L2
def dPar3 (i j k : Nat) (t : DA) : DS := fun E ρ S => t ρ S fun ds S1 => ∃ u v w, ds = [u, v, w] ∧ E.nx (((ρ.set i (some u)).set j (some v)).set k (some w)) S1
end L3
end
section
set_option Elab.async false
set_option linter.all false
set_option maxRecDepth 100000
set_option maxHeartbeats 1000000
namespace L3
open PySem PySem.Spec PyProof.Rows L2
def putZ {α : Type} (f : Str) (v : α) : List (Str × α) → List (Str × α)
  | [] => [(f, v)]
  | (g, x) :: r => if g = f then (g, v) :: r else (g, x) :: putZ f v r
def putFs {α : Type} (f : Str) (v : α) (fs : List Str) (ds : List α) : List Str := (putZ f v (fs.zip ds)).map (·.1)
def putFd {α : Type} (f : Str) (v : α) (fs : List Str) (ds : List α) : List α := (putZ f v (fs.zip ds)).map (·.2)
def dFld (C : Addr) (f : Str) (d : DE) : DE := fun ρ S Q => d ρ S fun v S1 => ∃ l fs vs w, v = .ref l ∧ S1 l = some (.ins C fs vs) ∧ (fs.zip vs).lookup f = some w ∧ Q w S1
def dSetFld (C : Addr) (f : Str) (d v : DE) : DS := fun E ρ S => v ρ S fun w S1 => d ρ S1 fun o S2 => ∃ l fs vs, o = .ref l ∧ S2 l = some (.ins C fs vs) ∧ fs.length < 900 ∧ E.nx ρ (S2.set l (.ins C (putFs f w fs vs) (putFd f w fs vs)))
def dAddFld (C : Addr) (f : Str) (d v : DE) : DS := fun E ρ S => d ρ S fun o S1 => ∃ l fs vs i, o = .ref l ∧ S1 l = some (.ins C fs vs) ∧ (fs.zip vs).lookup f = some (.int i) ∧
  v ρ S1 fun w S2 => ∃ j fs' vs', w = .int j ∧ S2 l = some (.ins C fs' vs') ∧ fs'.length < 900 ∧ E.nx ρ (S2.set l (.ins C (putFs f (.int (i + j)) fs' vs') (putFd f (.int (i + j)) fs' vs')))
section
variable {M : Md} {X : Cx} {CX : CXT} {k : Nat} {g C : Addr} {params : Arguments} {ps : List Str} {sp : DSp} {Ed : DXK} {E : XK} {f m : Str} {pos apos pos' tpos : Pos} {o value : Expr} {d dv : DE}
def gdFld (C : Addr) (f : Str) (d : DE) : DG := fun w ρ S Q => d ρ S fun o S2 => ∃ l fs vs, o = .ref l ∧ S2 l = some (.ins C fs vs) ∧ fs.length < 900 ∧ Q ρ (S2.set l (.ins C (putFs f w fs vs) (putFd f w fs vs)))
end
section
variable {fa : List He.Fa} {fn : List He.DefD} {tf : List He.Defn} {exs : PySem.W.Frag → List Bool} {w : World} {K : PySem.W.Frag} {mg : Str → Option Value} {base : Heap} (G : GFx fa fn tf exs w K mg base)
include G
theorem GFx.cls (i : Nat) {x : Str} (h : fa[i]? = some (.cls x) := by rfl) : Cls K (He.ga K x) := He.cls_ok (G.d.fact i h)
end
end L3
end
section
set_option Elab.async false
set_option linter.all false
set_option maxRecDepth 100000
set_option maxHeartbeats 1000000
namespace L3
open PySem PySem.Spec PyProof.Rows L2
abbrev DP := D × PyData
def dpLe : DP → DP → Bool := PySem.W.dataLe false fun p : DP => p.2
def bSortG : DRA := fun ds S Q => ∃ (v : D) (bs : List DP), ds = [v] ∧ lstD S v = some (bs.map (·.1)) ∧ bs.length ≤ 1000 ∧
  (∀ b ∈ bs, pyR S b.1 = some b.2 ∧ b.2.depth ≤ 8 ∧ ∃ x r, b.2 = .tuple (x :: r)) ∧ (∀ a ∈ bs, ∀ b ∈ bs, PySem.W.alike a.2 b.2 = true) ∧ ∀ l, S l = none → Q (.ref l) (S.set l (.lst ((bs.mergeSort dpLe).map (·.1))))
def bSortGF : DRA := fun ds S Q => ∃ (v : D) (bs : List DP), ds = [v] ∧ lstD S v = some (bs.map (·.1)) ∧ bs.length ≤ 1000 ∧
  (∀ b ∈ bs, pyR S b.1 = some b.2 ∧ b.2.depth ≤ 8 ∧ ∃ x r, b.2 = .tuple (x :: r)) ∧ (∀ a ∈ bs, ∀ b ∈ bs, PySem.W.alike a.2 b.2 = true) ∧ Q (.lst ((bs.mergeSort dpLe).map (·.1))) S
end L3
end
section
set_option Elab.async false
set_option linter.all false
set_option maxRecDepth 100000
set_option maxHeartbeats 1000000
namespace L3
open PySem PySem.Spec PyProof.Rows L2
def dSlK (d : DE) (l h : DO) : DE := fun ρ S Q => d ρ S fun v S1 => l ρ S1 fun lo S2 => h ρ S2 fun hi S3 => ∃ ds, v = .kt ds ∧ (cutD ds lo hi).length < ds.length ∧ Q (.tup (cutD ds lo hi)) S3
theorem q_slK {M : Md} {X : Cx} {e : Expr} {lo hi : Option Expr} {d : DE} {l h : DO} {pos p2 : Pos} (hM : M.K = X.K) (he : QE M X e d) (hl : QO M X lo l) (hh : QO M X hi h) : QE M X (.Subscript e (.Slice lo hi none p2) pos) (dSlK d l h) :=
  PE.imp (pe_slice (sl_list.or sl_tupA) he hl hh) fun σ H Q ⟨io, S, ρ, Qd, r, re, hh, c⟩ => ⟨io, S, ρ, _, r, re, hh, fun i1 H1 S1 v x s1 r1 d1 h1 => ⟨i1, S1, ρ, _, r1, re.mono s1, h1, fun i2 H2 S2 lo s2 r2 h2 => ⟨i2, S2, ρ, _, r2, re.mono (s1.trans s2), h2,
    fun i3 H3 S3 hi s3 r3 ⟨ds, e, hlt, q⟩ => by
      have dv := d1.mono (s2.trans s3)
      have c3 := c.to (s1.trans (s2.trans s3))
      rw [← hM]
      subst e
      obtain ⟨a, o, xs, rfl, sq, od, rr⟩ := dv
      refine .inr ⟨a, xs, rfl, .inl (.inr ⟨o, sq⟩), fun hw => ?_, fun hw p hp => new_tup r3 hp ?_ (rr.cut lo hi) c3 q⟩
      · have e : cutD ds lo hi = ds := by
          unfold cutD
          rw [← rr.len, hw.1, hw.2]
          simp [rr.len]
        rw [e] at hlt
        exact absurd hlt (Nat.lt_irrefl _)
      · have := RS.lenT (M := M) r3 (.inl (.inr ⟨o, sq⟩))
        rw [rr.len] at this
        omega⟩⟩⟩
end L3
end
section
set_option Elab.async false
set_option linter.all false
set_option maxRecDepth 100000
set_option maxHeartbeats 1000000
namespace L3
open PySem PySem.Spec PyProof.Rows L2
def oIsB : DR2 := fun v w S Q => ∃ a b, v = .bl a ∧ w = .bl b ∧ Q (.bl (decide (a = b))) S
def oNotB : DR2 := fun v w S Q => ∃ a b, v = .bl a ∧ w = .bl b ∧ Q (.bl (!decide (a = b))) S
end L3
end
section
set_option Elab.async false
set_option linter.all false
set_option maxRecDepth 100000
set_option maxHeartbeats 8000000
namespace L3
open PySem PySem.Spec PyProof.Rows L2
def bSortTS : DRA := fun ds S Q => ∃ (v : D) (zs : List Str), ds = [v] ∧ v = .tup (zs.map .str) ∧ zs.length ≤ 1000 ∧ ∀ (ys : List Str) l, ys.Perm zs → sortedS ys = true → S l = none → Q (.ref l) (S.set l (.lst (ys.map .str)))
def bSortTSF : DRA := fun ds S Q => ∃ (v : D) (zs : List Str), ds = [v] ∧ v = .tup (zs.map .str) ∧ zs.length ≤ 1000 ∧ ∀ ys : List Str, ys.Perm zs → sortedS ys = true → Q (.lst (ys.map .str)) S
end L3
end
section
set_option Elab.async false
set_option linter.all false
set_option maxRecDepth 100000
set_option maxHeartbeats 1000000
namespace L3
open PySem PySem.Spec PyProof.Rows L2
def inLe (a b : Int) : Bool := decide (a ≤ b)
def bSortI : DRA := fun ds S Q => ∃ (v : D) (ns : List Int), ds = [v] ∧ lstD S v = some (ns.map D.int) ∧ ns.length ≤ 1000 ∧ ∀ l, S l = none → Q (.ref l) (S.set l (.lst ((ns.mergeSort inLe).map D.int)))
def bSortIF : DRA := fun ds S Q => ∃ (v : D) (ns : List Int), ds = [v] ∧ lstD S v = some (ns.map D.int) ∧ ns.length ≤ 1000 ∧ Q (.lst ((ns.mergeSort inLe).map D.int)) S
end L3
end
section
set_option Elab.async false
set_option linter.all false
set_option maxRecDepth 100000
set_option maxHeartbeats 1000000
namespace L3
open PySem PySem.Spec PyProof.Rows L2
def iDi (d : DE) : DI := fun ρ S R => d ρ S fun v S' => ∃ ks ds, v = .dic ks ds ∧ R ((ks.zip ds).map fun p => D.tup [kD p.1, p.2]) [] S'
theorem kd_rd {K : PySem.W.Frag} {io : Pl} {H : Hp} (k : Key) : RD K io H (kD k) (kV k) := by cases k <;> rfl
theorem q_items {M : Md} {X : Cx} {e : Expr} {d : DE} {elts : List Expr} {kk : Nat} {tpos apos cpos : Pos} (hM : M.K = X.K) (he : QE M X e d) (hbase : attributeBase e "items" X.env (eval e X.env) = eval e X.env := by rfl) (hline : (apos.endLine == cpos.line) = true := by rfl) :
    QI M X (.Tuple elts kk tpos) (.Call (.Attribute e "items" apos) [] [] cpos) (iDi d) :=
  PI.imp (pi_items he hbase hline) fun σ H R ⟨io, S, ρ, Rd, r, re, h, c⟩ => ⟨io, S, ρ, _, r, re, h, fun i1 H1 S1 v x s1 r1 d1 ⟨ks, ds, e1, q⟩ => by
    subst e1
    obtain ⟨a, o, kvs, rfl, hf, hk, rr⟩ := d1
    refine ⟨a, o, kvs, rfl, hf, c i1 H1 S1 _ _ [] s1 r1 ⟨fun io2 H2 S2 i dd st r2 g ed => ?_, fun io2 H2 S2 st r2 g => ?_⟩ q⟩
    · rw [List.getElem?_map] at ed
      obtain ⟨⟨k, dv⟩, hz, rfl⟩ := Option.map_eq_some_iff.mp ed
      obtain ⟨h1, h2⟩ := List.getElem?_zip_eq_some.mp hz
      rw [← hk, List.getElem?_map] at h1
      obtain ⟨⟨k', y⟩, h3, rfl⟩ := Option.map_eq_some_iff.mp h1
      obtain ⟨y', e4, h4⟩ := rr.get h2
      rw [List.getElem?_map, h3] at e4
      cases e4
      refine ⟨⟨st.frz _ _ _ hf, (List.getElem?_eq_some_iff.mp h3).1⟩, fun x H3 ⟨T, k2, v2, e5, e6, hT, e7⟩ => ?_⟩
      rw [h3] at e5
      cases e5
      subst e6 e7
      exact pair_new r2 hT (kd_rd _) (h4.mono st)
    · refine ⟨st.frz _ _ _ hf, ?_⟩
      have h1 : ks.length = kvs.length := by rw [← hk, List.length_map]
      have h2 := rr.len
      rw [List.length_map] at h2
      rw [List.length_map, List.length_zip]
      omega⟩
end L3
end
section
set_option Elab.async false
set_option linter.all false
set_option maxRecDepth 100000
set_option maxHeartbeats 1000000
namespace L3
open PySem PySem.Spec PyProof.Rows L2
def dDisp (ks : List Str) (da : DA) : DE := fun ρ S Q => ∀ l, S l = none → da ρ (S.set l (.dic [] [])) fun vs S2 => vs.length = ks.length ∧ S2 l = some (.dic [] []) ∧ Q (.ref l) (S2.set l (.dic (ks.map Sum.inr) vs))
section
variable {M : Md} {X : Cx} {pos p2 : Pos} {j : Nat} {keys : List (Option Expr)} {values : List Expr} {ks : List Str} {da : DA} {d : DE} {k : Str} {v : Expr}
end
end L3
end
section
set_option Elab.async false
set_option linter.all false
set_option maxRecDepth 100000
set_option maxHeartbeats 1000000
namespace L3
open PySem PySem.Spec PyProof.Rows L2
section
variable {α : Type} [DecidableEq α]
def getT (ks : List α) (ds : List D) (k : α) : Option D := ((ks.zip ds).find? fun p => decide (p.1 = k)).map (·.2)
def putTs (ks : List α) (k : α) : List α := if (ks.any fun x => decide (x = k)) = true then ks else ks ++ [k]
def putTd (ks : List α) (es : List D) (k : α) (z : D) : List D := if (ks.any fun x => decide (x = k)) = true then (ks.zip es).map fun p => if p.1 = k then z else p.2 else es ++ [z]
end
section
variable {M : Md} {X : Cx} {io : Pl} {H : Hp} {S : Sto}
theorem RS.dit (r : RS M io H S) {l : Nat} {x : V} {ks : List (List Key)} {ds : List D} (e : S l = some (.dit ks ds)) (h : RD M.K io H (.ref l) x) :
    ∃ a kvs, x = .ref a ∧ io[l]? = some (a, a) ∧ H a = some (.dT kvs) ∧ kvs.map (·.1) = ks ∧ RDs M.K io H ds (kvs.map (·.2)) := by
  obtain ⟨p, e1, h1⟩ := r.ob l _ e
  obtain ⟨q, e2, rfl⟩ := h
  rw [e1] at e2; cases e2
  obtain ⟨e3, xs, h2, h3, h4⟩ := h1
  obtain ⟨p1, p2⟩ := p
  have e3 : p2 = p1 := e3
  subst e3
  exact ⟨_, xs, rfl, e1, h2, h3, h4⟩
variable {a b : Expr} {da db : DE} {pos p2 : Pos}
end
end L3
end
section
set_option Elab.async false
set_option linter.all false
set_option maxRecDepth 100000
set_option maxHeartbeats 2000000
namespace L3
open PySem PySem.Spec PyProof.Rows L2
abbrev enO (i : Addr) : Obj := { cls := .type "enumerate", data := .fields #[.none, .bool false, .ref i, rawInt 0, .none, .none] }
abbrev enH (h : Heap) (o : Obj) : Heap := (h.push o).push (enO h.objs.size)
theorem en_new {v : Value} {o : Obj} {C : Heap → Prop} (b : Begins v o C) : Meets (Builtin.«enumerate.__new__» ⟨[.type "enumerate", v], []⟩) fun _ R s => C s.heap ∧ R (.ok (.ret (.ref (s.heap.push o).objs.size))) { s with heap := enH s.heap o } := by
  refine .of_wp fun prog w A R s ⟨hc, hr⟩ => ?_
  obtain ⟨hp, gs, dr, tk, os⟩ := s
  have it : ∀ {B : Around} {E : Value → Shared → Prop} {Q : Value → Shared → Prop}, Q (.ref hp.objs.size) ⟨hp.push o, gs, dr, tk, os⟩ → wpAny (model prog w) B (pyIter v) Q E ⟨hp, gs, dr, tk, os⟩ := fun q => b.iter prog w _ _ ⟨hp, gs, dr, tk, os⟩ _ hc q
  have sb := sub_enumerate
  wp_walk using it
  refine wpAny_stack_any fun fr => wpAny_pure ?_
  split
  · rename_i c _ _ _ _ _
    cases (c == Value.type "enumerate") <;> (wp_walk using it; exact ⟨_, rfl, hr⟩)
  · wp_walk using it
    exact ⟨_, rfl, hr⟩
theorem en_call {prog : Program} {w : World} {A : Around} {E : Value → Shared → Prop} {s : Shared} {v : Value} {o : Obj} {C : Heap → Prop} {Q : Value → Shared → Prop} (b : Begins v o C) (hc : C s.heap)
    (q : (enH s.heap o).get? (s.heap.objs.size + 1) = some (enO s.heap.objs.size) → (enH s.heap o).get? s.heap.objs.size = some o → (∀ x u, s.heap.get? x = some u → (enH s.heap o).get? x = some u) → Q (.ref (s.heap.objs.size + 1)) { s with heap := enH s.heap o }) :
    wpAny (model prog w) A (call (.type "enumerate") [v]) Q E s := by
  have sz : (s.heap.push o).objs.size = s.heap.objs.size + 1 := Heap.size_push ..
  have g2 : (enH s.heap o).get? (s.heap.objs.size + 1) = some (enO s.heap.objs.size) := by rw [← sz]; exact Heap.get?_push_size _ rfl
  refine callType_new F.called_enumerate (by decide) (F.typeCall_enumerate_1 _) (F.newCall_enumerate_1 _) (fun x => F.args_object_init_2 x _) F.entry_enumerate_new (en_new b) ⟨hc, ?_⟩
  rw [sz]
  exact ⟨⟨_, g2, rfl⟩, q g2 (Heap.get?_push_of_some _ (Heap.get?_push_size _ b.free)) fun x u e => Heap.get?_push_of_some _ (Heap.get?_push_of_some _ e)⟩
def ItEn (K : PySem.W.Frag) (b : Bool) (a : Addr) : It where
  go i H := ∃ xs, SqB b K H a xs ∧ i < xs.length
  yld i H v H' := ∃ T y, v = .ref T ∧ H T = none ∧ H' = upd H T (.tup [.int (i : Nat), y]) ∧ ∀ xs, SqB b K H a xs → xs[i]? = some y
  stop i H := ∃ xs, SqB b K H a xs ∧ xs.length = i
theorem turnE {P : Program} {w : World} {K : PySem.W.Frag} {elts : List Expr} {kk : Nat} {pos : Pos} {b : Bool} {e it a : Addr} (n1 : e ≠ it) (n2 : a ≠ it) (n3 : a ≠ e) :
    Turn P w K (.Tuple elts kk pos) (ItEn K b a) [e, it] e (fun i h => (∃ old, IsEnum h e it (i : Int) old) ∧ ItB b h it a i) where
  mem := by simp
  obj i h t c hc := by
    obtain ⟨⟨old, h1⟩, h2⟩ := t
    obtain ⟨o2, v2, h2, d2⟩ := h2.ob
    simp only [List.mem_cons, List.not_mem_nil, or_false] at hc
    rcases hc with rfl | rfl
    · exact ⟨_, h1, fun v q => by cases q⟩
    · exact ⟨_, h2, fun v q => by rw [d2] at q; cases q⟩
  keep i h h' t k := ⟨let ⟨old, h1⟩ := t.1; ⟨old, k e (by simp) _ h1⟩, t.2.up (k it (by simp))⟩
  item X hP hw hK hc i pins s σ H E I hf t hg := by
    subst hP hw hK
    obtain ⟨xs, hx, lx⟩ := hg
    obtain ⟨v1, q1, lx, r1⟩ := src_at (P := (i < ·)) I hx lx
    have hh : X.A.in1.handled = none := I.ok.hd hc
    have W := WalksT.enumerateD (A := X.A) (drwB (prog := X.prog) (w := X.w) hh b n2 v1) e n1 (by simp [n1, Ne.symm n3]) (by simp)
    have lt : ∀ c ∈ [e, it], c < s.heap.objs.size := fun c hc => by
      obtain ⟨⟨old, h1⟩, h2⟩ := t
      obtain ⟨o2, v2, h2, _⟩ := h2.ob
      simp only [List.mem_cons, List.not_mem_nil, or_false] at hc
      rcases hc with rfl | rfl
      · exact Heap.lt_size h1
      · exact Heap.lt_size h2
    refine walk_turn (Row := fun ys => ∃ y, ys = [.int (i : Nat), y] ∧ ∀ xs, SqB b X.K H a xs → xs[i]? = some y) W I hf lt (by simp) ⟨t.1, t.2, q1⟩ lx ?_
      fun T ys s2 hT hr I2 st hn => ⟨.ref T, _, I2, rfl, let ⟨y, e1, e2⟩ := hr; ⟨T, y, rfl, hT, by rw [e1], e2⟩, ⟨st.1, st.2.1⟩, hn⟩
    rintro _ ⟨tk, x1, p1, rfl⟩
    obtain ⟨y1, k1, m1⟩ := r1 _ _ p1
    exact ⟨[.int (i : Nat), y1], by show 2 ≤ sizeLine; decide, .cons ⟨_, rfl⟩ (.cons k1 .nil), y1, rfl, m1⟩
  done X hP hw hK hc i pins s σ H E I hf t hg := by
    subst hP hw hK
    obtain ⟨xs, hx, lx⟩ := hg
    obtain ⟨v1, q1, l1, _⟩ := src_at (P := fun n => n = i) I hx lx
    have hh : X.A.in1.handled = none := I.ok.hd hc
    have W := WalksT.enumerateD (A := X.A) (drwB (prog := X.prog) (w := X.w) hh b n2 v1) e n1 (by simp [n1, Ne.symm n3]) (by simp)
    refine walk_end W I hf (by simp) ?_
    rw [l1]
    exact ⟨t.1, t.2, q1⟩
  self A i s Q E t h := let ⟨⟨_, h1⟩, _⟩ := t; wpAny_pyIter_enum h1 h
def numD (ds : List D) : List D := ((List.range ds.length).zip ds).map fun p => D.tup [.int (p.1 : Nat), p.2]
theorem numD_at {ds : List D} {i : Nat} {d : D} (e : (numD ds)[i]? = some d) : ∃ z, ds[i]? = some z ∧ d = .tup [.int (i : Nat), z] := by
  unfold numD at e
  rw [List.getElem?_map, Option.map_eq_some_iff] at e
  obtain ⟨p, e, rfl⟩ := e
  obtain ⟨e1, e2⟩ := zip_some e
  have hi := (List.getElem?_eq_some_iff.mp e2).1
  rw [List.getElem?_range hi] at e1
  cases e1
  exact ⟨_, e2, rfl⟩
theorem numD_len (ds : List D) : (numD ds).length = ds.length := by simp [numD]
section
variable {M : Md} {io : Pl} {H : Hp} {S : Sto}
theorem itEn_ok {q : Bool × Addr} {ds : List D} {gs : Gs} (h : SrcD M io H q ds gs) : ItOk M (ItEn M.K q.1 q.2) (numD ds) gs io H where
  go io2 H2 S2 i d st r g e := by
    obtain ⟨z, e1, rfl⟩ := numD_at e
    obtain ⟨xs, h1, h2⟩ := h io2 H2 S2 st r g
    refine ⟨⟨xs, h1, by rw [h2.len]; exact (List.getElem?_eq_some_iff.mp e1).1⟩, ?_⟩
    rintro _ _ ⟨T, y, rfl, hT, rfl, hy⟩
    obtain ⟨x, e2, k⟩ := h2.get e1
    rw [hy xs h1] at e2
    cases e2
    exact pair_new r hT (d := .int (i : Nat)) rfl k
  stop io2 H2 S2 st r g := by
    obtain ⟨xs, h1, h2⟩ := h io2 H2 S2 st r g
    exact ⟨xs, h1, by rw [h2.len, numD_len]⟩
end
def iEnS (d : DA) : DI := fun ρ S R => d ρ S fun vs S' => ∃ v ds, vs = [v] ∧ seqD S' v = some ds ∧ R (numD ds) (gsOf v (.lst ds)) S'
section
variable {M : Md} {X : Cx} {e : Expr} {da : DA} {p pos tpos : Pos} {elts : List Expr} {kk : Nat}
theorem q_enumS (hM : M.K = X.K) (hg : Gl X "enumerate") (hm : X.mg "enumerate" = none) (ha : QA M X [e] da) (hs : starEach [e] X.env = [(false, eval e X.env)] := by rfl) :
    QI M X (.Tuple elts kk tpos) (.Call (.Name "enumerate" p) [e] [] pos) (iEnS da) := by
  refine ⟨fun pins s σ H R I ⟨io, S, ρ, Rd, r, re, h, c⟩ => ?_⟩
  refine Call_ (ld_blt I hg hm boot_enumerate (PyProof.Rows.callWith_type1 (thn (ha.run pos pins s σ H (fun xs H1 => ∃ io1 S1 x q ds gs, xs = [x] ∧ x = .ref q.2 ∧ Stp io H io1 H1 ∧ RS M io1 H1 S1 ∧ SrcD M io1 H1 q ds gs ∧ gs.ok S1 ∧ Rd (numD ds) gs S1) I
    ⟨io, S, ρ, _, r, re, h, fun i1 H1 S1 vs xs s1 r1 dd q => ?_⟩) fun us s1 ⟨vs, H1, I1, rv, io1, S1, x, q, ds, gs, ev, ex, st1, r1, h1, g1, qq⟩ => ?_) hs rfl))
  · obtain ⟨v, ds, rfl, e1, q⟩ := q
    obtain ⟨x, t, rfl, dx, dt⟩ := dd
    have dt : t = [] := dt
    subst dt
    obtain ⟨q1, ex, h1⟩ := src_of r1 dx e1
    exact ⟨i1, S1, x, q1, ds, _, rfl, ex, s1, r1, h1, gs_seq e1, q⟩
  · subst ev ex
    obtain ⟨u1, rfl, eu1⟩ : ∃ u1, us = [u1] ∧ u1 = Value.ref q.2 := by
      cases rv with
      | cons k1 rr => cases rr; exact ⟨_, rfl, k1⟩
    subst eu1
    obtain ⟨xs, k1, _⟩ := h1 io1 H1 S1 (Stp.refl _ _) r1 g1
    rw [hM] at k1
    obtain ⟨v1, _, b1⟩ := inv_sq I1 k1
    refine en_call (begB q.1 q.2 v1.toArray) b1 fun z1 z2 k => wpAny_pyIter_enum z1 ?_
    have l1 : q.2 < s1.heap.objs.size := b1.lt
    have l1' : @LT.lt Nat _ q.2 s1.heap.objs.size := l1
    refine ⟨_, [s1.heap.objs.size + 1, s1.heap.objs.size], _, _, H1, rfl, I1.kept (t' := s1.toks) k, turnE (b := q.1) (a := q.2) (Nat.succ_ne_self _) (Nat.ne_of_lt l1) (ne_add l1), ⟨⟨_, z1⟩, .new z2⟩, fun b hb => ?_, ?_⟩
    · have hle : s1.heap.objs.size ≤ b := by
        simp only [List.mem_cons, List.not_mem_nil, or_false] at hb
        rcases hb with rfl | rfl <;> first | exact Nat.le_refl _ | exact Nat.le_add_right _ _
      exact I1.fpOk hle (I1.hok.fresh hle)
    · rw [← hM]
      exact c io1 H1 S1 _ _ gs st1 r1 (itEn_ok h1) qq
end
end L3
end
section
set_option Elab.async false
set_option linter.all false
set_option maxRecDepth 100000
set_option maxHeartbeats 1000000
namespace L3
open PySem PySem.Spec PyProof.Rows L2
def dEi (a b : DE) : DE := fun ρ S Q => a ρ S Q ∨ b ρ S Q
end L3
end
section
set_option Elab.async false
set_option linter.all false
set_option maxRecDepth 100000
set_option maxHeartbeats 2000000
namespace L3
open PySem PySem.Spec PyProof.Rows L2
def oTimes : DR2 := fun v w S Q => ∃ ds k, v = .tup ds ∧ w = .int k ∧ ((k = 1 ∧ Q (.tup ds) S) ∨ (ds ≠ [] ∧ 2 ≤ k ∧ k ≤ 1000 ∧ ds.length ≤ 1000 ∧ Q (.tup (List.replicate k.toNat ds).flatten) S))
end L3
end
section
set_option Elab.async false
set_option linter.all false
set_option maxRecDepth 100000
namespace L3
open PySem PySem.Spec PyProof.Rows L2
mutual
def pyO (S : Sto) : Nat → D → Option PyData
  | 0, _ => none
  | n + 1, d => match d with
    | .non => some .none
    | .bl b => some (.bool b)
    | .int i => some (.int i)
    | .str x => some (.str x)
    | .tup ds => (pyOs S n ds).map .tuple
    | .lst ds => (pyOs S n ds).map .list
    | .kt ds => (pyOs S n ds).map .tuple
    | .ref l => (match S l with
      | some (.lst ds) => (pyOs S n ds).map .list
      | _ => none)
    | _ => none
def pyOs (S : Sto) : Nat → List D → Option (List PyData)
  | _, [] => some []
  | n, d :: ds => (pyO S n d).bind fun p => (pyOs S n ds).map fun ps => p :: ps
end
section
variable {M : Md} {io : Pl} {H : Hp}
theorem dpos_of {S : Sto} {n : Nat} (ih : ∀ (d : D) {v : V} {p : PyData}, RD M.K io H d v → pyO S n d = some p → Dp M.K H v p) : ∀ (ds : List D) {vs : List V} {ps : List PyData}, RDs M.K io H ds vs → pyOs S n ds = some ps → DpAll M.K H vs ps
  | [], vs, ps, h, e => by rw [pyOs] at e; cases e; rw [show vs = [] from h]; exact .nil
  | d :: ds, vs, ps, h, e => by
    obtain ⟨x, r, rfl, h1, h2⟩ := h
    rw [pyOs] at e
    cases q : pyO S n d with
    | none => rw [q] at e; cases e
    | some p =>
      rw [q] at e
      have e : (pyOs S n ds).map (fun ps => p :: ps) = some ps := e
      cases q2 : pyOs S n ds with
      | none => rw [q2] at e; cases e
      | some ps' => rw [q2] at e; cases e; exact .cons (ih d h1 q) (dpos_of ih ds h2 q2)
theorem dpo_of {S : Sto} (r : RS M io H S) : ∀ (n : Nat) (d : D) {v : V} {p : PyData}, RD M.K io H d v → pyO S n d = some p → Dp M.K H v p
  | 0, d, v, p, h, e => by rw [pyO] at e; cases e
  | n + 1, d, v, p, h, e => by
    have hs := fun ds {vs} {ps} => dpos_of (M := M) (io := io) (H := H) (S := S) (n := n) (dpo_of r n) ds (vs := vs) (ps := ps)
    rw [pyO.eq_def] at e
    cases d with
    | non => cases e; rw [show v = .non from h]; exact .non
    | bl b => cases e; rw [show v = .bl b from h]; exact .bl b
    | int b => cases e; rw [show v = .int b from h]; exact .int b
    | str b => cases e; rw [show v = .str b from h]; exact .str b
    | tup ds =>
      obtain ⟨a, xs, rfl, s, r⟩ := h
      have e' : (pyOs S n ds).map PyData.tuple = some p := e
      cases q : pyOs S n ds with
      | none => rw [q] at e'; cases e'
      | some ps => rw [q] at e'; cases e'; exact .tup (SqT.of s) (hs ds r q)
    | lst ds =>
      obtain ⟨a, xs, rfl, s, r⟩ := h
      have e' : (pyOs S n ds).map PyData.list = some p := e
      cases q : pyOs S n ds with
      | none => rw [q] at e'; cases e'
      | some ps => rw [q] at e'; cases e'; exact .lst s.sq (hs ds r q)
    | kt ds =>
      obtain ⟨a, o, xs, rfl, s, _, r⟩ := h
      have e' : (pyOs S n ds).map PyData.tuple = some p := e
      cases q : pyOs S n ds with
      | none => rw [q] at e'; cases e'
      | some ps => rw [q] at e'; cases e'; exact .tup (.inl (.inr ⟨o, s⟩)) (hs ds r q)
    | kl ds => cases e
    | dic _ _ => cases e
    | raw _ => cases e
    | ref l =>
      have e' : (match S l with | some (.lst ds) => (pyOs S n ds).map PyData.list | _ => none) = some p := e
      cases q : S l with
      | none => rw [q] at e'; cases e'
      | some o =>
        rw [q] at e'
        cases o with
        | lst ds =>
          have e' : (pyOs S n ds).map PyData.list = some p := e'
          obtain ⟨a, xs, rfl, _, h1, h2⟩ := r.lst q h
          cases q2 : pyOs S n ds with
          | none => rw [q2] at e'; cases e'
          | some ps => rw [q2] at e'; cases e'; exact .lst (SqL.of h1) (hs ds h2 q2)
        | _ => cases e'
end
def oEqO : DR2 := fun v w S Q => ∃ p q, pyO S 16 v = some p ∧ pyO S 16 w = some q ∧ SeqAt.shaped p = true ∧ SeqAt.shaped q = true ∧ Q (.bl (PyData.eqv p q)) S
def oNeO : DR2 := fun v w S Q => ∃ p q, pyO S 16 v = some p ∧ pyO S 16 w = some q ∧ SeqAt.shaped p = true ∧ SeqAt.shaped q = true ∧ Q (.bl (!PyData.eqv p q)) S
theorem sim_neO {M : Md} {K : PySem.W.Frag} (hM : M.K = K) : Sim2 M (rNeD K) oNeO := fun io H S x y v w Qd Q r dv dw ⟨p, q, e1, e2, s1, s2, k⟩ c =>
  ⟨p, q, hM ▸ dpo_of r _ _ dv e1, hM ▸ dpo_of r _ _ dw e2, s1, s2, c.here r (v := .bl _) rfl k⟩
end L3
end
section
set_option Elab.async false
set_option linter.all false
set_option maxRecDepth 100000
namespace L3
open PySem PySem.Spec PyProof.Rows L2
section
variable {M : Md}
def mClear : DRB := fun v ds S Q => ∃ l es, v = .ref l ∧ ds = [] ∧ S l = some (.lst es) ∧ Q .non (S.set l (.lst []))
def mReverse : DRB := fun v ds S Q => ∃ l es, v = .ref l ∧ ds = [] ∧ S l = some (.lst es) ∧ es.length ≤ sizeLine ∧ Q .non (S.set l (.lst es.reverse))
end
end L3
end
section
set_option Elab.async false
set_option linter.all false
set_option maxRecDepth 100000
namespace L3
open PySem PySem.Spec PyProof.Rows L2
def dMethP (C : Addr) (m : Str) (n : Nat) (sp : DSp) (Ed : DXK) (is : List Nat) (d : DE) (t : DA) : DE := fun ρ S Q => d ρ S fun v S1 => ∃ l fs vs, v = .ref l ∧ S1 l = some (.ins C fs vs) ∧ m ∉ fs ∧ t ρ S1 fun ds S2 => ds.length = n ∧ sp (v :: pick is ds) S2 Q Ed
def dMethSlP (C : Addr) (n : Nat) (sp : DSp) (Ed : DXK) (is : List Nat) (d : DE) (t : DA) : DE := fun ρ S Q => d ρ S fun v S1 => ∃ l vs, v = .ref l ∧ S1 l = some (.slt C vs) ∧ t ρ S1 fun ds S2 => ds.length = n ∧ sp (v :: pick is ds) S2 Q Ed
def dMakeP (C : Addr) (n : Nat) (sp : DSp) (Ed : DXK) (is : List Nat) (t : DA) : DE := fun ρ S Q => t ρ S fun ds S1 => ds.length = n ∧ ∀ l, S1 l = none → sp (.ref l :: pick is ds) (S1.set l (.ins C [] [])) (fun v S2 => v = .non ∧ Q (.ref l) S2) Ed
def dMakeSlP (C : Addr) (n : Nat) (sp : DSp) (Ed : DXK) (is : List Nat) (t : DA) : DE := fun ρ S Q => t ρ S fun ds S1 => ds.length = n ∧ ∀ l, S1 l = none → sp (.ref l :: pick is ds) (S1.set l (.slt C [])) (fun v S2 => v = .non ∧ Q (.ref l) S2) Ed
section
variable {M : Md} {X : Cx} {CX : CXT} {k : Nat} {f C : Addr} {params : Arguments} {ps ks : List Str} {sp : DSp} {Ed : DXK} {E : XK} {x m : Str} {p pos apos kpos : Pos} {e o : Expr} {kws : List Keyword} {d : DE} {t : DA} {is : List Nat} {nm : Option Str}
end
end L3
end
section
set_option Elab.async false
set_option linter.all false
set_option maxRecDepth 100000
set_option maxHeartbeats 2000000
namespace LK
open PySem PySem.Spec PyProof.Rows L2 L3
def slt (a b : Str) : Prop := a.cps.toList < b.cps.toList
instance (a b : Str) : Decidable (slt a b) := by unfold slt; infer_instance
theorem slt_irrefl (a : Str) : ¬ slt a a := fun h => List.lt_irrefl _ h
theorem slt_asymm {a b : Str} (h : slt a b) : ¬ slt b a := List.lt_asymm h
theorem str_ext {a b : Str} (h : a.cps.toList = b.cps.toList) : a = b := by
  cases a; cases b
  simp only at h
  congr 1
  exact Array.toList_inj.mp h
theorem slt_total {a b : Str} (h : ¬ slt a b) (k : ¬ slt b a) : a = b := str_ext (List.le_antisymm (List.not_lt.mp k) (List.not_lt.mp h))
theorem slt_ne {a b : Str} (h : slt a b) : a ≠ b := fun e => by subst e; exact slt_irrefl _ h
theorem slt_of_nle {a b c : Str} (h : ¬ slt b a) (k : ¬ slt c b) : ¬ slt c a := fun z => by
  have h1 : a.cps.toList ≤ b.cps.toList := List.not_lt.mp h
  have h2 : b.cps.toList ≤ c.cps.toList := List.not_lt.mp k
  exact (List.not_lt.mpr (List.le_trans h1 h2)) z
theorem rising_pw : ∀ (p : Str) (l : List Str), risingS p l = true → (∀ x ∈ l, ¬ slt x p) ∧ l.Pairwise fun a b => ¬ slt b a
  | p, [], _ => ⟨(fun _ h => nomatch h), List.Pairwise.nil⟩
  | p, x :: r, h => by
    have h' : (!ltCps x.cps.toList p.cps.toList && risingS x r) = true := h
    rw [Bool.and_eq_true] at h'
    obtain ⟨h1, h2⟩ := rising_pw x r h'.2
    have h0 : ¬ slt x p := fun z => by
      have : ltCps x.cps.toList p.cps.toList = true := by rw [ltCps_eq]; exact decide_eq_true z
      rw [this] at h'
      exact absurd h'.1 (by decide)
    refine ⟨fun y hy => ?_, List.pairwise_cons.mpr ⟨h1, h2⟩⟩
    rcases List.mem_cons.mp hy with e | hy
    · rw [e]; exact h0
    · exact slt_of_nle h0 (h1 y hy)
theorem sortedS_pw : ∀ {l : List Str}, sortedS l = true → l.Pairwise fun a b => ¬ slt b a
  | [], _ => .nil
  | x :: r, h => by
    obtain ⟨h1, h2⟩ := rising_pw x r h
    exact List.pairwise_cons.mpr ⟨h1, h2⟩
theorem pw_up : ∀ {l : List Str}, (l.Pairwise fun a b => ¬ slt b a) → l.Nodup → l.Pairwise slt
  | [], _, _ => .nil
  | x :: r, h, n => by
    obtain ⟨h1, h2⟩ := List.pairwise_cons.mp h
    obtain ⟨n1, n2⟩ := List.nodup_cons.mp n
    refine List.pairwise_cons.mpr ⟨fun y hy => ?_, pw_up h2 n2⟩
    by_cases z : slt x y
    · exact z
    · exact absurd (by rw [slt_total z (h1 y hy)]; exact hy : x ∈ r) n1
theorem up_nodup {l : List Str} (h : l.Pairwise slt) : l.Nodup := h.imp fun h => slt_ne h
theorem up_eq : ∀ {l m : List Str}, l.Pairwise slt → m.Pairwise slt → (∀ x, x ∈ l ↔ x ∈ m) → l = m
  | [], [], _, _, _ => rfl
  | [], y :: m, _, _, h => absurd ((h y).mpr List.mem_cons_self) (by simp)
  | x :: l, [], _, _, h => absurd ((h x).mp List.mem_cons_self) (by simp)
  | x :: l, y :: m, hl, hm, h => by
    obtain ⟨l1, l2⟩ := List.pairwise_cons.mp hl
    obtain ⟨m1, m2⟩ := List.pairwise_cons.mp hm
    have e : x = y := by
      rcases List.mem_cons.mp ((h x).mp List.mem_cons_self) with e | hx
      · exact e
      · rcases List.mem_cons.mp ((h y).mpr List.mem_cons_self) with e | hy
        · exact e.symm
        · exact absurd (l1 y hy) (slt_asymm (m1 x hx))
    subst e
    have nx : ∀ {k : List Str}, (∀ y ∈ k, slt x y) → x ∉ k := fun h z => slt_irrefl _ (h x z)
    rw [up_eq l2 m2 fun z => ⟨fun hz => ?_, fun hz => ?_⟩]
    · rcases List.mem_cons.mp ((h z).mp (List.mem_cons_of_mem _ hz)) with e | hz'
      · subst e; exact absurd hz (nx l1)
      · exact hz'
    · rcases List.mem_cons.mp ((h z).mpr (List.mem_cons_of_mem _ hz)) with e | hz'
      · subst e; exact absurd hz (nx m1)
      · exact hz'
def isNm (x : Str) : Bool := decide (1 ≤ x.cps.size) && (decide (x.cps.size ≤ 8) && x.cps.all fun c => decide (97 ≤ c) && decide (c ≤ 122))
theorem nm_ok {x : Str} (h : isNm x = true) : PyData.strOk x = true := by
  unfold isNm at h
  rw [Bool.and_eq_true, Bool.and_eq_true] at h
  unfold PyData.strOk
  rw [Array.all_eq_true] at h ⊢
  intro i hi
  have := h.2.2 i hi
  rw [Bool.and_eq_true, decide_eq_true_eq, decide_eq_true_eq] at this
  rw [decide_eq_true_eq]
  omega
abbrev Head := Str × List Str
abbrev Rule := List (Str × Str) × Str
structure Wd where
  hs : List Head
  rs : List Rule
def headD (h : Head) : D := .tup [.str h.1, .tup (h.2.map .str)]
def testD (t : Str × Str) : D := .tup [.str t.1, .str t.2]
def ruleD (r : Rule) : D := .tup [.tup (r.1.map testD), .str r.2]
def Wd.d (w : Wd) : D := .tup [.tup (w.hs.map headD), .tup (w.rs.map ruleD)]
def headL (h : Head) : D := .lst [.str h.1, .lst (h.2.map .str)]
def testL (t : Str × Str) : D := .lst [.str t.1, .str t.2]
def ruleL (r : Rule) : D := .lst [.lst (r.1.map testL), .str r.2]
def Wd.l (w : Wd) : List D := [.lst (w.hs.map headL), .lst (w.rs.map ruleL)]
def Wd.names (w : Wd) : List Str := w.hs.map (·.1)
structure WOk (w : Wd) : Prop where
  nd : w.names.Nodup
  hl : w.hs.length ≤ 6
  vl : ∀ h ∈ w.hs, h.2.length ≤ 5
  rl : w.rs.length ≤ 100
  tl : ∀ r ∈ w.rs, r.1.length ≤ 100
  tn : ∀ r ∈ w.rs, ∀ t ∈ r.1, t.1 ∈ w.names
  so : ∀ h ∈ w.hs, PyData.strOk h.1 = true ∧ ∀ v ∈ h.2, PyData.strOk v = true
  ro : ∀ r ∈ w.rs, PyData.strOk r.2 = true ∧ ∀ t ∈ r.1, PyData.strOk t.1 = true ∧ PyData.strOk t.2 = true
structure WS (w : Wd) : Prop extends WOk w where
  up : w.names.Pairwise slt
  h4 : w.hs.length ≤ 4
  nm : ∀ h ∈ w.hs, isNm h.1 = true
  v3 : ∀ h ∈ w.hs, h.2.length ≤ 3
  vup : ∀ h ∈ w.hs, h.2.Pairwise slt
  vnm : ∀ h ∈ w.hs, ∀ v ∈ h.2, isNm v = true
  r9 : w.rs.length ≤ 9
  tnd : ∀ r ∈ w.rs, (r.1.map (·.1)).Nodup
  tv : ∀ r ∈ w.rs, ∀ t ∈ r.1, t.2 = "" ∨ isNm t.2 = true
  an : ∀ r ∈ w.rs, isNm r.2 = true
abbrev Row := List Str
structure ROk (w : Wd) (r : Row) : Prop where
  len : r.length = w.hs.length
  so : ∀ v ∈ r, PyData.strOk v = true
def rowD (r : Row) : D := .tup (r.map .str)
def grow (rs : List Row) (h : Head) : List Row := rs.flatMap fun r => (("" : Str) :: h.2).map fun v => r ++ [v]
def rowsOf (hs : List Head) : List Row := hs.foldl grow [[]]
def Wd.rows (w : Wd) : List Row := rowsOf w.hs
def Wd.val (w : Wd) (r : Row) (n : Str) : Str := r.getD (w.names.idxOf n) ""
def Wd.fits (w : Wd) (r : Row) (ts : List (Str × Str)) : Bool := ts.all fun t => decide (w.val r t.1 = t.2)
def Wd.ans (w : Wd) (r : Row) : Str := ((w.rs.filter fun x : Rule => w.fits r x.1).map (·.2) ++ [("" : Str)]).headD ""
def mapO {α β : Type} (f : α → Option β) : List α → Option (List β)
  | [] => some []
  | a :: as => match f a, mapO f as with
    | some b, some bs => some (b :: bs)
    | _, _ => none
def tupO : Nat → D → Option D
  | 0, _ => none
  | n + 1, d => match d with
    | .tup ds => if ds.length ≤ sizeLine then (mapO (tupO n) ds).map .tup else none
    | .lst ds => if ds.length ≤ sizeLine then (mapO (tupO n) ds).map .tup else none
    | .kt ds => if ds.length ≤ sizeLine then (mapO (tupO n) ds).map .tup else none
    | .non => some .non
    | .bl b => some (.bl b)
    | .int i => some (.int i)
    | .str x => some (.str x)
    | _ => none
def topO (S : Sto) : Nat → D → Option D
  | 0, _ => none
  | n + 1, d => match d with
    | .tup ds => if ds.length ≤ sizeLine then (mapO (topO S n) ds).map .tup else none
    | .lst ds => if ds.length ≤ sizeLine then (mapO (topO S n) ds).map .tup else none
    | .kt ds => if ds.length ≤ sizeLine then (mapO (topO S n) ds).map .tup else none
    | .ref l => (match S l with
      | some (.lst ds) => if ds.length ≤ sizeLine then (mapO (topO S n) ds).map .tup else none
      | _ => none)
    | .non => some .non
    | .bl b => some (.bl b)
    | .int i => some (.int i)
    | .str x => some (.str x)
    | _ => none
def lisO : Nat → D → Option D
  | 0, _ => none
  | n + 1, d => match d with
    | .tup ds => if ds.length ≤ sizeLine then (mapO (lisO n) ds).map .lst else none
    | .lst ds => if ds.length ≤ sizeLine then (mapO (lisO n) ds).map .lst else none
    | .non => some .non
    | .bl b => some (.bl b)
    | .int i => some (.int i)
    | .str x => some (.str x)
    | _ => none
def sameP : Nat → Sto → D → D → Prop
  | 0, _, _, _ => False
  | n + 1, S, g, d => match d with
    | .lst ds => ds.length ≤ sizeLine ∧ ∃ gs, lstD S g = some gs ∧ tyD S g = some "list" ∧ gs.length = ds.length ∧ ∀ p ∈ gs.zip ds, sameP n S p.1 p.2
    | .tup ds => ds.length ≤ sizeLine ∧ ∃ gs, g = .tup gs ∧ gs.length = ds.length ∧ ∀ p ∈ gs.zip ds, sameP n S p.1 p.2
    | .ref l => ∃ ds, S l = some (.lst ds) ∧ ds.length ≤ sizeLine ∧ ∃ gs, lstD S g = some gs ∧ tyD S g = some "list" ∧ gs.length = ds.length ∧ ∀ p ∈ gs.zip ds, sameP n S p.1 p.2
    | .non => g = .non
    | .bl b => g = .bl b
    | .int i => g = .int i
    | .str x => g = .str x ∧ PyData.strOk x = true
    | _ => False
def BxO (o : Ob) (c : Int) : Prop := ∃ a b k : Int, o = .lst [.int a, .int b, .int k] ∧ 0 ≤ a ∧ 0 ≤ b ∧ b ≤ 2 ^ 62 ∧ 0 ≤ k ∧ k ≤ c
def Bx (S : Sto) (l : Nat) (c : Int) : Prop := ∃ o, S l = some o ∧ BxO o c
def sp_tupled (n : Nat) : DSp := fun ds S Q _ => ∃ v w, ds = [v] ∧ topO S n v = some w ∧ (Q w S ∨ ∃ ws, w = .tup ws ∧ Q (.kt ws) S)
def sp__law_same (n : Nat) : DSp := fun ds S Q _ => ∃ g d, ds = [g, d] ∧ sameP n S g d ∧ Q (.bl true) S
def sp__law_box : DSp := fun ds S Q _ => ∃ (v : D) (ns : List Int) (k : Int), ds = [v, .int k] ∧ lstD S v = some (ns.map .int) ∧ ns.length ≤ sizeLine ∧ 0 ≤ k ∧ k ≤ 1000 ∧ ∀ o l, BxO o 0 → S l = none → Q (.ref l) (S.set l o)
def sp__law_take : DSp := fun ds S Q _ => ∃ (l : Nat) (m c : Int), ds = [.ref l, .int m] ∧ 0 < m ∧ m < 2 ^ 30 ∧ Bx S l c ∧ c ≤ 2 ^ 40 ∧ ∀ (r : Int) (o : Ob), 0 ≤ r → r < m → BxO o (c + 1) → Q (.int r) (S.set l o)
def sp__law_cells : DSp := fun ds S Q _ => ∃ (v : D) (ns : List Int) (m : Nat), ds = [v, .int m] ∧ 1 ≤ m ∧ m ≤ 3 ∧ lstD S v = some (ns.map .int) ∧ ns.length ≤ 63 ∧ ∀ (cs : List Int) (l : Nat), cs.length ≤ 3 → S l = none → Q (.ref l) (S.set l (.lst (cs.map .int)))
def sp__law_of : DSp := fun ds S Q _ => ∃ (l : Nat) (v : D) (es : List D) (c : Int), ds = [.ref l, v] ∧ (∀ o, seqD (S.set l o) v = some es) ∧ seqD S v = some es ∧ es ≠ [] ∧ es.length < 1000 ∧ Bx S l c ∧ c ≤ 2 ^ 40 ∧ ∀ e o, e ∈ es → BxO o (c + 1) → Q e (S.set l o)
def sp__law_pick : DSp := fun ds S Q _ => ∃ (l : Nat) (v : D) (es : List D) (m c : Int), ds = [.ref l, v, .int m] ∧ seqD S v = some es ∧ es.length ≤ 1000 ∧ 0 ≤ m ∧ m < 2 ^ 30 ∧ Bx S l c ∧ c ≤ 2 ^ 39 ∧
  ∀ (ps rest : List D) (o : Ob) (l' : Nat), (ps ++ rest).Perm es → ps.length = min m.toNat es.length → BxO o (c + 1000) → S l' = none → l' ≠ l → Q (.ref l') ((S.set l o).set l' (.lst ps))
structure WX (w : Wd) : Prop where
  six : ∀ h ∈ w.hs, h.1 ∈ [Str.ofString "a", Str.ofString "dev", Str.ofString "enc", Str.ofString "lang", Str.ofString "q", Str.ofString "zip"]
  five : ∀ h ∈ w.hs, ∀ v ∈ h.2, v ∈ [Str.ofString "de", Str.ofString "fr", Str.ofString "m", Str.ofString "x", Str.ofString "y"]
  four : ∀ r ∈ w.rs, r.2 ∈ [Str.ofString "eng", Str.ofString "fra", Str.ofString "mob", Str.ofString "old"]
  tvf : ∀ r ∈ w.rs, ∀ t ∈ r.1, t.2 ∈ [Str.ofString "", Str.ofString "none", Str.ofString "de", Str.ofString "fr", Str.ofString "m", Str.ofString "x", Str.ofString "y"]
def sp__law_world : DSp := fun ds S Q _ => ∃ (l : Nat) (sv : D) (ss : List Int) (c : Int), ds = [.ref l, sv] ∧ (∀ S, seqD S sv = some (ss.map .int)) ∧ ss.length ≤ 4 ∧ (∀ s ∈ ss, 1 ≤ s ∧ s ≤ 3) ∧ Bx S l c ∧ c ≤ 2 ^ 38 ∧ ∀ w o, WS w → WX w → w.hs.length = ss.length → (∀ h ∈ w.hs, h.2 ≠ []) → 2 ≤ w.rs.length → BxO o (c + 1000000) → Q w.d (S.set l o)
def sp__law_names : DSp := fun ds S Q _ => ∃ w : Wd, ds = [w.d] ∧ WOk w ∧ Q (.lst (w.names.map .str)) S
def sp__law_value : DSp := fun ds S Q _ => ∃ (w : Wd) (r : Row) (n : Str), ds = [w.d, rowD r, .str n] ∧ WOk w ∧ ROk w r ∧ n ∈ w.names ∧ Q (.str (w.val r n)) S
def sp__law_fits : DSp := fun ds S Q _ => ∃ (w : Wd) (r : Row) (x : Rule), ds = [w.d, rowD r, ruleD x] ∧ WOk w ∧ ROk w r ∧ x ∈ w.rs ∧ Q (.bl (w.fits r x.1)) S
def sp__law_answer : DSp := fun ds S Q _ => ∃ (w : Wd) (r : Row), ds = [w.d, rowD r] ∧ WOk w ∧ ROk w r ∧ Q (.str (w.ans r)) S
def sp__law_requests : DSp := fun ds S Q _ => ∃ w : Wd, ds = [w.d] ∧ WOk w ∧ Q (.lst (w.rows.map rowD)) S
def valsD (h : Head) : D := .kt ((("" : Str) :: h.2).map .str)
def Wd.ob (w : Wd) (C : Addr) : Ob := .slt C [some (.lst (w.rows.map rowD)), some (.tup (w.rs.map ruleD)), some (.dic (w.names.map Sum.inr) (w.hs.map valsD))]
abbrev cW (K : PySem.W.Frag) : Addr := He.ga K "World"
def sp_World_init (K : PySem.W.Frag) : DSp := fun ds S Q _ => ∃ (l : Nat) (v : D) (w : Wd), ds = [.ref l, v] ∧ S l = some (.slt (cW K) []) ∧ topO S 8 v = some w.d ∧ WOk w ∧ Q .non (S.set l (w.ob (cW K)))
def sp_World_requests (K : PySem.W.Frag) : DSp := fun ds S Q _ => ∃ (l : Nat) (w : Wd), ds = [.ref l] ∧ S l = some (w.ob (cW K)) ∧ ∀ m, S m = none → Q (.ref m) (S.set m (.lst (w.rows.map rowD)))
def sp_World_headers (K : PySem.W.Frag) : DSp := fun ds S Q _ => ∃ (l : Nat) (w : Wd), ds = [.ref l] ∧ S l = some (w.ob (cW K)) ∧ Q (.lst (w.names.map .str)) S
def sp_World_value (K : PySem.W.Frag) : DSp := fun ds S Q _ => ∃ (l : Nat) (w : Wd) (r : Row) (n : Str), ds = [.ref l, rowD r, .str n] ∧ S l = some (w.ob (cW K)) ∧ WOk w ∧ ROk w r ∧ n ∈ w.names ∧ Q (.str (w.val r n)) S
def sp_World_fits (K : PySem.W.Frag) : DSp := fun ds S Q _ => ∃ (l : Nat) (w : Wd) (r : Row) (ts : List (Str × Str)), ds = [.ref l, rowD r, .tup (ts.map testD)] ∧ S l = some (w.ob (cW K)) ∧ WOk w ∧ ROk w r ∧ ts.length ≤ 100 ∧ (∀ t ∈ ts, t.1 ∈ w.names ∧ PyData.strOk t.2 = true) ∧ Q (.bl (w.fits r ts)) S
def sp_World_answer (K : PySem.W.Frag) : DSp := fun ds S Q _ => ∃ (l : Nat) (w : Wd) (r : Row), ds = [.ref l, rowD r] ∧ S l = some (w.ob (cW K)) ∧ WOk w ∧ ROk w r ∧ Q (.str (w.ans r)) S
def sp_World_check (K : PySem.W.Frag) : DSp := fun ds S Q _ => ∃ (l : Nat) (w : Wd) (r : Row) (v : D), ds = [.ref l, v] ∧ S l = some (w.ob (cW K)) ∧ WOk w ∧ r ∈ w.rows ∧ topO S 8 v = some (rowD r) ∧ Q (rowD r) S
theorem seq_lst {S : Sto} {v : D} {ds : List D} (h : lstD S v = some ds) : seqD S v = some ds := by
  cases v with
  | lst _ => exact h
  | kl _ => exact h
  | ref l => exact h
  | _ => cases h
theorem seqD_ref (S : Sto) (l : Nat) : seqD S (.ref l) = (match S l with
    | some (.lst ds) => some ds
    | _ => none) := rfl
theorem lstD_ref (S : Sto) (l : Nat) : lstD S (.ref l) = (match S l with
    | some (.lst ds) => some ds
    | _ => none) := rfl
theorem seqD_tup (S : Sto) (ds : List D) : seqD S (.tup ds) = some ds := rfl
theorem seqD_lst (S : Sto) (ds : List D) : seqD S (.lst ds) = some ds := rfl
theorem lstD_lst (S : Sto) (ds : List D) : lstD S (.lst ds) = some ds := rfl
theorem lstR_lst (S : Sto) (ds : List D) : lstR S (.lst ds) = some ds := rfl
theorem tupOf_lst (ds es : List D) : tupOf (.lst ds) es = .tup es := rfl
theorem tupOf_ref (l : Nat) (es : List D) : tupOf (.ref l) es = .tup es := rfl
theorem tupOf_tup (ds es : List D) : tupOf (.tup ds) es = .tup es := rfl
theorem atI_0 {α : Type} (a : α) (r : List α) : atI (a :: r) 0 = some a := atI_nat (j := 0) rfl
theorem atI_1 {α : Type} (a b : α) (r : List α) : atI (a :: b :: r) 1 = some b := atI_nat (j := 1) rfl
theorem atI_2 {α : Type} (a b c : α) (r : List α) : atI (a :: b :: c :: r) 2 = some c := atI_nat (j := 2) rfl
theorem ixN_30 : ixN 3 0 = some 0 := rfl
theorem ixN_32 : ixN 3 2 = some 2 := rfl
theorem small_sz {n : Nat} (h : n ≤ 16777216) : n ≤ sizeLine := by rw [sizeLine_eq]; exact h
theorem gs_lst {S : Sto} {ds : List D} {o : Ob} : (gsOf (.lst ds) o).ok S := Gs.ok_nil
theorem gs_tup {S : Sto} {ds : List D} {o : Ob} : (gsOf (.tup ds) o).ok S := Gs.ok_nil
theorem gs_ref {S : Sto} {l : Nat} {o : Ob} (h : S l = some o) : (gsOf (.ref l) o).ok S := fun g hg => by
  have e : g = (l, o) := by simpa [gsOf] using hg
  subst e
  exact h
theorem cdiv {i j : Int} (h : 0 < j) (h2 : j < 1073741824) : CDiv i j := ⟨h, h2⟩
theorem set_self {S : Sto} {l : Nat} {o : Ob} (h : S l = some o) : S.set l o = S := by
  funext m
  unfold Sto.set
  by_cases e : m = l
  · subst e; rw [if_pos rfl, h]
  · rw [if_neg e]
theorem BxO.mono {o : Ob} {c d : Int} (h : BxO o c) (k : c ≤ d) : BxO o d := by
  obtain ⟨a, b, e, h1, h2, h3, h4, h5, h6⟩ := h
  exact ⟨a, b, e, h1, h2, h3, h4, h5, by omega⟩
theorem Bx.mono {S : Sto} {l : Nat} {c d : Int} (h : Bx S l c) (k : c ≤ d) : Bx S l d := let ⟨o, h1, h2⟩ := h; ⟨o, h1, h2.mono k⟩
theorem Bx.of {S : Sto} {l : Nat} {o : Ob} {c : Int} (h : BxO o c) : Bx (S.set l o) l c := ⟨o, Sto.set_same, h⟩
theorem frzO_lst (ds : List D) : frzO (.lst ds) = some (.lst ds) := rfl
theorem pyDs_cons {d : D} {ds : List D} {p : PyData} {ps : List PyData} (h : pyD d = some p) (h2 : pyDs ds = some ps) : pyDs (d :: ds) = some (p :: ps) := by
  show ((pyD d).bind fun p => (pyDs ds).map fun ps => p :: ps) = _
  rw [h, h2]; rfl
theorem pyDs_map {α : Type} {f : α → D} {g : α → PyData} (h : ∀ a, pyD (f a) = some (g a)) : ∀ xs : List α, pyDs (xs.map f) = some (xs.map g)
  | [] => rfl
  | a :: xs => pyDs_cons (h a) (pyDs_map h xs)
theorem pyD_tup {ds : List D} {ps : List PyData} (h : pyDs ds = some ps) : pyD (.tup ds) = some (.tuple ps) := by
  show (pyDs ds).map PyData.tuple = _
  rw [h]; rfl
theorem pyD_lst {ds : List D} {ps : List PyData} (h : pyDs ds = some ps) : pyD (.lst ds) = some (.list ps) := by
  show (pyDs ds).map PyData.list = _
  rw [h]; rfl
theorem pyDs_strs (xs : List Str) : pyDs (xs.map .str) = some (xs.map .str) := pyDs_map (fun _ => rfl) xs
theorem pyR_of {S : Sto} {d : D} {p : PyData} (h : pyD d = some p) : pyR S d = some p := by
  cases d with
  | ref l => cases h
  | _ => exact h
theorem eqv_str (a b : Str) : PyData.eqv (.str a) (.str b) = decide (a = b) := by
  show (a == b) = _
  rw [Bool.eq_iff_iff, beq_iff_eq, decide_eq_true_iff]
theorem eqvAll_map {α : Type} [DecidableEq α] {g : α → PyData} (h : ∀ a b, PyData.eqv (g a) (g b) = decide (a = b)) : ∀ xs ys : List α, PyData.eqvAll (xs.map g) (ys.map g) = decide (xs = ys)
  | [], [] => rfl
  | [], _ :: _ => rfl
  | _ :: _, [] => rfl
  | a :: xs, b :: ys => by
    show (PyData.eqv (g a) (g b) && PyData.eqvAll (xs.map g) (ys.map g)) = _
    rw [h, eqvAll_map h xs ys, Bool.eq_iff_iff]
    simp
theorem eqv_nil {ps : List PyData} : PyData.eqv (.list ps) (.list []) = ps.isEmpty := by cases ps <;> rfl
structure Shp (p : PyData) (n : Nat) : Prop where
  lay : p.canLay0 = true
  dep : p.depth ≤ n
theorem Shp.mono {p : PyData} {n m : Nat} (h : Shp p n) (k : n ≤ m) : Shp p m := ⟨h.lay, Nat.le_trans h.dep k⟩
theorem Shp.ok {p : PyData} {n : Nat} (h : Shp p n) (k : n ≤ 64 := by decide) : SeqAt.shaped p = true := by
  unfold SeqAt.shaped
  rw [h.lay, Bool.true_and, decide_eq_true_eq]
  exact Nat.le_trans h.dep k
theorem shp_str {x : Str} (h : PyData.strOk x = true) : Shp (.str x) 0 := ⟨by rw [PyData.canLay0]; exact h, Nat.le_refl _⟩
theorem shp_all {n : Nat} : ∀ {ps : List PyData}, (∀ p ∈ ps, Shp p n) → PyData.canLayAll0 ps = true ∧ PyData.depthAll ps ≤ n
  | [], _ => ⟨rfl, Nat.zero_le _⟩
  | p :: ps, h => by
    have h1 := h p List.mem_cons_self
    have h2 := shp_all (ps := ps) fun q hq => h q (List.mem_cons_of_mem _ hq)
    refine ⟨?_, ?_⟩
    · rw [PyData.canLayAll0, h1.lay, h2.1]; rfl
    · rw [PyData.depthAll]
      exact Nat.max_le.mpr ⟨h1.dep, h2.2⟩
theorem shp_list {n : Nat} {ps : List PyData} (h : ∀ p ∈ ps, Shp p n) : Shp (.list ps) (n + 1) := by
  obtain ⟨h1, h2⟩ := shp_all h
  exact ⟨by rw [PyData.canLay0]; exact h1, by rw [PyData.depth]; omega⟩
theorem shp_tup {n : Nat} {ps : List PyData} (h : ∀ p ∈ ps, Shp p n) : Shp (.tuple ps) (n + 1) := by
  obtain ⟨h1, h2⟩ := shp_all h
  exact ⟨by rw [PyData.canLay0]; exact h1, by rw [PyData.depth]; omega⟩
theorem shp_map {α : Type} {n : Nat} {g : α → PyData} {xs : List α} (h : ∀ a ∈ xs, Shp (g a) n) : ∀ p ∈ xs.map g, Shp p n := fun p hp => by
  obtain ⟨a, ha, rfl⟩ := List.mem_map.mp hp
  exact h a ha
theorem shp_nil {n : Nat} : Shp (.list []) (n + 1) := shp_list fun _ h => by cases h
theorem compW_on {α : Type} {gs : Gs} {t : Tg} {tt : DT} {te : DE} {ρ : En} {Q : List D → Sto → Prop} {S : Sto} (g : α → D) (f : α → Option D) : ∀ (xs : List α) (acc : List D), gs.ok S → acc.length + xs.length ≤ sizeLine →
    (∀ a ∈ xs, ∀ (S' : Sto) (Py : DK) (Pn : Sto → Prop), S.sub S' → (∀ v, f a = some v → Py v S') → (f a = none → Pn S') → turn t tt te ρ (g a) S' Py Pn) → Q (acc ++ xs.filterMap f) S → compW gs t tt te ρ Q (xs.map g) acc S
  | [], acc, h, _, _, q => ⟨h, by simpa using q⟩
  | d :: ds, acc, ok, hz, h, q => by
    refine ⟨ok, by simp at hz; omega, fun l o hl => ?_⟩
    have ih := fun acc' (hz' : acc'.length + ds.length ≤ sizeLine) (q' : Q (acc' ++ ds.filterMap f) S) => compW_on (gs := gs) (t := t) (tt := tt) (te := te) (ρ := ρ) g f ds acc' ok hz' (fun d' hd => h d' (List.mem_cons_of_mem _ hd)) q'
    refine h d List.mem_cons_self (S.set l o) _ _ (Sto.sub_set hl) (fun v e => ⟨Sto.set_same, S, ?_, ih (acc ++ [v]) (by simp at hz ⊢; omega) ?_⟩) fun e => ⟨Sto.set_same, S, ?_, ih acc (by simp at hz ⊢; omega) ?_⟩
    · rw [Sto.del_set hl]; exact Sto.sub_refl _
    · rw [List.filterMap_cons, e] at q
      simpa using q
    · rw [Sto.del_set hl]; exact Sto.sub_refl _
    · rw [List.filterMap_cons, e] at q
      exact q
theorem compW_all {α : Type} {gs : Gs} {t : Tg} {te : DE} {ρ : En} {Q : List D → Sto → Prop} {S : Sto} (g : α → D) (f : α → D) {xs : List α} (ok : gs.ok S) (hz : xs.length ≤ sizeLine)
    (h : ∀ a ∈ xs, ∀ (S' : Sto) (Py : DK), S.sub S' → Py (f a) S' → t.d (g a) ρ fun ρ1 => te ρ1 S' Py) (q : Q (xs.map f) S) : compW gs t dYes te ρ Q (xs.map g) [] S := by
  refine compW_on g (fun a => some (f a)) xs [] ok (by simpa using hz) (fun d hd S' Py Pn s hy _ => ?_) ?_
  · have z := h d hd S' Py s (hy _ rfl)
    cases t with
    | one i => exact z
    | many is => exact z
  · rw [List.nil_append]
    show Q (xs.filterMap (some ∘ f)) S
    rw [List.filterMap_eq_map]; exact q
theorem nextW_on {α : Type} {gs : Gs} {t : Tg} {tt : DT} {te : DE} {ρ : En} {z : D} {Q : DK} {S : Sto} (g : α → D) (f : α → Option D) : ∀ (xs : List α), gs.ok S →
    (∀ a ∈ xs, ∀ (Py : DK) (Pn : Sto → Prop), (∀ v, f a = some v → Py v S) → (f a = none → Pn S) → turn t tt te ρ (g a) S Py Pn) → Q ((xs.findSome? f).getD z) S → nextW gs t tt te ρ z Q (xs.map g) S
  | [], ok, _, q => ⟨ok, q⟩
  | d :: ds, ok, h, q => by
    have ih := fun (q' : Q ((ds.findSome? f).getD z) S) => nextW_on (gs := gs) (t := t) (tt := tt) (te := te) (ρ := ρ) g f ds ok (fun d' hd => h d' (List.mem_cons_of_mem _ hd)) q'
    refine ⟨ok, h d List.mem_cons_self _ _ (fun v e => ?_) fun e => ⟨S, Sto.sub_refl _, ih ?_⟩⟩
    · rw [List.findSome?_cons, e] at q
      exact q
    · rw [List.findSome?_cons, e] at q
      exact q
theorem fm_if {α β : Type} (p : α → Bool) (f : α → β) : ∀ xs : List α, (xs.filterMap fun x => if p x = true then some (f x) else none) = (xs.filter p).map f
  | [] => rfl
  | a :: xs => by
    rw [List.filterMap_cons, List.filter_cons, fm_if p f xs]
    by_cases h : p a = true <;> simp [h]
theorem comp2_one {α β : Type} {gs gs1 : Gs} {i j : Nat} {vs1 : List Nat} {di1 : DI} {te : DE} {ρ : En} {Q : List D → Sto → Prop} {S : Sto} (g : α → D) (g1 : β → D) (f : α → β → D) {ys : List β} (ok : gs.ok S) (ok1 : gs1.ok S) : ∀ (xs : List α) (acc : List D),
    (∀ a ∈ xs, ∀ (S' : Sto) (R : List D → Gs → Sto → Prop), S.sub S' → R (ys.map g1) gs1 S' → di1 (ρ.set i (some (g a))) S' R) →
    (∀ a ∈ xs, ∀ b ∈ ys, ∀ (S' : Sto) (Py : DK), S.sub S' → Py (f a b) S' → te ((wipeD (ρ.set i (some (g a))) vs1).set j (some (g1 b))) S' Py) →
    acc.length + xs.length * ys.length ≤ sizeLine → Q (acc ++ xs.flatMap fun a => ys.map (f a)) S → comp2W gs (.one i) dYes di1 (.one j) dYes te vs1 ρ Q (xs.map g) acc S
  | [], acc, _, _, _, q => ⟨ok, by simpa using q⟩
  | a :: xs, acc, hi, he, hz, q => by
    have hz' : acc.length + ys.length + xs.length * ys.length ≤ sizeLine := by
      rw [List.length_cons, Nat.succ_mul] at hz
      omega
    refine ⟨ok, fun l o hl => ?_⟩
    show di1 (ρ.set i (some (g a))) (S.set l o) _
    refine hi a List.mem_cons_self (S.set l o) _ (Sto.sub_set hl) ⟨Sto.set_same, S, by rw [Sto.del_set hl]; exact Sto.sub_refl _, ?_⟩
    refine compW_on g1 (fun b => some (f a b)) ys acc ok1 (by omega) (fun b hb S' Py Pn s hy _ => he a List.mem_cons_self b hb S' Py s (hy _ rfl)) ⟨S, Sto.sub_refl _, ?_⟩
    have e : (ys.filterMap fun b => some (f a b)) = ys.map (f a) := by
      show ys.filterMap (some ∘ f a) = _
      rw [List.filterMap_eq_map]
    rw [e]
    refine comp2_one g g1 f ok ok1 xs (acc ++ ys.map (f a)) (fun x hx => hi x (List.mem_cons_of_mem _ hx)) (fun x hx => he x (List.mem_cons_of_mem _ hx)) (by rw [List.length_append, List.length_map]; exact hz') ?_
    rw [List.flatMap_cons, ← List.append_assoc] at q
    exact q
theorem dicW_all {α : Type} {gs : Gs} {t : Tg} {tk tv : DE} {ρ : En} {Q : List Key → List D → Sto → Prop} {S : Sto} (g : α → D) (k : α → Key) (f : α → D) (ok : gs.ok S) : ∀ (xs : List α) (ks : List Key) (es : List D), (ks ++ xs.map k).Nodup → ks.length + xs.length ≤ sizeLine →
    (∀ a ∈ xs, ∀ (S' : Sto) (P : D → D → Sto → Prop), S.sub S' → P (kD (k a)) (f a) S' → t.d (g a) ρ fun ρ1 => tk ρ1 S' fun y S3 => tv ρ1 S3 fun z S4 => P y z S4) → Q (ks ++ xs.map k) (es ++ xs.map f) S → dicW gs t dYes tk tv ρ Q (xs.map g) ks es S
  | [], ks, es, _, _, _, q => ⟨ok, by simpa using q⟩
  | a :: xs, ks, es, hn, hz, h, q => by
    refine ⟨ok, by simp at hz; omega, fun l o hl => ?_⟩
    have hk : ¬ (ks.any fun x => decide (x = k a)) = true := fun z => by
      obtain ⟨x, hx, e⟩ := List.any_eq_true.mp z
      have e := of_decide_eq_true e
      subst e
      exact (List.nodup_append.mp hn).2.2 _ hx _ (by simp) rfl
    have e1 : putKs ks (k a) = ks ++ [k a] := by unfold putKs; rw [if_neg hk]
    have e2 : putDs ks es (k a) (f a) = es ++ [f a] := by unfold putDs; rw [if_neg hk]
    have z := h a List.mem_cons_self (S.set l o) (fun y z S4 => ∃ k, y = kD k ∧ S4 l = some o ∧ ∃ S5, S5.sub (S4.del l) ∧ dicW gs t dYes tk tv ρ Q (xs.map g) (putKs ks k) (putDs ks es k z) S5) (Sto.sub_set hl) ⟨k a, rfl, Sto.set_same, S, by rw [Sto.del_set hl]; exact Sto.sub_refl _, by
      rw [e1, e2]
      exact dicW_all g k f ok xs _ _ (by simpa using hn) (by simp at hz ⊢; omega) (fun x hx => h x (List.mem_cons_of_mem _ hx)) (by simpa using q)⟩
    cases t with
    | one i => exact z
    | many is => exact z
end LK
end
section
set_option Elab.async false
set_option linter.all false
set_option maxRecDepth 100000
set_option maxHeartbeats 2000000
namespace LK
open PySem PySem.Spec PyProof.Rows L2 L3
abbrev N__law_box : List Str := ["_law_script", "_law_k", "_law_cell"]
def d__law_box : DS :=
  dSeq (dSet 2 (dIf (dTst (dOp oLtI (dVar 1) (dCB bLen (aCons (dVar 0) (aNil))))) (dOp oIx (dVar 0) (dVar 1)) (dC (.int 0))))
    (dRet (dLst (aCons (dOp oMulI (dCB bAbs (aCons (dVar 2) (aNil))) (dCB bInt (aCons (dOp oGeI (dCB bAbs (aCons (dVar 2) (aNil))) (dOp oPowI (dC (.int 10)) (dC (.int 18)))) (aNil)))) (aCons (dOp oAddI (dOp oAddI (dOp oModI (dCB bInt (aCons (dVar 2) (aNil))) (dC (.int 2305843009213693951))) (dOp oMulI (dC (.int 39373)) (dVar 1))) (dC (.int 223))) (aCons (dC (.int 0)) (aNil))))))
abbrev N__law_cells : List Str := ["_law_script", "_law_most", "_law_cells_here", "_law_k", "_law_cell", "_law_at_so"]
def d__law_cells : DS :=
  dSeq (dSet 2 (dOrT (dCB bList (aCons (dSl (dVar 0) (dNoP) (dPart (dVar 1))) (aNil))) (dLst (aCons (dC (.int 0)) (aNil)))))
    (dSeq (dFor (iEn (aCons (dSl (dVar 0) (dPart (dVar 1)) (dPart (dC (.int 63)))) (aNil))) (.many [3, 4]) (dSeq (dSet 5 (dOp oModI (dCB bInt (aCons (dVar 3) (aNil))) (dVar 1)))
    (dAsg (dOp oAddI (dOp oIx (dVar 2) (dVar 5)) (dOp oMulI (dVar 4) (dOp oAddI (dVar 3) (dC (.int 2))))) (gdSub (dVar 2) (dVar 5)))))
    (dRet (dVar 2)))
abbrev N__law_names : List Str := ["_law_world_so", "_law_row_so"]
def d__law_names : DS :=
  dRet (dFrz (dLc (iSeq (dOp oIx (dVar 0) (dC (.int 0)))) (.one 1) (dYes) (dOp oIx (dVar 1) (dC (.int 0))) [1]))
abbrev N__law_value : List Str := ["_law_world_so", "_law_request_so", "_law_name_so"]
def d__law_value : DS :=
  dRet (dOp oIx (dVar 1) (dBM "list" mIndex (dCall (sp__law_names) noX (aCons (dVar 0) (aNil))) (aCons (dVar 2) (aNil))))
abbrev N__law_fits : List Str := ["_law_world_so", "_law_request_so", "_law_rule", "_law_own"]
def d__law_fits : DS :=
  dRet (dOp oEqD (dFrz (dLc (iSeq (dOp oIx (dVar 2) (dC (.int 0)))) (.one 3) (dTst (dOp oNeD (dCall (sp__law_value) noX (aCons (dVar 0) (aCons (dVar 1) (aCons (dOp oIx (dVar 3) (dC (.int 0))) (aNil))))) (dOp oIx (dVar 3) (dC (.int 1))))) (dVar 3) [3])) (dFrz (dLst (aNil))))
abbrev N__law_answer : List Str := ["_law_world_so", "_law_request_so", "_law_rule"]
def d__law_answer : DS :=
  dRet (dOp oIx (dFrz (dOp oAddL (dFrz (dLc (iSeq (dOp oIx (dVar 0) (dC (.int 1)))) (.one 2) (dTst (dCall (sp__law_fits) noX (aCons (dVar 0) (aCons (dVar 1) (aCons (dVar 2) (aNil)))))) (dOp oIx (dVar 2) (dC (.int 1))) [2])) (dFrz (dLst (aCons (dC (.str "")) (aNil)))))) (dC (.int 0)))
abbrev N__law_requests : List Str := ["_law_world_so", "_law_rows_so", "_law_name_so", "_law_values_so", "_law_longer", "_law_row_so", "_law_own"]
def d__law_requests : DS :=
  dSeq (dSet 1 (dFrz (dLst (aCons (dTup (aNil)) (aNil)))))
    (dSeq (dFor (iSeq (dOp oIx (dVar 0) (dC (.int 0)))) (.many [2, 3]) (dSeq (dSet 4 (dFrz (dLst (aNil))))
    (dSeq (dFor (iSeq (dVar 1)) (.one 5) (dSet 4 (dFrz (dOp oAddL (dVar 4) (dFrz (dLc (iSeq (dOp oAddT (dTup (aCons (dC (.str "")) (aNil))) (dVar 3))) (.one 6) (dYes) (dOp oAddT (dVar 5) (dTup (aCons (dVar 6) (aNil)))) [6]))))))
    (dSet 1 (dFrz (dCB bList (aCons (dVar 4) (aNil))))))))
    (dRet (dVar 1)))
abbrev N__law_same : List Str := ["_law_got", "_law_due", "_law_own", "_law_mine", "_law_its"]
def d__law_same (n : Nat) : DS :=
  dSeq (dIfS (dTst (dIsi2 "list" "tuple" (dVar 1))) (dSeq (dIfS (dOr (dTst (dOp oNeD (dIsi "list" (dVar 0)) (dIsi "list" (dVar 1)))) (dTst (dOp oNeD (dIsi "tuple" (dVar 0)) (dIsi "tuple" (dVar 1))))) (dRet (dC (.bl false))) (dNext))
    (dRet (dAndV (dOp oEqD (dCB bLen (aCons (dVar 0) (aNil))) (dCB bLen (aCons (dVar 1) (aNil)))) (dCB bAll (aCons (dLc (iZpA (aCons (dVar 0) (aCons (dVar 1) (aNil)))) (.many [3, 4]) (dYes) (dCall (sp__law_same n) noX (aCons (dVar 3) (aCons (dVar 4) (aNil)))) [3, 4]) (aNil)))))) (dNext))
    (dSeq (dIfS (dTst (dIsi "dict" (dVar 1))) (dSeq (dIfS (dOr (dNot (dTst (dIsi "dict" (dVar 0)))) (dOr (dTst (dOp oNeD (dCB bLen (aCons (dVar 0) (aNil))) (dCB bLen (aCons (dVar 1) (aNil))))) (dTst (dOp oNeD (dFrz (dLc (iSeq (dVar 1)) (.one 2) (dTst (dOp oNotInD (dVar 2) (dVar 0))) (dVar 2) [2])) (dFrz (dLst (aNil))))))) (dRet (dC (.bl false))) (dNext))
    (dRet (dCB bAll (aCons (dLc (iSeq (dVar 1)) (.one 2) (dYes) (dCall (sp__law_same n) noX (aCons (dOp oIx (dVar 0) (dVar 2)) (aCons (dOp oIx (dVar 1) (dVar 2)) (aNil)))) [2]) (aNil))))) (dNext))
    (dSeq (dIfS (dOr (dTst (dOp oIsN (dVar 1) (dC .non))) (dTst (dIsi2 "bool" "str" (dVar 1)))) (dRet (dAndV (dOp oEqD (dVar 0) (dVar 1)) (dAndV (dOp oEqD (dIsi "bool" (dVar 0)) (dIsi "bool" (dVar 1))) (dOp oEqD (dOp oIsN (dVar 0) (dC .non)) (dOp oIsN (dVar 1) (dC .non)))))) (dNext))
    (dRet (dAndV (dIsi "int" (dVar 0)) (dAndV (dNotV (dIsi "bool" (dVar 0))) (dOp oEqD (dVar 0) (dVar 1)))))))
abbrev N__law_take : List Str := ["_law_box_here", "_law_below", "_law_once", "_law_far", "_law_twice", "_law_drawn"]
def d__law_take : DS :=
  dSeq (dIfS (dTst (dOp oGtI (dOp oIx (dVar 0) (dC (.int 0))) (dC (.int 0)))) (dSeq (dSet 5 (dOp oModI (dCB bInt (aCons (dOp oIx (dVar 0) (dC (.int 0))) (aNil))) (dVar 1)))
    (dSeq (dAsg (dOp oDivI (dOp oIx (dVar 0) (dC (.int 0))) (dVar 1)) (gdSub (dVar 0) (dC (.int 0))))
    (dRet (dVar 5)))) (dNext))
    (dSeq (dAsg (dOp oAddI (dOp oIx (dVar 0) (dC (.int 2))) (dC (.int 1))) (gdSub (dVar 0) (dC (.int 2))))
    (dSeq (dSet 2 (dOp oModI (dCB bInt (aCons (dOp oMulI (dOp oAddI (dOp oIx (dVar 0) (dC (.int 1))) (dOp oMulI (dC (.int 48271)) (dOp oIx (dVar 0) (dC (.int 2))))) (dOp oAddI (dC (.int 39373)) (dOp oIx (dVar 0) (dC (.int 2))))) (aNil))) (dC (.int 2147483647))))
    (dSeq (dSet 3 (dOp oAddI (dOp oModI (dCB bInt (aCons (dVar 2) (aNil))) (dC (.int 40009))) (dC (.int 7))))
    (dSeq (dSet 4 (dOp oModI (dCB bInt (aCons (dOp oMulI (dOp oAddI (dOp oAddI (dVar 2) (dOp oIx (dVar 0) (dC (.int 2)))) (dOp oDivI (dOp oIx (dVar 0) (dC (.int 1))) (dC (.int 1000003)))) (dVar 3)) (aNil))) (dC (.int 2147483629))))
    (dRet (dOp oModI (dCB bInt (aCons (dOp oDivI (dOp oModI (dCB bInt (aCons (dOp oAddI (dOp oMulI (dVar 4) (dC (.int 48271))) (dVar 2)) (aNil))) (dC (.int 2147483587))) (dC (.int 64))) (aNil))) (dVar 1)))))))
abbrev N__law_of : List Str := ["_law_box_here", "_law_some"]
def d__law_of : DS :=
  dRet (dOp oIx (dVar 1) (dCall (sp__law_take) noX (aCons (dVar 0) (aCons (dCB bLen (aCons (dVar 1) (aNil))) (aNil)))))
abbrev N__law_pick : List Str := ["_law_box_here", "_law_names_so", "_law_many_so", "_law_turn", "_law_rest", "_law_some"]
def d__law_pick : DS :=
  dSeq (dPar 4 5 (aCons (dCB bList (aCons (dVar 1) (aNil))) (aCons (dLst (aNil)) (aNil))))
    (dSeq (dFor (iR1 (aCons (dCB bMin2 (aCons (dVar 2) (aCons (dCB bLen (aCons (dVar 4) (aNil))) (aNil)))) (aNil))) (.one 3) (dDrop (dBM "list" mAppend (dVar 5) (aCons (dBM "list" mPopAt (dVar 4) (aCons (dCall (sp__law_take) noX (aCons (dVar 0) (aCons (dCB bLen (aCons (dVar 4) (aNil))) (aNil)))) (aNil))) (aNil)))))
    (dRet (dVar 5)))
abbrev N__law_world : List Str := ["_law_box_here", "_law_sizes_here", "_law_names_so", "_law_heads", "_law_k", "_law_rules_so", "_law_turn", "_law_some", "_law_tests", "_law_name_so", "_law_values_so"]
def d__law_world : DS :=
  dSeq (dSet 2 (dFrz (dCB bSortS (aCons (dCall (sp__law_pick) noX (aCons (dVar 0) (aCons (dFrz (dLst (aCons (dC (.str "a")) (aCons (dC (.str "dev")) (aCons (dC (.str "enc")) (aCons (dC (.str "lang")) (aCons (dC (.str "q")) (aCons (dC (.str "zip")) (aNil))))))))) (aCons (dCB bLen (aCons (dVar 1) (aNil))) (aNil))))) (aNil)))))
    (dSeq (dSet 3 (dLst (aNil)))
    (dSeq (dFor (iR1 (aCons (dCB bLen (aCons (dVar 1) (aNil))) (aNil))) (.one 4) (dSeq (dSet 7 (dCall (sp__law_pick) noX (aCons (dVar 0) (aCons (dFrz (dLst (aCons (dC (.str "de")) (aCons (dC (.str "fr")) (aCons (dC (.str "m")) (aCons (dC (.str "x")) (aCons (dC (.str "y")) (aNil)))))))) (aCons (dOp oAddI (dC (.int 1)) (dCall (sp__law_take) noX (aCons (dVar 0) (aCons (dOp oIx (dVar 1) (dVar 4)) (aNil))))) (aNil))))))
    (dDrop (dBM "list" mAppend (dVar 3) (aCons (dTup (aCons (dOp oIx (dVar 2) (dVar 4)) (aCons (dCB bTuple (aCons (dFrz (dCB bSortS (aCons (dVar 7) (aNil)))) (aNil))) (aNil)))) (aNil))))))
    (dSeq (dSet 5 (dLst (aNil)))
    (dSeq (dFor (iR1 (aCons (dOp oAddI (dC (.int 2)) (dCall (sp__law_take) noX (aCons (dVar 0) (aCons (dC (.int 4)) (aNil))))) (aNil))) (.one 6) (dSeq (dSet 8 (dLst (aNil)))
    (dSeq (dFor (iSeq (dCall (sp__law_pick) noX (aCons (dVar 0) (aCons (dVar 3) (aCons (dCall (sp__law_of) noX (aCons (dVar 0) (aCons (dFrz (dLst (aCons (dC (.int 1)) (aCons (dC (.int 1)) (aCons (dC (.int 2)) (aCons (dC (.int 2)) (aCons (dC (.int 3)) (aNil)))))))) (aNil)))) (aNil)))))) (.many [9, 10]) (dDrop (dBM "list" mAppend (dVar 8) (aCons (dTup (aCons (dVar 9) (aCons (dCall (sp__law_of) noX (aCons (dVar 0) (aCons (dFrz (dOp oAddL (dFrz (dOp oRepL (dFrz (dCB bList (aCons (dVar 10) (aNil)))) (dC (.int 3)))) (dFrz (dLst (aCons (dC (.str "")) (aCons (dC (.str "none")) (aNil))))))) (aNil)))) (aNil)))) (aNil)))))
    (dDrop (dBM "list" mAppend (dVar 5) (aCons (dTup (aCons (dCB bTuple (aCons (dVar 8) (aNil))) (aCons (dCall (sp__law_of) noX (aCons (dVar 0) (aCons (dFrz (dLst (aCons (dC (.str "eng")) (aCons (dC (.str "fra")) (aCons (dC (.str "mob")) (aNil)))))) (aNil)))) (aNil)))) (aNil)))))))
    (dSeq (dIfS (dTst (dOp oGtI (dCall (sp__law_take) noX (aCons (dVar 0) (aCons (dC (.int 3)) (aNil)))) (dC (.int 0)))) (dDrop (dBM "list" mAppend (dVar 5) (aCons (dTup (aCons (dTup (aNil)) (aCons (dCall (sp__law_of) noX (aCons (dVar 0) (aCons (dFrz (dLst (aCons (dC (.str "eng")) (aCons (dC (.str "fra")) (aCons (dC (.str "mob")) (aCons (dC (.str "old")) (aNil))))))) (aNil)))) (aNil)))) (aNil)))) (dNext))
    (dRet (dTup (aCons (dCB bTuple (aCons (dVar 3) (aNil))) (aCons (dCB bTuple (aCons (dVar 5) (aNil))) (aNil))))))))))
abbrev N_tupled : List Str := ["thing", "part"]
def d_tupled (n : Nat) : DS :=
  dRet (dWkA (dIf (dTst (dIsi2 "list" "tuple" (dVar 0))) (dTupL (dLc (iSeq (dVar 0)) (.one 1) (dYes) (dCall (sp_tupled n) noX (aCons (dVar 1) (aNil))) [1])) (dVar 0)))
abbrev N_World_init : List Str := ["self", "world", "values", "headers", "name", "request", "value"]
def d_World_init (K : PySem.W.Frag) : DS :=
  dSeq (dAsg (dCall (sp_tupled 8) noX (aCons (dVar 1) (aNil))) (gdTup 2 (gdCons (gdName 3) (gdCons (gdSlot (He.ga K "World") 1 (dVar 0)) (gdNil)))))
    (dSeq (dSetSlot (He.ga K "World") 2 (dVar 0) (dFrz (dDc (iSeq (dVar 3)) (.many [4, 2]) (dYes) (dVar 4) (dTupK (aCons (dC (.str "")) (aStar (dVar 2) (aNil)))) [4, 2])))
    (dSeq (dSetSlot (He.ga K "World") 0 (dVar 0) (dFrz (dLst (aCons (dTup (aNil)) (aNil)))))
    (dFor (iSeq (dFrz (dListV (dSlot (He.ga K "World") 2 (dVar 0))))) (.one 2) (dSetSlot (He.ga K "World") 0 (dVar 0) (dFrz (dLc2 (iSeq (dSlot (He.ga K "World") 0 (dVar 0))) (.one 5) (dYes) (iSeq (dVar 2)) (.one 6) (dYes) (dTup (aStar (dVar 5) (aCons (dVar 6) (aNil)))) [5, 6] [6]))))))
abbrev N_World_headers : List Str := ["self"]
def d_World_headers (K : PySem.W.Frag) : DS :=
  dRet (dFrz (dCB bListD (aCons (dSlot (He.ga K "World") 2 (dVar 0)) (aNil))))
abbrev N_World_value : List Str := ["self", "request", "name"]
def d_World_value (K : PySem.W.Frag) : DS :=
  dRet (dOp oIx (dVar 1) (dBM "list" mIndex (dMethSl (He.ga K "World") (sp_World_headers K) noX (dVar 0) aNil) (aCons (dVar 2) (aNil))))
abbrev N_World_fits : List Str := ["self", "request", "tests", "name", "value"]
def d_World_fits (K : PySem.W.Frag) : DS :=
  dRet (dCB bAll (aCons (dLc (iSeq (dVar 2)) (.many [3, 4]) (dYes) (dOp oEqD (dMethSl (He.ga K "World") (sp_World_value K) noX (dVar 0) (aCons (dVar 1) (aCons (dVar 3) (aNil)))) (dVar 4)) [3, 4]) (aNil)))
abbrev N_World_answer : List Str := ["self", "request", "tests", "told"]
def d_World_answer (K : PySem.W.Frag) : DS :=
  dRet (dNextG (iSeq (dSlot (He.ga K "World") 1 (dVar 0))) (.many [2, 3]) (dTst (dMethSl (He.ga K "World") (sp_World_fits K) noX (dVar 0) (aCons (dVar 1) (aCons (dVar 2) (aNil))))) (dVar 3) [2, 3] (.str ""))
abbrev N_World_check : List Str := ["self", "request", "found"]
def d_World_check (K : PySem.W.Frag) : DS :=
  dSeq (dSet 2 (dCall (sp_tupled 8) noX (aCons (dVar 1) (aNil))))
    (dSeq (dIfS (dTst (dOp oNotInD (dVar 2) (dSlot (He.ga K "World") 0 (dVar 0)))) ((fun _ _ _ => False)) (dNext))
    (dRet (dVar 2)))
abbrev N_World_requests : List Str := ["self"]
def d_World_requests (K : PySem.W.Frag) : DS :=
  dRet (dCB bList (aCons (dSlot (He.ga K "World") 0 (dVar 0)) (aNil)))
end LK
end
section
set_option Elab.async false
set_option linter.all false
set_option maxRecDepth 100000
set_option maxHeartbeats 400000
namespace LK
open PySem PySem.Spec PyProof.Rows L2 L3
theorem v__law_box : ∀ ds S Q E, sp__law_box ds S Q E → d__law_box (EndsD Q) (startD N__law_box ds) S := by
  rintro ds S Q E ⟨v, ns, k, rfl, hv, hn, h0, h1, q⟩
  simp only [d__law_box, N__law_box, dWkA, dTupK, dTupL, dTupIx, dDictP, dDc2, dFor, dWhile, dLc, dLc2, dDc, dNextG, iSeq, iR1, iR2, iEn, iZpA, iZ2, iZ3, dSortK, dSortKF, dSortSet, dSortSetF, dBreak, bSortT, bSortTF, bSum, bSumL, bSumLF, bMaxL, bMinL, dDicE, bSortD, bSortDF, dGet2, oInA, oNotInA, oIxA, gdSubA, dSeq, dSet, dIf, dIfS, dTst, dOp, dUn, dVar, dCB, aCons, aNil, aStar, dRet, dRetN, dNext, dDrop, dLst, dTup, dC, dAnd, dOr, dNot, dAndV, dOrV, dNotV, dPar, dAsg, gdName, gdSub, gdTup, gdCons, gdNil, gdSlot, dIsi, dIsi2, dSlot, dSetSlot, dMethSl, dMakeSl, dCall, dCallP, dBM, dFrz, dLstF, dLcF, dLc2F, dDcF, dSlF, dListVF, bListF, bListDF, bSortSF, oAddLF, oRepLF, dSl, dNoP, dPart, dListV, dTru, dOrT, EndsD, startD, oLtI, oLeI, oGtI, oGeI, oIx, oMulI, oPowI, oAddI, oSubI, oModI, oDivI, oI, oI0, oEqD, oNeD, oInD, oNotInD, oAddL, oAddT, oAddS, oRepL, bLen, bAbs, bInt, bMin2, bMax2, bAll, bAny, bTuple, bList, bListD, bSortS, mAppend, mPop, mPopAt, mExtend, mIndex, tupOf_lst, tupOf_ref, tupOf_tup, List.map_cons, List.map_nil, List.length_cons, List.length_nil, List.cons_append, List.nil_append, List.append_nil, List.replicate, List.set_cons_zero, List.set_cons_succ, List.getElem?_cons_zero, List.getElem?_cons_succ, Option.some.injEq, exists_eq_left', exists_eq_left, exists_and_left, D.int.injEq, D.bl.injEq, D.str.injEq, D.tup.injEq, D.lst.injEq, D.ref.injEq, List.cons.injEq, and_true, true_and, reduceCtorEq, false_and, and_false, exists_false, or_false, false_or, exists_const, Bool.false_eq_true, if_true, if_false, decide_eq_true_eq, Ob.lst.injEq, Ob.slt.injEq, Ob.dic.injEq, seqD_ref, lstD_ref, seqD_tup, seqD_lst, lstD_lst, lstR_lst, Sto.set_same, Sto.set_set, atI_0, atI_1, atI_2, Nat.reduceAdd, ixN_30, ixN_32]
  obtain ⟨m, rfl⟩ := Int.eq_ofNat_of_zero_le h0
  have cm : CMul 39373 (m : Int) := .inl ⟨by decide, by decide⟩
  have c1 : ∀ (x : Int) (c : Prop) [Decidable c], CMul x (if c then 1 else 0) := fun x c _ => .inr ⟨by split <;> decide, by split <;> decide⟩
  have bx : ∀ (x y : Int) (c : Prop) [Decidable c], BxO (.lst [.int ((if x < 0 then -x else x) * if c then 1 else 0), .int (y % 2305843009213693951 + 39373 * (m : Int) + 223), .int 0]) 0 := fun x y c _ => by
    have e1 := Int.emod_nonneg y (show (2305843009213693951 : Int) ≠ 0 by decide)
    have e2 := Int.emod_lt_of_pos y (show (0 : Int) < 2305843009213693951 by decide)
    refine ⟨_, _, _, rfl, Int.mul_nonneg (by split <;> omega) (by split <;> decide), by omega, by omega, Int.le_refl _, Int.le_refl _⟩
  refine .inl ⟨_, seq_lst hv, ?_⟩
  split
  · rename_i hlt
    have hm : m < ns.length := by simpa using hlt
    exact ⟨_, seq_lst hv, .int ns[m], atI_nat (by simp [hm]), _, rfl, _, rfl, ⟨by decide, by decide, by decide⟩, c1 _ _, .inl ⟨_, rfl, by decide, cm, small_sz (by decide), fun l hl => drp_of (q _ l (bx _ _ _) hl)⟩⟩
  · exact ⟨⟨by decide, by decide, by decide⟩, c1 _ _, by decide, cm, small_sz (by decide), fun l hl => drp_of (q _ l (bx 0 0 _) hl)⟩
theorem v__law_take : ∀ ds S Q E, sp__law_take ds S Q E → d__law_take (EndsD Q) (startD N__law_take ds) S := by
  rintro ds S Q E ⟨l, m, c, rfl, h0, h1, ⟨_, hS, a, b, k, rfl, ha, hb, hb2, hk, hkc⟩, hc, q⟩
  simp only [d__law_take, N__law_take, hS, dWkA, dTupK, dTupL, dTupIx, dDictP, dDc2, dFor, dWhile, dLc, dLc2, dDc, dNextG, iSeq, iR1, iR2, iEn, iZpA, iZ2, iZ3, dSortK, dSortKF, dSortSet, dSortSetF, dBreak, bSortT, bSortTF, bSum, bSumL, bSumLF, bMaxL, bMinL, dDicE, bSortD, bSortDF, dGet2, oInA, oNotInA, oIxA, gdSubA, dSeq, dSet, dIf, dIfS, dTst, dOp, dUn, dVar, dCB, aCons, aNil, aStar, dRet, dRetN, dNext, dDrop, dLst, dTup, dC, dAnd, dOr, dNot, dAndV, dOrV, dNotV, dPar, dAsg, gdName, gdSub, gdTup, gdCons, gdNil, gdSlot, dIsi, dIsi2, dSlot, dSetSlot, dMethSl, dMakeSl, dCall, dCallP, dBM, dFrz, dLstF, dLcF, dLc2F, dDcF, dSlF, dListVF, bListF, bListDF, bSortSF, oAddLF, oRepLF, dSl, dNoP, dPart, dListV, dTru, dOrT, EndsD, startD, oLtI, oLeI, oGtI, oGeI, oIx, oMulI, oPowI, oAddI, oSubI, oModI, oDivI, oI, oI0, oEqD, oNeD, oInD, oNotInD, oAddL, oAddT, oAddS, oRepL, bLen, bAbs, bInt, bMin2, bMax2, bAll, bAny, bTuple, bList, bListD, bSortS, mAppend, mPop, mPopAt, mExtend, mIndex, tupOf_lst, tupOf_ref, tupOf_tup, List.map_cons, List.map_nil, List.length_cons, List.length_nil, List.cons_append, List.nil_append, List.append_nil, List.replicate, List.set_cons_zero, List.set_cons_succ, List.getElem?_cons_zero, List.getElem?_cons_succ, Option.some.injEq, exists_eq_left', exists_eq_left, exists_and_left, D.int.injEq, D.bl.injEq, D.str.injEq, D.tup.injEq, D.lst.injEq, D.ref.injEq, List.cons.injEq, and_true, true_and, reduceCtorEq, false_and, and_false, exists_false, or_false, false_or, exists_const, Bool.false_eq_true, if_true, if_false, decide_eq_true_eq, Ob.lst.injEq, Ob.slt.injEq, Ob.dic.injEq, seqD_ref, lstD_ref, seqD_tup, seqD_lst, lstD_lst, lstR_lst, Sto.set_same, Sto.set_set, atI_0, atI_1, atI_2, Nat.reduceAdd, ixN_30, ixN_32]
  have cd : ∀ i : Int, CDiv i m := fun i => cdiv h0 (by omega)
  split
  · refine ⟨h0, cd _, drp_of (q _ _ (Int.emod_nonneg _ (by omega)) (Int.emod_lt_of_pos _ h0) ⟨_, _, _, rfl, Int.ediv_nonneg ha (by omega), hb, hb2, hk, by omega⟩)⟩
  · have e1 := Int.emod_nonneg ((b + 48271 * (k + 1)) * (39373 + (k + 1))) (show (2147483647 : Int) ≠ 0 by decide)
    have e2 := Int.emod_lt_of_pos ((b + 48271 * (k + 1)) * (39373 + (k + 1))) (show (0 : Int) < 2147483647 by decide)
    generalize (b + 48271 * (k + 1)) * (39373 + (k + 1)) % 2147483647 = t1 at e1 e2 ⊢
    have e3 := Int.emod_nonneg t1 (show (40009 : Int) ≠ 0 by decide)
    have e4 := Int.emod_lt_of_pos t1 (show (0 : Int) < 40009 by decide)
    generalize t1 % 40009 = t2 at e3 e4 ⊢
    have e5 := Int.emod_nonneg ((t1 + (k + 1) + b / 1000003) * (t2 + 7)) (show (2147483629 : Int) ≠ 0 by decide)
    have e6 := Int.emod_lt_of_pos ((t1 + (k + 1) + b / 1000003) * (t2 + 7)) (show (0 : Int) < 2147483629 by decide)
    generalize (t1 + (k + 1) + b / 1000003) * (t2 + 7) % 2147483629 = t3 at e5 e6 ⊢
    refine ⟨.inl ⟨by omega, by omega⟩, .inr ⟨by omega, by omega⟩, by decide, by decide, cdiv (by decide) (by decide), .inr ⟨by omega, by omega⟩, by decide, .inr ⟨by decide, by decide⟩, by decide, cdiv (by decide) (by decide), h0, drp_of (q _ _ (Int.emod_nonneg _ (by omega)) (Int.emod_lt_of_pos _ h0) ⟨_, _, _, rfl, ha, hb, hb2, by omega, by omega⟩)⟩
theorem atI_lt {α : Type} {es : List α} {r : Int} (h0 : 0 ≤ r) (h1 : r < es.length) : ∃ e ∈ es, atI es r = some e := by
  obtain ⟨n, rfl⟩ := Int.eq_ofNat_of_zero_le h0
  have hn : n < es.length := by omega
  exact ⟨es[n], List.getElem_mem hn, atI_nat (List.getElem?_eq_getElem hn)⟩
theorem v__law_of : ∀ ds S Q E, sp__law_of ds S Q E → d__law_of (EndsD Q) (startD N__law_of ds) S := by
  rintro ds S Q E ⟨l, v, es, c, rfl, hv, hv0, hne, hl, hB, hc, q⟩
  simp only [d__law_of, N__law_of, sp__law_take, hv0, hv, dWkA, dTupK, dTupL, dTupIx, dDictP, dDc2, dFor, dWhile, dLc, dLc2, dDc, dNextG, iSeq, iR1, iR2, iEn, iZpA, iZ2, iZ3, dSortK, dSortKF, dSortSet, dSortSetF, dBreak, bSortT, bSortTF, bSum, bSumL, bSumLF, bMaxL, bMinL, dDicE, bSortD, bSortDF, dGet2, oInA, oNotInA, oIxA, gdSubA, dSeq, dSet, dIf, dIfS, dTst, dOp, dUn, dVar, dCB, aCons, aNil, aStar, dRet, dRetN, dNext, dDrop, dLst, dTup, dC, dAnd, dOr, dNot, dAndV, dOrV, dNotV, dPar, dAsg, gdName, gdSub, gdTup, gdCons, gdNil, gdSlot, dIsi, dIsi2, dSlot, dSetSlot, dMethSl, dMakeSl, dCall, dCallP, dBM, dFrz, dLstF, dLcF, dLc2F, dDcF, dSlF, dListVF, bListF, bListDF, bSortSF, oAddLF, oRepLF, dSl, dNoP, dPart, dListV, dTru, dOrT, EndsD, startD, oLtI, oLeI, oGtI, oGeI, oIx, oMulI, oPowI, oAddI, oSubI, oModI, oDivI, oI, oI0, oEqD, oNeD, oInD, oNotInD, oAddL, oAddT, oAddS, oRepL, bLen, bAbs, bInt, bMin2, bMax2, bAll, bAny, bTuple, bList, bListD, bSortS, mAppend, mPop, mPopAt, mExtend, mIndex, tupOf_lst, tupOf_ref, tupOf_tup, List.map_cons, List.map_nil, List.length_cons, List.length_nil, List.cons_append, List.nil_append, List.append_nil, List.replicate, List.set_cons_zero, List.set_cons_succ, List.getElem?_cons_zero, List.getElem?_cons_succ, Option.some.injEq, exists_eq_left', exists_eq_left, exists_and_left, D.int.injEq, D.bl.injEq, D.str.injEq, D.tup.injEq, D.lst.injEq, D.ref.injEq, List.cons.injEq, and_true, true_and, reduceCtorEq, false_and, and_false, exists_false, or_false, false_or, exists_const, Bool.false_eq_true, if_true, if_false, decide_eq_true_eq, Ob.lst.injEq, Ob.slt.injEq, Ob.dic.injEq, seqD_ref, lstD_ref, seqD_tup, seqD_lst, lstD_lst, lstR_lst, Sto.set_same, Sto.set_set, atI_0, atI_1, atI_2, Nat.reduceAdd, ixN_30, ixN_32]
  have hp : 0 < es.length := List.length_pos_iff.mpr hne
  refine .inl ⟨l, _, ⟨rfl, rfl⟩, by omega, by omega, c, hB, hc, fun r o h0 h1 hb => ?_⟩
  obtain ⟨e, he, ha⟩ := atI_lt h0 h1
  exact ⟨es, hv o, e, ha, drp_of (q e o he hb)⟩
theorem v__law_names : ∀ ds S Q E, sp__law_names ds S Q E → d__law_names (EndsD Q) (startD N__law_names ds) S := by
  rintro ds S Q E ⟨w, rfl, hw, q⟩
  simp only [d__law_names, N__law_names, Wd.d, dWkA, dTupK, dTupL, dTupIx, dDictP, dDc2, dFor, dWhile, dLc, dLc2, dDc, dNextG, iSeq, iR1, iR2, iEn, iZpA, iZ2, iZ3, dSortK, dSortKF, dSortSet, dSortSetF, dBreak, bSortT, bSortTF, bSum, bSumL, bSumLF, bMaxL, bMinL, dDicE, bSortD, bSortDF, dGet2, oInA, oNotInA, oIxA, gdSubA, dSeq, dSet, dIf, dIfS, dTst, dOp, dUn, dVar, dCB, aCons, aNil, aStar, dRet, dRetN, dNext, dDrop, dLst, dTup, dC, dAnd, dOr, dNot, dAndV, dOrV, dNotV, dPar, dAsg, gdName, gdSub, gdTup, gdCons, gdNil, gdSlot, dIsi, dIsi2, dSlot, dSetSlot, dMethSl, dMakeSl, dCall, dCallP, dBM, dFrz, dLstF, dLcF, dLc2F, dDcF, dSlF, dListVF, bListF, bListDF, bSortSF, oAddLF, oRepLF, dSl, dNoP, dPart, dListV, dTru, dOrT, EndsD, startD, oLtI, oLeI, oGtI, oGeI, oIx, oMulI, oPowI, oAddI, oSubI, oModI, oDivI, oI, oI0, oEqD, oNeD, oInD, oNotInD, oAddL, oAddT, oAddS, oRepL, bLen, bAbs, bInt, bMin2, bMax2, bAll, bAny, bTuple, bList, bListD, bSortS, mAppend, mPop, mPopAt, mExtend, mIndex, tupOf_lst, tupOf_ref, tupOf_tup, List.map_cons, List.map_nil, List.length_cons, List.length_nil, List.cons_append, List.nil_append, List.append_nil, List.replicate, List.set_cons_zero, List.set_cons_succ, List.getElem?_cons_zero, List.getElem?_cons_succ, Option.some.injEq, exists_eq_left', exists_eq_left, exists_and_left, D.int.injEq, D.bl.injEq, D.str.injEq, D.tup.injEq, D.lst.injEq, D.ref.injEq, List.cons.injEq, and_true, true_and, reduceCtorEq, false_and, and_false, exists_false, or_false, false_or, exists_const, Bool.false_eq_true, if_true, if_false, decide_eq_true_eq, Ob.lst.injEq, Ob.slt.injEq, Ob.dic.injEq, seqD_ref, lstD_ref, seqD_tup, seqD_lst, lstD_lst, lstR_lst, Sto.set_same, Sto.set_set, atI_0, atI_1, atI_2, Nat.reduceAdd, ixN_30, ixN_32]
  refine compW_map (fun d => match d with | .tup (n :: _) => n | d => d) gs_tup (small_sz (by rw [List.length_map]; have := hw.hl; omega)) (fun d hd S' Py s hy => ?_) fun l hl => ⟨_, rfl, ?_⟩
  · obtain ⟨h, hh, rfl⟩ := List.mem_map.mp hd
    exact ⟨_, rfl, _, _, _, rfl, rfl, atI_0 _ _, hy⟩
  · rw [Sto.del_set hl, List.map_map]
    have e : w.hs.map ((fun d => match d with | .tup (n :: _) => n | d => d) ∘ headD) = w.names.map .str := by
      unfold Wd.names
      rw [List.map_map]
      rfl
    rw [e]
    exact drp_of q
theorem idx_first {xs : List Str} {n : Str} (h : n ∈ xs) : (xs.map PyData.str)[xs.idxOf n]? = some (.str n) ∧ (PyData.str n).eqv (.str n) = true ∧
    ∀ (m : Nat) (z' : PyData), m < xs.idxOf n → (xs.map PyData.str)[m]? = some z' → z'.eqv (.str n) = false := by
  have hl := List.idxOf_lt_length_of_mem h
  refine ⟨?_, by rw [eqv_str]; simp, fun m z' hm e => ?_⟩
  · rw [List.getElem?_map, List.getElem?_eq_getElem hl, List.getElem_idxOf]; rfl
  · rw [List.getElem?_map] at e
    have hm2 : m < xs.length := by omega
    rw [List.getElem?_eq_getElem hm2] at e
    cases e
    rw [eqv_str, decide_eq_false_iff_not]
    intro z
    have z2 := List.not_of_lt_findIdx (p := (· == n)) (xs := xs) hm
    rw [z] at z2
    simp at z2
theorem names_so {w : Wd} (hw : WOk w) {n : Str} (h : n ∈ w.names) : PyData.strOk n = true := by
  obtain ⟨x, hx, rfl⟩ := List.mem_map.mp h
  exact (hw.so x hx).1
theorem shp_names {w : Wd} (hw : WOk w) : SeqAt.shaped (.list (w.names.map .str)) = true := (shp_list (n := 0) (shp_map fun n hn => shp_str (names_so hw hn))).ok
theorem val_at {w : Wd} {r : Row} (hr : ROk w r) {n : Str} (hn : n ∈ w.names) : atI (r.map D.str) ((w.names.idxOf n : Nat) : Int) = some (.str (w.val r n)) := by
  have hl := List.idxOf_lt_length_of_mem hn
  have hl2 : w.names.idxOf n < r.length := by
    rw [hr.len]
    unfold Wd.names at hl ⊢
    rw [List.length_map] at hl
    exact hl
  refine atI_nat ?_
  rw [List.getElem?_map, List.getElem?_eq_getElem hl2]
  unfold Wd.val
  rw [List.getD_eq_getElem?_getD, List.getElem?_eq_getElem hl2]; rfl
theorem val_so {w : Wd} {r : Row} (hr : ROk w r) (n : Str) : PyData.strOk (w.val r n) = true := by
  unfold Wd.val
  rw [List.getD_eq_getElem?_getD]
  cases e : r[w.names.idxOf n]? with
  | none => show PyData.strOk ("" : Str) = true; decide +kernel
  | some v => exact hr.so v (List.mem_of_getElem? e)
theorem v__law_value : ∀ ds S Q E, sp__law_value ds S Q E → d__law_value (EndsD Q) (startD N__law_value ds) S := by
  rintro ds S Q E ⟨w, r, n, rfl, hw, hr, hn, q⟩
  simp only [d__law_value, N__law_value, sp__law_names, rowD, dWkA, dTupK, dTupL, dTupIx, dDictP, dDc2, dFor, dWhile, dLc, dLc2, dDc, dNextG, iSeq, iR1, iR2, iEn, iZpA, iZ2, iZ3, dSortK, dSortKF, dSortSet, dSortSetF, dBreak, bSortT, bSortTF, bSum, bSumL, bSumLF, bMaxL, bMinL, dDicE, bSortD, bSortDF, dGet2, oInA, oNotInA, oIxA, gdSubA, dSeq, dSet, dIf, dIfS, dTst, dOp, dUn, dVar, dCB, aCons, aNil, aStar, dRet, dRetN, dNext, dDrop, dLst, dTup, dC, dAnd, dOr, dNot, dAndV, dOrV, dNotV, dPar, dAsg, gdName, gdSub, gdTup, gdCons, gdNil, gdSlot, dIsi, dIsi2, dSlot, dSetSlot, dMethSl, dMakeSl, dCall, dCallP, dBM, dFrz, dLstF, dLcF, dLc2F, dDcF, dSlF, dListVF, bListF, bListDF, bSortSF, oAddLF, oRepLF, dSl, dNoP, dPart, dListV, dTru, dOrT, EndsD, startD, oLtI, oLeI, oGtI, oGeI, oIx, oMulI, oPowI, oAddI, oSubI, oModI, oDivI, oI, oI0, oEqD, oNeD, oInD, oNotInD, oAddL, oAddT, oAddS, oRepL, bLen, bAbs, bInt, bMin2, bMax2, bAll, bAny, bTuple, bList, bListD, bSortS, mAppend, mPop, mPopAt, mExtend, mIndex, tupOf_lst, tupOf_ref, tupOf_tup, List.map_cons, List.map_nil, List.length_cons, List.length_nil, List.cons_append, List.nil_append, List.append_nil, List.replicate, List.set_cons_zero, List.set_cons_succ, List.getElem?_cons_zero, List.getElem?_cons_succ, Option.some.injEq, exists_eq_left', exists_eq_left, exists_and_left, D.int.injEq, D.bl.injEq, D.str.injEq, D.tup.injEq, D.lst.injEq, D.ref.injEq, List.cons.injEq, and_true, true_and, reduceCtorEq, false_and, and_false, exists_false, or_false, false_or, exists_const, Bool.false_eq_true, if_true, if_false, decide_eq_true_eq, Ob.lst.injEq, Ob.slt.injEq, Ob.dic.injEq, seqD_ref, lstD_ref, seqD_tup, seqD_lst, lstD_lst, lstR_lst, Sto.set_same, Sto.set_set, atI_0, atI_1, atI_2, Nat.reduceAdd, ixN_30, ixN_32]
  obtain ⟨h1, h2, h3⟩ := idx_first hn
  exact ⟨w, rfl, hw, .inl ⟨rfl, _, rfl⟩, _, _, pyR_of (pyD_lst (pyDs_strs _)), rfl, shp_names hw, (shp_str (names_so hw hn)).ok, _, _, h1, h2, h3, _, val_at hr hn, drp_of q⟩
def badT (w : Wd) (r : Row) : D → Option D
  | .tup [.str n, .str v] => if w.val r n = v then none else some (.tup [.str n, .str v])
  | _ => none
theorem badT_of (w : Wd) (r : Row) (t : Str × Str) : badT w r (testD t) = if w.val r t.1 = t.2 then none else some (testD t) := rfl
theorem fm_tests (w : Wd) (r : Row) : ∀ ts : List (Str × Str), (ts.map testD).filterMap (badT w r) = (ts.filter fun t => !decide (w.val r t.1 = t.2)).map testD
  | [] => rfl
  | t :: ts => by
    rw [List.map_cons, List.filterMap_cons, badT_of, List.filter_cons]
    by_cases h : w.val r t.1 = t.2
    · simp [h, fm_tests w r ts]
    · simp [h, fm_tests w r ts]
theorem not_fits (w : Wd) (r : Row) (ts : List (Str × Str)) : ((ts.filter fun t => !decide (w.val r t.1 = t.2)).map fun t : Str × Str => PyData.tuple [.str t.1, .str t.2]).isEmpty = w.fits r ts := by
  unfold Wd.fits
  induction ts with
  | nil => rfl
  | cons t ts ih =>
    rw [List.filter_cons, List.all_cons, ← ih]
    by_cases h : w.val r t.1 = t.2 <;> simp [h]
theorem v__law_fits : ∀ ds S Q E, sp__law_fits ds S Q E → d__law_fits (EndsD Q) (startD N__law_fits ds) S := by
  rintro ds S Q E ⟨w, r, x, rfl, hw, hr, hx, q⟩
  simp only [d__law_fits, N__law_fits, ruleD, dWkA, dTupK, dTupL, dTupIx, dDictP, dDc2, dFor, dWhile, dLc, dLc2, dDc, dNextG, iSeq, iR1, iR2, iEn, iZpA, iZ2, iZ3, dSortK, dSortKF, dSortSet, dSortSetF, dBreak, bSortT, bSortTF, bSum, bSumL, bSumLF, bMaxL, bMinL, dDicE, bSortD, bSortDF, dGet2, oInA, oNotInA, oIxA, gdSubA, dSeq, dSet, dIf, dIfS, dTst, dOp, dUn, dVar, dCB, aCons, aNil, aStar, dRet, dRetN, dNext, dDrop, dLst, dTup, dC, dAnd, dOr, dNot, dAndV, dOrV, dNotV, dPar, dAsg, gdName, gdSub, gdTup, gdCons, gdNil, gdSlot, dIsi, dIsi2, dSlot, dSetSlot, dMethSl, dMakeSl, dCall, dCallP, dBM, dFrz, dLstF, dLcF, dLc2F, dDcF, dSlF, dListVF, bListF, bListDF, bSortSF, oAddLF, oRepLF, dSl, dNoP, dPart, dListV, dTru, dOrT, EndsD, startD, oLtI, oLeI, oGtI, oGeI, oIx, oMulI, oPowI, oAddI, oSubI, oModI, oDivI, oI, oI0, oEqD, oNeD, oInD, oNotInD, oAddL, oAddT, oAddS, oRepL, bLen, bAbs, bInt, bMin2, bMax2, bAll, bAny, bTuple, bList, bListD, bSortS, mAppend, mPop, mPopAt, mExtend, mIndex, tupOf_lst, tupOf_ref, tupOf_tup, List.map_cons, List.map_nil, List.length_cons, List.length_nil, List.cons_append, List.nil_append, List.append_nil, List.replicate, List.set_cons_zero, List.set_cons_succ, List.getElem?_cons_zero, List.getElem?_cons_succ, Option.some.injEq, exists_eq_left', exists_eq_left, exists_and_left, D.int.injEq, D.bl.injEq, D.str.injEq, D.tup.injEq, D.lst.injEq, D.ref.injEq, List.cons.injEq, and_true, true_and, reduceCtorEq, false_and, and_false, exists_false, or_false, false_or, exists_const, Bool.false_eq_true, if_true, if_false, decide_eq_true_eq, Ob.lst.injEq, Ob.slt.injEq, Ob.dic.injEq, seqD_ref, lstD_ref, seqD_tup, seqD_lst, lstD_lst, lstR_lst, Sto.set_same, Sto.set_set, atI_0, atI_1, atI_2, Nat.reduceAdd, ixN_30, ixN_32]
  have so : ∀ t ∈ x.1, PyData.strOk t.1 = true ∧ PyData.strOk t.2 = true := (hw.ro x hx).2
  refine compW_by (badT w r) _ [] gs_tup (by rw [List.length_map]; exact small_sz (by have := hw.tl x hx; simp; omega)) (fun d hd S' Py Pn s hy hn => ?_) ?_
  · obtain ⟨t, ht, rfl⟩ := List.mem_map.mp hd
    have hk : t.1 ∈ w.names := hw.tn x hx t ht
    rw [badT_of] at hy hn
    simp only [turn, Tg.d, wipeD, testD, sp__law_value, dWkA, dTupK, dTupL, dTupIx, dDictP, dDc2, dFor, dWhile, dLc, dLc2, dDc, dNextG, iSeq, iR1, iR2, iEn, iZpA, iZ2, iZ3, dSortK, dSortKF, dSortSet, dSortSetF, dBreak, bSortT, bSortTF, bSum, bSumL, bSumLF, bMaxL, bMinL, dDicE, bSortD, bSortDF, dGet2, oInA, oNotInA, oIxA, gdSubA, dSeq, dSet, dIf, dIfS, dTst, dOp, dUn, dVar, dCB, aCons, aNil, aStar, dRet, dRetN, dNext, dDrop, dLst, dTup, dC, dAnd, dOr, dNot, dAndV, dOrV, dNotV, dPar, dAsg, gdName, gdSub, gdTup, gdCons, gdNil, gdSlot, dIsi, dIsi2, dSlot, dSetSlot, dMethSl, dMakeSl, dCall, dCallP, dBM, dFrz, dLstF, dLcF, dLc2F, dDcF, dSlF, dListVF, bListF, bListDF, bSortSF, oAddLF, oRepLF, dSl, dNoP, dPart, dListV, dTru, dOrT, EndsD, startD, oLtI, oLeI, oGtI, oGeI, oIx, oMulI, oPowI, oAddI, oSubI, oModI, oDivI, oI, oI0, oEqD, oNeD, oInD, oNotInD, oAddL, oAddT, oAddS, oRepL, bLen, bAbs, bInt, bMin2, bMax2, bAll, bAny, bTuple, bList, bListD, bSortS, mAppend, mPop, mPopAt, mExtend, mIndex, tupOf_lst, tupOf_ref, tupOf_tup, List.map_cons, List.map_nil, List.length_cons, List.length_nil, List.cons_append, List.nil_append, List.append_nil, List.replicate, List.set_cons_zero, List.set_cons_succ, List.getElem?_cons_zero, List.getElem?_cons_succ, Option.some.injEq, exists_eq_left', exists_eq_left, exists_and_left, D.int.injEq, D.bl.injEq, D.str.injEq, D.tup.injEq, D.lst.injEq, D.ref.injEq, List.cons.injEq, and_true, true_and, reduceCtorEq, false_and, and_false, exists_false, or_false, false_or, exists_const, Bool.false_eq_true, if_true, if_false, decide_eq_true_eq, Ob.lst.injEq, Ob.slt.injEq, Ob.dic.injEq, seqD_ref, lstD_ref, seqD_tup, seqD_lst, lstD_lst, lstR_lst, Sto.set_same, Sto.set_set, atI_0, atI_1, atI_2, Nat.reduceAdd, ixN_30, ixN_32]
    refine ⟨w, r, t.1, ⟨rfl, rfl, rfl⟩, hw, hr, hk, _, rfl, _, rfl, (shp_str (val_so hr _)).ok, (shp_str (so t ht).2).ok, ?_⟩
    rw [eqv_str]
    by_cases h : w.val r t.1 = t.2
    · rw [if_pos h] at hn
      rw [decide_eq_true h]
      exact hn rfl
    · rw [if_neg h] at hy
      rw [decide_eq_false h]
      exact hy _ rfl
  · rw [List.nil_append, fm_tests]
    intro l hl
    refine ⟨_, rfl, Nat.zero_le _, fun m hm => ?_⟩
    rw [Sto.del_set hl] at hm ⊢
    rw [Sto.del_set hm]
    refine ⟨_, rfl, _, pyR_of (pyD_lst (pyDs_map (g := fun t : Str × Str => PyData.tuple [.str t.1, .str t.2]) (fun _ => rfl) _)), _, rfl, ?_, (shp_nil (n := 0)).ok, ?_⟩
    · refine (shp_list (n := 1) (shp_map fun t ht => shp_tup (n := 0) fun p hp => ?_)).ok
      have ht := so t (List.mem_filter.mp ht).1
      rcases List.mem_cons.mp hp with rfl | hp
      · exact shp_str ht.1
      · rcases List.mem_cons.mp hp with rfl | hp
        · exact shp_str ht.2
        · cases hp
    · rw [eqv_nil, not_fits]
      exact drp_of q
end LK
end
section
set_option Elab.async false
set_option linter.all false
set_option maxRecDepth 100000
set_option maxHeartbeats 400000
namespace LK
open PySem PySem.Spec PyProof.Rows L2 L3
theorem v__law_answer : ∀ ds S Q E, sp__law_answer ds S Q E → d__law_answer (EndsD Q) (startD N__law_answer ds) S := by
  rintro ds S Q E ⟨w, r, rfl, hw, hr, q⟩
  simp only [d__law_answer, N__law_answer, Wd.d, dWkA, dTupK, dTupL, dTupIx, dDictP, dDc2, dFor, dWhile, dLc, dLc2, dDc, dNextG, iSeq, iR1, iR2, iEn, iZpA, iZ2, iZ3, dSortK, dSortKF, dSortSet, dSortSetF, dBreak, bSortT, bSortTF, bSum, bSumL, bSumLF, bMaxL, bMinL, dDicE, bSortD, bSortDF, dGet2, oInA, oNotInA, oIxA, gdSubA, dSeq, dSet, dIf, dIfS, dTst, dOp, dUn, dVar, dCB, aCons, aNil, aStar, dRet, dRetN, dNext, dDrop, dLst, dTup, dC, dAnd, dOr, dNot, dAndV, dOrV, dNotV, dPar, dAsg, gdName, gdSub, gdTup, gdCons, gdNil, gdSlot, dIsi, dIsi2, dSlot, dSetSlot, dMethSl, dMakeSl, dCall, dCallP, dBM, dFrz, dLstF, dLcF, dLc2F, dDcF, dSlF, dListVF, bListF, bListDF, bSortSF, oAddLF, oRepLF, dSl, dNoP, dPart, dListV, dTru, dOrT, EndsD, startD, oLtI, oLeI, oGtI, oGeI, oIx, oMulI, oPowI, oAddI, oSubI, oModI, oDivI, oI, oI0, oEqD, oNeD, oInD, oNotInD, oAddL, oAddT, oAddS, oRepL, bLen, bAbs, bInt, bMin2, bMax2, bAll, bAny, bTuple, bList, bListD, bSortS, mAppend, mPop, mPopAt, mExtend, mIndex, tupOf_lst, tupOf_ref, tupOf_tup, List.map_cons, List.map_nil, List.length_cons, List.length_nil, List.cons_append, List.nil_append, List.append_nil, List.replicate, List.set_cons_zero, List.set_cons_succ, List.getElem?_cons_zero, List.getElem?_cons_succ, Option.some.injEq, exists_eq_left', exists_eq_left, exists_and_left, D.int.injEq, D.bl.injEq, D.str.injEq, D.tup.injEq, D.lst.injEq, D.ref.injEq, List.cons.injEq, and_true, true_and, reduceCtorEq, false_and, and_false, exists_false, or_false, false_or, exists_const, Bool.false_eq_true, if_true, if_false, decide_eq_true_eq, Ob.lst.injEq, Ob.slt.injEq, Ob.dic.injEq, seqD_ref, lstD_ref, seqD_tup, seqD_lst, lstD_lst, lstR_lst, Sto.set_same, Sto.set_set, atI_0, atI_1, atI_2, Nat.reduceAdd, ixN_30, ixN_32]
  refine compW_on ruleD (fun x => if w.fits r x.1 = true then some (.str x.2) else none) w.rs [] gs_tup (small_sz (by have := hw.rl; simp; omega)) (fun x hx S' Py Pn s hy hn => ?_) ?_
  · simp only [turn, Tg.d, wipeD, sp__law_fits, dWkA, dTupK, dTupL, dTupIx, dDictP, dDc2, dFor, dWhile, dLc, dLc2, dDc, dNextG, iSeq, iR1, iR2, iEn, iZpA, iZ2, iZ3, dSortK, dSortKF, dSortSet, dSortSetF, dBreak, bSortT, bSortTF, bSum, bSumL, bSumLF, bMaxL, bMinL, dDicE, bSortD, bSortDF, dGet2, oInA, oNotInA, oIxA, gdSubA, dSeq, dSet, dIf, dIfS, dTst, dOp, dUn, dVar, dCB, aCons, aNil, aStar, dRet, dRetN, dNext, dDrop, dLst, dTup, dC, dAnd, dOr, dNot, dAndV, dOrV, dNotV, dPar, dAsg, gdName, gdSub, gdTup, gdCons, gdNil, gdSlot, dIsi, dIsi2, dSlot, dSetSlot, dMethSl, dMakeSl, dCall, dCallP, dBM, dFrz, dLstF, dLcF, dLc2F, dDcF, dSlF, dListVF, bListF, bListDF, bSortSF, oAddLF, oRepLF, dSl, dNoP, dPart, dListV, dTru, dOrT, EndsD, startD, oLtI, oLeI, oGtI, oGeI, oIx, oMulI, oPowI, oAddI, oSubI, oModI, oDivI, oI, oI0, oEqD, oNeD, oInD, oNotInD, oAddL, oAddT, oAddS, oRepL, bLen, bAbs, bInt, bMin2, bMax2, bAll, bAny, bTuple, bList, bListD, bSortS, mAppend, mPop, mPopAt, mExtend, mIndex, tupOf_lst, tupOf_ref, tupOf_tup, List.map_cons, List.map_nil, List.length_cons, List.length_nil, List.cons_append, List.nil_append, List.append_nil, List.replicate, List.set_cons_zero, List.set_cons_succ, List.getElem?_cons_zero, List.getElem?_cons_succ, Option.some.injEq, exists_eq_left', exists_eq_left, exists_and_left, D.int.injEq, D.bl.injEq, D.str.injEq, D.tup.injEq, D.lst.injEq, D.ref.injEq, List.cons.injEq, and_true, true_and, reduceCtorEq, false_and, and_false, exists_false, or_false, false_or, exists_const, Bool.false_eq_true, if_true, if_false, decide_eq_true_eq, Ob.lst.injEq, Ob.slt.injEq, Ob.dic.injEq, seqD_ref, lstD_ref, seqD_tup, seqD_lst, lstD_lst, lstR_lst, Sto.set_same, Sto.set_set, atI_0, atI_1, atI_2, Nat.reduceAdd, ixN_30, ixN_32]
    refine ⟨w, r, x, ⟨rfl, rfl, rfl⟩, hw, hr, hx, ?_⟩
    by_cases h : w.fits r x.1 = true
    · rw [if_pos h] at hy ⊢
      exact ⟨_, rfl, _, atI_1 _ _ _, hy _ rfl⟩
    · rw [if_neg h] at hn ⊢
      exact hn rfl
  · have e := fm_if (fun x : Rule => w.fits r x.1) (fun x : Rule => D.str x.2) w.rs
    have hl : ((w.rs.filter fun x : Rule => w.fits r x.1).map fun x : Rule => D.str x.2).length ≤ 100 := by
      rw [List.length_map]
      exact Nat.le_trans (List.length_filter_le _ _) hw.rl
    intro l hl1
    refine ⟨_, rfl, small_sz (by decide), ?_⟩
    rw [Sto.del_set hl1, List.nil_append, e]
    intro l2 hl2
    rw [Sto.del_set hl2]
    refine ⟨_, rfl, _, rfl, _, rfl, small_sz (by simp at hl ⊢; omega), ?_⟩
    intro l3 hl3
    rw [Sto.del_set hl3]
    refine ⟨_, rfl, _, rfl, D.str (w.ans r), ?_, drp_of q⟩
    unfold Wd.ans
    cases (w.rs.filter fun x : Rule => w.fits r x.1) with
    | nil => exact atI_0 _ _
    | cons a as => exact atI_0 _ _
theorem rows_len : ∀ (hs : List Head) (rs : List Row), (∀ h ∈ hs, h.2.length ≤ 5) → (hs.foldl grow rs).length ≤ rs.length * 6 ^ hs.length
  | [], rs, _ => by simp
  | h :: hs, rs, hv => by
    have h1 := hv h List.mem_cons_self
    have ih := rows_len hs (grow rs h) fun x hx => hv x (List.mem_cons_of_mem _ hx)
    have hg : (grow rs h).length ≤ rs.length * 6 := by
      unfold grow
      induction rs with
      | nil => simp
      | cons r rs ih2 =>
        rw [List.flatMap_cons, List.length_append, List.length_map, List.length_cons]
        have := ih2 (by
          have z := rows_len hs (grow rs h) fun x hx => hv x (List.mem_cons_of_mem _ hx)
          exact z)
        rw [List.length_cons]
        omega
    rw [List.foldl_cons, List.length_cons, Nat.pow_succ]
    calc (hs.foldl grow (grow rs h)).length ≤ (grow rs h).length * 6 ^ hs.length := ih
      _ ≤ (rs.length * 6) * 6 ^ hs.length := Nat.mul_le_mul_right _ hg
      _ = rs.length * (6 ^ hs.length * 6) := by rw [Nat.mul_assoc, Nat.mul_comm 6]
abbrev bodyI : DS := dSet 4 (dFrz (dOp oAddL (dVar 4) (dFrz (dLc (iSeq (dOp oAddT (dTup (aCons (dC (.str "")) (aNil))) (dVar 3))) (.one 6) (dYes) (dOp oAddT (dVar 5) (dTup (aCons (dVar 6) (aNil)))) [6]))))
abbrev bodyO : DS := dSeq (dSet 4 (dFrz (dLst (aNil)))) (dSeq (dFor (iSeq (dVar 1)) (.one 5) bodyI) (dSet 1 (dFrz (dCB bList (aCons (dVar 4) (aNil))))))
theorem grow_cons (r : Row) (rs : List Row) (h : Head) : grow (r :: rs) h = ((("" : Str) :: h.2).map fun v => r ++ [v]) ++ grow rs h := by
  unfold grow
  rw [List.flatMap_cons]
theorem reqI (S : Sto) (h : Head) (hv : h.2.length ≤ 5) (gs : Gs) (ok : gs.ok S) (E : DEnds) (x0 x1 x2 : Option D) : ∀ (rs acc : List Row) (a5 a6 : Option D), (∀ r ∈ rs, r.length ≤ 1000) → acc.length + rs.length * 6 ≤ 10000000 →
    (∀ b5 b6, E.nx [x0, x1, x2, some (.tup (h.2.map .str)), some (.lst ((acc ++ grow rs h).map rowD)), b5, b6] S) → forW gs (.one 5) bodyI E (rs.map rowD) [x0, x1, x2, some (.tup (h.2.map .str)), some (.lst (acc.map rowD)), a5, a6] S
  | [], acc, a5, a6, _, _, q => ⟨ok, by simpa [grow] using q a5 a6⟩
  | r :: rs, acc, a5, a6, hr, hz, q => by
    have h1 := hr r List.mem_cons_self
    refine ⟨ok, ?_⟩
    simp only [Tg.d, bodyI, rowD, dWkA, dTupK, dTupL, dTupIx, dDictP, dDc2, dFor, dWhile, dLc, dLc2, dDc, dNextG, iSeq, iR1, iR2, iEn, iZpA, iZ2, iZ3, dSortK, dSortKF, dSortSet, dSortSetF, dBreak, bSortT, bSortTF, bSum, bSumL, bSumLF, bMaxL, bMinL, dDicE, bSortD, bSortDF, dGet2, oInA, oNotInA, oIxA, gdSubA, dSeq, dSet, dIf, dIfS, dTst, dOp, dUn, dVar, dCB, aCons, aNil, aStar, dRet, dRetN, dNext, dDrop, dLst, dTup, dC, dAnd, dOr, dNot, dAndV, dOrV, dNotV, dPar, dAsg, gdName, gdSub, gdTup, gdCons, gdNil, gdSlot, dIsi, dIsi2, dSlot, dSetSlot, dMethSl, dMakeSl, dCall, dCallP, dBM, dFrz, dLstF, dLcF, dLc2F, dDcF, dSlF, dListVF, bListF, bListDF, bSortSF, oAddLF, oRepLF, dSl, dNoP, dPart, dListV, dTru, dOrT, EndsD, startD, oLtI, oLeI, oGtI, oGeI, oIx, oMulI, oPowI, oAddI, oSubI, oModI, oDivI, oI, oI0, oEqD, oNeD, oInD, oNotInD, oAddL, oAddT, oAddS, oRepL, bLen, bAbs, bInt, bMin2, bMax2, bAll, bAny, bTuple, bList, bListD, bSortS, mAppend, mPop, mPopAt, mExtend, mIndex, tupOf_lst, tupOf_ref, tupOf_tup, List.map_cons, List.map_nil, List.length_cons, List.length_nil, List.cons_append, List.nil_append, List.append_nil, List.replicate, List.set_cons_zero, List.set_cons_succ, List.getElem?_cons_zero, List.getElem?_cons_succ, Option.some.injEq, exists_eq_left', exists_eq_left, exists_and_left, D.int.injEq, D.bl.injEq, D.str.injEq, D.tup.injEq, D.lst.injEq, D.ref.injEq, List.cons.injEq, and_true, true_and, reduceCtorEq, false_and, and_false, exists_false, or_false, false_or, exists_const, Bool.false_eq_true, if_true, if_false, decide_eq_true_eq, Ob.lst.injEq, Ob.slt.injEq, Ob.dic.injEq, seqD_ref, lstD_ref, seqD_tup, seqD_lst, lstD_lst, lstR_lst, Sto.set_same, Sto.set_set, atI_0, atI_1, atI_2, Nat.reduceAdd, ixN_30, ixN_32]
    refine ⟨small_sz (by decide), small_sz (by simp; omega), ?_⟩
    refine compW_all (α := Str) (xs := ("" : Str) :: h.2) (fun v => D.str v) (fun v => rowD (r ++ [v])) gs_tup (small_sz (by simp; omega)) (fun v hv S' Py s hy => ?_) ?_
    · refine ⟨_, rfl, _, rfl, small_sz (by simp), _, _, rfl, rfl, small_sz (by simp; omega), ?_⟩
      unfold rowD at hy
      rw [List.map_append] at hy
      exact hy
    · intro l hl
      refine ⟨_, rfl, ?_⟩
      rw [Sto.del_set hl]
      refine ⟨_, rfl, small_sz (by simp at hz ⊢; omega), fun l2 hl2 => ?_⟩
      refine ⟨_, rfl, ?_⟩
      rw [Sto.del_set hl2]
      refine ⟨_, Wk.refl _, _, Sto.sub_refl _, ?_⟩
      have ih := reqI S h hv gs ok E x0 x1 x2 rs (acc ++ (("" : Str) :: h.2).map fun v => r ++ [v]) (some (rowD r)) a6 (fun x hx => hr x (List.mem_cons_of_mem _ hx)) (by simp at hz ⊢; omega) (fun b5 b6 => by
        have := q b5 b6
        rw [grow_cons, ← List.append_assoc] at this
        exact this)
      rw [List.map_append, List.map_map] at ih
      exact ih
theorem reqO (S : Sto) (gs : Gs) (ok : gs.ok S) (E : DEnds) (x0 : Option D) : ∀ (hs : List Head) (rs : List Row) (a2 a3 a4 a5 a6 : Option D), (∀ h ∈ hs, h.2.length ≤ 5) → (∀ r ∈ rs, r.length + hs.length ≤ 1000) → rs.length * 6 ^ hs.length ≤ 10000000 →
    (∀ b2 b3 b4 b5 b6, E.nx [x0, some (.lst ((hs.foldl grow rs).map rowD)), b2, b3, b4, b5, b6] S) → forW gs (.many [2, 3]) bodyO E (hs.map headD) [x0, some (.lst (rs.map rowD)), a2, a3, a4, a5, a6] S
  | [], rs, a2, a3, a4, a5, a6, _, _, _, q => ⟨ok, q a2 a3 a4 a5 a6⟩
  | h :: hs, rs, a2, a3, a4, a5, a6, hv, hr, hz, q => by
    have h1 := hv h List.mem_cons_self
    have hlen : (grow rs h).length ≤ rs.length * 6 := by simpa using rows_len [h] rs (fun x hx => by rw [List.mem_singleton.mp hx]; exact h1)
    have hz6 : rs.length * 6 ≤ 10000000 := by
      rw [List.length_cons, Nat.pow_succ] at hz
      have : 1 ≤ 6 ^ hs.length := Nat.one_le_pow _ _ (by decide)
      calc rs.length * 6 = rs.length * (1 * 6) := by omega
        _ ≤ rs.length * (6 ^ hs.length * 6) := Nat.mul_le_mul_left _ (Nat.mul_le_mul_right _ this)
        _ ≤ 10000000 := hz
    refine ⟨ok, ?_⟩
    simp only [Tg.d, bodyO, headD, setsE, dWkA, dTupK, dTupL, dTupIx, dDictP, dDc2, dFor, dWhile, dLc, dLc2, dDc, dNextG, iSeq, iR1, iR2, iEn, iZpA, iZ2, iZ3, dSortK, dSortKF, dSortSet, dSortSetF, dBreak, bSortT, bSortTF, bSum, bSumL, bSumLF, bMaxL, bMinL, dDicE, bSortD, bSortDF, dGet2, oInA, oNotInA, oIxA, gdSubA, dSeq, dSet, dIf, dIfS, dTst, dOp, dUn, dVar, dCB, aCons, aNil, aStar, dRet, dRetN, dNext, dDrop, dLst, dTup, dC, dAnd, dOr, dNot, dAndV, dOrV, dNotV, dPar, dAsg, gdName, gdSub, gdTup, gdCons, gdNil, gdSlot, dIsi, dIsi2, dSlot, dSetSlot, dMethSl, dMakeSl, dCall, dCallP, dBM, dFrz, dLstF, dLcF, dLc2F, dDcF, dSlF, dListVF, bListF, bListDF, bSortSF, oAddLF, oRepLF, dSl, dNoP, dPart, dListV, dTru, dOrT, EndsD, startD, oLtI, oLeI, oGtI, oGeI, oIx, oMulI, oPowI, oAddI, oSubI, oModI, oDivI, oI, oI0, oEqD, oNeD, oInD, oNotInD, oAddL, oAddT, oAddS, oRepL, bLen, bAbs, bInt, bMin2, bMax2, bAll, bAny, bTuple, bList, bListD, bSortS, mAppend, mPop, mPopAt, mExtend, mIndex, tupOf_lst, tupOf_ref, tupOf_tup, List.map_cons, List.map_nil, List.length_cons, List.length_nil, List.cons_append, List.nil_append, List.append_nil, List.replicate, List.set_cons_zero, List.set_cons_succ, List.getElem?_cons_zero, List.getElem?_cons_succ, Option.some.injEq, exists_eq_left', exists_eq_left, exists_and_left, D.int.injEq, D.bl.injEq, D.str.injEq, D.tup.injEq, D.lst.injEq, D.ref.injEq, List.cons.injEq, and_true, true_and, reduceCtorEq, false_and, and_false, exists_false, or_false, false_or, exists_const, Bool.false_eq_true, if_true, if_false, decide_eq_true_eq, Ob.lst.injEq, Ob.slt.injEq, Ob.dic.injEq, seqD_ref, lstD_ref, seqD_tup, seqD_lst, lstD_lst, lstR_lst, Sto.set_same, Sto.set_set, atI_0, atI_1, atI_2, Nat.reduceAdd, ixN_30, ixN_32]
    refine ⟨Nat.zero_le _, fun l hl => ?_⟩
    rw [Sto.del_set hl]
    refine ⟨_, rfl, ?_⟩
    refine reqI S h h1 _ gs_lst _ _ _ _ rs [] _ _ (fun r hx => by have := hr r hx; simp at this; omega) (by simpa using hz6) fun b5 b6 => ?_
    rw [List.nil_append]
    refine ⟨_, rfl, _, rfl, fun l2 hl2 => ⟨_, rfl, ?_⟩⟩
    rw [Sto.del_set hl2]
    refine ⟨_, Wk.refl _, _, Sto.sub_refl _, ?_⟩
    refine reqO S gs ok E x0 hs (grow rs h) _ _ _ _ _ (fun x hx => hv x (List.mem_cons_of_mem _ hx)) (fun r hx => ?_) ?_ q
    · unfold grow at hx
      obtain ⟨r0, hr0, hx⟩ := List.mem_flatMap.mp hx
      obtain ⟨v, _, rfl⟩ := List.mem_map.mp hx
      have := hr r0 hr0
      simp at this ⊢
      omega
    · calc (grow rs h).length * 6 ^ hs.length ≤ (rs.length * 6) * 6 ^ hs.length := Nat.mul_le_mul_right _ hlen
        _ = rs.length * 6 ^ (hs.length + 1) := by rw [Nat.pow_succ, Nat.mul_assoc, Nat.mul_comm 6]
        _ ≤ 10000000 := hz
theorem v__law_requests : ∀ ds S Q E, sp__law_requests ds S Q E → d__law_requests (EndsD Q) (startD N__law_requests ds) S := by
  rintro ds S Q E ⟨w, rfl, hw, q⟩
  simp only [d__law_requests, N__law_requests, Wd.d, frzO_lst, dWkA, dTupK, dTupL, dTupIx, dDictP, dDc2, dFor, dWhile, dLc, dLc2, dDc, dNextG, iSeq, iR1, iR2, iEn, iZpA, iZ2, iZ3, dSortK, dSortKF, dSortSet, dSortSetF, dBreak, bSortT, bSortTF, bSum, bSumL, bSumLF, bMaxL, bMinL, dDicE, bSortD, bSortDF, dGet2, oInA, oNotInA, oIxA, gdSubA, dSeq, dSet, dIf, dIfS, dTst, dOp, dUn, dVar, dCB, aCons, aNil, aStar, dRet, dRetN, dNext, dDrop, dLst, dTup, dC, dAnd, dOr, dNot, dAndV, dOrV, dNotV, dPar, dAsg, gdName, gdSub, gdTup, gdCons, gdNil, gdSlot, dIsi, dIsi2, dSlot, dSetSlot, dMethSl, dMakeSl, dCall, dCallP, dBM, dFrz, dLstF, dLcF, dLc2F, dDcF, dSlF, dListVF, bListF, bListDF, bSortSF, oAddLF, oRepLF, dSl, dNoP, dPart, dListV, dTru, dOrT, EndsD, startD, oLtI, oLeI, oGtI, oGeI, oIx, oMulI, oPowI, oAddI, oSubI, oModI, oDivI, oI, oI0, oEqD, oNeD, oInD, oNotInD, oAddL, oAddT, oAddS, oRepL, bLen, bAbs, bInt, bMin2, bMax2, bAll, bAny, bTuple, bList, bListD, bSortS, mAppend, mPop, mPopAt, mExtend, mIndex, tupOf_lst, tupOf_ref, tupOf_tup, List.map_cons, List.map_nil, List.length_cons, List.length_nil, List.cons_append, List.nil_append, List.append_nil, List.replicate, List.set_cons_zero, List.set_cons_succ, List.getElem?_cons_zero, List.getElem?_cons_succ, Option.some.injEq, exists_eq_left', exists_eq_left, exists_and_left, D.int.injEq, D.bl.injEq, D.str.injEq, D.tup.injEq, D.lst.injEq, D.ref.injEq, List.cons.injEq, and_true, true_and, reduceCtorEq, false_and, and_false, exists_false, or_false, false_or, exists_const, Bool.false_eq_true, if_true, if_false, decide_eq_true_eq, Ob.lst.injEq, Ob.slt.injEq, Ob.dic.injEq, seqD_ref, lstD_ref, seqD_tup, seqD_lst, lstD_lst, lstR_lst, Sto.set_same, Sto.set_set, atI_0, atI_1, atI_2, Nat.reduceAdd, ixN_30, ixN_32]
  refine ⟨Nat.zero_le _, small_sz (by decide), fun l hl => ?_⟩
  rw [Sto.del_set hl]
  refine reqO S _ gs_tup _ _ w.hs [[]] _ _ _ _ _ hw.vl (fun r hr => ?_) ?_ fun b2 b3 b4 b5 b6 => ⟨_, rfl, drp_of q⟩
  · rw [List.mem_singleton.mp hr]
    have := hw.hl
    simp; omega
  · have h6 : 6 ^ w.hs.length ≤ 6 ^ 6 := Nat.pow_le_pow_right (by decide) hw.hl
    have : (6 : Nat) ^ 6 = 46656 := by decide
    simp; omega
end LK
end
section
set_option Elab.async false
set_option linter.all false
set_option maxRecDepth 100000
set_option maxHeartbeats 400000
namespace LK
open PySem PySem.Spec PyProof.Rows L2 L3
theorem mapO_some {α β : Type} {f : α → Option β} : ∀ {xs : List α} {ys : List β}, mapO f xs = some ys → (∀ x ∈ xs, ∃ y, f x = some y) ∧ xs.filterMap f = ys ∧ ys.length = xs.length
  | [], ys, h => by cases h; exact ⟨fun _ h => (by cases h), rfl, rfl⟩
  | a :: as, ys, h => by
    have h' : (match f a, mapO f as with
      | some b, some bs => some (b :: bs)
      | _, _ => none) = some ys := h
    cases e1 : f a with
    | none => rw [e1] at h'; cases h'
    | some b =>
      cases e2 : mapO f as with
      | none => rw [e1, e2] at h'; cases h'
      | some bs =>
        rw [e1, e2] at h'
        cases h'
        obtain ⟨i1, i2, i3⟩ := mapO_some e2
        refine ⟨fun x hx => ?_, ?_, by simp [i3]⟩
        · rcases List.mem_cons.mp hx with rfl | hx
          · exact ⟨b, e1⟩
          · exact i1 x hx
        · rw [List.filterMap_cons, e1, i2]
theorem mapO_map {α β γ : Type} {f : β → Option γ} {g : α → β} {h : α → γ} : ∀ {xs : List α}, (∀ a ∈ xs, f (g a) = some (h a)) → mapO f (xs.map g) = some (xs.map h)
  | [], _ => rfl
  | a :: as, k => by
    show (match f (g a), mapO f (as.map g) with
      | some b, some bs => some (b :: bs)
      | _, _ => none) = _
    rw [k a List.mem_cons_self, mapO_map fun x hx => k x (List.mem_cons_of_mem _ hx)]; rfl
theorem if_some {c : Prop} [Decidable c] {α : Type} {x : Option α} {y : α} (h : (if c then x else none) = some y) : c ∧ x = some y := by
  by_cases k : c
  · rw [if_pos k] at h; exact ⟨k, h⟩
  · rw [if_neg k] at h; cases h
theorem map_some {α β : Type} {x : Option α} {f : α → β} {y : β} (h : x.map f = some y) : ∃ a, x = some a ∧ y = f a := by
  cases x with
  | none => cases h
  | some a => exact ⟨a, rfl, (Option.some.inj h).symm⟩
theorem mapO_imp {α β : Type} {f g : α → Option β} : ∀ {xs : List α} {ys : List β}, (∀ a ∈ xs, ∀ y, f a = some y → g a = some y) → mapO f xs = some ys → mapO g xs = some ys
  | [], ys, _, h => h
  | a :: as, ys, k, h => by
    have h' : (match f a, mapO f as with
      | some b, some bs => some (b :: bs)
      | _, _ => none) = some ys := h
    show (match g a, mapO g as with
      | some b, some bs => some (b :: bs)
      | _, _ => none) = some ys
    cases e1 : f a with
    | none => rw [e1] at h'; cases h'
    | some b =>
      cases e2 : mapO f as with
      | none => rw [e1, e2] at h'; cases h'
      | some bs =>
        rw [e1, e2] at h'
        rw [k a List.mem_cons_self b e1, mapO_imp (fun x hx => k x (List.mem_cons_of_mem _ hx)) e2]
        exact h'
theorem seqO_imp {f g : D → Option D} {ds : List D} {w : D} (k : ∀ a ∈ ds, ∀ y, f a = some y → g a = some y) (h : (if ds.length ≤ sizeLine then (mapO f ds).map D.tup else none) = some w) : (if ds.length ≤ sizeLine then (mapO g ds).map D.tup else none) = some w := by
  obtain ⟨hz, h⟩ := if_some h
  obtain ⟨ws, e, rfl⟩ := map_some h
  rw [if_pos hz, mapO_imp k e]; rfl
theorem tupO_top {S : Sto} {n : Nat} {d w : D} (h : tupO n d = some w) : topO S n d = some w := by
  induction n generalizing d w with
  | zero => cases h
  | succ n ih =>
    cases d with
    | tup ds => exact seqO_imp (fun a _ y e => ih e) h
    | lst ds => exact seqO_imp (fun a _ y e => ih e) h
    | kt ds => exact seqO_imp (fun a _ y e => ih e) h
    | ref l => cases h
    | _ => exact h
theorem topO_lst {S S' : Sto} {n : Nat} {v w : D} (h : topO S n v = some w) (s : ∀ m ds, S m = some (.lst ds) → S' m = some (.lst ds)) : topO S' n v = some w := by
  induction n generalizing v w with
  | zero => cases h
  | succ n ih =>
    cases v with
    | tup ds => exact seqO_imp (fun a _ y e => ih e) h
    | lst ds => exact seqO_imp (fun a _ y e => ih e) h
    | kt ds => exact seqO_imp (fun a _ y e => ih e) h
    | ref l =>
      have h' : (match S l with
        | some (.lst ds) => if ds.length ≤ sizeLine then (mapO (topO S n) ds).map D.tup else none
        | _ => none) = some w := h
      show (match S' l with
        | some (.lst ds) => if ds.length ≤ sizeLine then (mapO (topO S' n) ds).map D.tup else none
        | _ => none) = some w
      cases e : S l with
      | none => rw [e] at h'; cases h'
      | some o =>
        rw [e] at h'
        cases o with
        | lst ds => rw [s _ _ e]; exact seqO_imp (fun a _ y e => ih e) h'
        | _ => cases h'
    | _ => exact h
theorem topO_mono {S S' : Sto} {n : Nat} {v w : D} (h : topO S n v = some w) (s : S.sub S') : topO S' n v = some w := topO_lst h fun m ds e => s m _ e
theorem topO_at {S : Sto} {n l : Nat} {ds ws : List D} (h : S l = some (.lst ds)) (hm : mapO (topO S n) ds = some ws) (hz : ds.length ≤ sizeLine) : topO S (n + 1) (.ref l) = some (.tup ws) := by
  show (match S l with
    | some (.lst ds) => if ds.length ≤ sizeLine then (mapO (topO S n) ds).map D.tup else none
    | _ => none) = _
  rw [h]
  show (if ds.length ≤ sizeLine then (mapO (topO S n) ds).map D.tup else none) = _
  rw [if_pos hz, hm]; rfl
theorem topO_ref {S : Sto} {n l : Nat} {ds : List D} {w : D} (h : S l = some (.lst ds)) (ht : tupO (n + 1) (.lst ds) = some w) : topO S (n + 1) (.ref l) = some w := by
  show (match S l with
    | some (.lst ds) => if ds.length ≤ sizeLine then (mapO (topO S n) ds).map D.tup else none
    | _ => none) = _
  rw [h]
  exact seqO_imp (fun a _ y e => tupO_top e) ht
theorem v0_tupled : ∀ ds S Q E, sp_tupled 0 ds S Q E → False := by
  rintro ds S Q E ⟨v, w, rfl, h, q⟩
  cases h
theorem tupled_seq {n : Nat} {S : Sto} {v : D} {ds ws : List D} {Q : DK} (hs : seqD S v = some ds) (ok : (gsOf v (.lst ds)).ok S) (ty : tyD S v = some "list" ∨ tyD S v = some "tuple") (hz : ds.length ≤ sizeLine) (hm : mapO (topO S n) ds = some ws) (q : Q (.tup ws) S ∨ ∃ us, D.tup ws = .tup us ∧ Q (.kt us) S) :
    d_tupled n (EndsD Q) (startD N_tupled [v]) S := by
  obtain ⟨m1, m2, m3⟩ := mapO_some hm
  simp only [d_tupled, N_tupled, hs, dWkA, dTupK, dTupL, dTupIx, dDictP, dDc2, dFor, dWhile, dLc, dLc2, dDc, dNextG, iSeq, iR1, iR2, iEn, iZpA, iZ2, iZ3, dSortK, dSortKF, dSortSet, dSortSetF, dBreak, bSortT, bSortTF, bSum, bSumL, bSumLF, bMaxL, bMinL, dDicE, bSortD, bSortDF, dGet2, oInA, oNotInA, oIxA, gdSubA, dSeq, dSet, dIf, dIfS, dTst, dOp, dUn, dVar, dCB, aCons, aNil, aStar, dRet, dRetN, dNext, dDrop, dLst, dTup, dC, dAnd, dOr, dNot, dAndV, dOrV, dNotV, dPar, dAsg, gdName, gdSub, gdTup, gdCons, gdNil, gdSlot, dIsi, dIsi2, dSlot, dSetSlot, dMethSl, dMakeSl, dCall, dCallP, dBM, dFrz, dLstF, dLcF, dLc2F, dDcF, dSlF, dListVF, bListF, bListDF, bSortSF, oAddLF, oRepLF, dSl, dNoP, dPart, dListV, dTru, dOrT, EndsD, startD, oLtI, oLeI, oGtI, oGeI, oIx, oMulI, oPowI, oAddI, oSubI, oModI, oDivI, oI, oI0, oEqD, oNeD, oInD, oNotInD, oAddL, oAddT, oAddS, oRepL, bLen, bAbs, bInt, bMin2, bMax2, bAll, bAny, bTuple, bList, bListD, bSortS, mAppend, mPop, mPopAt, mExtend, mIndex, tupOf_lst, tupOf_ref, tupOf_tup, List.map_cons, List.map_nil, List.length_cons, List.length_nil, List.cons_append, List.nil_append, List.append_nil, List.replicate, List.set_cons_zero, List.set_cons_succ, List.getElem?_cons_zero, List.getElem?_cons_succ, Option.some.injEq, exists_eq_left', exists_eq_left, exists_and_left, D.int.injEq, D.bl.injEq, D.str.injEq, D.tup.injEq, D.lst.injEq, D.ref.injEq, List.cons.injEq, and_true, true_and, reduceCtorEq, false_and, and_false, exists_false, or_false, false_or, exists_const, Bool.false_eq_true, if_true, if_false, decide_eq_true_eq, Ob.lst.injEq, Ob.slt.injEq, Ob.dic.injEq, seqD_ref, lstD_ref, seqD_tup, seqD_lst, lstD_lst, lstR_lst, Sto.set_same, Sto.set_set, atI_0, atI_1, atI_2, Nat.reduceAdd, ixN_30, ixN_32]
  obtain ⟨T, eT, hT⟩ : ∃ T, tyD S v = some T ∧ (isK T "list" || isK T "tuple") = true := by
    rcases ty with e | e
    · exact ⟨_, e, by decide⟩
    · exact ⟨_, e, by decide⟩
  refine ⟨T, eT, ?_⟩
  rw [if_pos hT]
  refine compW_by (topO S n) ds [] ok (by simpa using hz) (fun d hd S' Py Pn s hy hn => ?_) ?_
  · obtain ⟨y, ey⟩ := m1 d hd
    simp only [turn, Tg.d, wipeD, dYes, sp_tupled, dWkA, dTupK, dTupL, dTupIx, dDictP, dDc2, dFor, dWhile, dLc, dLc2, dDc, dNextG, iSeq, iR1, iR2, iEn, iZpA, iZ2, iZ3, dSortK, dSortKF, dSortSet, dSortSetF, dBreak, bSortT, bSortTF, bSum, bSumL, bSumLF, bMaxL, bMinL, dDicE, bSortD, bSortDF, dGet2, oInA, oNotInA, oIxA, gdSubA, dSeq, dSet, dIf, dIfS, dTst, dOp, dUn, dVar, dCB, aCons, aNil, aStar, dRet, dRetN, dNext, dDrop, dLst, dTup, dC, dAnd, dOr, dNot, dAndV, dOrV, dNotV, dPar, dAsg, gdName, gdSub, gdTup, gdCons, gdNil, gdSlot, dIsi, dIsi2, dSlot, dSetSlot, dMethSl, dMakeSl, dCall, dCallP, dBM, dFrz, dLstF, dLcF, dLc2F, dDcF, dSlF, dListVF, bListF, bListDF, bSortSF, oAddLF, oRepLF, dSl, dNoP, dPart, dListV, dTru, dOrT, EndsD, startD, oLtI, oLeI, oGtI, oGeI, oIx, oMulI, oPowI, oAddI, oSubI, oModI, oDivI, oI, oI0, oEqD, oNeD, oInD, oNotInD, oAddL, oAddT, oAddS, oRepL, bLen, bAbs, bInt, bMin2, bMax2, bAll, bAny, bTuple, bList, bListD, bSortS, mAppend, mPop, mPopAt, mExtend, mIndex, tupOf_lst, tupOf_ref, tupOf_tup, List.map_cons, List.map_nil, List.length_cons, List.length_nil, List.cons_append, List.nil_append, List.append_nil, List.replicate, List.set_cons_zero, List.set_cons_succ, List.getElem?_cons_zero, List.getElem?_cons_succ, Option.some.injEq, exists_eq_left', exists_eq_left, exists_and_left, D.int.injEq, D.bl.injEq, D.str.injEq, D.tup.injEq, D.lst.injEq, D.ref.injEq, List.cons.injEq, and_true, true_and, reduceCtorEq, false_and, and_false, exists_false, or_false, false_or, exists_const, Bool.false_eq_true, if_true, if_false, decide_eq_true_eq, Ob.lst.injEq, Ob.slt.injEq, Ob.dic.injEq, seqD_ref, lstD_ref, seqD_tup, seqD_lst, lstD_lst, lstR_lst, Sto.set_same, Sto.set_set, atI_0, atI_1, atI_2, Nat.reduceAdd, ixN_30, ixN_32]
    exact ⟨y, topO_mono ey s, .inl (hy y ey)⟩
  · rw [List.nil_append, m2]
    intro l hl
    rcases q with q | ⟨us, e, q⟩
    · exact .inl ⟨S, Sto.sub_set hl, q⟩
    · cases e
      exact .inr ⟨S, Sto.sub_set hl, q⟩
theorem v_tupled {n : Nat} : ∀ ds S Q E, sp_tupled (n + 1) ds S Q E → d_tupled n (EndsD Q) (startD N_tupled ds) S := by
  rintro ds S Q E ⟨v, w, rfl, h, q⟩
  have atom : ∀ {T}, tyD S v = some T → (isK T "list" || isK T "tuple") = false → w = v → d_tupled n (EndsD Q) (startD N_tupled [v]) S := fun {T} e hT ew => by
    subst ew
    have q : Q w S ∨ ∃ us, w = .tup us ∧ Q (.kt us) S := q
    have q' : Q w S := by
      rcases q with q | ⟨us, rfl, _⟩
      · exact q
      · cases e; exact absurd hT (by decide)
    simp only [d_tupled, N_tupled, dWkA, dTupK, dTupL, dTupIx, dDictP, dDc2, dFor, dWhile, dLc, dLc2, dDc, dNextG, iSeq, iR1, iR2, iEn, iZpA, iZ2, iZ3, dSortK, dSortKF, dSortSet, dSortSetF, dBreak, bSortT, bSortTF, bSum, bSumL, bSumLF, bMaxL, bMinL, dDicE, bSortD, bSortDF, dGet2, oInA, oNotInA, oIxA, gdSubA, dSeq, dSet, dIf, dIfS, dTst, dOp, dUn, dVar, dCB, aCons, aNil, aStar, dRet, dRetN, dNext, dDrop, dLst, dTup, dC, dAnd, dOr, dNot, dAndV, dOrV, dNotV, dPar, dAsg, gdName, gdSub, gdTup, gdCons, gdNil, gdSlot, dIsi, dIsi2, dSlot, dSetSlot, dMethSl, dMakeSl, dCall, dCallP, dBM, dFrz, dLstF, dLcF, dLc2F, dDcF, dSlF, dListVF, bListF, bListDF, bSortSF, oAddLF, oRepLF, dSl, dNoP, dPart, dListV, dTru, dOrT, EndsD, startD, oLtI, oLeI, oGtI, oGeI, oIx, oMulI, oPowI, oAddI, oSubI, oModI, oDivI, oI, oI0, oEqD, oNeD, oInD, oNotInD, oAddL, oAddT, oAddS, oRepL, bLen, bAbs, bInt, bMin2, bMax2, bAll, bAny, bTuple, bList, bListD, bSortS, mAppend, mPop, mPopAt, mExtend, mIndex, tupOf_lst, tupOf_ref, tupOf_tup, List.map_cons, List.map_nil, List.length_cons, List.length_nil, List.cons_append, List.nil_append, List.append_nil, List.replicate, List.set_cons_zero, List.set_cons_succ, List.getElem?_cons_zero, List.getElem?_cons_succ, Option.some.injEq, exists_eq_left', exists_eq_left, exists_and_left, D.int.injEq, D.bl.injEq, D.str.injEq, D.tup.injEq, D.lst.injEq, D.ref.injEq, List.cons.injEq, and_true, true_and, reduceCtorEq, false_and, and_false, exists_false, or_false, false_or, exists_const, Bool.false_eq_true, if_true, if_false, decide_eq_true_eq, Ob.lst.injEq, Ob.slt.injEq, Ob.dic.injEq, seqD_ref, lstD_ref, seqD_tup, seqD_lst, lstD_lst, lstR_lst, Sto.set_same, Sto.set_set, atI_0, atI_1, atI_2, Nat.reduceAdd, ixN_30, ixN_32]
    refine ⟨T, e, ?_⟩
    rw [hT, if_neg Bool.false_ne_true]
    exact drp_of q'
  cases v with
  | non => cases h; exact atom rfl (by decide) rfl
  | bl b => cases h; exact atom rfl (by decide) rfl
  | int b => cases h; exact atom rfl (by decide) rfl
  | str b => cases h; exact atom rfl (by decide) rfl
  | tup ds =>
    obtain ⟨hz, h⟩ := if_some (show (if ds.length ≤ sizeLine then (mapO (topO S n) ds).map D.tup else none) = some w from h)
    obtain ⟨ws, e, rfl⟩ := map_some h
    exact tupled_seq rfl gs_tup (.inr rfl) hz e q
  | lst ds =>
    obtain ⟨hz, h⟩ := if_some (show (if ds.length ≤ sizeLine then (mapO (topO S n) ds).map D.tup else none) = some w from h)
    obtain ⟨ws, e, rfl⟩ := map_some h
    exact tupled_seq rfl gs_lst (.inl rfl) hz e q
  | kt ds =>
    obtain ⟨hz, h⟩ := if_some (show (if ds.length ≤ sizeLine then (mapO (topO S n) ds).map D.tup else none) = some w from h)
    obtain ⟨ws, e, rfl⟩ := map_some h
    exact tupled_seq rfl Gs.ok_nil (.inr rfl) hz e q
  | ref l =>
    have h' : (match S l with
      | some (.lst ds) => if ds.length ≤ sizeLine then (mapO (topO S n) ds).map D.tup else none
      | _ => none) = some w := h
    cases eS : S l with
    | none => rw [eS] at h'; cases h'
    | some o =>
      rw [eS] at h'
      cases o with
      | lst ds =>
        obtain ⟨hz, h⟩ := if_some (show (if ds.length ≤ sizeLine then (mapO (topO S n) ds).map D.tup else none) = some w from h')
        obtain ⟨ws, e, rfl⟩ := map_some h
        exact tupled_seq (by rw [seqD_ref, eS]) (gs_ref eS) (.inl (by show (match S l with | some (.lst _) => some "list" | some (.dic _ _) => some "dict" | _ => none) = _; rw [eS])) hz e q
      | _ => cases h'
  | _ => cases h
end LK
end
section
set_option Elab.async false
set_option linter.all false
set_option maxRecDepth 100000
set_option maxHeartbeats 400000
namespace LK
open PySem PySem.Spec PyProof.Rows L2 L3
section
variable {K : PySem.W.Frag}
theorem v_World_headers : ∀ ds S Q E, sp_World_headers K ds S Q E → d_World_headers K (EndsD Q) (startD N_World_headers ds) S := by
  rintro ds S Q E ⟨l, w, rfl, hS, q⟩
  simp only [Wd.ob] at hS
  simp only [d_World_headers, N_World_headers, hS, dWkA, dTupK, dTupL, dTupIx, dDictP, dDc2, dFor, dWhile, dLc, dLc2, dDc, dNextG, iSeq, iR1, iR2, iEn, iZpA, iZ2, iZ3, dSortK, dSortKF, dSortSet, dSortSetF, dBreak, bSortT, bSortTF, bSum, bSumL, bSumLF, bMaxL, bMinL, dDicE, bSortD, bSortDF, dGet2, oInA, oNotInA, oIxA, gdSubA, dSeq, dSet, dIf, dIfS, dTst, dOp, dUn, dVar, dCB, aCons, aNil, aStar, dRet, dRetN, dNext, dDrop, dLst, dTup, dC, dAnd, dOr, dNot, dAndV, dOrV, dNotV, dPar, dAsg, gdName, gdSub, gdTup, gdCons, gdNil, gdSlot, dIsi, dIsi2, dSlot, dSetSlot, dMethSl, dMakeSl, dCall, dCallP, dBM, dFrz, dLstF, dLcF, dLc2F, dDcF, dSlF, dListVF, bListF, bListDF, bSortSF, oAddLF, oRepLF, dSl, dNoP, dPart, dListV, dTru, dOrT, EndsD, startD, oLtI, oLeI, oGtI, oGeI, oIx, oMulI, oPowI, oAddI, oSubI, oModI, oDivI, oI, oI0, oEqD, oNeD, oInD, oNotInD, oAddL, oAddT, oAddS, oRepL, bLen, bAbs, bInt, bMin2, bMax2, bAll, bAny, bTuple, bList, bListD, bSortS, mAppend, mPop, mPopAt, mExtend, mIndex, tupOf_lst, tupOf_ref, tupOf_tup, List.map_cons, List.map_nil, List.length_cons, List.length_nil, List.cons_append, List.nil_append, List.append_nil, List.replicate, List.set_cons_zero, List.set_cons_succ, List.getElem?_cons_zero, List.getElem?_cons_succ, Option.some.injEq, exists_eq_left', exists_eq_left, exists_and_left, D.int.injEq, D.bl.injEq, D.str.injEq, D.tup.injEq, D.lst.injEq, D.ref.injEq, List.cons.injEq, and_true, true_and, reduceCtorEq, false_and, and_false, exists_false, or_false, false_or, exists_const, Bool.false_eq_true, if_true, if_false, decide_eq_true_eq, Ob.lst.injEq, Ob.slt.injEq, Ob.dic.injEq, seqD_ref, lstD_ref, seqD_tup, seqD_lst, lstD_lst, lstR_lst, Sto.set_same, Sto.set_set, atI_0, atI_1, atI_2, Nat.reduceAdd, ixN_30, ixN_32]
  have e : (w.names.map (Sum.inr : Str → Key)).map kD = w.names.map D.str := by rw [List.map_map]; rfl
  refine ⟨_, rfl, fun l hl => ⟨_, rfl, ?_⟩⟩
  rw [Sto.del_set hl, e]
  exact drp_of q
theorem v_World_requests : ∀ ds S Q E, sp_World_requests K ds S Q E → d_World_requests K (EndsD Q) (startD N_World_requests ds) S := by
  rintro ds S Q E ⟨l, w, rfl, hS, q⟩
  simp only [Wd.ob] at hS
  simp only [d_World_requests, N_World_requests, hS, dWkA, dTupK, dTupL, dTupIx, dDictP, dDc2, dFor, dWhile, dLc, dLc2, dDc, dNextG, iSeq, iR1, iR2, iEn, iZpA, iZ2, iZ3, dSortK, dSortKF, dSortSet, dSortSetF, dBreak, bSortT, bSortTF, bSum, bSumL, bSumLF, bMaxL, bMinL, dDicE, bSortD, bSortDF, dGet2, oInA, oNotInA, oIxA, gdSubA, dSeq, dSet, dIf, dIfS, dTst, dOp, dUn, dVar, dCB, aCons, aNil, aStar, dRet, dRetN, dNext, dDrop, dLst, dTup, dC, dAnd, dOr, dNot, dAndV, dOrV, dNotV, dPar, dAsg, gdName, gdSub, gdTup, gdCons, gdNil, gdSlot, dIsi, dIsi2, dSlot, dSetSlot, dMethSl, dMakeSl, dCall, dCallP, dBM, dFrz, dLstF, dLcF, dLc2F, dDcF, dSlF, dListVF, bListF, bListDF, bSortSF, oAddLF, oRepLF, dSl, dNoP, dPart, dListV, dTru, dOrT, EndsD, startD, oLtI, oLeI, oGtI, oGeI, oIx, oMulI, oPowI, oAddI, oSubI, oModI, oDivI, oI, oI0, oEqD, oNeD, oInD, oNotInD, oAddL, oAddT, oAddS, oRepL, bLen, bAbs, bInt, bMin2, bMax2, bAll, bAny, bTuple, bList, bListD, bSortS, mAppend, mPop, mPopAt, mExtend, mIndex, tupOf_lst, tupOf_ref, tupOf_tup, List.map_cons, List.map_nil, List.length_cons, List.length_nil, List.cons_append, List.nil_append, List.append_nil, List.replicate, List.set_cons_zero, List.set_cons_succ, List.getElem?_cons_zero, List.getElem?_cons_succ, Option.some.injEq, exists_eq_left', exists_eq_left, exists_and_left, D.int.injEq, D.bl.injEq, D.str.injEq, D.tup.injEq, D.lst.injEq, D.ref.injEq, List.cons.injEq, and_true, true_and, reduceCtorEq, false_and, and_false, exists_false, or_false, false_or, exists_const, Bool.false_eq_true, if_true, if_false, decide_eq_true_eq, Ob.lst.injEq, Ob.slt.injEq, Ob.dic.injEq, seqD_ref, lstD_ref, seqD_tup, seqD_lst, lstD_lst, lstR_lst, Sto.set_same, Sto.set_set, atI_0, atI_1, atI_2, Nat.reduceAdd, ixN_30, ixN_32]
  exact fun l hl => drp_of (q l hl)
theorem v_World_value : ∀ ds S Q E, sp_World_value K ds S Q E → d_World_value K (EndsD Q) (startD N_World_value ds) S := by
  rintro ds S Q E ⟨l, w, r, n, rfl, hS, hw, hr, hn, q⟩
  simp only [Wd.ob] at hS
  simp only [d_World_value, N_World_value, sp_World_headers, rowD, hS, dWkA, dTupK, dTupL, dTupIx, dDictP, dDc2, dFor, dWhile, dLc, dLc2, dDc, dNextG, iSeq, iR1, iR2, iEn, iZpA, iZ2, iZ3, dSortK, dSortKF, dSortSet, dSortSetF, dBreak, bSortT, bSortTF, bSum, bSumL, bSumLF, bMaxL, bMinL, dDicE, bSortD, bSortDF, dGet2, oInA, oNotInA, oIxA, gdSubA, dSeq, dSet, dIf, dIfS, dTst, dOp, dUn, dVar, dCB, aCons, aNil, aStar, dRet, dRetN, dNext, dDrop, dLst, dTup, dC, dAnd, dOr, dNot, dAndV, dOrV, dNotV, dPar, dAsg, gdName, gdSub, gdTup, gdCons, gdNil, gdSlot, dIsi, dIsi2, dSlot, dSetSlot, dMethSl, dMakeSl, dCall, dCallP, dBM, dFrz, dLstF, dLcF, dLc2F, dDcF, dSlF, dListVF, bListF, bListDF, bSortSF, oAddLF, oRepLF, dSl, dNoP, dPart, dListV, dTru, dOrT, EndsD, startD, oLtI, oLeI, oGtI, oGeI, oIx, oMulI, oPowI, oAddI, oSubI, oModI, oDivI, oI, oI0, oEqD, oNeD, oInD, oNotInD, oAddL, oAddT, oAddS, oRepL, bLen, bAbs, bInt, bMin2, bMax2, bAll, bAny, bTuple, bList, bListD, bSortS, mAppend, mPop, mPopAt, mExtend, mIndex, tupOf_lst, tupOf_ref, tupOf_tup, List.map_cons, List.map_nil, List.length_cons, List.length_nil, List.cons_append, List.nil_append, List.append_nil, List.replicate, List.set_cons_zero, List.set_cons_succ, List.getElem?_cons_zero, List.getElem?_cons_succ, Option.some.injEq, exists_eq_left', exists_eq_left, exists_and_left, D.int.injEq, D.bl.injEq, D.str.injEq, D.tup.injEq, D.lst.injEq, D.ref.injEq, List.cons.injEq, and_true, true_and, reduceCtorEq, false_and, and_false, exists_false, or_false, false_or, exists_const, Bool.false_eq_true, if_true, if_false, decide_eq_true_eq, Ob.lst.injEq, Ob.slt.injEq, Ob.dic.injEq, seqD_ref, lstD_ref, seqD_tup, seqD_lst, lstD_lst, lstR_lst, Sto.set_same, Sto.set_set, atI_0, atI_1, atI_2, Nat.reduceAdd, ixN_30, ixN_32]
  obtain ⟨h1, h2, h3⟩ := idx_first hn
  exact ⟨w, rfl, .inl ⟨rfl, _, rfl⟩, _, _, pyR_of (pyD_lst (pyDs_strs _)), rfl, shp_names hw, (shp_str (names_so hw hn)).ok, _, _, h1, h2, h3, _, val_at hr hn, drp_of q⟩
theorem v_World_fits : ∀ ds S Q E, sp_World_fits K ds S Q E → d_World_fits K (EndsD Q) (startD N_World_fits ds) S := by
  rintro ds S Q E ⟨l, w, r, ts, rfl, hS, hw, hr, hl, hn, q⟩
  simp only [d_World_fits, N_World_fits, dWkA, dTupK, dTupL, dTupIx, dDictP, dDc2, dFor, dWhile, dLc, dLc2, dDc, dNextG, iSeq, iR1, iR2, iEn, iZpA, iZ2, iZ3, dSortK, dSortKF, dSortSet, dSortSetF, dBreak, bSortT, bSortTF, bSum, bSumL, bSumLF, bMaxL, bMinL, dDicE, bSortD, bSortDF, dGet2, oInA, oNotInA, oIxA, gdSubA, dSeq, dSet, dIf, dIfS, dTst, dOp, dUn, dVar, dCB, aCons, aNil, aStar, dRet, dRetN, dNext, dDrop, dLst, dTup, dC, dAnd, dOr, dNot, dAndV, dOrV, dNotV, dPar, dAsg, gdName, gdSub, gdTup, gdCons, gdNil, gdSlot, dIsi, dIsi2, dSlot, dSetSlot, dMethSl, dMakeSl, dCall, dCallP, dBM, dFrz, dLstF, dLcF, dLc2F, dDcF, dSlF, dListVF, bListF, bListDF, bSortSF, oAddLF, oRepLF, dSl, dNoP, dPart, dListV, dTru, dOrT, EndsD, startD, oLtI, oLeI, oGtI, oGeI, oIx, oMulI, oPowI, oAddI, oSubI, oModI, oDivI, oI, oI0, oEqD, oNeD, oInD, oNotInD, oAddL, oAddT, oAddS, oRepL, bLen, bAbs, bInt, bMin2, bMax2, bAll, bAny, bTuple, bList, bListD, bSortS, mAppend, mPop, mPopAt, mExtend, mIndex, tupOf_lst, tupOf_ref, tupOf_tup, List.map_cons, List.map_nil, List.length_cons, List.length_nil, List.cons_append, List.nil_append, List.append_nil, List.replicate, List.set_cons_zero, List.set_cons_succ, List.getElem?_cons_zero, List.getElem?_cons_succ, Option.some.injEq, exists_eq_left', exists_eq_left, exists_and_left, D.int.injEq, D.bl.injEq, D.str.injEq, D.tup.injEq, D.lst.injEq, D.ref.injEq, List.cons.injEq, and_true, true_and, reduceCtorEq, false_and, and_false, exists_false, or_false, false_or, exists_const, Bool.false_eq_true, if_true, if_false, decide_eq_true_eq, Ob.lst.injEq, Ob.slt.injEq, Ob.dic.injEq, seqD_ref, lstD_ref, seqD_tup, seqD_lst, lstD_lst, lstR_lst, Sto.set_same, Sto.set_set, atI_0, atI_1, atI_2, Nat.reduceAdd, ixN_30, ixN_32]
  refine compW_all testD (fun t => .bl (decide (w.val r t.1 = t.2))) gs_tup (small_sz (by omega)) (fun t ht S' Py s hy => ?_) fun m hm => ⟨ts.map fun t => decide (w.val r t.1 = t.2), by rw [List.map_map]; rfl, S, Sto.sub_set hm, ?_⟩
  · obtain ⟨h1, h2⟩ := hn t ht
    simp only [Tg.d, wipeD, testD, setsE, sp_World_value, dWkA, dTupK, dTupL, dTupIx, dDictP, dDc2, dFor, dWhile, dLc, dLc2, dDc, dNextG, iSeq, iR1, iR2, iEn, iZpA, iZ2, iZ3, dSortK, dSortKF, dSortSet, dSortSetF, dBreak, bSortT, bSortTF, bSum, bSumL, bSumLF, bMaxL, bMinL, dDicE, bSortD, bSortDF, dGet2, oInA, oNotInA, oIxA, gdSubA, dSeq, dSet, dIf, dIfS, dTst, dOp, dUn, dVar, dCB, aCons, aNil, aStar, dRet, dRetN, dNext, dDrop, dLst, dTup, dC, dAnd, dOr, dNot, dAndV, dOrV, dNotV, dPar, dAsg, gdName, gdSub, gdTup, gdCons, gdNil, gdSlot, dIsi, dIsi2, dSlot, dSetSlot, dMethSl, dMakeSl, dCall, dCallP, dBM, dFrz, dLstF, dLcF, dLc2F, dDcF, dSlF, dListVF, bListF, bListDF, bSortSF, oAddLF, oRepLF, dSl, dNoP, dPart, dListV, dTru, dOrT, EndsD, startD, oLtI, oLeI, oGtI, oGeI, oIx, oMulI, oPowI, oAddI, oSubI, oModI, oDivI, oI, oI0, oEqD, oNeD, oInD, oNotInD, oAddL, oAddT, oAddS, oRepL, bLen, bAbs, bInt, bMin2, bMax2, bAll, bAny, bTuple, bList, bListD, bSortS, mAppend, mPop, mPopAt, mExtend, mIndex, tupOf_lst, tupOf_ref, tupOf_tup, List.map_cons, List.map_nil, List.length_cons, List.length_nil, List.cons_append, List.nil_append, List.append_nil, List.replicate, List.set_cons_zero, List.set_cons_succ, List.getElem?_cons_zero, List.getElem?_cons_succ, Option.some.injEq, exists_eq_left', exists_eq_left, exists_and_left, D.int.injEq, D.bl.injEq, D.str.injEq, D.tup.injEq, D.lst.injEq, D.ref.injEq, List.cons.injEq, and_true, true_and, reduceCtorEq, false_and, and_false, exists_false, or_false, false_or, exists_const, Bool.false_eq_true, if_true, if_false, decide_eq_true_eq, Ob.lst.injEq, Ob.slt.injEq, Ob.dic.injEq, seqD_ref, lstD_ref, seqD_tup, seqD_lst, lstD_lst, lstR_lst, Sto.set_same, Sto.set_set, atI_0, atI_1, atI_2, Nat.reduceAdd, ixN_30, ixN_32]
    refine ⟨_, s _ _ hS, l, w, r, t.1, ⟨rfl, rfl, rfl⟩, s _ _ hS, hw, hr, h1, _, rfl, _, rfl, (shp_str (val_so hr _)).ok, (shp_str h2).ok, ?_⟩
    rw [eqv_str]
    exact hy
  · rw [List.all_map]
    exact q
theorem ans_next (w : Wd) (r : Row) : ∀ rs : List Rule, ((rs.findSome? fun x => if w.fits r x.1 = true then some (D.str x.2) else none).getD (.str "")) = .str (((rs.filter fun x : Rule => w.fits r x.1).map (·.2) ++ [("" : Str)]).headD "")
  | [] => rfl
  | x :: rs => by
    rw [List.findSome?_cons, List.filter_cons]
    by_cases h : w.fits r x.1 = true
    · rw [if_pos h, if_pos h]; rfl
    · rw [if_neg h, if_neg h]
      exact ans_next w r rs
theorem v_World_answer : ∀ ds S Q E, sp_World_answer K ds S Q E → d_World_answer K (EndsD Q) (startD N_World_answer ds) S := by
  rintro ds S Q E ⟨l, w, r, rfl, hS, hw, hr, q⟩
  have hS' := hS
  simp only [Wd.ob] at hS
  simp only [d_World_answer, N_World_answer, hS, dWkA, dTupK, dTupL, dTupIx, dDictP, dDc2, dFor, dWhile, dLc, dLc2, dDc, dNextG, iSeq, iR1, iR2, iEn, iZpA, iZ2, iZ3, dSortK, dSortKF, dSortSet, dSortSetF, dBreak, bSortT, bSortTF, bSum, bSumL, bSumLF, bMaxL, bMinL, dDicE, bSortD, bSortDF, dGet2, oInA, oNotInA, oIxA, gdSubA, dSeq, dSet, dIf, dIfS, dTst, dOp, dUn, dVar, dCB, aCons, aNil, aStar, dRet, dRetN, dNext, dDrop, dLst, dTup, dC, dAnd, dOr, dNot, dAndV, dOrV, dNotV, dPar, dAsg, gdName, gdSub, gdTup, gdCons, gdNil, gdSlot, dIsi, dIsi2, dSlot, dSetSlot, dMethSl, dMakeSl, dCall, dCallP, dBM, dFrz, dLstF, dLcF, dLc2F, dDcF, dSlF, dListVF, bListF, bListDF, bSortSF, oAddLF, oRepLF, dSl, dNoP, dPart, dListV, dTru, dOrT, EndsD, startD, oLtI, oLeI, oGtI, oGeI, oIx, oMulI, oPowI, oAddI, oSubI, oModI, oDivI, oI, oI0, oEqD, oNeD, oInD, oNotInD, oAddL, oAddT, oAddS, oRepL, bLen, bAbs, bInt, bMin2, bMax2, bAll, bAny, bTuple, bList, bListD, bSortS, mAppend, mPop, mPopAt, mExtend, mIndex, tupOf_lst, tupOf_ref, tupOf_tup, List.map_cons, List.map_nil, List.length_cons, List.length_nil, List.cons_append, List.nil_append, List.append_nil, List.replicate, List.set_cons_zero, List.set_cons_succ, List.getElem?_cons_zero, List.getElem?_cons_succ, Option.some.injEq, exists_eq_left', exists_eq_left, exists_and_left, D.int.injEq, D.bl.injEq, D.str.injEq, D.tup.injEq, D.lst.injEq, D.ref.injEq, List.cons.injEq, and_true, true_and, reduceCtorEq, false_and, and_false, exists_false, or_false, false_or, exists_const, Bool.false_eq_true, if_true, if_false, decide_eq_true_eq, Ob.lst.injEq, Ob.slt.injEq, Ob.dic.injEq, seqD_ref, lstD_ref, seqD_tup, seqD_lst, lstD_lst, lstR_lst, Sto.set_same, Sto.set_set, atI_0, atI_1, atI_2, Nat.reduceAdd, ixN_30, ixN_32]
  refine nextW_on ruleD (fun x => if w.fits r x.1 = true then some (.str x.2) else none) w.rs gs_tup (fun x hx Py Pn hy hn => ?_) ?_
  · simp only [turn, Tg.d, wipeD, ruleD, setsE, sp_World_fits, dWkA, dTupK, dTupL, dTupIx, dDictP, dDc2, dFor, dWhile, dLc, dLc2, dDc, dNextG, iSeq, iR1, iR2, iEn, iZpA, iZ2, iZ3, dSortK, dSortKF, dSortSet, dSortSetF, dBreak, bSortT, bSortTF, bSum, bSumL, bSumLF, bMaxL, bMinL, dDicE, bSortD, bSortDF, dGet2, oInA, oNotInA, oIxA, gdSubA, dSeq, dSet, dIf, dIfS, dTst, dOp, dUn, dVar, dCB, aCons, aNil, aStar, dRet, dRetN, dNext, dDrop, dLst, dTup, dC, dAnd, dOr, dNot, dAndV, dOrV, dNotV, dPar, dAsg, gdName, gdSub, gdTup, gdCons, gdNil, gdSlot, dIsi, dIsi2, dSlot, dSetSlot, dMethSl, dMakeSl, dCall, dCallP, dBM, dFrz, dLstF, dLcF, dLc2F, dDcF, dSlF, dListVF, bListF, bListDF, bSortSF, oAddLF, oRepLF, dSl, dNoP, dPart, dListV, dTru, dOrT, EndsD, startD, oLtI, oLeI, oGtI, oGeI, oIx, oMulI, oPowI, oAddI, oSubI, oModI, oDivI, oI, oI0, oEqD, oNeD, oInD, oNotInD, oAddL, oAddT, oAddS, oRepL, bLen, bAbs, bInt, bMin2, bMax2, bAll, bAny, bTuple, bList, bListD, bSortS, mAppend, mPop, mPopAt, mExtend, mIndex, tupOf_lst, tupOf_ref, tupOf_tup, List.map_cons, List.map_nil, List.length_cons, List.length_nil, List.cons_append, List.nil_append, List.append_nil, List.replicate, List.set_cons_zero, List.set_cons_succ, List.getElem?_cons_zero, List.getElem?_cons_succ, Option.some.injEq, exists_eq_left', exists_eq_left, exists_and_left, D.int.injEq, D.bl.injEq, D.str.injEq, D.tup.injEq, D.lst.injEq, D.ref.injEq, List.cons.injEq, and_true, true_and, reduceCtorEq, false_and, and_false, exists_false, or_false, false_or, exists_const, Bool.false_eq_true, if_true, if_false, decide_eq_true_eq, Ob.lst.injEq, Ob.slt.injEq, Ob.dic.injEq, seqD_ref, lstD_ref, seqD_tup, seqD_lst, lstD_lst, lstR_lst, Sto.set_same, Sto.set_set, atI_0, atI_1, atI_2, Nat.reduceAdd, ixN_30, ixN_32]
    refine ⟨_, hS', l, w, r, x.1, ⟨rfl, rfl, rfl⟩, hS', hw, hr, hw.tl x hx, fun t ht => ⟨hw.tn x hx t ht, ((hw.ro x hx).2 t ht).2⟩, ?_⟩
    by_cases h : w.fits r x.1 = true
    · rw [if_pos h] at hy ⊢
      exact hy _ rfl
    · rw [if_neg h] at hn ⊢
      exact hn rfl
  · have e := ans_next w r w.rs
    rw [e]
    exact drp_of q
theorem rows_inv : ∀ (hs : List Head) (rs : List Row) (n : Nat), (∀ h ∈ hs, ∀ v ∈ h.2, PyData.strOk v = true) → (∀ r ∈ rs, r.length = n ∧ ∀ v ∈ r, PyData.strOk v = true) → ∀ r ∈ hs.foldl grow rs, r.length = n + hs.length ∧ ∀ v ∈ r, PyData.strOk v = true
  | [], rs, n, _, hr, r, h => hr r h
  | h :: hs, rs, n, hv, hr, r, hm => by
    have := rows_inv hs (grow rs h) (n + 1) (fun x hx => hv x (List.mem_cons_of_mem _ hx)) (fun r hx => by
      unfold grow at hx
      obtain ⟨r0, hr0, hx⟩ := List.mem_flatMap.mp hx
      obtain ⟨v, hv2, rfl⟩ := List.mem_map.mp hx
      obtain ⟨h1, h2⟩ := hr r0 hr0
      refine ⟨by simp [h1], fun x hx => ?_⟩
      rcases List.mem_append.mp hx with hx | hx
      · exact h2 x hx
      · rw [List.mem_singleton.mp hx]
        rcases List.mem_cons.mp hv2 with rfl | hv2
        · decide +kernel
        · exact hv h List.mem_cons_self v hv2) r hm
    rw [List.length_cons]
    exact ⟨by omega, this.2⟩
theorem rows_ok {w : Wd} (hw : WOk w) {r : Row} (h : r ∈ w.rows) : ROk w r := by
  have := rows_inv w.hs [[]] 0 (fun h hh => (hw.so h hh).2) (fun r hr => by rw [List.mem_singleton.mp hr]; exact ⟨rfl, fun _ h => by cases h⟩) r h
  exact ⟨by omega, this.2⟩
theorem shp_row {r : Row} (h : ∀ v ∈ r, PyData.strOk v = true) : Shp (.tuple (r.map .str)) 1 := shp_tup (n := 0) (shp_map fun v hv => shp_str (h v hv))
theorem py_row (r : Row) : pyD (rowD r) = some (.tuple (r.map .str)) := pyD_tup (pyDs_strs r)
theorem eqv_row (r s : Row) : PyData.eqv (.tuple (r.map .str)) (.tuple (s.map .str)) = decide (r = s) := by
  show PyData.eqvAll _ _ = _
  exact eqvAll_map eqv_str r s
theorem v_World_check : ∀ ds S Q E, sp_World_check K ds S Q E → d_World_check K (EndsD Q) (startD N_World_check ds) S := by
  rintro ds S Q E ⟨l, w, r, v, rfl, hS, hw, hr, hv, q⟩
  simp only [Wd.ob] at hS
  simp only [d_World_check, N_World_check, sp_tupled, hS, dWkA, dTupK, dTupL, dTupIx, dDictP, dDc2, dFor, dWhile, dLc, dLc2, dDc, dNextG, iSeq, iR1, iR2, iEn, iZpA, iZ2, iZ3, dSortK, dSortKF, dSortSet, dSortSetF, dBreak, bSortT, bSortTF, bSum, bSumL, bSumLF, bMaxL, bMinL, dDicE, bSortD, bSortDF, dGet2, oInA, oNotInA, oIxA, gdSubA, dSeq, dSet, dIf, dIfS, dTst, dOp, dUn, dVar, dCB, aCons, aNil, aStar, dRet, dRetN, dNext, dDrop, dLst, dTup, dC, dAnd, dOr, dNot, dAndV, dOrV, dNotV, dPar, dAsg, gdName, gdSub, gdTup, gdCons, gdNil, gdSlot, dIsi, dIsi2, dSlot, dSetSlot, dMethSl, dMakeSl, dCall, dCallP, dBM, dFrz, dLstF, dLcF, dLc2F, dDcF, dSlF, dListVF, bListF, bListDF, bSortSF, oAddLF, oRepLF, dSl, dNoP, dPart, dListV, dTru, dOrT, EndsD, startD, oLtI, oLeI, oGtI, oGeI, oIx, oMulI, oPowI, oAddI, oSubI, oModI, oDivI, oI, oI0, oEqD, oNeD, oInD, oNotInD, oAddL, oAddT, oAddS, oRepL, bLen, bAbs, bInt, bMin2, bMax2, bAll, bAny, bTuple, bList, bListD, bSortS, mAppend, mPop, mPopAt, mExtend, mIndex, tupOf_lst, tupOf_ref, tupOf_tup, List.map_cons, List.map_nil, List.length_cons, List.length_nil, List.cons_append, List.nil_append, List.append_nil, List.replicate, List.set_cons_zero, List.set_cons_succ, List.getElem?_cons_zero, List.getElem?_cons_succ, Option.some.injEq, exists_eq_left', exists_eq_left, exists_and_left, D.int.injEq, D.bl.injEq, D.str.injEq, D.tup.injEq, D.lst.injEq, D.ref.injEq, List.cons.injEq, and_true, true_and, reduceCtorEq, false_and, and_false, exists_false, or_false, false_or, exists_const, Bool.false_eq_true, if_true, if_false, decide_eq_true_eq, Ob.lst.injEq, Ob.slt.injEq, Ob.dic.injEq, seqD_ref, lstD_ref, seqD_tup, seqD_lst, lstD_lst, lstR_lst, Sto.set_same, Sto.set_set, atI_0, atI_1, atI_2, Nat.reduceAdd, ixN_30, ixN_32]
  refine ⟨_, hv, .inl ⟨_, pyR_of (py_row r), _, pyR_of (pyD_lst (pyDs_map py_row w.rows)), (shp_row (rows_ok hw hr).so).ok, (shp_list (n := 1) (shp_map fun x hx => shp_row (rows_ok hw hx).so)).ok, ?_⟩⟩
  have e : ((w.rows.map fun r : Row => PyData.tuple (r.map .str)).any fun z => z.eqv (.tuple (r.map .str))) = true := by
    rw [List.any_map, List.any_eq_true]
    exact ⟨r, hr, by show PyData.eqv _ _ = true; rw [eqv_row]; exact decide_eq_true rfl⟩
  rw [e]
  exact drp_of q
end
end LK
end
section
set_option Elab.async false
set_option linter.all false
set_option maxRecDepth 100000
set_option maxHeartbeats 400000
namespace LK
open PySem PySem.Spec PyProof.Rows L2 L3
section
variable {K : PySem.W.Frag}
theorem putD_1 (v : D) : putD 1 v [] = [none, some v] := rfl
theorem putD_2 (v w : D) : putD 2 w [none, some v] = [none, some v, some w] := rfl
theorem putD_0 (a : Option D) (b c : Option D) (v : D) : putD 0 v [a, b, c] = [some v, b, c] := rfl
abbrev bodyW (C : Addr) : DS := dSetSlot C 0 (dVar 0) (dFrz (dLc2 (iSeq (dSlot C 0 (dVar 0))) (.one 5) (dYes) (iSeq (dVar 2)) (.one 6) (dYes) (dTup (aStar (dVar 5) (aCons (dVar 6) (aNil)))) [5, 6] [6]))
theorem grow_map (rs : List Row) (h : Head) : (rs.flatMap fun r => (("" : Str) :: h.2).map fun v => rowD (r ++ [v])) = (grow rs h).map rowD := by
  unfold grow
  rw [List.map_flatMap]
  congr 1
  funext r
  rw [List.map_map]; rfl
theorem initW (C : Addr) (S : Sto) (l : Nat) (x1 x3 x4 rr vv : Option D) (E : DEnds) (gs : Gs) : ∀ (hs : List Head) (rs : List Row) (x2 x5 x6 : Option D), (∀ rs : List Row, gs.ok (S.set l (.slt C [some (.lst (rs.map rowD)), rr, vv]))) → (∀ h ∈ hs, h.2.length ≤ 5) → (∀ r ∈ rs, r.length + hs.length ≤ 1000) → rs.length * 6 ^ hs.length ≤ 10000000 →
    (∀ b2 b5 b6, E.nx [some (.ref l), x1, b2, x3, x4, b5, b6] (S.set l (.slt C [some (.lst ((hs.foldl grow rs).map rowD)), rr, vv]))) →
    forW gs (.one 2) (bodyW C) E (hs.map valsD) [some (.ref l), x1, x2, x3, x4, x5, x6] (S.set l (.slt C [some (.lst (rs.map rowD)), rr, vv]))
  | [], rs, x2, x5, x6, ok, _, _, _, q => ⟨ok rs, q _ _ _⟩
  | h :: hs, rs, x2, x5, x6, ok, hv, hr, hz, q => by
    have h1 := hv h List.mem_cons_self
    have hlen : (grow rs h).length ≤ rs.length * 6 := by simpa using rows_len [h] rs (fun x hx => by rw [List.mem_singleton.mp hx]; exact h1)
    have hz6 : rs.length * 6 ≤ 10000000 := by
      rw [List.length_cons, Nat.pow_succ] at hz
      have : 1 ≤ 6 ^ hs.length := Nat.one_le_pow _ _ (by decide)
      calc rs.length * 6 = rs.length * (1 * 6) := by omega
        _ ≤ rs.length * (6 ^ hs.length * 6) := Nat.mul_le_mul_left _ (Nat.mul_le_mul_right _ this)
        _ ≤ 10000000 := hz
    refine ⟨ok rs, ?_⟩
    simp only [Tg.d, bodyW, dWkA, dTupK, dTupL, dTupIx, dDictP, dDc2, dFor, dWhile, dLc, dLc2, dDc, dNextG, iSeq, iR1, iR2, iEn, iZpA, iZ2, iZ3, dSortK, dSortKF, dSortSet, dSortSetF, dBreak, bSortT, bSortTF, bSum, bSumL, bSumLF, bMaxL, bMinL, dDicE, bSortD, bSortDF, dGet2, oInA, oNotInA, oIxA, gdSubA, dSeq, dSet, dIf, dIfS, dTst, dOp, dUn, dVar, dCB, aCons, aNil, aStar, dRet, dRetN, dNext, dDrop, dLst, dTup, dC, dAnd, dOr, dNot, dAndV, dOrV, dNotV, dPar, dAsg, gdName, gdSub, gdTup, gdCons, gdNil, gdSlot, dIsi, dIsi2, dSlot, dSetSlot, dMethSl, dMakeSl, dCall, dCallP, dBM, dFrz, dLstF, dLcF, dLc2F, dDcF, dSlF, dListVF, bListF, bListDF, bSortSF, oAddLF, oRepLF, dSl, dNoP, dPart, dListV, dTru, dOrT, EndsD, startD, oLtI, oLeI, oGtI, oGeI, oIx, oMulI, oPowI, oAddI, oSubI, oModI, oDivI, oI, oI0, oEqD, oNeD, oInD, oNotInD, oAddL, oAddT, oAddS, oRepL, bLen, bAbs, bInt, bMin2, bMax2, bAll, bAny, bTuple, bList, bListD, bSortS, mAppend, mPop, mPopAt, mExtend, mIndex, tupOf_lst, tupOf_ref, tupOf_tup, List.map_cons, List.map_nil, List.length_cons, List.length_nil, List.cons_append, List.nil_append, List.append_nil, List.replicate, List.set_cons_zero, List.set_cons_succ, List.getElem?_cons_zero, List.getElem?_cons_succ, Option.some.injEq, exists_eq_left', exists_eq_left, exists_and_left, D.int.injEq, D.bl.injEq, D.str.injEq, D.tup.injEq, D.lst.injEq, D.ref.injEq, List.cons.injEq, and_true, true_and, reduceCtorEq, false_and, and_false, exists_false, or_false, false_or, exists_const, Bool.false_eq_true, if_true, if_false, decide_eq_true_eq, Ob.lst.injEq, Ob.slt.injEq, Ob.dic.injEq, seqD_ref, lstD_ref, seqD_tup, seqD_lst, lstD_lst, lstR_lst, Sto.set_same, Sto.set_set, atI_0, atI_1, atI_2, Nat.reduceAdd, ixN_30, ixN_32]
    refine comp2_one (α := Row) (β := Str) (gs1 := []) (ys := ("" : Str) :: h.2) rowD D.str (fun r v => rowD (r ++ [v])) gs_lst Gs.ok_nil rs [] (fun r hx S' R s hR => ?_) (fun r hx v hv2 S' Py s hy => ?_) ?_ ?_
    · simp only [wipeD, dWkA, dTupK, dTupL, dTupIx, dDictP, dDc2, dFor, dWhile, dLc, dLc2, dDc, dNextG, iSeq, iR1, iR2, iEn, iZpA, iZ2, iZ3, dSortK, dSortKF, dSortSet, dSortSetF, dBreak, bSortT, bSortTF, bSum, bSumL, bSumLF, bMaxL, bMinL, dDicE, bSortD, bSortDF, dGet2, oInA, oNotInA, oIxA, gdSubA, dSeq, dSet, dIf, dIfS, dTst, dOp, dUn, dVar, dCB, aCons, aNil, aStar, dRet, dRetN, dNext, dDrop, dLst, dTup, dC, dAnd, dOr, dNot, dAndV, dOrV, dNotV, dPar, dAsg, gdName, gdSub, gdTup, gdCons, gdNil, gdSlot, dIsi, dIsi2, dSlot, dSetSlot, dMethSl, dMakeSl, dCall, dCallP, dBM, dFrz, dLstF, dLcF, dLc2F, dDcF, dSlF, dListVF, bListF, bListDF, bSortSF, oAddLF, oRepLF, dSl, dNoP, dPart, dListV, dTru, dOrT, EndsD, startD, oLtI, oLeI, oGtI, oGeI, oIx, oMulI, oPowI, oAddI, oSubI, oModI, oDivI, oI, oI0, oEqD, oNeD, oInD, oNotInD, oAddL, oAddT, oAddS, oRepL, bLen, bAbs, bInt, bMin2, bMax2, bAll, bAny, bTuple, bList, bListD, bSortS, mAppend, mPop, mPopAt, mExtend, mIndex, tupOf_lst, tupOf_ref, tupOf_tup, List.map_cons, List.map_nil, List.length_cons, List.length_nil, List.cons_append, List.nil_append, List.append_nil, List.replicate, List.set_cons_zero, List.set_cons_succ, List.getElem?_cons_zero, List.getElem?_cons_succ, Option.some.injEq, exists_eq_left', exists_eq_left, exists_and_left, D.int.injEq, D.bl.injEq, D.str.injEq, D.tup.injEq, D.lst.injEq, D.ref.injEq, List.cons.injEq, and_true, true_and, reduceCtorEq, false_and, and_false, exists_false, or_false, false_or, exists_const, Bool.false_eq_true, if_true, if_false, decide_eq_true_eq, Ob.lst.injEq, Ob.slt.injEq, Ob.dic.injEq, seqD_ref, lstD_ref, seqD_tup, seqD_lst, lstD_lst, lstR_lst, Sto.set_same, Sto.set_set, atI_0, atI_1, atI_2, Nat.reduceAdd, ixN_30, ixN_32]
      exact ⟨_, rfl, hR⟩
    · simp only [wipeD, rowD, dWkA, dTupK, dTupL, dTupIx, dDictP, dDc2, dFor, dWhile, dLc, dLc2, dDc, dNextG, iSeq, iR1, iR2, iEn, iZpA, iZ2, iZ3, dSortK, dSortKF, dSortSet, dSortSetF, dBreak, bSortT, bSortTF, bSum, bSumL, bSumLF, bMaxL, bMinL, dDicE, bSortD, bSortDF, dGet2, oInA, oNotInA, oIxA, gdSubA, dSeq, dSet, dIf, dIfS, dTst, dOp, dUn, dVar, dCB, aCons, aNil, aStar, dRet, dRetN, dNext, dDrop, dLst, dTup, dC, dAnd, dOr, dNot, dAndV, dOrV, dNotV, dPar, dAsg, gdName, gdSub, gdTup, gdCons, gdNil, gdSlot, dIsi, dIsi2, dSlot, dSetSlot, dMethSl, dMakeSl, dCall, dCallP, dBM, dFrz, dLstF, dLcF, dLc2F, dDcF, dSlF, dListVF, bListF, bListDF, bSortSF, oAddLF, oRepLF, dSl, dNoP, dPart, dListV, dTru, dOrT, EndsD, startD, oLtI, oLeI, oGtI, oGeI, oIx, oMulI, oPowI, oAddI, oSubI, oModI, oDivI, oI, oI0, oEqD, oNeD, oInD, oNotInD, oAddL, oAddT, oAddS, oRepL, bLen, bAbs, bInt, bMin2, bMax2, bAll, bAny, bTuple, bList, bListD, bSortS, mAppend, mPop, mPopAt, mExtend, mIndex, tupOf_lst, tupOf_ref, tupOf_tup, List.map_cons, List.map_nil, List.length_cons, List.length_nil, List.cons_append, List.nil_append, List.append_nil, List.replicate, List.set_cons_zero, List.set_cons_succ, List.getElem?_cons_zero, List.getElem?_cons_succ, Option.some.injEq, exists_eq_left', exists_eq_left, exists_and_left, D.int.injEq, D.bl.injEq, D.str.injEq, D.tup.injEq, D.lst.injEq, D.ref.injEq, List.cons.injEq, and_true, true_and, reduceCtorEq, false_and, and_false, exists_false, or_false, false_or, exists_const, Bool.false_eq_true, if_true, if_false, decide_eq_true_eq, Ob.lst.injEq, Ob.slt.injEq, Ob.dic.injEq, seqD_ref, lstD_ref, seqD_tup, seqD_lst, lstD_lst, lstR_lst, Sto.set_same, Sto.set_set, atI_0, atI_1, atI_2, Nat.reduceAdd, ixN_30, ixN_32]
      refine ⟨small_sz (by have := hr r hx; simp at this ⊢; omega), ?_⟩
      unfold rowD at hy
      rw [List.map_append] at hy
      exact hy
    · have : rs.length * (h.2.length + 1) ≤ rs.length * 6 := Nat.mul_le_mul_left _ (by omega)
      exact small_sz (by simp; omega)
    · rw [List.nil_append, grow_map]
      intro m hm
      refine ⟨_, rfl, ?_⟩
      rw [Sto.del_set hm]
      refine ⟨_, Sto.set_same, ?_⟩
      rw [putD_0, Sto.set_set]
      refine ⟨_, Wk.refl _, _, Sto.sub_refl _, initW C S l x1 x3 x4 rr vv E gs hs (grow rs h) _ _ _ ok (fun x hx => hv x (List.mem_cons_of_mem _ hx)) (fun r hx => ?_) ?_ q⟩
      · unfold grow at hx
        obtain ⟨r0, hr0, hx⟩ := List.mem_flatMap.mp hx
        obtain ⟨v, _, rfl⟩ := List.mem_map.mp hx
        have := hr r0 hr0
        simp at this ⊢
        omega
      · calc (grow rs h).length * 6 ^ hs.length ≤ (rs.length * 6) * 6 ^ hs.length := Nat.mul_le_mul_right _ hlen
          _ = rs.length * 6 ^ (hs.length + 1) := by rw [Nat.pow_succ, Nat.mul_assoc, Nat.mul_comm 6]
          _ ≤ 10000000 := hz
theorem v_World_init : ∀ ds S Q E, sp_World_init K ds S Q E → d_World_init K (EndsD Q) (startD N_World_init ds) S := by
  rintro ds S Q E ⟨l, v, w, rfl, hS, hv, hw, q⟩
  simp only [d_World_init, N_World_init, sp_tupled, hS, dWkA, dTupK, dTupL, dTupIx, dDictP, dDc2, dFor, dWhile, dLc, dLc2, dDc, dNextG, iSeq, iR1, iR2, iEn, iZpA, iZ2, iZ3, dSortK, dSortKF, dSortSet, dSortSetF, dBreak, bSortT, bSortTF, bSum, bSumL, bSumLF, bMaxL, bMinL, dDicE, bSortD, bSortDF, dGet2, oInA, oNotInA, oIxA, gdSubA, dSeq, dSet, dIf, dIfS, dTst, dOp, dUn, dVar, dCB, aCons, aNil, aStar, dRet, dRetN, dNext, dDrop, dLst, dTup, dC, dAnd, dOr, dNot, dAndV, dOrV, dNotV, dPar, dAsg, gdName, gdSub, gdTup, gdCons, gdNil, gdSlot, dIsi, dIsi2, dSlot, dSetSlot, dMethSl, dMakeSl, dCall, dCallP, dBM, dFrz, dLstF, dLcF, dLc2F, dDcF, dSlF, dListVF, bListF, bListDF, bSortSF, oAddLF, oRepLF, dSl, dNoP, dPart, dListV, dTru, dOrT, EndsD, startD, oLtI, oLeI, oGtI, oGeI, oIx, oMulI, oPowI, oAddI, oSubI, oModI, oDivI, oI, oI0, oEqD, oNeD, oInD, oNotInD, oAddL, oAddT, oAddS, oRepL, bLen, bAbs, bInt, bMin2, bMax2, bAll, bAny, bTuple, bList, bListD, bSortS, mAppend, mPop, mPopAt, mExtend, mIndex, tupOf_lst, tupOf_ref, tupOf_tup, List.map_cons, List.map_nil, List.length_cons, List.length_nil, List.cons_append, List.nil_append, List.append_nil, List.replicate, List.set_cons_zero, List.set_cons_succ, List.getElem?_cons_zero, List.getElem?_cons_succ, Option.some.injEq, exists_eq_left', exists_eq_left, exists_and_left, D.int.injEq, D.bl.injEq, D.str.injEq, D.tup.injEq, D.lst.injEq, D.ref.injEq, List.cons.injEq, and_true, true_and, reduceCtorEq, false_and, and_false, exists_false, or_false, false_or, exists_const, Bool.false_eq_true, if_true, if_false, decide_eq_true_eq, Ob.lst.injEq, Ob.slt.injEq, Ob.dic.injEq, seqD_ref, lstD_ref, seqD_tup, seqD_lst, lstD_lst, lstR_lst, Sto.set_same, Sto.set_set, atI_0, atI_1, atI_2, Nat.reduceAdd, ixN_30, ixN_32]
  refine ⟨w.d, hv, ?_⟩
  simp only [Wd.d, putD_1, dWkA, dTupK, dTupL, dTupIx, dDictP, dDc2, dFor, dWhile, dLc, dLc2, dDc, dNextG, iSeq, iR1, iR2, iEn, iZpA, iZ2, iZ3, dSortK, dSortKF, dSortSet, dSortSetF, dBreak, bSortT, bSortTF, bSum, bSumL, bSumLF, bMaxL, bMinL, dDicE, bSortD, bSortDF, dGet2, oInA, oNotInA, oIxA, gdSubA, dSeq, dSet, dIf, dIfS, dTst, dOp, dUn, dVar, dCB, aCons, aNil, aStar, dRet, dRetN, dNext, dDrop, dLst, dTup, dC, dAnd, dOr, dNot, dAndV, dOrV, dNotV, dPar, dAsg, gdName, gdSub, gdTup, gdCons, gdNil, gdSlot, dIsi, dIsi2, dSlot, dSetSlot, dMethSl, dMakeSl, dCall, dCallP, dBM, dFrz, dLstF, dLcF, dLc2F, dDcF, dSlF, dListVF, bListF, bListDF, bSortSF, oAddLF, oRepLF, dSl, dNoP, dPart, dListV, dTru, dOrT, EndsD, startD, oLtI, oLeI, oGtI, oGeI, oIx, oMulI, oPowI, oAddI, oSubI, oModI, oDivI, oI, oI0, oEqD, oNeD, oInD, oNotInD, oAddL, oAddT, oAddS, oRepL, bLen, bAbs, bInt, bMin2, bMax2, bAll, bAny, bTuple, bList, bListD, bSortS, mAppend, mPop, mPopAt, mExtend, mIndex, tupOf_lst, tupOf_ref, tupOf_tup, List.map_cons, List.map_nil, List.length_cons, List.length_nil, List.cons_append, List.nil_append, List.append_nil, List.replicate, List.set_cons_zero, List.set_cons_succ, List.getElem?_cons_zero, List.getElem?_cons_succ, Option.some.injEq, exists_eq_left', exists_eq_left, exists_and_left, D.int.injEq, D.bl.injEq, D.str.injEq, D.tup.injEq, D.lst.injEq, D.ref.injEq, List.cons.injEq, and_true, true_and, reduceCtorEq, false_and, and_false, exists_false, or_false, false_or, exists_const, Bool.false_eq_true, if_true, if_false, decide_eq_true_eq, Ob.lst.injEq, Ob.slt.injEq, Ob.dic.injEq, seqD_ref, lstD_ref, seqD_tup, seqD_lst, lstD_lst, lstR_lst, Sto.set_same, Sto.set_set, atI_0, atI_1, atI_2, Nat.reduceAdd, ixN_30, ixN_32]
  refine ⟨_, _, ⟨rfl, rfl⟩, _, _, rfl, rfl, _, rfl, ?_⟩
  refine dicW_all headD (fun h => Sum.inr h.1) valsD gs_tup w.hs [] [] ?_ (small_sz (by have := hw.hl; simp; omega)) (fun h hh S' P s hy => ?_) ?_
  · have e : w.hs.map (fun h : Head => (Sum.inr h.1 : Key)) = w.names.map Sum.inr := by unfold Wd.names; rw [List.map_map]; rfl
    rw [List.nil_append, e]
    exact List.Pairwise.map Sum.inr (fun a b (z : a ≠ b) e => z (Sum.inr.inj e)) hw.nd
  · simp only [Tg.d, wipeD, headD, setsE, dWkA, dTupK, dTupL, dTupIx, dDictP, dDc2, dFor, dWhile, dLc, dLc2, dDc, dNextG, iSeq, iR1, iR2, iEn, iZpA, iZ2, iZ3, dSortK, dSortKF, dSortSet, dSortSetF, dBreak, bSortT, bSortTF, bSum, bSumL, bSumLF, bMaxL, bMinL, dDicE, bSortD, bSortDF, dGet2, oInA, oNotInA, oIxA, gdSubA, dSeq, dSet, dIf, dIfS, dTst, dOp, dUn, dVar, dCB, aCons, aNil, aStar, dRet, dRetN, dNext, dDrop, dLst, dTup, dC, dAnd, dOr, dNot, dAndV, dOrV, dNotV, dPar, dAsg, gdName, gdSub, gdTup, gdCons, gdNil, gdSlot, dIsi, dIsi2, dSlot, dSetSlot, dMethSl, dMakeSl, dCall, dCallP, dBM, dFrz, dLstF, dLcF, dLc2F, dDcF, dSlF, dListVF, bListF, bListDF, bSortSF, oAddLF, oRepLF, dSl, dNoP, dPart, dListV, dTru, dOrT, EndsD, startD, oLtI, oLeI, oGtI, oGeI, oIx, oMulI, oPowI, oAddI, oSubI, oModI, oDivI, oI, oI0, oEqD, oNeD, oInD, oNotInD, oAddL, oAddT, oAddS, oRepL, bLen, bAbs, bInt, bMin2, bMax2, bAll, bAny, bTuple, bList, bListD, bSortS, mAppend, mPop, mPopAt, mExtend, mIndex, tupOf_lst, tupOf_ref, tupOf_tup, List.map_cons, List.map_nil, List.length_cons, List.length_nil, List.cons_append, List.nil_append, List.append_nil, List.replicate, List.set_cons_zero, List.set_cons_succ, List.getElem?_cons_zero, List.getElem?_cons_succ, Option.some.injEq, exists_eq_left', exists_eq_left, exists_and_left, D.int.injEq, D.bl.injEq, D.str.injEq, D.tup.injEq, D.lst.injEq, D.ref.injEq, List.cons.injEq, and_true, true_and, reduceCtorEq, false_and, and_false, exists_false, or_false, false_or, exists_const, Bool.false_eq_true, if_true, if_false, decide_eq_true_eq, Ob.lst.injEq, Ob.slt.injEq, Ob.dic.injEq, seqD_ref, lstD_ref, seqD_tup, seqD_lst, lstD_lst, lstR_lst, Sto.set_same, Sto.set_set, atI_0, atI_1, atI_2, Nat.reduceAdd, ixN_30, ixN_32]
    exact ⟨small_sz (by have := hw.vl h hh; simp; omega), hy⟩
  · intro m hm
    refine ⟨_, rfl, ?_⟩
    rw [Sto.del_set hm]
    refine ⟨_, Sto.set_same, Nat.zero_le _, small_sz (by decide), ?_⟩
    rw [putD_2, Sto.set_set]
    intro m2 hm2
    refine ⟨_, rfl, ?_⟩
    rw [Sto.del_set hm2]
    refine ⟨_, Sto.set_same, ?_⟩
    rw [putD_0, Sto.set_set]
    refine ⟨_, rfl, _, rfl, fun m3 hm3 => ⟨_, rfl, ?_⟩⟩
    rw [Sto.del_set hm3]
    refine ⟨_, rfl, ?_⟩
    refine initW (cW K) S l _ _ _ _ _ _ _ w.hs [[]] _ _ _ (fun _ => gs_lst) hw.vl (fun r hr => ?_) ?_ fun b2 b5 b6 => drp_of ?_
    · rw [List.mem_singleton.mp hr]
      have := hw.hl
      simp; omega
    · have h6 : 6 ^ w.hs.length ≤ 6 ^ 6 := Nat.pow_le_pow_right (by decide) hw.hl
      have : (6 : Nat) ^ 6 = 46656 := by decide
      simp; omega
    · have e : w.hs.map (fun h : Head => (Sum.inr h.1 : Key)) = w.names.map Sum.inr := by unfold Wd.names; rw [List.map_map]; rfl
      rw [List.nil_append, List.nil_append, e]
      exact q
theorem set_mono {S S' : Sto} {m : Nat} {o : Ob} (h : S.sub S') : (S.set m o).sub (S'.set m o) := fun l x e => by
  by_cases k : l = m
  · subst k; rw [Sto.set_same] at e ⊢; exact e
  · rw [Sto.set_ne k] at e ⊢; exact h l x e
theorem none_of_sub {S S' : Sto} {m : Nat} (h : S.sub S') (e : S' m = none) : S m = none := by
  cases q : S m with
  | none => rfl
  | some o => rw [h m o q] at e; cases e
end
theorem v0__law_same : ∀ ds S Q E, sp__law_same 0 ds S Q E → False := by
  rintro ds S Q E ⟨g, d, rfl, h, q⟩
  exact h
theorem lstD_mono {S S' : Sto} {v : D} {ds : List D} (h : lstD S v = some ds) (s : S.sub S') : lstD S' v = some ds := by
  cases v with
  | ref l =>
    rw [lstD_ref] at h ⊢
    cases e : S l with
    | none => rw [e] at h; cases h
    | some o => rw [s _ _ e]; rw [e] at h; exact h
  | _ => exact h
theorem tyD_mono {S S' : Sto} {v : D} {T : String} (h : tyD S v = some T) (s : S.sub S') : tyD S' v = some T := by
  cases v with
  | ref l =>
    have h' : (match S l with | some (.lst _) => some "list" | some (.dic _ _) => some "dict" | _ => none) = some T := h
    show (match S' l with | some (.lst _) => some "list" | some (.dic _ _) => some "dict" | _ => none) = some T
    cases e : S l with
    | none => rw [e] at h'; cases h'
    | some o => rw [s _ _ e]; rw [e] at h'; exact h'
  | _ => exact h
theorem same_mono : ∀ {n : Nat} {S S' : Sto} {g d : D}, sameP n S g d → S.sub S' → sameP n S' g d
  | 0, _, _, _, _, h, _ => h
  | n + 1, S, S', g, d, h, s => by
    cases d with
    | lst ds =>
      obtain ⟨hz, gs, h1, h2, h3, h4⟩ := h
      exact ⟨hz, gs, lstD_mono h1 s, tyD_mono h2 s, h3, fun p hp => same_mono (h4 p hp) s⟩
    | tup ds =>
      obtain ⟨hz, gs, h1, h2, h3⟩ := h
      exact ⟨hz, gs, h1, h2, fun p hp => same_mono (h3 p hp) s⟩
    | ref l =>
      obtain ⟨ds, hl, hz, gs, h1, h2, h3, h4⟩ := h
      exact ⟨ds, s _ _ hl, hz, gs, lstD_mono h1 s, tyD_mono h2 s, h3, fun p hp => same_mono (h4 p hp) s⟩
    | _ => exact h
theorem shp_bl (b : Bool) : SeqAt.shaped (.bool b) = true := rfl
theorem shp_int (i : Int) : SeqAt.shaped (.int i) = true := rfl
theorem shp_non : SeqAt.shaped .none = true := rfl
theorem eqv_bl (a b : Bool) : PyData.eqv (.bool a) (.bool b) = (a == b) := rfl
theorem eqv_int (a b : Int) : PyData.eqv (.int a) (.int b) = (a == b) := rfl
theorem pyR_bl (S : Sto) (b : Bool) : pyR S (.bl b) = some (.bool b) := rfl
theorem pyR_int (S : Sto) (b : Int) : pyR S (.int b) = some (.int b) := rfl
theorem pyR_str (S : Sto) (b : Str) : pyR S (.str b) = some (.str b) := rfl
theorem gs_of {S : Sto} {v : D} {ds : List D} (h : lstD S v = some ds) : (gsOf v (.lst ds)).ok S := by
  cases v with
  | ref l =>
    rw [lstD_ref] at h
    cases e : S l with
    | none => rw [e] at h; cases h
    | some o =>
      rw [e] at h
      cases o with
      | lst es => cases h; exact gs_ref e
      | _ => cases h
  | _ => exact Gs.ok_nil
theorem gs_app {a b : Gs} {S : Sto} (h : a.ok S) (k : b.ok S) : (a ++ b : Gs).ok S := fun z hz => (List.mem_append.mp hz).elim (h z) (k z)
theorem same_turns {n : Nat} {S : Sto} {Q : DK} {ρ : En} {gs ds : List D} {G : Gs} (x0 x1 : Option D) (ok : G.ok S) (hz : ds.length ≤ sizeLine) (h4 : ∀ p ∈ gs.zip ds, sameP n S p.1 p.2) (q : Q (.bl true) S) :
    compW G (.many [3, 4]) dYes (dCall (sp__law_same n) noX (aCons (dVar 3) (aCons (dVar 4) aNil))) (wipeD [x0, x1, none, none, none] [3, 4])
      (fun acc S2 => ∀ (l : Nat), S2 l = none → ∃ x : List Bool, acc = x.map D.bl ∧ drp (Q (.bl (x.all id))) (S2.set l (.lst acc))) ((gs.zip ds).map fun p => D.tup [p.1, p.2]) [] S := by
  refine compW_all (fun p : D × D => D.tup [p.1, p.2]) (fun _ => .bl true) ok (by rw [List.length_zip]; omega) (fun p hp S' Py s hy => ?_) fun l hl => ⟨(gs.zip ds).map fun _ => true, by rw [List.map_map]; rfl, S, Sto.sub_set hl, ?_⟩
  · simp only [Tg.d, wipeD, setsE, sp__law_same, dWkA, dTupK, dTupL, dTupIx, dDictP, dDc2, dFor, dWhile, dLc, dLc2, dDc, dNextG, iSeq, iR1, iR2, iEn, iZpA, iZ2, iZ3, dSortK, dSortKF, dSortSet, dSortSetF, dBreak, bSortT, bSortTF, bSum, bSumL, bSumLF, bMaxL, bMinL, dDicE, bSortD, bSortDF, dGet2, oInA, oNotInA, oIxA, gdSubA, dSeq, dSet, dIf, dIfS, dTst, dOp, dUn, dVar, dCB, aCons, aNil, aStar, dRet, dRetN, dNext, dDrop, dLst, dTup, dC, dAnd, dOr, dNot, dAndV, dOrV, dNotV, dPar, dAsg, gdName, gdSub, gdTup, gdCons, gdNil, gdSlot, dIsi, dIsi2, dSlot, dSetSlot, dMethSl, dMakeSl, dCall, dCallP, dBM, dFrz, dLstF, dLcF, dLc2F, dDcF, dSlF, dListVF, bListF, bListDF, bSortSF, oAddLF, oRepLF, dSl, dNoP, dPart, dListV, dTru, dOrT, EndsD, startD, oLtI, oLeI, oGtI, oGeI, oIx, oMulI, oPowI, oAddI, oSubI, oModI, oDivI, oI, oI0, oEqD, oNeD, oInD, oNotInD, oAddL, oAddT, oAddS, oRepL, bLen, bAbs, bInt, bMin2, bMax2, bAll, bAny, bTuple, bList, bListD, bSortS, mAppend, mPop, mPopAt, mExtend, mIndex, tupOf_lst, tupOf_ref, tupOf_tup, List.map_cons, List.map_nil, List.length_cons, List.length_nil, List.cons_append, List.nil_append, List.append_nil, List.replicate, List.set_cons_zero, List.set_cons_succ, List.getElem?_cons_zero, List.getElem?_cons_succ, Option.some.injEq, exists_eq_left', exists_eq_left, exists_and_left, D.int.injEq, D.bl.injEq, D.str.injEq, D.tup.injEq, D.lst.injEq, D.ref.injEq, List.cons.injEq, and_true, true_and, reduceCtorEq, false_and, and_false, exists_false, or_false, false_or, exists_const, Bool.false_eq_true, if_true, if_false, decide_eq_true_eq, Ob.lst.injEq, Ob.slt.injEq, Ob.dic.injEq, seqD_ref, lstD_ref, seqD_tup, seqD_lst, lstD_lst, lstR_lst, Sto.set_same, Sto.set_set, atI_0, atI_1, atI_2, Nat.reduceAdd, ixN_30, ixN_32]
    exact ⟨p.1, p.2, ⟨rfl, rfl⟩, same_mono (h4 p hp) s, hy⟩
  · have e : ((gs.zip ds).map fun _ => true).all id = true := by simp
    rw [e]
    exact q
theorem v__law_same {n : Nat} : ∀ ds S Q E, sp__law_same (n + 1) ds S Q E → d__law_same n (EndsD Q) (startD N__law_same ds) S := by
  rintro ds S Q E ⟨g, d, rfl, h, q⟩
  have kll : isK "list" "list" = true := by decide
  have klt : isK "list" "tuple" = false := by decide
  have ktt : isK "tuple" "tuple" = true := by decide
  have ktl : isK "tuple" "list" = false := by decide
  have ksl : isK "str" "list" = false := by decide
  have kst : isK "str" "tuple" = false := by decide
  have ksd : isK "str" "dict" = false := by decide
  have ksb : isK "str" "bool" = false := by decide
  have kss : isK "str" "str" = true := by decide
  cases d with
  | lst ds =>
    obtain ⟨hz, gs, h1, h2, h3, h4⟩ := h
    have t2 : tyD S (.lst ds) = some "list" := rfl
    simp only [d__law_same, N__law_same, h2, t2, kll, klt, pyR_bl, pyR_int, shp_bl, shp_int, eqv_bl, eqv_int, Bool.or_false, beq_self_eq_true, Bool.not_true, seq_lst h1, h1, h3, dWkA, dTupK, dTupL, dTupIx, dDictP, dDc2, dFor, dWhile, dLc, dLc2, dDc, dNextG, iSeq, iR1, iR2, iEn, iZpA, iZ2, iZ3, dSortK, dSortKF, dSortSet, dSortSetF, dBreak, bSortT, bSortTF, bSum, bSumL, bSumLF, bMaxL, bMinL, dDicE, bSortD, bSortDF, dGet2, oInA, oNotInA, oIxA, gdSubA, dSeq, dSet, dIf, dIfS, dTst, dOp, dUn, dVar, dCB, aCons, aNil, aStar, dRet, dRetN, dNext, dDrop, dLst, dTup, dC, dAnd, dOr, dNot, dAndV, dOrV, dNotV, dPar, dAsg, gdName, gdSub, gdTup, gdCons, gdNil, gdSlot, dIsi, dIsi2, dSlot, dSetSlot, dMethSl, dMakeSl, dCall, dCallP, dBM, dFrz, dLstF, dLcF, dLc2F, dDcF, dSlF, dListVF, bListF, bListDF, bSortSF, oAddLF, oRepLF, dSl, dNoP, dPart, dListV, dTru, dOrT, EndsD, startD, oLtI, oLeI, oGtI, oGeI, oIx, oMulI, oPowI, oAddI, oSubI, oModI, oDivI, oI, oI0, oEqD, oNeD, oInD, oNotInD, oAddL, oAddT, oAddS, oRepL, bLen, bAbs, bInt, bMin2, bMax2, bAll, bAny, bTuple, bList, bListD, bSortS, mAppend, mPop, mPopAt, mExtend, mIndex, tupOf_lst, tupOf_ref, tupOf_tup, List.map_cons, List.map_nil, List.length_cons, List.length_nil, List.cons_append, List.nil_append, List.append_nil, List.replicate, List.set_cons_zero, List.set_cons_succ, List.getElem?_cons_zero, List.getElem?_cons_succ, Option.some.injEq, exists_eq_left', exists_eq_left, exists_and_left, D.int.injEq, D.bl.injEq, D.str.injEq, D.tup.injEq, D.lst.injEq, D.ref.injEq, List.cons.injEq, and_true, true_and, reduceCtorEq, false_and, and_false, exists_false, or_false, false_or, exists_const, Bool.false_eq_true, if_true, if_false, decide_eq_true_eq, Ob.lst.injEq, Ob.slt.injEq, Ob.dic.injEq, seqD_ref, lstD_ref, seqD_tup, seqD_lst, lstD_lst, lstR_lst, Sto.set_same, Sto.set_set, atI_0, atI_1, atI_2, Nat.reduceAdd, ixN_30, ixN_32]
    exact .inl ⟨g, .lst ds, ⟨rfl, rfl⟩, gs, ds, .inl ⟨h1, rfl⟩, same_turns (ρ := []) _ _ (gs_app (gs_of h1) gs_lst) hz h4 q⟩
  | tup ds =>
    obtain ⟨hz, gs, rfl, h3, h4⟩ := h
    have t1 : tyD S (.tup gs) = some "tuple" := rfl
    have t2 : tyD S (.tup ds) = some "tuple" := rfl
    simp only [d__law_same, N__law_same, t1, t2, ktt, ktl, pyR_bl, pyR_int, shp_bl, shp_int, eqv_bl, eqv_int, Bool.or_false, Bool.false_or, beq_self_eq_true, Bool.not_true, h3, dWkA, dTupK, dTupL, dTupIx, dDictP, dDc2, dFor, dWhile, dLc, dLc2, dDc, dNextG, iSeq, iR1, iR2, iEn, iZpA, iZ2, iZ3, dSortK, dSortKF, dSortSet, dSortSetF, dBreak, bSortT, bSortTF, bSum, bSumL, bSumLF, bMaxL, bMinL, dDicE, bSortD, bSortDF, dGet2, oInA, oNotInA, oIxA, gdSubA, dSeq, dSet, dIf, dIfS, dTst, dOp, dUn, dVar, dCB, aCons, aNil, aStar, dRet, dRetN, dNext, dDrop, dLst, dTup, dC, dAnd, dOr, dNot, dAndV, dOrV, dNotV, dPar, dAsg, gdName, gdSub, gdTup, gdCons, gdNil, gdSlot, dIsi, dIsi2, dSlot, dSetSlot, dMethSl, dMakeSl, dCall, dCallP, dBM, dFrz, dLstF, dLcF, dLc2F, dDcF, dSlF, dListVF, bListF, bListDF, bSortSF, oAddLF, oRepLF, dSl, dNoP, dPart, dListV, dTru, dOrT, EndsD, startD, oLtI, oLeI, oGtI, oGeI, oIx, oMulI, oPowI, oAddI, oSubI, oModI, oDivI, oI, oI0, oEqD, oNeD, oInD, oNotInD, oAddL, oAddT, oAddS, oRepL, bLen, bAbs, bInt, bMin2, bMax2, bAll, bAny, bTuple, bList, bListD, bSortS, mAppend, mPop, mPopAt, mExtend, mIndex, tupOf_lst, tupOf_ref, tupOf_tup, List.map_cons, List.map_nil, List.length_cons, List.length_nil, List.cons_append, List.nil_append, List.append_nil, List.replicate, List.set_cons_zero, List.set_cons_succ, List.getElem?_cons_zero, List.getElem?_cons_succ, Option.some.injEq, exists_eq_left', exists_eq_left, exists_and_left, D.int.injEq, D.bl.injEq, D.str.injEq, D.tup.injEq, D.lst.injEq, D.ref.injEq, List.cons.injEq, and_true, true_and, reduceCtorEq, false_and, and_false, exists_false, or_false, false_or, exists_const, Bool.false_eq_true, if_true, if_false, decide_eq_true_eq, Ob.lst.injEq, Ob.slt.injEq, Ob.dic.injEq, seqD_ref, lstD_ref, seqD_tup, seqD_lst, lstD_lst, lstR_lst, Sto.set_same, Sto.set_set, atI_0, atI_1, atI_2, Nat.reduceAdd, ixN_30, ixN_32]
    exact ⟨_, _, ⟨rfl, rfl⟩, gs, ds, .inr ⟨rfl, rfl⟩, same_turns (ρ := []) _ _ (gs_app gs_tup gs_tup) hz h4 q⟩
  | str x =>
    obtain ⟨rfl, hx⟩ := h
    have t2 : tyD S (.str x) = some "str" := rfl
    have nn : oIsN.isNonD (.str x) = some false := rfl
    simp only [d__law_same, N__law_same, t2, ksl, kst, ksd, ksb, kss, oIsN, nn, pyR_bl, pyR_int, pyR_str, shp_bl, shp_int, (shp_str hx).ok, eqv_str, eqv_bl, eqv_int, Bool.or_false, Bool.false_or, Bool.or_true, beq_self_eq_true, decide_true, Bool.not_true, dWkA, dTupK, dTupL, dTupIx, dDictP, dDc2, dFor, dWhile, dLc, dLc2, dDc, dNextG, iSeq, iR1, iR2, iEn, iZpA, iZ2, iZ3, dSortK, dSortKF, dSortSet, dSortSetF, dBreak, bSortT, bSortTF, bSum, bSumL, bSumLF, bMaxL, bMinL, dDicE, bSortD, bSortDF, dGet2, oInA, oNotInA, oIxA, gdSubA, dSeq, dSet, dIf, dIfS, dTst, dOp, dUn, dVar, dCB, aCons, aNil, aStar, dRet, dRetN, dNext, dDrop, dLst, dTup, dC, dAnd, dOr, dNot, dAndV, dOrV, dNotV, dPar, dAsg, gdName, gdSub, gdTup, gdCons, gdNil, gdSlot, dIsi, dIsi2, dSlot, dSetSlot, dMethSl, dMakeSl, dCall, dCallP, dBM, dFrz, dLstF, dLcF, dLc2F, dDcF, dSlF, dListVF, bListF, bListDF, bSortSF, oAddLF, oRepLF, dSl, dNoP, dPart, dListV, dTru, dOrT, EndsD, startD, oLtI, oLeI, oGtI, oGeI, oIx, oMulI, oPowI, oAddI, oSubI, oModI, oDivI, oI, oI0, oEqD, oNeD, oInD, oNotInD, oAddL, oAddT, oAddS, oRepL, bLen, bAbs, bInt, bMin2, bMax2, bAll, bAny, bTuple, bList, bListD, bSortS, mAppend, mPop, mPopAt, mExtend, mIndex, tupOf_lst, tupOf_ref, tupOf_tup, List.map_cons, List.map_nil, List.length_cons, List.length_nil, List.cons_append, List.nil_append, List.append_nil, List.replicate, List.set_cons_zero, List.set_cons_succ, List.getElem?_cons_zero, List.getElem?_cons_succ, Option.some.injEq, exists_eq_left', exists_eq_left, exists_and_left, D.int.injEq, D.bl.injEq, D.str.injEq, D.tup.injEq, D.lst.injEq, D.ref.injEq, List.cons.injEq, and_true, true_and, reduceCtorEq, false_and, and_false, exists_false, or_false, false_or, exists_const, Bool.false_eq_true, if_true, if_false, decide_eq_true_eq, Ob.lst.injEq, Ob.slt.injEq, Ob.dic.injEq, seqD_ref, lstD_ref, seqD_tup, seqD_lst, lstD_lst, lstR_lst, Sto.set_same, Sto.set_set, atI_0, atI_1, atI_2, Nat.reduceAdd, ixN_30, ixN_32]
    exact drp_of q
  | bl b =>
    have e : g = .bl b := h
    subst e
    have t2 : tyD S (.bl b) = some "bool" := rfl
    have nn : oIsN.isNonD (.bl b) = some false := rfl
    have k1 : isK "bool" "list" = false := by decide
    have k2 : isK "bool" "tuple" = false := by decide
    have k3 : isK "bool" "dict" = false := by decide
    have k4 : isK "bool" "bool" = true := by decide
    simp only [d__law_same, N__law_same, t2, k1, k2, k3, k4, oIsN, nn, pyR_bl, pyR_int, pyR_str, shp_bl, shp_int, eqv_bl, eqv_int, Bool.or_false, Bool.false_or, Bool.true_or, Bool.or_true, beq_self_eq_true, decide_true, Bool.not_true, dWkA, dTupK, dTupL, dTupIx, dDictP, dDc2, dFor, dWhile, dLc, dLc2, dDc, dNextG, iSeq, iR1, iR2, iEn, iZpA, iZ2, iZ3, dSortK, dSortKF, dSortSet, dSortSetF, dBreak, bSortT, bSortTF, bSum, bSumL, bSumLF, bMaxL, bMinL, dDicE, bSortD, bSortDF, dGet2, oInA, oNotInA, oIxA, gdSubA, dSeq, dSet, dIf, dIfS, dTst, dOp, dUn, dVar, dCB, aCons, aNil, aStar, dRet, dRetN, dNext, dDrop, dLst, dTup, dC, dAnd, dOr, dNot, dAndV, dOrV, dNotV, dPar, dAsg, gdName, gdSub, gdTup, gdCons, gdNil, gdSlot, dIsi, dIsi2, dSlot, dSetSlot, dMethSl, dMakeSl, dCall, dCallP, dBM, dFrz, dLstF, dLcF, dLc2F, dDcF, dSlF, dListVF, bListF, bListDF, bSortSF, oAddLF, oRepLF, dSl, dNoP, dPart, dListV, dTru, dOrT, EndsD, startD, oLtI, oLeI, oGtI, oGeI, oIx, oMulI, oPowI, oAddI, oSubI, oModI, oDivI, oI, oI0, oEqD, oNeD, oInD, oNotInD, oAddL, oAddT, oAddS, oRepL, bLen, bAbs, bInt, bMin2, bMax2, bAll, bAny, bTuple, bList, bListD, bSortS, mAppend, mPop, mPopAt, mExtend, mIndex, tupOf_lst, tupOf_ref, tupOf_tup, List.map_cons, List.map_nil, List.length_cons, List.length_nil, List.cons_append, List.nil_append, List.append_nil, List.replicate, List.set_cons_zero, List.set_cons_succ, List.getElem?_cons_zero, List.getElem?_cons_succ, Option.some.injEq, exists_eq_left', exists_eq_left, exists_and_left, D.int.injEq, D.bl.injEq, D.str.injEq, D.tup.injEq, D.lst.injEq, D.ref.injEq, List.cons.injEq, and_true, true_and, reduceCtorEq, false_and, and_false, exists_false, or_false, false_or, exists_const, Bool.false_eq_true, if_true, if_false, decide_eq_true_eq, Ob.lst.injEq, Ob.slt.injEq, Ob.dic.injEq, seqD_ref, lstD_ref, seqD_tup, seqD_lst, lstD_lst, lstR_lst, Sto.set_same, Sto.set_set, atI_0, atI_1, atI_2, Nat.reduceAdd, ixN_30, ixN_32]
    exact drp_of q
  | int b =>
    have e : g = .int b := h
    subst e
    have t2 : tyD S (.int b) = some "int" := rfl
    have nn : oIsN.isNonD (.int b) = some false := rfl
    have k1 : isK "int" "list" = false := by decide
    have k2 : isK "int" "tuple" = false := by decide
    have k3 : isK "int" "dict" = false := by decide
    have k4 : isK "int" "bool" = false := by decide
    have k5 : isK "int" "str" = false := by decide
    have k6 : isK "int" "int" = true := by decide
    simp only [d__law_same, N__law_same, t2, k1, k2, k3, k4, k5, k6, oIsN, nn, pyR_bl, pyR_int, pyR_str, shp_bl, shp_int, eqv_bl, eqv_int, Bool.or_false, Bool.false_or, Bool.true_or, Bool.or_true, beq_self_eq_true, decide_true, Bool.not_true, Bool.not_false, dWkA, dTupK, dTupL, dTupIx, dDictP, dDc2, dFor, dWhile, dLc, dLc2, dDc, dNextG, iSeq, iR1, iR2, iEn, iZpA, iZ2, iZ3, dSortK, dSortKF, dSortSet, dSortSetF, dBreak, bSortT, bSortTF, bSum, bSumL, bSumLF, bMaxL, bMinL, dDicE, bSortD, bSortDF, dGet2, oInA, oNotInA, oIxA, gdSubA, dSeq, dSet, dIf, dIfS, dTst, dOp, dUn, dVar, dCB, aCons, aNil, aStar, dRet, dRetN, dNext, dDrop, dLst, dTup, dC, dAnd, dOr, dNot, dAndV, dOrV, dNotV, dPar, dAsg, gdName, gdSub, gdTup, gdCons, gdNil, gdSlot, dIsi, dIsi2, dSlot, dSetSlot, dMethSl, dMakeSl, dCall, dCallP, dBM, dFrz, dLstF, dLcF, dLc2F, dDcF, dSlF, dListVF, bListF, bListDF, bSortSF, oAddLF, oRepLF, dSl, dNoP, dPart, dListV, dTru, dOrT, EndsD, startD, oLtI, oLeI, oGtI, oGeI, oIx, oMulI, oPowI, oAddI, oSubI, oModI, oDivI, oI, oI0, oEqD, oNeD, oInD, oNotInD, oAddL, oAddT, oAddS, oRepL, bLen, bAbs, bInt, bMin2, bMax2, bAll, bAny, bTuple, bList, bListD, bSortS, mAppend, mPop, mPopAt, mExtend, mIndex, tupOf_lst, tupOf_ref, tupOf_tup, List.map_cons, List.map_nil, List.length_cons, List.length_nil, List.cons_append, List.nil_append, List.append_nil, List.replicate, List.set_cons_zero, List.set_cons_succ, List.getElem?_cons_zero, List.getElem?_cons_succ, Option.some.injEq, exists_eq_left', exists_eq_left, exists_and_left, D.int.injEq, D.bl.injEq, D.str.injEq, D.tup.injEq, D.lst.injEq, D.ref.injEq, List.cons.injEq, and_true, true_and, reduceCtorEq, false_and, and_false, exists_false, or_false, false_or, exists_const, Bool.false_eq_true, if_true, if_false, decide_eq_true_eq, Ob.lst.injEq, Ob.slt.injEq, Ob.dic.injEq, seqD_ref, lstD_ref, seqD_tup, seqD_lst, lstD_lst, lstR_lst, Sto.set_same, Sto.set_set, atI_0, atI_1, atI_2, Nat.reduceAdd, ixN_30, ixN_32]
    exact drp_of q
  | non =>
    have e : g = .non := h
    subst e
    have t2 : tyD S .non = some "NoneType" := rfl
    have pn : pyR S .non = some .none := rfl
    have ee : PyData.eqv .none .none = true := rfl
    have k1 : isK "NoneType" "list" = false := by decide
    have k2 : isK "NoneType" "tuple" = false := by decide
    have k3 : isK "NoneType" "dict" = false := by decide
    have k4 : isK "NoneType" "bool" = false := by decide
    simp only [d__law_same, N__law_same, t2, k1, k2, k3, k4, oIsN, pn, ee, shp_non, pyR_bl, pyR_int, pyR_str, shp_bl, shp_int, eqv_bl, eqv_int, Bool.or_false, Bool.false_or, Bool.true_or, Bool.or_true, beq_self_eq_true, decide_true, Bool.not_true, Bool.not_false, true_or, dWkA, dTupK, dTupL, dTupIx, dDictP, dDc2, dFor, dWhile, dLc, dLc2, dDc, dNextG, iSeq, iR1, iR2, iEn, iZpA, iZ2, iZ3, dSortK, dSortKF, dSortSet, dSortSetF, dBreak, bSortT, bSortTF, bSum, bSumL, bSumLF, bMaxL, bMinL, dDicE, bSortD, bSortDF, dGet2, oInA, oNotInA, oIxA, gdSubA, dSeq, dSet, dIf, dIfS, dTst, dOp, dUn, dVar, dCB, aCons, aNil, aStar, dRet, dRetN, dNext, dDrop, dLst, dTup, dC, dAnd, dOr, dNot, dAndV, dOrV, dNotV, dPar, dAsg, gdName, gdSub, gdTup, gdCons, gdNil, gdSlot, dIsi, dIsi2, dSlot, dSetSlot, dMethSl, dMakeSl, dCall, dCallP, dBM, dFrz, dLstF, dLcF, dLc2F, dDcF, dSlF, dListVF, bListF, bListDF, bSortSF, oAddLF, oRepLF, dSl, dNoP, dPart, dListV, dTru, dOrT, EndsD, startD, oLtI, oLeI, oGtI, oGeI, oIx, oMulI, oPowI, oAddI, oSubI, oModI, oDivI, oI, oI0, oEqD, oNeD, oInD, oNotInD, oAddL, oAddT, oAddS, oRepL, bLen, bAbs, bInt, bMin2, bMax2, bAll, bAny, bTuple, bList, bListD, bSortS, mAppend, mPop, mPopAt, mExtend, mIndex, tupOf_lst, tupOf_ref, tupOf_tup, List.map_cons, List.map_nil, List.length_cons, List.length_nil, List.cons_append, List.nil_append, List.append_nil, List.replicate, List.set_cons_zero, List.set_cons_succ, List.getElem?_cons_zero, List.getElem?_cons_succ, Option.some.injEq, exists_eq_left', exists_eq_left, exists_and_left, D.int.injEq, D.bl.injEq, D.str.injEq, D.tup.injEq, D.lst.injEq, D.ref.injEq, List.cons.injEq, and_true, true_and, reduceCtorEq, false_and, and_false, exists_false, or_false, false_or, exists_const, Bool.false_eq_true, if_true, if_false, decide_eq_true_eq, Ob.lst.injEq, Ob.slt.injEq, Ob.dic.injEq, seqD_ref, lstD_ref, seqD_tup, seqD_lst, lstD_lst, lstR_lst, Sto.set_same, Sto.set_set, atI_0, atI_1, atI_2, Nat.reduceAdd, ixN_30, ixN_32]
    exact .inl (.inl (.inl (drp_of q)))
  | ref l =>
    obtain ⟨ds, hl, hz, gs, h1, h2, h3, h4⟩ := h
    have t2 : tyD S (.ref l) = some "list" := by show (match S l with | some (.lst _) => some "list" | some (.dic _ _) => some "dict" | _ => none) = _; rw [hl]
    have l2 : lstD S (.ref l) = some ds := by rw [lstD_ref, hl]
    simp only [d__law_same, N__law_same, h2, t2, kll, klt, pyR_bl, pyR_int, shp_bl, shp_int, eqv_bl, eqv_int, Bool.or_false, beq_self_eq_true, Bool.not_true, seq_lst h1, h1, seq_lst l2, hl, l2, h3, dWkA, dTupK, dTupL, dTupIx, dDictP, dDc2, dFor, dWhile, dLc, dLc2, dDc, dNextG, iSeq, iR1, iR2, iEn, iZpA, iZ2, iZ3, dSortK, dSortKF, dSortSet, dSortSetF, dBreak, bSortT, bSortTF, bSum, bSumL, bSumLF, bMaxL, bMinL, dDicE, bSortD, bSortDF, dGet2, oInA, oNotInA, oIxA, gdSubA, dSeq, dSet, dIf, dIfS, dTst, dOp, dUn, dVar, dCB, aCons, aNil, aStar, dRet, dRetN, dNext, dDrop, dLst, dTup, dC, dAnd, dOr, dNot, dAndV, dOrV, dNotV, dPar, dAsg, gdName, gdSub, gdTup, gdCons, gdNil, gdSlot, dIsi, dIsi2, dSlot, dSetSlot, dMethSl, dMakeSl, dCall, dCallP, dBM, dFrz, dLstF, dLcF, dLc2F, dDcF, dSlF, dListVF, bListF, bListDF, bSortSF, oAddLF, oRepLF, dSl, dNoP, dPart, dListV, dTru, dOrT, EndsD, startD, oLtI, oLeI, oGtI, oGeI, oIx, oMulI, oPowI, oAddI, oSubI, oModI, oDivI, oI, oI0, oEqD, oNeD, oInD, oNotInD, oAddL, oAddT, oAddS, oRepL, bLen, bAbs, bInt, bMin2, bMax2, bAll, bAny, bTuple, bList, bListD, bSortS, mAppend, mPop, mPopAt, mExtend, mIndex, tupOf_lst, tupOf_ref, tupOf_tup, List.map_cons, List.map_nil, List.length_cons, List.length_nil, List.cons_append, List.nil_append, List.append_nil, List.replicate, List.set_cons_zero, List.set_cons_succ, List.getElem?_cons_zero, List.getElem?_cons_succ, Option.some.injEq, exists_eq_left', exists_eq_left, exists_and_left, D.int.injEq, D.bl.injEq, D.str.injEq, D.tup.injEq, D.lst.injEq, D.ref.injEq, List.cons.injEq, and_true, true_and, reduceCtorEq, false_and, and_false, exists_false, or_false, false_or, exists_const, Bool.false_eq_true, if_true, if_false, decide_eq_true_eq, Ob.lst.injEq, Ob.slt.injEq, Ob.dic.injEq, seqD_ref, lstD_ref, seqD_tup, seqD_lst, lstD_lst, lstR_lst, Sto.set_same, Sto.set_set, atI_0, atI_1, atI_2, Nat.reduceAdd, ixN_30, ixN_32]
    exact .inl ⟨g, .ref l, ⟨rfl, rfl⟩, gs, ds, .inl ⟨h1, l2⟩, same_turns (ρ := []) _ _ (gs_app (gs_of h1) (gs_ref hl)) hz h4 q⟩
  | kl _ => exact h.elim
  | kt _ => exact h.elim
  | dic _ _ => exact h.elim
  | raw _ => exact h.elim
end LK
end
section
set_option Elab.async false
set_option linter.all false
set_option maxRecDepth 100000
set_option maxHeartbeats 400000
namespace LK
open PySem PySem.Spec PyProof.Rows L2 L3
theorem ixN_in {n : Nat} {i : Int} (h0 : 0 ≤ i) (h1 : i < n) : ixN n i = some i.toNat := by
  unfold ixN
  rw [if_pos h0, if_pos h1]
theorem atI_in {α : Type} {xs : List α} {i : Int} (h0 : 0 ≤ i) (h1 : i < xs.length) : ∃ h : i.toNat < xs.length, atI xs i = some xs[i.toNat] := by
  have h : i.toNat < xs.length := by omega
  refine ⟨h, ?_⟩
  unfold atI
  rw [ixN_in h0 h1]
  show xs[i.toNat]? = _
  exact List.getElem?_eq_getElem h
theorem cutD_map {α β : Type} (f : α → β) (xs : List α) (lo hi : Option Int) : L3.cutD (xs.map f) lo hi = (L3.cutD xs lo hi).map f := by
  unfold L3.cutD
  rw [List.length_map, List.map_take, List.map_drop]
abbrev bodyC : DS := dSeq (dSet 5 (dOp oModI (dCB bInt (aCons (dVar 3) (aNil))) (dVar 1)))
    (dAsg (dOp oAddI (dOp oIx (dVar 2) (dVar 5)) (dOp oMulI (dVar 4) (dOp oAddI (dVar 3) (dC (.int 2))))) (gdSub (dVar 2) (dVar 5)))
theorem cells_go (m : Nat) (hm0 : 1 ≤ m) (S0 : Sto) (l : Nat) (h0 : S0 l = none) (G : Gs) (E : DEnds) (x0 : Option D) : ∀ (xs : List D) (cs : List Int) (S : Sto) (x3 x4 x5 : Option D), (∀ d ∈ xs, ∃ (i : Nat) (j : Int), i < 1000 ∧ d = .tup [.int i, .int j]) → (xs = [] ∨ cs.length = m) → cs.length ≤ m → S l = some (.lst (cs.map .int)) →
    (∀ n o, n ≠ l → S0 n = some o → S n = some o) → (∀ S' : Sto, (∀ n o, n ≠ l → S0 n = some o → S' n = some o) → S' l ≠ none → G.ok S') → (∀ cs' S' b3 b4 b5, cs'.length ≤ m → (S0.set l (.lst (List.map D.int cs'))).sub S' → E.nx [x0, some (.int m), some (.ref l), b3, b4, b5] S') →
    forW G (.many [3, 4]) bodyC E xs [x0, some (.int m), some (.ref l), x3, x4, x5] S
  | [], cs, S, x3, x4, x5, hx, h3, h4, hl, hk, ok, q => ⟨ok S hk (by rw [hl]; simp), q cs S x3 x4 x5 h4 (fun n o hm => by
      unfold Sto.set at hm
      by_cases e : n = l
      · rw [if_pos e] at hm; rw [e, hl]; exact hm
      · rw [if_neg e] at hm; exact hk n o e hm)⟩
  | d :: ds, cs, S, x3, x4, x5, hx, h3, h4, hl, hk, ok, q => by
    obtain ⟨i, j, hi, rfl⟩ := hx d List.mem_cons_self
    have h3 : cs.length = m := h3.resolve_left (by simp)
    refine ⟨ok S hk (by rw [hl]; simp), ?_⟩
    simp only [Tg.d, bodyC, setsE, dWkA, dTupK, dTupL, dTupIx, dDictP, dDc2, dFor, dWhile, dLc, dLc2, dDc, dNextG, iSeq, iR1, iR2, iEn, iZpA, iZ2, iZ3, dSortK, dSortKF, dSortSet, dSortSetF, dBreak, bSortT, bSortTF, bSum, bSumL, bSumLF, bMaxL, bMinL, dDicE, bSortD, bSortDF, dGet2, oInA, oNotInA, oIxA, gdSubA, dSeq, dSet, dIf, dIfS, dTst, dOp, dUn, dVar, dCB, aCons, aNil, aStar, dRet, dRetN, dNext, dDrop, dLst, dTup, dC, dAnd, dOr, dNot, dAndV, dOrV, dNotV, dPar, dAsg, gdName, gdSub, gdTup, gdCons, gdNil, gdSlot, dIsi, dIsi2, dSlot, dSetSlot, dMethSl, dMakeSl, dCall, dCallP, dBM, dFrz, dLstF, dLcF, dLc2F, dDcF, dSlF, dListVF, bListF, bListDF, bSortSF, oAddLF, oRepLF, dSl, dNoP, dPart, dListV, dTru, dOrT, EndsD, startD, oLtI, oLeI, oGtI, oGeI, oIx, oMulI, oPowI, oAddI, oSubI, oModI, oDivI, oI, oI0, oEqD, oNeD, oInD, oNotInD, oAddL, oAddT, oAddS, oRepL, bLen, bAbs, bInt, bMin2, bMax2, bAll, bAny, bTuple, bList, bListD, bSortS, mAppend, mPop, mPopAt, mExtend, mIndex, tupOf_lst, tupOf_ref, tupOf_tup, List.map_cons, List.map_nil, List.length_cons, List.length_nil, List.cons_append, List.nil_append, List.append_nil, List.replicate, List.set_cons_zero, List.set_cons_succ, List.getElem?_cons_zero, List.getElem?_cons_succ, Option.some.injEq, exists_eq_left', exists_eq_left, exists_and_left, D.int.injEq, D.bl.injEq, D.str.injEq, D.tup.injEq, D.lst.injEq, D.ref.injEq, List.cons.injEq, and_true, true_and, reduceCtorEq, false_and, and_false, exists_false, or_false, false_or, exists_const, Bool.false_eq_true, if_true, if_false, decide_eq_true_eq, Ob.lst.injEq, Ob.slt.injEq, Ob.dic.injEq, seqD_ref, lstD_ref, seqD_tup, seqD_lst, lstD_lst, lstR_lst, Sto.set_same, Sto.set_set, atI_0, atI_1, atI_2, Nat.reduceAdd, ixN_30, ixN_32]
    have e0 : (0 : Int) ≤ (i : Int) % m := Int.emod_nonneg _ (by omega)
    have e1 : (i : Int) % m < cs.length := by rw [h3]; exact Int.emod_lt_of_pos _ (by omega)
    have hj : ((i : Int) % m).toNat < cs.length := by omega
    have e1' : (i : Int) % m < (cs.map D.int).length := by rw [List.length_map]; exact e1
    obtain ⟨hj', ea⟩ := atI_in (xs := cs.map D.int) e0 e1'
    rw [List.getElem_map] at ea
    refine ⟨by omega, cs.map .int, by rw [hl], _, ea, .inr (by omega), _, rfl, cs.map .int, hl, _, ixN_in e0 e1', _, Wk.refl _, _, Sto.sub_refl _, ?_⟩
    rw [← List.map_set]
    refine cells_go m hm0 S0 l h0 G E x0 ds _ _ _ _ _ (fun d hd => hx d (List.mem_cons_of_mem _ hd)) (.inr (by rw [List.length_set]; exact h3)) (by rw [List.length_set]; exact h4) Sto.set_same (fun n o hm h => by rw [Sto.set_ne hm]; exact hk n o hm h) ok q
theorem cells_fin {m : Nat} (hm0 : 1 ≤ m) (hm3 : m ≤ 3) {S S1 : Sto} {Q : DK} {l m1 : Nat} {v : D} {cs ns : List Int} (hS : S l = none) (h1 : ∀ n o, S n = some o → S1 n = some o) (hl : S1 l = some (.lst (cs.map .int))) (hm1 : S1 m1 = none) (h3 : L3.cutD ns (some (m : Int)) (some 63) = [] ∨ cs.length = m) (h4 : cs.length ≤ m) (hn : ns.length ≤ 63)
    (q : ∀ (cs : List Int) (l : Nat), cs.length ≤ 3 → S l = none → Q (D.ref l) (S.set l (Ob.lst (List.map D.int cs)))) :
    forW (gsOf (.ref m1) (.lst (L3.cutD (ns.map .int) (some (m : Int)) (some 63)))) (.many [3, 4]) bodyC { nx := fun ρ' S' => ∃ v, ρ'[2]? = some (some v) ∧ drp (Q v) S', rt := fun v S => drp (Q v) S }
      (List.map (fun p => D.tup [D.int ↑p.fst, p.snd]) ((List.range (L3.cutD (ns.map D.int) (some (m : Int)) (some 63)).length).zip (L3.cutD (ns.map D.int) (some (m : Int)) (some 63)))) [some v, some (.int m), some (.ref l), none, none, none] (S1.set m1 (.lst (L3.cutD (ns.map .int) (some (m : Int)) (some 63)))) := by
  have hml : m1 ≠ l := fun e => by rw [e, hl] at hm1; cases hm1
  have hlm : l ≠ m1 := fun e => hml e.symm
  refine cells_go m hm0 ((S1.del l).set m1 (.lst (L3.cutD (ns.map .int) (some (m : Int)) (some 63)))) l (by rw [Sto.set_ne hlm, Sto.del_same]) _ _ _ _ cs _ _ _ _ (fun d hd => ?_) ?_ h4 (by rw [Sto.set_ne hlm, hl]) ?_ (fun S' hk _ => ?_) ?_
  · obtain ⟨⟨i, x⟩, hp, rfl⟩ := List.mem_map.mp hd
    obtain ⟨p1, p2⟩ := List.of_mem_zip hp
    rw [cutD_map] at p2
    obtain ⟨j, _, rfl⟩ := List.mem_map.mp p2
    have p1 := List.mem_range.mp p1
    have := L3.cutD_len (ns.map D.int) (some (m : Int)) (some 63)
    rw [List.length_map] at this
    exact ⟨i, j, by omega, rfl⟩
  · rcases h3 with h3 | h3
    · left
      rw [cutD_map, h3]
      rfl
    · exact .inr h3
  · intro n o hm h
    by_cases e : n = m1
    · subst e
      rw [Sto.set_same] at h ⊢
      exact h
    · rw [Sto.set_ne e] at h ⊢
      rw [Sto.del_ne hm] at h
      exact h
  · exact gs_ref (hk m1 _ hml Sto.set_same)
  · intro cs' S' b3 b4 b5 z s
    refine ⟨.ref l, rfl, _, Sto.sub_trans (set_mono fun n o h => ?_) s, q cs' l (by omega) hS⟩
    have e1 : n ≠ l := fun e => by rw [e, hS] at h; cases h
    have e2 : n ≠ m1 := fun e => by have := h1 _ _ h; rw [e, hm1] at this; cases this
    rw [Sto.set_ne e2, Sto.del_ne e1]
    exact h1 _ _ h
theorem cut3_len (m : Nat) (ns : List Int) : (L3.cutD ns none (some (m : Int))).length = min m ns.length := by
  unfold L3.cutD
  have e : HT.sIx ns.length ns.length (some (m : Int)) = min m ns.length := HT.sIx_nat ns.length ns.length m
  rw [e, HT.sIx_none, List.length_take, List.length_drop]
  omega
theorem cut363 (m : Nat) (ns : List Int) (h : ns.length ≤ m) : L3.cutD ns (some (m : Int)) (some 63) = [] := by
  unfold L3.cutD
  have e : HT.sIx ns.length 0 (some (m : Int)) = min m ns.length := HT.sIx_nat ns.length 0 m
  rw [e, List.drop_of_length_le (by omega), List.take_nil]
theorem v__law_cells : ∀ ds S Q E, sp__law_cells ds S Q E → d__law_cells (EndsD Q) (startD N__law_cells ds) S := by
  rintro ds S Q E ⟨v, ns, m0, rfl, hm0, hm3, hv, hn, q⟩
  simp only [d__law_cells, N__law_cells, hv, dWkA, dTupK, dTupL, dTupIx, dDictP, dDc2, dFor, dWhile, dLc, dLc2, dDc, dNextG, iSeq, iR1, iR2, iEn, iZpA, iZ2, iZ3, dSortK, dSortKF, dSortSet, dSortSetF, dBreak, bSortT, bSortTF, bSum, bSumL, bSumLF, bMaxL, bMinL, dDicE, bSortD, bSortDF, dGet2, oInA, oNotInA, oIxA, gdSubA, dSeq, dSet, dIf, dIfS, dTst, dOp, dUn, dVar, dCB, aCons, aNil, aStar, dRet, dRetN, dNext, dDrop, dLst, dTup, dC, dAnd, dOr, dNot, dAndV, dOrV, dNotV, dPar, dAsg, gdName, gdSub, gdTup, gdCons, gdNil, gdSlot, dIsi, dIsi2, dSlot, dSetSlot, dMethSl, dMakeSl, dCall, dCallP, dBM, dFrz, dLstF, dLcF, dLc2F, dDcF, dSlF, dListVF, bListF, bListDF, bSortSF, oAddLF, oRepLF, dSl, dNoP, dPart, dListV, dTru, dOrT, EndsD, startD, oLtI, oLeI, oGtI, oGeI, oIx, oMulI, oPowI, oAddI, oSubI, oModI, oDivI, oI, oI0, oEqD, oNeD, oInD, oNotInD, oAddL, oAddT, oAddS, oRepL, bLen, bAbs, bInt, bMin2, bMax2, bAll, bAny, bTuple, bList, bListD, bSortS, mAppend, mPop, mPopAt, mExtend, mIndex, tupOf_lst, tupOf_ref, tupOf_tup, List.map_cons, List.map_nil, List.length_cons, List.length_nil, List.cons_append, List.nil_append, List.append_nil, List.replicate, List.set_cons_zero, List.set_cons_succ, List.getElem?_cons_zero, List.getElem?_cons_succ, Option.some.injEq, exists_eq_left', exists_eq_left, exists_and_left, D.int.injEq, D.bl.injEq, D.str.injEq, D.tup.injEq, D.lst.injEq, D.ref.injEq, List.cons.injEq, and_true, true_and, reduceCtorEq, false_and, and_false, exists_false, or_false, false_or, exists_const, Bool.false_eq_true, if_true, if_false, decide_eq_true_eq, Ob.lst.injEq, Ob.slt.injEq, Ob.dic.injEq, seqD_ref, lstD_ref, seqD_tup, seqD_lst, lstD_lst, lstR_lst, Sto.set_same, Sto.set_set, atI_0, atI_1, atI_2, Nat.reduceAdd, ixN_30, ixN_32]
  refine .inl fun m hm l hl => ?_
  rw [cutD_map]
  have hlm : l ≠ m := fun e => by rw [e, Sto.set_same] at hl; cases hl
  have hSl : S l = none := by rw [Sto.set_ne hlm] at hl; exact hl
  have s2 : ∀ o, S.sub ((S.set m o).set l o) := fun o => Sto.sub_trans (Sto.sub_set hm) (Sto.sub_set (by rw [Sto.set_ne hlm]; exact hSl))
  refine ⟨!((L3.cutD ns none (some (m0 : Int))).map D.int).isEmpty, .inl ⟨_, by rw [seqD_ref, Sto.set_same], rfl⟩, ?_⟩
  by_cases hb : ns.length = 0
  · have e : ns = [] := List.length_eq_zero_iff.mp hb
    subst e
    have e0 : L3.cutD ([] : List Int) none (some (m0 : Int)) = [] := List.length_eq_zero_iff.mp (Nat.le_zero.mp (L3.cutD_len _ _ _))
    rw [e0, if_neg (by decide)]
    refine ⟨small_sz (by decide), fun a ha => .inl ⟨_, lstD_mono hv (Sto.sub_trans (s2 _) (Sto.sub_set ha)), fun m1 hm1 => ?_⟩⟩
    have hSa : S a = none := none_of_sub (s2 _) ha
    exact cells_fin hm0 hm3 (cs := [0]) hSa (fun k o h => Sto.sub_set ha _ _ (s2 _ _ _ h)) Sto.set_same hm1 (.inl (cut363 m0 [] (by simp))) (by simpa using hm0) hn q
  · have e3 := cut3_len m0 ns
    have e4 : ((L3.cutD ns none (some (m0 : Int))).map D.int).isEmpty = false := by
      cases e : L3.cutD ns none (some (m0 : Int)) with
      | nil => rw [e] at e3; simp at e3; omega
      | cons _ _ => rfl
    rw [e4, if_pos (show (!false) = true from rfl)]
    refine .inl ⟨_, lstD_mono hv (s2 _), fun m1 hm1 => ?_⟩
    refine cells_fin hm0 hm3 (cs := L3.cutD ns none (some (m0 : Int))) hSl (fun k o h => s2 _ _ _ h) Sto.set_same hm1 ?_ (by omega) hn q
    by_cases h : ns.length ≤ m0
    · exact .inl (cut363 m0 ns h)
    · right; omega
theorem ers_perm {α : Type} : ∀ (xs : List α) (i : Nat) (h : i < xs.length), (xs[i] :: xs.eraseIdx i).Perm xs
  | [], _, h => by cases h
  | x :: xs, 0, _ => .refl _
  | x :: xs, i + 1, h => by
    have ih := ers_perm xs i (by simpa using h)
    exact (List.Perm.swap x _ _).trans (ih.cons x)
abbrev bodyP : DS := dDrop (dBM "list" mAppend (dVar 5) (aCons (dBM "list" mPopAt (dVar 4) (aCons (dCall (sp__law_take) noX (aCons (dVar 0) (aCons (dCB bLen (aCons (dVar 4) (aNil))) (aNil)))) (aNil))) (aNil)))
theorem pick_go (S0 : Sto) (l a b : Nat) (es : List D) (ha : S0 a = none) (hb : S0 b = none) (hab : a ≠ b) (hla : l ≠ a) (hlb : l ≠ b) (E : DEnds) (x1 x2 : Option D) : ∀ (xs ps rest : List D) (S : Sto) (c : Int) (x3 : Option D), xs.length ≤ rest.length → rest.length ≤ 1000 → ps.length + rest.length ≤ 1000 → (ps ++ rest).Perm es → S a = some (.lst rest) → S b = some (.lst ps) → Bx S l c → c + xs.length ≤ 2 ^ 40 →
    (∀ m o, m ≠ l → S0 m = some o → S m = some o) →
    (∀ (ps' rest' : List D) (o : Ob) (S' : Sto) (b3 : Option D), (ps' ++ rest').Perm es → ps'.length = ps.length + xs.length → BxO o (c + xs.length) → ((S0.set l o).set b (.lst ps')).sub S' → E.nx [some (.ref l), x1, x2, b3, some (.ref a), some (.ref b)] S') →
    forW [] (.one 3) bodyP E xs [some (.ref l), x1, x2, x3, some (.ref a), some (.ref b)] S
  | [], ps, rest, S, c, x3, h1, h2, h3, hp, hA, hB, hX, hc, hk, q => by
    obtain ⟨o, ho, hO⟩ := hX
    refine ⟨Gs.ok_nil, q ps rest o S x3 hp rfl (by simpa using hO) fun m w hm => ?_⟩
    unfold Sto.set at hm
    by_cases e : m = b
    · rw [if_pos e] at hm; rw [e, hB]; exact hm
    · rw [if_neg e] at hm
      by_cases e2 : m = l
      · rw [if_pos e2] at hm; rw [e2, ho]; exact hm
      · rw [if_neg e2] at hm; exact hk m w e2 hm
  | d :: ds, ps, rest, S, c, x3, h1, h2, h3, hp, hA, hB, hX, hc, hk, q => by
    refine ⟨Gs.ok_nil, ?_⟩
    simp only [Tg.d, bodyP, sp__law_take, dWkA, dTupK, dTupL, dTupIx, dDictP, dDc2, dFor, dWhile, dLc, dLc2, dDc, dNextG, iSeq, iR1, iR2, iEn, iZpA, iZ2, iZ3, dSortK, dSortKF, dSortSet, dSortSetF, dBreak, bSortT, bSortTF, bSum, bSumL, bSumLF, bMaxL, bMinL, dDicE, bSortD, bSortDF, dGet2, oInA, oNotInA, oIxA, gdSubA, dSeq, dSet, dIf, dIfS, dTst, dOp, dUn, dVar, dCB, aCons, aNil, aStar, dRet, dRetN, dNext, dDrop, dLst, dTup, dC, dAnd, dOr, dNot, dAndV, dOrV, dNotV, dPar, dAsg, gdName, gdSub, gdTup, gdCons, gdNil, gdSlot, dIsi, dIsi2, dSlot, dSetSlot, dMethSl, dMakeSl, dCall, dCallP, dBM, dFrz, dLstF, dLcF, dLc2F, dDcF, dSlF, dListVF, bListF, bListDF, bSortSF, oAddLF, oRepLF, dSl, dNoP, dPart, dListV, dTru, dOrT, EndsD, startD, oLtI, oLeI, oGtI, oGeI, oIx, oMulI, oPowI, oAddI, oSubI, oModI, oDivI, oI, oI0, oEqD, oNeD, oInD, oNotInD, oAddL, oAddT, oAddS, oRepL, bLen, bAbs, bInt, bMin2, bMax2, bAll, bAny, bTuple, bList, bListD, bSortS, mAppend, mPop, mPopAt, mExtend, mIndex, tupOf_lst, tupOf_ref, tupOf_tup, List.map_cons, List.map_nil, List.length_cons, List.length_nil, List.cons_append, List.nil_append, List.append_nil, List.replicate, List.set_cons_zero, List.set_cons_succ, List.getElem?_cons_zero, List.getElem?_cons_succ, Option.some.injEq, exists_eq_left', exists_eq_left, exists_and_left, D.int.injEq, D.bl.injEq, D.str.injEq, D.tup.injEq, D.lst.injEq, D.ref.injEq, List.cons.injEq, and_true, true_and, reduceCtorEq, false_and, and_false, exists_false, or_false, false_or, exists_const, Bool.false_eq_true, if_true, if_false, decide_eq_true_eq, Ob.lst.injEq, Ob.slt.injEq, Ob.dic.injEq, seqD_ref, lstD_ref, seqD_tup, seqD_lst, lstD_lst, lstR_lst, Sto.set_same, Sto.set_set, atI_0, atI_1, atI_2, Nat.reduceAdd, ixN_30, ixN_32]
    rw [List.length_cons] at h1
    rw [List.length_cons] at hc
    rw [List.length_cons] at q
    refine ⟨.inl ⟨rfl, ps, by rw [lstD_ref, hB]⟩, .inl ⟨rfl, rest, by rw [lstD_ref, hA]⟩, rest, by rw [hA], l, rest.length, ⟨rfl, rfl⟩, by omega, by omega, c, hX, by omega, fun r o hr0 hr1 hO => ?_⟩
    have hr : r.toNat < rest.length := by omega
    have hal : a ≠ l := fun e => hla e.symm
    have hbl : b ≠ l := fun e => hlb e.symm
    have hba : b ≠ a := fun e => hab e.symm
    refine ⟨rest, by rw [Sto.set_ne hal, hA], r.toNat, ixN_in hr0 hr1, rest[r.toNat], List.getElem?_eq_getElem hr, ps, by rw [Sto.set_ne hba, Sto.set_ne hbl, hB], small_sz (by omega), _, Wk.refl _, _, Sto.sub_refl _, ?_⟩
    refine pick_go S0 l a b es ha hb hab hla hlb E x1 x2 ds (ps ++ [rest[r.toNat]]) (rest.eraseIdx r.toNat) _ (c + 1) (some d) ?_ ?_ ?_ ?_ ?_ Sto.set_same ?_ (by omega) ?_ ?_
    · rw [List.length_eraseIdx_of_lt hr]; omega
    · rw [List.length_eraseIdx_of_lt hr]; omega
    · rw [List.length_eraseIdx_of_lt hr, List.length_append, List.length_singleton]; omega
    · rw [List.append_assoc]
      exact ((ers_perm rest _ hr).append_left ps).trans hp
    · rw [Sto.set_ne hab, Sto.set_same]
    · exact ⟨o, by rw [Sto.set_ne hlb, Sto.set_ne hla, Sto.set_same], hO⟩
    · intro m w hm h
      have m1 : m ≠ a := fun e => by rw [e, ha] at h; cases h
      have m2 : m ≠ b := fun e => by rw [e, hb] at h; cases h
      rw [Sto.set_ne m2, Sto.set_ne m1, Sto.set_ne hm]
      exact hk m w hm h
    · intro ps' rest' o' S' b3 p1 p2 p3 p4
      exact q ps' rest' o' S' b3 p1 (by rw [p2, List.length_append, List.length_singleton]; omega) (by have e : c + 1 + (ds.length : Int) = c + ((ds.length + 1 : Nat) : Int) := by omega
                                                                                                       rw [← e]; exact p3) p4
theorem v__law_pick : ∀ ds S Q E, sp__law_pick ds S Q E → d__law_pick (EndsD Q) (startD N__law_pick ds) S := by
  rintro ds S Q E ⟨l, v, es, m, c, rfl, hv, hl, h0, h1, hB, hc, q⟩
  simp only [d__law_pick, N__law_pick, hv, dWkA, dTupK, dTupL, dTupIx, dDictP, dDc2, dFor, dWhile, dLc, dLc2, dDc, dNextG, iSeq, iR1, iR2, iEn, iZpA, iZ2, iZ3, dSortK, dSortKF, dSortSet, dSortSetF, dBreak, bSortT, bSortTF, bSum, bSumL, bSumLF, bMaxL, bMinL, dDicE, bSortD, bSortDF, dGet2, oInA, oNotInA, oIxA, gdSubA, dSeq, dSet, dIf, dIfS, dTst, dOp, dUn, dVar, dCB, aCons, aNil, aStar, dRet, dRetN, dNext, dDrop, dLst, dTup, dC, dAnd, dOr, dNot, dAndV, dOrV, dNotV, dPar, dAsg, gdName, gdSub, gdTup, gdCons, gdNil, gdSlot, dIsi, dIsi2, dSlot, dSetSlot, dMethSl, dMakeSl, dCall, dCallP, dBM, dFrz, dLstF, dLcF, dLc2F, dDcF, dSlF, dListVF, bListF, bListDF, bSortSF, oAddLF, oRepLF, dSl, dNoP, dPart, dListV, dTru, dOrT, EndsD, startD, oLtI, oLeI, oGtI, oGeI, oIx, oMulI, oPowI, oAddI, oSubI, oModI, oDivI, oI, oI0, oEqD, oNeD, oInD, oNotInD, oAddL, oAddT, oAddS, oRepL, bLen, bAbs, bInt, bMin2, bMax2, bAll, bAny, bTuple, bList, bListD, bSortS, mAppend, mPop, mPopAt, mExtend, mIndex, tupOf_lst, tupOf_ref, tupOf_tup, List.map_cons, List.map_nil, List.length_cons, List.length_nil, List.cons_append, List.nil_append, List.append_nil, List.replicate, List.set_cons_zero, List.set_cons_succ, List.getElem?_cons_zero, List.getElem?_cons_succ, Option.some.injEq, exists_eq_left', exists_eq_left, exists_and_left, D.int.injEq, D.bl.injEq, D.str.injEq, D.tup.injEq, D.lst.injEq, D.ref.injEq, List.cons.injEq, and_true, true_and, reduceCtorEq, false_and, and_false, exists_false, or_false, false_or, exists_const, Bool.false_eq_true, if_true, if_false, decide_eq_true_eq, Ob.lst.injEq, Ob.slt.injEq, Ob.dic.injEq, seqD_ref, lstD_ref, seqD_tup, seqD_lst, lstD_lst, lstR_lst, Sto.set_same, Sto.set_set, atI_0, atI_1, atI_2, Nat.reduceAdd, ixN_30, ixN_32]
  intro a ha
  refine ⟨Nat.zero_le _, fun b hb => ?_⟩
  obtain ⟨o0, ho0, hO0⟩ := hB
  have hba : b ≠ a := fun e => by rw [e, Sto.set_same] at hb; cases hb
  have hab : a ≠ b := fun e => hba e.symm
  have hSb : S b = none := by rw [Sto.set_ne hba] at hb; exact hb
  have hla : l ≠ a := fun e => by rw [e, ha] at ho0; cases ho0
  have hlb : l ≠ b := fun e => by rw [e, hSb] at ho0; cases ho0
  refine ⟨_, _, ⟨rfl, rfl⟩, .inl ⟨es, by rw [seqD_ref, Sto.set_ne hab, Sto.set_same], m, es.length, ⟨rfl, rfl⟩, ?_, ?_⟩⟩
  · split <;> omega
  · have hk : (if (es.length : Int) < m then (es.length : Int) else m).toNat = min m.toNat es.length := by split <;> omega
    refine pick_go S l a b es ha hSb hab hla hlb _ _ _ _ [] es _ c _ ?_ hl (by simpa using hl) (List.Perm.refl _) ?_ Sto.set_same ?_ ?_ ?_ ?_
    · rw [List.length_map, List.length_range]; omega
    · rw [Sto.set_ne hab, Sto.set_same]
    · exact ⟨o0, by rw [Sto.set_ne hlb, Sto.set_ne hla]; exact ho0, hO0⟩
    · rw [List.length_map, List.length_range]; omega
    · intro k o hk h
      have e1 : k ≠ a := fun e => by rw [e, ha] at h; cases h
      have e2 : k ≠ b := fun e => by rw [e, hSb] at h; cases h
      rw [Sto.set_ne e2, Sto.set_ne e1]; exact h
    · intro ps' rest' o S' b3 p1 p2 p3 p4
      rw [List.length_map, List.length_range, hk] at p2 p3
      exact ⟨.ref b, rfl, _, p4, q ps' rest' o b p1 (by simpa using p2) (p3.mono (by omega)) hSb (fun e => hlb e.symm)⟩
end LK
end
section
set_option Elab.async false
set_option linter.all false
set_option maxRecDepth 100000
set_option maxHeartbeats 400000
namespace LK
open PySem PySem.Spec PyProof.Rows L2 L3
theorem perm_back {α : Type} (f : α → D) (g : D → α) (hg : ∀ a, g (f a) = a) {ps rest : List D} {xs : List α} (h : (ps ++ rest).Perm (xs.map f)) : ∃ ys zs : List α, ps = ys.map f ∧ (ys ++ zs).Perm xs := by
  have key : ∀ d ∈ ps, f (g d) = d := fun d hd => by
    have := (h.mem_iff (a := d)).mp (List.mem_append_left _ hd)
    obtain ⟨a, _, rfl⟩ := List.mem_map.mp this
    rw [hg]
  refine ⟨ps.map g, rest.map g, ?_, ?_⟩
  · rw [List.map_map]
    conv => lhs; rw [← List.map_id ps]
    exact List.map_congr_left fun d hd => (key d hd).symm
  · have h2 := h.map g
    rw [List.map_append, List.map_map] at h2
    have e : xs.map (g ∘ f) = xs := by
      conv => rhs; rw [← List.map_id xs]
      exact List.map_congr_left fun a _ => hg a
    rw [e] at h2
    exact h2
def dS : D → Str
  | .str x => x
  | _ => ""
def dH : D → Head
  | .tup (.str x :: .tup ds :: _) => (x, ds.map dS)
  | _ => ("", [])
theorem dS_str (x : Str) : dS (.str x) = x := rfl
theorem dH_head (h : Head) : dH (headD h) = h := by
  show (h.1, (h.2.map D.str).map dS) = h
  rw [List.map_map]
  have e : h.2.map (dS ∘ D.str) = h.2 := by
    conv => rhs; rw [← List.map_id h.2]
    exact List.map_congr_left fun a _ => rfl
  rw [e]
abbrev six : List Str := [Str.ofString "a", Str.ofString "dev", Str.ofString "enc", Str.ofString "lang", Str.ofString "q", Str.ofString "zip"]
abbrev five : List Str := [Str.ofString "de", Str.ofString "fr", Str.ofString "m", Str.ofString "x", Str.ofString "y"]
theorem six_nd : six.Nodup := by decide
abbrev bodyH : DS := dSeq (dSet 7 (dCall (sp__law_pick) noX (aCons (dVar 0) (aCons (dFrz (dLst (aCons (dC (.str "de")) (aCons (dC (.str "fr")) (aCons (dC (.str "m")) (aCons (dC (.str "x")) (aCons (dC (.str "y")) (aNil)))))))) (aCons (dOp oAddI (dC (.int 1)) (dCall (sp__law_take) noX (aCons (dVar 0) (aCons (dOp oIx (dVar 1) (dVar 4)) (aNil))))) (aNil))))))
    (dDrop (dBM "list" mAppend (dVar 3) (aCons (dTup (aCons (dOp oIx (dVar 2) (dVar 4)) (aCons (dCB bTuple (aCons (dFrz (dCB bSortS (aCons (dVar 7) (aNil)))) (aNil))) (aNil)))) (aNil))))
theorem six_nm : ∀ x ∈ six, isNm x = true := by decide +kernel
abbrev fve : List Str := Str.ofString "" :: Str.ofString "none" :: five
abbrev four : List Str := [Str.ofString "eng", Str.ofString "fra", Str.ofString "mob", Str.ofString "old"]
theorem five_nm : ∀ x ∈ five, isNm x = true := by decide +kernel
theorem five_nd : five.Nodup := by decide
structure HOk (h : Head) : Prop where
  l3 : h.2.length ≤ 3
  nm : isNm h.1 = true
  vnm : ∀ v ∈ h.2, isNm v = true
  up : h.2.Pairwise slt
  ne : h.2 ≠ []
  n6 : h.1 ∈ six
  v5 : ∀ v ∈ h.2, v ∈ five
theorem HOk.len {h : Head} (k : HOk h) : h.2.length ≤ 5 := by have := k.l3; omega
theorem HOk.so {h : Head} (k : HOk h) : PyData.strOk h.1 = true ∧ ∀ v ∈ h.2, PyData.strOk v = true := ⟨nm_ok k.nm, fun v hv => nm_ok (k.vnm v hv)⟩
theorem heads_go (S0 : Sto) (l a : Nat) (ha : S0 a = none) (hal : a ≠ l) (E : DEnds) (sv : D) (ss : List Int) (hsv : ∀ S, seqD S sv = some (ss.map .int)) (ys : List Str) (hs3 : ∀ s ∈ ss, 1 ≤ s ∧ s ≤ 3) (hy : ∀ y ∈ ys, isNm y = true) (hy6 : ∀ y ∈ ys, y ∈ six) (hsy : ss.length = ys.length) (hs4 : ss.length ≤ 4) (x5 x6 x8 x9 x10 : Option D) :
    ∀ (n k : Nat) (hs : List Head) (o : Ob) (c : Int) (x4 x7 : Option D), k + n = ss.length → hs.length = k → hs.map (·.1) = ys.take k → (∀ h ∈ hs, HOk h) → BxO o c → c + 1001 * n ≤ 2 ^ 39 →
    (∀ (hs' : List Head) (o' : Ob) (b4 b7 : Option D), hs'.map (·.1) = ys → (∀ h ∈ hs', HOk h) → BxO o' (c + 1001 * n) → E.nx [some (.ref l), some sv, some (.lst (ys.map .str)), some (.ref a), b4, x5, x6, b7, x8, x9, x10] ((S0.set l o').set a (.lst (hs'.map headD)))) →
    forW [] (.one 4) bodyH E ((List.range' k n).map fun (i : Nat) => D.int i) [some (.ref l), some sv, some (.lst (ys.map .str)), some (.ref a), x4, x5, x6, x7, x8, x9, x10] ((S0.set l o).set a (.lst (hs.map headD)))
  | 0, k, hs, o, c, x4, x7, h1, h2, h3, h4, h5, h6, q => ⟨Gs.ok_nil, q hs o x4 x7 (by rw [h3, List.take_of_length_le (by omega)]) h4 (by simpa using h5)⟩
  | n + 1, k, hs, o, c, x4, x7, h1, h2, h3, h4, h5, h6, q => by
    rw [List.range'_succ, List.map_cons]
    refine ⟨Gs.ok_nil, ?_⟩
    simp only [Tg.d, bodyH, sp__law_pick, sp__law_take, dWkA, dTupK, dTupL, dTupIx, dDictP, dDc2, dFor, dWhile, dLc, dLc2, dDc, dNextG, iSeq, iR1, iR2, iEn, iZpA, iZ2, iZ3, dSortK, dSortKF, dSortSet, dSortSetF, dBreak, bSortT, bSortTF, bSum, bSumL, bSumLF, bMaxL, bMinL, dDicE, bSortD, bSortDF, dGet2, oInA, oNotInA, oIxA, gdSubA, dSeq, dSet, dIf, dIfS, dTst, dOp, dUn, dVar, dCB, aCons, aNil, aStar, dRet, dRetN, dNext, dDrop, dLst, dTup, dC, dAnd, dOr, dNot, dAndV, dOrV, dNotV, dPar, dAsg, gdName, gdSub, gdTup, gdCons, gdNil, gdSlot, dIsi, dIsi2, dSlot, dSetSlot, dMethSl, dMakeSl, dCall, dCallP, dBM, dFrz, dLstF, dLcF, dLc2F, dDcF, dSlF, dListVF, bListF, bListDF, bSortSF, oAddLF, oRepLF, dSl, dNoP, dPart, dListV, dTru, dOrT, EndsD, startD, oLtI, oLeI, oGtI, oGeI, oIx, oMulI, oPowI, oAddI, oSubI, oModI, oDivI, oI, oI0, oEqD, oNeD, oInD, oNotInD, oAddL, oAddT, oAddS, oRepL, bLen, bAbs, bInt, bMin2, bMax2, bAll, bAny, bTuple, bList, bListD, bSortS, mAppend, mPop, mPopAt, mExtend, mIndex, tupOf_lst, tupOf_ref, tupOf_tup, List.map_cons, List.map_nil, List.length_cons, List.length_nil, List.cons_append, List.nil_append, List.append_nil, List.replicate, List.set_cons_zero, List.set_cons_succ, List.getElem?_cons_zero, List.getElem?_cons_succ, Option.some.injEq, exists_eq_left', exists_eq_left, exists_and_left, D.int.injEq, D.bl.injEq, D.str.injEq, D.tup.injEq, D.lst.injEq, D.ref.injEq, List.cons.injEq, and_true, true_and, reduceCtorEq, false_and, and_false, exists_false, or_false, false_or, exists_const, Bool.false_eq_true, if_true, if_false, decide_eq_true_eq, Ob.lst.injEq, Ob.slt.injEq, Ob.dic.injEq, seqD_ref, lstD_ref, seqD_tup, seqD_lst, lstD_lst, lstR_lst, Sto.set_same, Sto.set_set, atI_0, atI_1, atI_2, Nat.reduceAdd, ixN_30, ixN_32]
    refine ⟨small_sz (by decide), fun f hf => ?_⟩
    rw [Sto.del_set hf]
    have hk : k < ss.length := by omega
    have hk' : k < ys.length := by omega
    have hsk := hs3 ss[k] (List.getElem_mem hk)
    have at1 : atI (ss.map D.int) (k : Int) = some (.int ss[k]) := atI_nat (by rw [List.getElem?_map, List.getElem?_eq_getElem hk]; rfl)
    have at2 : atI (ys.map D.str) (k : Int) = some (.str ys[k]) := atI_nat (by rw [List.getElem?_map, List.getElem?_eq_getElem hk']; rfl)
    have hla : l ≠ a := fun e => hal e.symm
    refine ⟨_, rfl, _, hsv _, _, at1, l, _, ⟨rfl, rfl⟩, by omega, by omega, c, ⟨o, by rw [Sto.set_ne hla, Sto.set_same], h5⟩, by omega, fun r o1 hr0 hr1 hO1 => ?_⟩
    refine ⟨l, _, _, _, ⟨rfl, rfl, rfl⟩, rfl, by simp, by omega, by omega, c + 1, Bx.of hO1, by omega, fun ps rest o2 g hp hpl hO2 hg hgl => ?_⟩
    have hga : g ≠ a := fun e => by rw [e, Sto.set_ne hal, Sto.set_same] at hg; cases hg
    have hag : a ≠ g := fun e => hga e.symm
    obtain ⟨vs, zs, rfl, hvz⟩ := perm_back D.str dS dS_str (xs := five) hp
    have va : ((((S0.set l o).set a (.lst (hs.map headD))).set l o1).set l o2).set g (.lst (vs.map D.str)) a = some (.lst (hs.map headD)) := by
      rw [Sto.set_ne hag, Sto.set_ne hal, Sto.set_ne hal, Sto.set_same]
    rw [Sto.set_set] at va ⊢
    refine ⟨.inl ⟨rfl, _, by rw [lstD_ref, va]⟩, _, at2, ?_⟩
    have hv5 : vs.length ≤ 5 := by
      have := hvz.length_eq
      rw [List.length_append] at this
      have e : five.length = 5 := rfl
      omega
    refine ⟨vs, rfl, by omega, fun us f2 hus hso hf2 => ⟨_, rfl, us.map .str, rfl, small_sz (by decide), hs.map headD, ?_, small_sz (by rw [List.length_map]; omega), _, Wk.refl _, (S0.set l o2).set a (.lst ((hs ++ [(ys[k], us)]).map headD)), ?_, ?_⟩⟩
    · rw [Sto.del_set hf2]; exact va
    · rw [Sto.del_set hf2, List.map_append]
      intro m w hm
      by_cases e : m = a
      · subst e
        rw [Sto.set_same] at hm ⊢
        exact hm
      · rw [Sto.set_ne e] at hm ⊢
        by_cases e2 : m = g
        · subst e2
          rw [Sto.set_ne hgl, Sto.set_ne hga, Sto.set_ne hgl] at hg
          rw [Sto.set_ne hgl, hg] at hm
          cases hm
        · rw [Sto.set_ne e2]
          by_cases e3 : m = l
          · subst e3
            rw [Sto.set_same] at hm ⊢; exact hm
          · rw [Sto.set_ne e3] at hm
            rw [Sto.set_ne e3, Sto.set_ne e, Sto.set_ne e3]; exact hm
    · have hv5' : ∀ v ∈ us, v ∈ five := fun v hv => hvz.subset (List.mem_append_left _ (hus.subset hv))
      have hv : ∀ v ∈ us, isNm v = true := fun v hv => five_nm v (hvz.subset (List.mem_append_left _ (hus.subset hv)))
      have hun : us.Nodup := hus.nodup_iff.mpr (List.nodup_append.mp (hvz.nodup_iff.mpr five_nd)).1
      have hul : us.length = min (1 + r).toNat 5 := by
        rw [hus.length_eq]
        rw [List.length_map] at hpl
        exact hpl
      refine heads_go S0 l a ha hal E sv ss hsv ys hs3 hy hy6 hsy hs4 x5 x6 x8 x9 x10 n (k + 1) (hs ++ [(ys[k], us)]) o2 (c + 1 + 1000) _ _ (by omega) (by simp [h2]) ?_ ?_ hO2 (by omega) fun hs' o' b4 b7 q1 q2 q3 => q hs' o' b4 b7 q1 q2 (q3.mono (by omega))
      · rw [List.map_append, h3, List.take_succ_eq_append_getElem hk']
        rfl
      · intro h hh
        rcases List.mem_append.mp hh with hh | hh
        · exact h4 h hh
        · rw [List.mem_singleton.mp hh]
          exact ⟨by show us.length ≤ 3; rw [hul]; omega, hy _ (List.getElem_mem hk'), hv, pw_up (sortedS_pw hso) hun, fun e => by have h0 : us.length = 0 := List.length_eq_zero_iff.mpr e; omega, hy6 _ (List.getElem_mem hk'), hv5'⟩
end LK
end
section
set_option Elab.async false
set_option linter.all false
set_option maxRecDepth 100000
set_option maxHeartbeats 400000
namespace LK
open PySem PySem.Spec PyProof.Rows L2 L3
abbrev bodyT : DS := dDrop (dBM "list" mAppend (dVar 8) (aCons (dTup (aCons (dVar 9) (aCons (dCall (sp__law_of) noX (aCons (dVar 0) (aCons (dFrz (dOp oAddL (dFrz (dOp oRepL (dFrz (dCB bList (aCons (dVar 10) (aNil)))) (dC (.int 3)))) (dFrz (dLst (aCons (dC (.str "")) (aCons (dC (.str "none")) (aNil))))))) (aNil)))) (aNil)))) (aNil)))
theorem sets3 {S : Sto} {l u : Nat} {o x o' y : Ob} : (((S.set l o).set u x).set l o').set u y = (S.set l o').set u y := by
  funext m
  unfold Sto.set
  by_cases e : m = u
  · simp only [if_pos e]
  · by_cases e2 : m = l
    · simp only [if_neg e, if_pos e2]
    · simp only [if_neg e, if_neg e2]
theorem sets_perm {S : Sto} {l u g : Nat} {o x p : Ob} (h1 : u ≠ l) (h2 : u ≠ g) (h3 : g ≠ l) : ((S.set u x).set l o).set g p = ((S.set g p).set l o).set u x := by
  funext m
  unfold Sto.set
  by_cases e : m = u
  · subst e
    simp only [if_neg h1, if_neg h2, if_true]
  · by_cases e2 : m = l
    · subst e2
      simp only [if_neg e, if_neg (fun z => h3 z.symm : ¬ m = g), if_true]
    · simp only [if_neg e, if_neg e2]
structure TOk (N : List Str) (t : Str × Str) : Prop where
  nm : t.1 ∈ N
  so : PyData.strOk t.1 = true ∧ PyData.strOk t.2 = true
  tv : t.2 = "" ∨ isNm t.2 = true
  t5 : t.2 ∈ fve
theorem tests_go (S1 : Sto) (l g u : Nat) (N : List Str) (hu : S1 u = none) (hul : u ≠ l) (hgl : g ≠ l) (G : Ob) (hg : S1 g = some G) (E : DEnds) (x1 x2 x3 x4 x5 x6 x7 : Option D) :
    ∀ (hs : List Head) (ts : List (Str × Str)) (o : Ob) (c : Int) (x9 x10 : Option D), (∀ h ∈ hs, HOk h ∧ h.1 ∈ N) → (ts.map (·.1) ++ hs.map (·.1)).Nodup → (∀ t ∈ ts, TOk N t) → ts.length + hs.length ≤ 100 → BxO o c → c + hs.length ≤ 2 ^ 39 →
    (∀ (ts' : List (Str × Str)) (o' : Ob) (b9 b10 : Option D), (∀ t ∈ ts', TOk N t) → (ts'.map (·.1)).Nodup → ts'.length ≤ 100 → BxO o' (c + hs.length) → E.nx [some (.ref l), x1, x2, x3, x4, x5, x6, x7, some (.ref u), b9, b10] ((S1.set l o').set u (.lst (ts'.map testD)))) →
    forW (gsOf (.ref g) G) (.many [9, 10]) bodyT E (hs.map headD) [some (.ref l), x1, x2, x3, x4, x5, x6, x7, some (.ref u), x9, x10] ((S1.set l o).set u (.lst (ts.map testD)))
  | [], ts, o, c, x9, x10, h1, hnd, h2, h3, h4, h5, q => by
    have hgu : g ≠ u := fun e => by rw [e, hu] at hg; cases hg
    exact ⟨gs_ref (by rw [Sto.set_ne hgu, Sto.set_ne hgl]; exact hg), q ts o x9 x10 h2 (by simpa using hnd) (by simpa using h3) (by simpa using h4)⟩
  | h :: hs, ts, o, c, x9, x10, h1, hnd, h2, h3, h4, h5, q => by
    have hgu : g ≠ u := fun e => by rw [e, hu] at hg; cases hg
    have hlu : l ≠ u := fun e => hul e.symm
    refine ⟨gs_ref (by rw [Sto.set_ne hgu, Sto.set_ne hgl]; exact hg), ?_⟩
    simp only [Tg.d, bodyT, headD, setsE, sp__law_of, frzO_lst, dWkA, dTupK, dTupL, dTupIx, dDictP, dDc2, dFor, dWhile, dLc, dLc2, dDc, dNextG, iSeq, iR1, iR2, iEn, iZpA, iZ2, iZ3, dSortK, dSortKF, dSortSet, dSortSetF, dBreak, bSortT, bSortTF, bSum, bSumL, bSumLF, bMaxL, bMinL, dDicE, bSortD, bSortDF, dGet2, oInA, oNotInA, oIxA, gdSubA, dSeq, dSet, dIf, dIfS, dTst, dOp, dUn, dVar, dCB, aCons, aNil, aStar, dRet, dRetN, dNext, dDrop, dLst, dTup, dC, dAnd, dOr, dNot, dAndV, dOrV, dNotV, dPar, dAsg, gdName, gdSub, gdTup, gdCons, gdNil, gdSlot, dIsi, dIsi2, dSlot, dSetSlot, dMethSl, dMakeSl, dCall, dCallP, dBM, dFrz, dLstF, dLcF, dLc2F, dDcF, dSlF, dListVF, bListF, bListDF, bSortSF, oAddLF, oRepLF, dSl, dNoP, dPart, dListV, dTru, dOrT, EndsD, startD, oLtI, oLeI, oGtI, oGeI, oIx, oMulI, oPowI, oAddI, oSubI, oModI, oDivI, oI, oI0, oEqD, oNeD, oInD, oNotInD, oAddL, oAddT, oAddS, oRepL, bLen, bAbs, bInt, bMin2, bMax2, bAll, bAny, bTuple, bList, bListD, bSortS, mAppend, mPop, mPopAt, mExtend, mIndex, tupOf_lst, tupOf_ref, tupOf_tup, List.map_cons, List.map_nil, List.length_cons, List.length_nil, List.cons_append, List.nil_append, List.append_nil, List.replicate, List.set_cons_zero, List.set_cons_succ, List.getElem?_cons_zero, List.getElem?_cons_succ, Option.some.injEq, exists_eq_left', exists_eq_left, exists_and_left, D.int.injEq, D.bl.injEq, D.str.injEq, D.tup.injEq, D.lst.injEq, D.ref.injEq, List.cons.injEq, and_true, true_and, reduceCtorEq, false_and, and_false, exists_false, or_false, false_or, exists_const, Bool.false_eq_true, if_true, if_false, decide_eq_true_eq, Ob.lst.injEq, Ob.slt.injEq, Ob.dic.injEq, seqD_ref, lstD_ref, seqD_tup, seqD_lst, lstD_lst, lstR_lst, Sto.set_same, Sto.set_set, atI_0, atI_1, atI_2, Nat.reduceAdd, ixN_30, ixN_32]
    obtain ⟨hh, hN⟩ := h1 h List.mem_cons_self
    have hl5 := hh.len
    have z3 : Int.toNat 3 = 3 := rfl
    refine ⟨.inl ⟨rfl, _, by rw [lstD_ref, Sto.set_same]⟩, fun f1 hf1 => ?_⟩
    rw [Sto.del_set hf1]
    refine ⟨by decide, by decide, small_sz (by rw [List.length_map, z3]; omega), fun f2 hf2 => ?_⟩
    rw [Sto.del_set hf2]
    refine ⟨small_sz (by decide), fun f3 hf3 => ?_⟩
    rw [Sto.del_set hf3]
    have fl : (List.replicate (Int.toNat 3) (h.2.map D.str)).flatten = ((List.replicate 3 h.2).flatten).map D.str := by
      rw [List.map_flatten, List.map_replicate]
      rfl
    have fll : ((List.replicate 3 h.2).flatten).length ≤ 15 := by
      rw [List.length_flatten, List.map_replicate]
      simp
      omega
    rw [fl]
    refine ⟨small_sz (by rw [List.length_map]; omega), fun f4 hf4 => ?_⟩
    rw [Sto.del_set hf4]
    refine ⟨l, _, ⟨rfl, rfl⟩, _, fun _ => rfl, rfl, by simp, by rw [List.length_append, List.length_map]; simp only [List.length_cons, List.length_nil]; omega, c, ⟨o, by rw [Sto.set_ne hlu, Sto.set_same], h4⟩, by rw [List.length_cons] at h5; omega, fun e o' he hO => ?_⟩
    have he' : ∃ x : Str, e = .str x ∧ (x = "" ∨ isNm x = true) ∧ x ∈ fve := by
      rcases List.mem_append.mp he with he | he
      · obtain ⟨x, hx, rfl⟩ := List.mem_map.mp he
        obtain ⟨ys, hy1, hy2⟩ := List.mem_flatten.mp hx
        rw [List.eq_of_mem_replicate hy1] at hy2
        exact ⟨x, rfl, .inr (hh.vnm x hy2), List.mem_cons_of_mem _ (List.mem_cons_of_mem _ (hh.v5 x hy2))⟩
      · have k1 : (Str.ofString "" : Str) = "" ∨ isNm (Str.ofString "") = true := .inl rfl
        have k2 : (Str.ofString "none" : Str) = "" ∨ isNm (Str.ofString "none") = true := .inr (by decide +kernel)
        rcases List.mem_cons.mp he with e1 | he
        · exact ⟨_, e1, k1, List.mem_cons_self⟩
        · exact ⟨_, List.mem_singleton.mp he, k2, List.mem_cons_of_mem _ List.mem_cons_self⟩
    obtain ⟨x, rfl, hx, hx5⟩ := he'
    refine ⟨small_sz (by decide), ts.map testD, by rw [Sto.set_ne hul, Sto.set_same], small_sz (by rw [List.length_map]; omega), _, Wk.refl _, (S1.set l o').set u (.lst ((ts ++ [(h.1, x)]).map testD)), ?_, ?_⟩
    · rw [List.map_append, sets3]
      exact Sto.sub_refl _
    · rw [List.length_cons] at q h5
      refine tests_go S1 l g u N hu hul hgl G hg E x1 x2 x3 x4 x5 x6 x7 hs (ts ++ [(h.1, x)]) o' (c + 1) _ _ (fun k hk => h1 k (List.mem_cons_of_mem _ hk)) (by simpa using hnd) (fun t ht => ?_) (by rw [List.length_append]; simp at h3 ⊢; omega) hO (by omega) fun ts' o2 b9 b10 q1 qn q2 q3 => q ts' o2 b9 b10 q1 qn q2 (q3.mono (by omega))
      rcases List.mem_append.mp ht with ht | ht
      · exact h2 t ht
      · rw [List.mem_singleton.mp ht]
        refine ⟨hN, ⟨hh.so.1, ?_⟩, hx, hx5⟩
        rcases hx with hx | hx
        · show PyData.strOk x = true; rw [hx]; decide +kernel
        · exact nm_ok hx
abbrev bodyR : DS := (dSeq (dSet 8 (dLst (aNil)))
    (dSeq (dFor (iSeq (dCall (sp__law_pick) noX (aCons (dVar 0) (aCons (dVar 3) (aCons (dCall (sp__law_of) noX (aCons (dVar 0) (aCons (dFrz (dLst (aCons (dC (.int 1)) (aCons (dC (.int 1)) (aCons (dC (.int 2)) (aCons (dC (.int 2)) (aCons (dC (.int 3)) (aNil)))))))) (aNil)))) (aNil)))))) (.many [9, 10]) bodyT)
    (dDrop (dBM "list" mAppend (dVar 5) (aCons (dTup (aCons (dCB bTuple (aCons (dVar 8) (aNil))) (aCons (dCall (sp__law_of) noX (aCons (dVar 0) (aCons (dFrz (dLst (aCons (dC (.str "eng")) (aCons (dC (.str "fra")) (aCons (dC (.str "mob")) (aNil)))))) (aNil)))) (aNil)))) (aNil))))))
structure RlOk (N : List Str) (r : Rule) : Prop where
  len : r.1.length ≤ 100
  ts : ∀ t ∈ r.1, TOk N t
  nd : (r.1.map (·.1)).Nodup
  an : isNm r.2 = true
  a4 : r.2 ∈ four
theorem rules_go (S0 : Sto) (l a b : Nat) (hs : List Head) (ha : S0 a = none) (hb : S0 b = none) (hal : a ≠ l) (hbl : b ≠ l) (hab : a ≠ b) (hh : ∀ h ∈ hs, HOk h) (hnd : (hs.map (·.1)).Nodup) (hh4 : hs.length ≤ 4) (E : DEnds) (x1 x2 x7 : Option D) :
    ∀ (xs : List D) (rs : List Rule) (o : Ob) (c : Int) (x4 x6 x8 x9 x10 : Option D), (∀ r ∈ rs, RlOk (hs.map (·.1)) r) → rs.length + xs.length ≤ 50 → BxO o c → c + 1100 * xs.length ≤ 2 ^ 39 - 2000 →
    (∀ (rs' : List Rule) (o' : Ob) (b6 b8 b9 b10 : Option D), (∀ r ∈ rs', RlOk (hs.map (·.1)) r) → rs'.length = rs.length + xs.length → BxO o' (c + 1100 * xs.length) → E.nx [some (.ref l), x1, x2, some (.ref a), x4, some (.ref b), b6, x7, b8, b9, b10] (((S0.set l o').set a (.lst (hs.map headD))).set b (.lst (rs'.map ruleD)))) →
    forW [] (.one 6) bodyR E xs [some (.ref l), x1, x2, some (.ref a), x4, some (.ref b), x6, x7, x8, x9, x10] (((S0.set l o).set a (.lst (hs.map headD))).set b (.lst (rs.map ruleD)))
  | [], rs, o, c, x4, x6, x8, x9, x10, h1, h2, h3, h4, q => ⟨Gs.ok_nil, q rs o x6 x8 x9 x10 h1 rfl (by simpa using h3)⟩
  | d :: ds, rs, o, c, x4, x6, x8, x9, x10, h1, h2, h3, h4, q => by
    refine ⟨Gs.ok_nil, ?_⟩
    simp only [Tg.d, bodyR, sp__law_pick, sp__law_of, frzO_lst, dWkA, dTupK, dTupL, dTupIx, dDictP, dDc2, dFor, dWhile, dLc, dLc2, dDc, dNextG, iSeq, iR1, iR2, iEn, iZpA, iZ2, iZ3, dSortK, dSortKF, dSortSet, dSortSetF, dBreak, bSortT, bSortTF, bSum, bSumL, bSumLF, bMaxL, bMinL, dDicE, bSortD, bSortDF, dGet2, oInA, oNotInA, oIxA, gdSubA, dSeq, dSet, dIf, dIfS, dTst, dOp, dUn, dVar, dCB, aCons, aNil, aStar, dRet, dRetN, dNext, dDrop, dLst, dTup, dC, dAnd, dOr, dNot, dAndV, dOrV, dNotV, dPar, dAsg, gdName, gdSub, gdTup, gdCons, gdNil, gdSlot, dIsi, dIsi2, dSlot, dSetSlot, dMethSl, dMakeSl, dCall, dCallP, dBM, dFrz, dLstF, dLcF, dLc2F, dDcF, dSlF, dListVF, bListF, bListDF, bSortSF, oAddLF, oRepLF, dSl, dNoP, dPart, dListV, dTru, dOrT, EndsD, startD, oLtI, oLeI, oGtI, oGeI, oIx, oMulI, oPowI, oAddI, oSubI, oModI, oDivI, oI, oI0, oEqD, oNeD, oInD, oNotInD, oAddL, oAddT, oAddS, oRepL, bLen, bAbs, bInt, bMin2, bMax2, bAll, bAny, bTuple, bList, bListD, bSortS, mAppend, mPop, mPopAt, mExtend, mIndex, tupOf_lst, tupOf_ref, tupOf_tup, List.map_cons, List.map_nil, List.length_cons, List.length_nil, List.cons_append, List.nil_append, List.append_nil, List.replicate, List.set_cons_zero, List.set_cons_succ, List.getElem?_cons_zero, List.getElem?_cons_succ, Option.some.injEq, exists_eq_left', exists_eq_left, exists_and_left, D.int.injEq, D.bl.injEq, D.str.injEq, D.tup.injEq, D.lst.injEq, D.ref.injEq, List.cons.injEq, and_true, true_and, reduceCtorEq, false_and, and_false, exists_false, or_false, false_or, exists_const, Bool.false_eq_true, if_true, if_false, decide_eq_true_eq, Ob.lst.injEq, Ob.slt.injEq, Ob.dic.injEq, seqD_ref, lstD_ref, seqD_tup, seqD_lst, lstD_lst, lstR_lst, Sto.set_same, Sto.set_set, atI_0, atI_1, atI_2, Nat.reduceAdd, ixN_30, ixN_32]
    refine ⟨Nat.zero_le _, fun u hu => ?_⟩
    have hba : b ≠ a := fun e => hab e.symm
    have hlb : l ≠ b := fun e => hbl e.symm
    have hla : l ≠ a := fun e => hal e.symm
    have hub : u ≠ b := fun e => by rw [e, Sto.set_same] at hu; cases hu
    have hua : u ≠ a := fun e => by rw [e, Sto.set_ne hab, Sto.set_same] at hu; cases hu
    have hul : u ≠ l := fun e => by rw [e, Sto.set_ne hlb, Sto.set_ne hla, Sto.set_same] at hu; cases hu
    have hlu : l ≠ u := fun e => hul e.symm
    refine ⟨small_sz (by decide), fun f1 hf1 => ?_⟩
    rw [Sto.del_set hf1]
    refine ⟨l, _, ⟨rfl, rfl⟩, _, fun _ => rfl, rfl, by simp, by simp, c, ⟨o, by rw [Sto.set_ne hlu, Sto.set_ne hlb, Sto.set_ne hla, Sto.set_same], h3⟩, by rw [List.length_cons] at h4; omega, fun e o1 he hO1 => ?_⟩
    have he' : ∃ k : Int, e = .int k ∧ 1 ≤ k ∧ k ≤ 3 := by
      have he' : e ∈ ([1, 1, 2, 2, 3] : List Int).map D.int := he
      obtain ⟨k, hk, rfl⟩ := List.mem_map.mp he'
      have key : ∀ k ∈ ([1, 1, 2, 2, 3] : List Int), 1 ≤ k ∧ k ≤ 3 := by decide
      exact ⟨k, rfl, key k hk⟩
    obtain ⟨k, rfl, k1, k3⟩ := he'
    refine ⟨l, _, hs.map headD, k, ⟨rfl, rfl, rfl⟩, ?_, by rw [List.length_map]; omega, by omega, by omega, c + 1, Bx.of hO1, by rw [List.length_cons] at h4; omega, fun ps rest o2 g hp hpl hO2 hg hgl => ?_⟩
    · rw [seqD_ref, Sto.set_ne hal, Sto.set_ne (fun e => hua e.symm), Sto.set_ne hab, Sto.set_same]
    · rw [Sto.set_ne hgl] at hg
      have hgu : g ≠ u := fun e => by rw [e, Sto.set_same] at hg; cases hg
      have hug : u ≠ g := fun e => hgu e.symm
      rw [Sto.set_ne hgu] at hg
      have hgb : g ≠ b := fun e => by rw [e, Sto.set_same] at hg; cases hg
      have hga : g ≠ a := fun e => by rw [e, Sto.set_ne hab, Sto.set_same] at hg; cases hg
      obtain ⟨hs2, hr2, rfl, hpp⟩ := perm_back headD dH dH_head hp
      rw [Sto.set_set, sets_perm hul hug hgl]
      have hsl : hs2.length ≤ 4 := by
        have := hpp.length_eq
        rw [List.length_append] at this
        omega
      refine tests_go _ l g u (hs.map (·.1)) (by rw [Sto.set_ne hug]; exact hu) hul hgl _ Sto.set_same _ _ _ _ _ _ _ _ hs2 [] o2 (c + 1 + 1000) _ _ (fun h hm => ?_) ?_ (fun t ht => by cases ht) (by simp; omega) hO2 (by rw [List.length_cons] at h4; omega) fun ts o3 b9 b10 q1 qn q2 q3 => ?_
      · have hm' := hpp.subset (List.mem_append_left _ hm)
        exact ⟨hh h hm', List.mem_map_of_mem hm'⟩
      · have h0 := (hpp.map (·.1)).nodup_iff.mpr hnd
        rw [List.map_append] at h0
        simpa using (List.nodup_append.mp h0).1
      · have ru : ∀ {o' x : Ob}, ((((((S0.set l o).set a (.lst (hs.map headD))).set b (.lst (rs.map ruleD))).set g (.lst (hs2.map headD))).set l o').set u x) b = some (.lst (rs.map ruleD)) := by
          intro o' x
          rw [Sto.set_ne (fun e => hub e.symm), Sto.set_ne hbl, Sto.set_ne (fun e => hgb e.symm), Sto.set_same]
        refine ⟨.ref b, rfl, .inl ⟨rfl, rs.map ruleD, by rw [lstD_ref, ru]⟩, .ref u, rfl, ts.map testD, by rw [seqD_ref, Sto.set_same], .ref l, rfl, small_sz (by decide), fun f hf => ?_⟩
        rw [Sto.del_set hf]
        rw [List.length_cons] at h4 h2 q
        refine ⟨l, _, ⟨rfl, rfl⟩, _, fun _ => rfl, rfl, by simp, by simp, c + 1 + 1000 + 4, ⟨o3, by rw [Sto.set_ne hlu, Sto.set_same], q3.mono (by omega)⟩, by omega, fun e o4 he hO4 => ?_⟩
        have he' : ∃ x : Str, e = .str x ∧ isNm x = true ∧ x ∈ four := by
          have he' : e ∈ ([Str.ofString "eng", Str.ofString "fra", Str.ofString "mob"] : List Str).map D.str := he
          obtain ⟨k, hk, rfl⟩ := List.mem_map.mp he'
          have key : ∀ k ∈ ([Str.ofString "eng", Str.ofString "fra", Str.ofString "mob"] : List Str), isNm k = true ∧ k ∈ four := by decide +kernel
          exact ⟨k, rfl, key k hk⟩
        obtain ⟨x, rfl, hx, hx4⟩ := he'
        refine ⟨small_sz (by decide), b, rfl, rs.map ruleD, by rw [Sto.set_ne hbl]; exact ru, small_sz (by rw [List.length_map]; omega), _, Wk.refl _, ((S0.set l o4).set a (.lst (hs.map headD))).set b (.lst ((rs ++ [(ts, x)]).map ruleD)), ?_, ?_⟩
        · rw [List.map_append]
          intro m w hm
          by_cases e : m = b
          · subst e
            rw [Sto.set_same] at hm ⊢
            exact hm
          · rw [Sto.set_ne e] at hm ⊢
            by_cases e1 : m = a
            · subst e1
              rw [Sto.set_same] at hm
              rw [Sto.set_ne hal, Sto.set_ne (fun e => hua e.symm), Sto.set_ne hal, Sto.set_ne (fun e => hga e.symm), Sto.set_ne hab, Sto.set_same]
              exact hm
            · rw [Sto.set_ne e1] at hm
              by_cases e2 : m = l
              · subst e2
                rw [Sto.set_same] at hm ⊢
                exact hm
              · rw [Sto.set_ne e2] at hm
                have e3 : m ≠ u := fun z => by
                  rw [← z, Sto.set_ne e, Sto.set_ne e1, Sto.set_ne e2, hm] at hu; cases hu
                have e4 : m ≠ g := fun z => by
                  rw [← z, Sto.set_ne e, Sto.set_ne e1, Sto.set_ne e2, hm] at hg; cases hg
                rw [Sto.set_ne e2, Sto.set_ne e3, Sto.set_ne e2, Sto.set_ne e4, Sto.set_ne e, Sto.set_ne e1, Sto.set_ne e2]
                exact hm
        · refine rules_go S0 l a b hs ha hb hal hbl hab hh hnd hh4 E x1 x2 x7 ds (rs ++ [(ts, x)]) o4 (c + 1 + 1000 + 4 + 1) _ _ _ _ _ (fun r hr => ?_) (by rw [List.length_append]; simp; omega) hO4 (by omega) fun rs' o' b6 b8 b9 b10 z1 z2 z3 => q rs' o' b6 b8 b9 b10 z1 (by rw [z2, List.length_append]; simp; omega) (z3.mono (by omega))
          rcases List.mem_append.mp hr with hr | hr
          · exact h1 r hr
          · rw [List.mem_singleton.mp hr]
            exact ⟨q2, q1, qn, hx, hx4⟩
end LK
end
section
set_option Elab.async false
set_option linter.all false
set_option maxRecDepth 100000
set_option maxHeartbeats 400000
namespace LK
open PySem PySem.Spec PyProof.Rows L2 L3
theorem set_swap {S : Sto} {l g : Nat} {o p : Ob} (h : g ≠ l) : (S.set l o).set g p = (S.set g p).set l o := by
  funext m
  unfold Sto.set
  by_cases e : m = g
  · subst e
    simp only [if_neg h, if_true]
  · simp only [if_neg e]
theorem wok {hs : List Head} {rs : List Rule} (h1 : (hs.map (·.1)).Pairwise slt) (h2 : hs.length ≤ 4) (h3 : ∀ h ∈ hs, HOk h) (h4 : rs.length ≤ 9) (h5 : ∀ r ∈ rs, RlOk (hs.map (·.1)) r) : WS ⟨hs, rs⟩ where
  up := h1
  h4 := h2
  nm := fun h hh => (h3 h hh).nm
  v3 := fun h hh => (h3 h hh).l3
  vup := fun h hh => (h3 h hh).up
  vnm := fun h hh => (h3 h hh).vnm
  r9 := h4
  tnd := fun r hr => (h5 r hr).nd
  tv := fun r hr t ht => ((h5 r hr).ts t ht).tv
  an := fun r hr => (h5 r hr).an
  nd := up_nodup h1
  hl := by show hs.length ≤ 6; omega
  vl := fun h hh => (h3 h hh).len
  rl := by show rs.length ≤ 100; omega
  tl := fun r hr => (h5 r hr).len
  tn := fun r hr t ht => ((h5 r hr).ts t ht).nm
  so := fun h hh => (h3 h hh).so
  ro := fun r hr => ⟨nm_ok (h5 r hr).an, fun t ht => ((h5 r hr).ts t ht).so⟩
theorem wx_of {hs : List Head} {rs : List Rule} (h3 : ∀ h ∈ hs, HOk h) (h5 : ∀ r ∈ rs, RlOk (hs.map (·.1)) r) : WX ⟨hs, rs⟩ where
  six := fun h hh => (h3 h hh).n6
  five := fun h hh => (h3 h hh).v5
  four := fun r hr => (h5 r hr).a4
  tvf := fun r hr t ht => ((h5 r hr).ts t ht).t5
theorem world_end {S : Sto} {Q : DK} {l a b g : Nat} {X H R o : Ob} {d : D} (ha : S a = none) (hb : S b = none) (hg : S g = none) (hal : a ≠ l) (hbl : b ≠ l) (q : Q d (S.set l o)) : drp (Q d) ((((S.set g X).set l o).set a H).set b R) := by
  refine ⟨_, fun m w hm => ?_, q⟩
  by_cases e : m = l
  · subst e
    rw [Sto.set_same] at hm
    rw [Sto.set_ne (fun z => hbl z.symm), Sto.set_ne (fun z => hal z.symm), Sto.set_same]
    exact hm
  · rw [Sto.set_ne e] at hm
    have e1 : m ≠ a := fun z => by rw [z, ha] at hm; cases hm
    have e2 : m ≠ b := fun z => by rw [z, hb] at hm; cases hm
    have e3 : m ≠ g := fun z => by rw [z, hg] at hm; cases hm
    rw [Sto.set_ne e2, Sto.set_ne e1, Sto.set_ne e, Sto.set_ne e3]
    exact hm
theorem v__law_world : ∀ ds S Q E, sp__law_world ds S Q E → d__law_world (EndsD Q) (startD N__law_world ds) S := by
  rintro ds S Q E ⟨l, sv, ss, c, rfl, hsv, hs, hs3, hB, hc, q⟩
  simp only [d__law_world, N__law_world, sp__law_pick, frzO_lst, dWkA, dTupK, dTupL, dTupIx, dDictP, dDc2, dFor, dWhile, dLc, dLc2, dDc, dNextG, iSeq, iR1, iR2, iEn, iZpA, iZ2, iZ3, dSortK, dSortKF, dSortSet, dSortSetF, dBreak, bSortT, bSortTF, bSum, bSumL, bSumLF, bMaxL, bMinL, dDicE, bSortD, bSortDF, dGet2, oInA, oNotInA, oIxA, gdSubA, dSeq, dSet, dIf, dIfS, dTst, dOp, dUn, dVar, dCB, aCons, aNil, aStar, dRet, dRetN, dNext, dDrop, dLst, dTup, dC, dAnd, dOr, dNot, dAndV, dOrV, dNotV, dPar, dAsg, gdName, gdSub, gdTup, gdCons, gdNil, gdSlot, dIsi, dIsi2, dSlot, dSetSlot, dMethSl, dMakeSl, dCall, dCallP, dBM, dFrz, dLstF, dLcF, dLc2F, dDcF, dSlF, dListVF, bListF, bListDF, bSortSF, oAddLF, oRepLF, dSl, dNoP, dPart, dListV, dTru, dOrT, EndsD, startD, oLtI, oLeI, oGtI, oGeI, oIx, oMulI, oPowI, oAddI, oSubI, oModI, oDivI, oI, oI0, oEqD, oNeD, oInD, oNotInD, oAddL, oAddT, oAddS, oRepL, bLen, bAbs, bInt, bMin2, bMax2, bAll, bAny, bTuple, bList, bListD, bSortS, mAppend, mPop, mPopAt, mExtend, mIndex, tupOf_lst, tupOf_ref, tupOf_tup, List.map_cons, List.map_nil, List.length_cons, List.length_nil, List.cons_append, List.nil_append, List.append_nil, List.replicate, List.set_cons_zero, List.set_cons_succ, List.getElem?_cons_zero, List.getElem?_cons_succ, Option.some.injEq, exists_eq_left', exists_eq_left, exists_and_left, D.int.injEq, D.bl.injEq, D.str.injEq, D.tup.injEq, D.lst.injEq, D.ref.injEq, List.cons.injEq, and_true, true_and, reduceCtorEq, false_and, and_false, exists_false, or_false, false_or, exists_const, Bool.false_eq_true, if_true, if_false, decide_eq_true_eq, Ob.lst.injEq, Ob.slt.injEq, Ob.dic.injEq, seqD_ref, lstD_ref, seqD_tup, seqD_lst, lstD_lst, lstR_lst, Sto.set_same, Sto.set_set, atI_0, atI_1, atI_2, Nat.reduceAdd, ixN_30, ixN_32]
  refine ⟨small_sz (by decide), fun f1 hf1 => ?_⟩
  rw [Sto.del_set hf1]
  obtain ⟨o0, ho0, hO0⟩ := hB
  refine .inl ⟨_, hsv _, l, _, six.map .str, _, ⟨rfl, rfl, rfl⟩, rfl, by simp, by omega, by rw [List.length_map]; omega, c, ⟨o0, ho0, hO0⟩, by omega, fun ps rest o1 g hp hpl hO1 hg hgl => ?_⟩
  obtain ⟨xs, zs, rfl, hxz⟩ := perm_back D.str dS dS_str hp
  have hxl : xs.length = ss.length := by
    rw [List.length_map, List.length_map, List.length_map] at hpl
    have e : six.length = 6 := rfl
    omega
  refine ⟨xs, rfl, by omega, fun ys f2 hys hyso hf2 => ?_⟩
  rw [Sto.del_set hf2]
  have hyl : ss.length = ys.length := by rw [hys.length_eq, hxl]
  have hyok : ∀ y ∈ ys, isNm y = true := fun y hy => six_nm y (hxz.subset (List.mem_append_left _ (hys.subset hy)))
  have hy6 : ∀ y ∈ ys, y ∈ six := fun y hy => hxz.subset (List.mem_append_left _ (hys.subset hy))
  have hynd : ys.Nodup := hys.nodup_iff.mpr ((List.nodup_append.mp (hxz.nodup_iff.mpr six_nd)).1)
  have hyup : ys.Pairwise slt := pw_up (sortedS_pw hyso) hynd
  rw [set_swap hgl]
  refine ⟨Nat.zero_le _, fun a ha => .inl ⟨_, hsv _, by rw [List.length_map]; omega, ?_⟩⟩
  have hal : a ≠ l := fun e => by rw [e, Sto.set_same] at ha; cases ha
  have hla : l ≠ a := fun e => hal e.symm
  rw [Sto.set_ne hal] at ha
  have hgS : S g = none := hg
  have haS : S a = none := by
    have : a ≠ g := fun e => by rw [e, Sto.set_same] at ha; cases ha
    rw [Sto.set_ne this] at ha; exact ha
  rw [List.length_map, Int.toNat_natCast, List.range_eq_range']
  refine heads_go (S.set g (.lst (xs.map .str))) l a ha hal _ sv ss hsv ys hs3 hyok hy6 hyl hs _ _ _ _ _ ss.length 0 [] o1 (c + 1000) _ _ (by omega) rfl rfl (fun h hh => by cases hh) hO1 (by omega) fun hs' o2 b4 b7 q1 q2 q3 => ?_
  have hhl : hs'.length ≤ 4 := by
    have := congrArg List.length q1
    rw [List.length_map] at this
    omega
  have hsl : hs'.length = ss.length := by
    have := congrArg List.length q1
    rw [List.length_map] at this
    omega
  refine ⟨Nat.zero_le _, fun b hb => ⟨_, rfl, ?_⟩⟩
  have hba : b ≠ a := fun e => by rw [e, Sto.set_same] at hb; cases hb
  have hab : a ≠ b := fun e => hba e.symm
  rw [Sto.set_ne hba] at hb
  have hbl : b ≠ l := fun e => by rw [e, Sto.set_same] at hb; cases hb
  have hlb : l ≠ b := fun e => hbl e.symm
  rw [Sto.set_ne hbl] at hb
  have hbS : S b = none := by
    have : b ≠ g := fun e => by rw [e, Sto.set_same] at hb; cases hb
    rw [Sto.set_ne this] at hb; exact hb
  refine ⟨l, 4, c + 1000 + 1001 * 4, rfl, by decide, by decide, ⟨o2, by rw [Sto.set_ne hlb, Sto.set_ne hla, Sto.set_same], q3.mono (by omega)⟩, by omega, fun r o3 hr0 hr1 hO3 => ?_⟩
  have e3 : ∀ {o o' R : Ob}, ((((S.set g (.lst (xs.map .str))).set l o).set a (.lst (hs'.map headD))).set b R).set l o' = (((S.set g (.lst (xs.map .str))).set l o').set a (.lst (hs'.map headD))).set b R := by
    intro o o' R
    rw [← set_swap hbl, ← set_swap hal, Sto.set_set]
  have nL : ∀ {o R : Ob}, ((((S.set g (.lst (xs.map .str))).set l o).set a (.lst (hs'.map headD))).set b R) l = some o := by
    intro o R
    rw [Sto.set_ne hlb, Sto.set_ne hla, Sto.set_same]
  have nA : ∀ {o R : Ob}, ((((S.set g (.lst (xs.map .str))).set l o).set a (.lst (hs'.map headD))).set b R) a = some (.lst (hs'.map headD)) := by
    intro o R
    rw [Sto.set_ne hab, Sto.set_same]
  rw [e3]
  refine ⟨r, rfl, ⟨by omega, by omega⟩, ?_⟩
  refine rules_go (S.set g (.lst (xs.map .str))) l a b hs' ha hb hal hbl hab q2 (by rw [q1]; exact hynd) hhl _ _ _ _ _ [] o3 (c + 1000 + 1001 * 4 + 1) _ _ _ _ _ (fun r hr => by cases hr) ?_ hO3 ?_ fun rs o4 b6 b8 b9 b10 z1 z2 z3 => ?_
  · rw [List.length_map, List.length_range]; simp; omega
  · rw [List.length_map, List.length_range]; omega
  · rw [List.length_map, List.length_range] at z2 z3
    refine ⟨_, rfl, l, 3, c + 1000 + 1001 * 4 + 1 + 6600, rfl, by decide, by decide, ⟨o4, nL, z3.mono (by omega)⟩, by omega, fun r2 o5 hr2 hr3 hO5 => ?_⟩
    rw [e3]
    refine ⟨r2, rfl, ?_⟩
    split
    · refine ⟨_, rfl, .inl ⟨rfl, _, by rw [lstD_ref, Sto.set_same]⟩, Nat.zero_le _, _, rfl, small_sz (by decide), fun f hf => ?_⟩
      rw [Sto.del_set hf]
      refine ⟨l, _, _, c + 1000 + 1001 * 4 + 1 + 6600 + 1, rfl, fun _ => rfl, rfl, by simp, by simp, ⟨o5, nL, hO5⟩, by omega, fun e o6 he hO6 => ?_⟩
      have he' : ∃ x : Str, e = .str x ∧ isNm x = true ∧ x ∈ four := by
        have he' : e ∈ ([Str.ofString "eng", Str.ofString "fra", Str.ofString "mob", Str.ofString "old"] : List Str).map D.str := he
        obtain ⟨k, hk, rfl⟩ := List.mem_map.mp he'
        have key : ∀ k ∈ ([Str.ofString "eng", Str.ofString "fra", Str.ofString "mob", Str.ofString "old"] : List Str), isNm k = true ∧ k ∈ four := by decide +kernel
        exact ⟨k, rfl, key k hk⟩
      obtain ⟨x, rfl, hx, hx4⟩ := he'
      rw [e3]
      refine ⟨small_sz (by decide), b, rfl, rs.map ruleD, Sto.set_same, small_sz (by rw [List.length_map]; simp at z2; omega), _, rfl, hs'.map headD, by rw [seqD_ref, Sto.set_set, nA], _, rfl, _, by rw [seqD_ref, Sto.set_same], small_sz (by decide), ?_⟩
      rw [Sto.set_set]
      refine world_end haS hbS hgS hal hbl ?_
      have e : ([D.tup [D.tup [], D.str x]] : List D) = [(([], x) : Rule)].map ruleD := rfl
      rw [e, ← List.map_append]
      have z1' : ∀ r ∈ rs ++ [([], x)], RlOk (hs'.map (·.1)) r := fun r hr => by
        rcases List.mem_append.mp hr with hr | hr
        · exact z1 r hr
        · rw [List.mem_singleton.mp hr]
          exact ⟨Nat.zero_le _, (fun t ht => by cases ht), .nil, hx, hx4⟩
      exact q ⟨hs', rs ++ [([], x)]⟩ o6 (wok (by rw [q1]; exact hyup) hhl q2 (by rw [List.length_append]; simp at z2 ⊢; omega) z1') (wx_of q2 z1') hsl (fun h hh => (q2 h hh).ne) (by show 2 ≤ (rs ++ [([], x)]).length; rw [List.length_append]; simp at z2 ⊢; omega) (hO6.mono (by omega))
    · refine ⟨_, rfl, hs'.map headD, by rw [seqD_ref, nA], _, rfl, _, by rw [seqD_ref, Sto.set_same], small_sz (by decide), ?_⟩
      refine world_end haS hbS hgS hal hbl ?_
      exact q ⟨hs', rs⟩ o5 (wok (by rw [q1]; exact hyup) hhl q2 (by simp at z2; omega) z1) (wx_of q2 z1) hsl (fun h hh => (q2 h hh).ne) (by show 2 ≤ rs.length; simp at z2; omega) (hO5.mono (by omega))
end LK
end
section
set_option Elab.async false
set_option linter.all false
set_option maxRecDepth 100000
set_option maxHeartbeats 400000
namespace LK
open PySem PySem.Spec PyProof.Rows L2 L3
end LK
end
section
set_option Elab.async false
set_option linter.all false
set_option maxRecDepth 100000
set_option maxHeartbeats 400000
namespace LK
open PySem PySem.Spec PyProof.Rows L2 L3
theorem tupO_tup {n : Nat} {ds es : List D} (h : mapO (tupO n) ds = some es) (hz : ds.length ≤ sizeLine) : tupO (n + 1) (.tup ds) = some (.tup es) := by
  show (if ds.length ≤ sizeLine then (mapO (tupO n) ds).map D.tup else none) = _
  rw [if_pos hz, h]; rfl
theorem tupO_lst {n : Nat} {ds es : List D} (h : mapO (tupO n) ds = some es) (hz : ds.length ≤ sizeLine) : tupO (n + 1) (.lst ds) = some (.tup es) := by
  show (if ds.length ≤ sizeLine then (mapO (tupO n) ds).map D.tup else none) = _
  rw [if_pos hz, h]; rfl
theorem lisO_tup {n : Nat} {ds es : List D} (h : mapO (lisO n) ds = some es) (hz : ds.length ≤ sizeLine) : lisO (n + 1) (.tup ds) = some (.lst es) := by
  show (if ds.length ≤ sizeLine then (mapO (lisO n) ds).map D.lst else none) = _
  rw [if_pos hz, h]; rfl
theorem tupO_strs {n : Nat} (xs : List Str) : mapO (tupO (n + 1)) (xs.map D.str) = some (xs.map D.str) := mapO_map fun _ _ => rfl
theorem lisO_strs {n : Nat} (xs : List Str) : mapO (lisO (n + 1)) (xs.map D.str) = some (xs.map D.str) := mapO_map fun _ _ => rfl
theorem two_O {h : D → Option D} {a b c d : D} (h1 : h a = some c) (h2 : h b = some d) : mapO h [a, b] = some [c, d] := by
  simp only [mapO, h1, h2]
theorem two_sz {a b : D} : [a, b].length ≤ sizeLine := small_sz (show 2 ≤ 16777216 by decide)
theorem tup_world {w : Wd} (hw : WOk w) : tupO 8 w.d = some w.d := by
  refine tupO_tup (two_O (tupO_tup (mapO_map fun h hh => ?_) ?_) (tupO_tup (mapO_map fun r hr => ?_) ?_)) two_sz
  · exact tupO_tup (two_O rfl (tupO_tup (tupO_strs _) (small_sz (by rw [List.length_map]; have := hw.vl h hh; omega)))) two_sz
  · have := hw.hl
    exact small_sz (by rw [List.length_map]; omega)
  · exact tupO_tup (two_O (tupO_tup (mapO_map fun t ht => tupO_tup (two_O rfl rfl) two_sz) (small_sz (by rw [List.length_map]; have := hw.tl r hr; omega))) rfl) two_sz
  · have := hw.rl
    exact small_sz (by rw [List.length_map]; omega)
theorem tup_worldL {w : Wd} (hw : WOk w) : tupO 8 (.lst w.l) = some w.d := by
  refine tupO_lst (two_O (tupO_lst (mapO_map (h := headD) fun h hh => ?_) ?_) (tupO_lst (mapO_map (h := ruleD) fun r hr => ?_) ?_)) two_sz
  · exact tupO_lst (two_O rfl (tupO_lst (tupO_strs _) (small_sz (by rw [List.length_map]; have := hw.vl h hh; omega)))) two_sz
  · have := hw.hl
    exact small_sz (by rw [List.length_map]; omega)
  · exact tupO_lst (two_O (tupO_lst (mapO_map (h := testD) fun t ht => tupO_lst (two_O rfl rfl) two_sz) (small_sz (by rw [List.length_map]; have := hw.tl r hr; omega))) rfl) two_sz
  · have := hw.rl
    exact small_sz (by rw [List.length_map]; omega)
theorem lis_world {w : Wd} (hw : WOk w) : lisO 8 w.d = some (.lst w.l) := by
  refine lisO_tup (two_O (lisO_tup (mapO_map (h := headL) fun h hh => ?_) ?_) (lisO_tup (mapO_map (h := ruleL) fun r hr => ?_) ?_)) two_sz
  · exact lisO_tup (two_O rfl (lisO_tup (lisO_strs _) (small_sz (by rw [List.length_map]; have := hw.vl h hh; omega)))) two_sz
  · have := hw.hl
    exact small_sz (by rw [List.length_map]; omega)
  · exact lisO_tup (two_O (lisO_tup (mapO_map (h := testL) fun t ht => lisO_tup (two_O rfl rfl) two_sz) (small_sz (by rw [List.length_map]; have := hw.tl r hr; omega))) rfl) two_sz
  · have := hw.rl
    exact small_sz (by rw [List.length_map]; omega)
theorem top_world {S : Sto} {w : Wd} (hw : WOk w) : topO S 8 w.d = some w.d := tupO_top (tup_world hw)
theorem top_ref {S : Sto} {w : Wd} {l : Nat} (hw : WOk w) (h : S l = some (.lst w.l)) : topO S 8 (.ref l) = some w.d := topO_ref h (tup_worldL hw)
theorem top_row {S : Sto} {r : Row} (h : r.length ≤ 1000) : topO S 8 (.tup (r.map .str)) = some (.tup (r.map .str)) := tupO_top (tupO_tup (tupO_strs r) (small_sz (by rw [List.length_map]; omega)))
theorem ans_ok {w : Wd} {r : Row} (hw : WOk w) : PyData.strOk (w.ans r) = true := by
  unfold Wd.ans
  cases e : w.rs.filter fun x : Rule => w.fits r x.1 with
  | nil => show PyData.strOk ("" : Str) = true; decide +kernel
  | cons x xs =>
    have hx : x ∈ w.rs := (List.mem_filter.mp (by rw [e]; exact List.mem_cons_self : x ∈ w.rs.filter fun x : Rule => w.fits r x.1)).1
    exact (hw.ro x hx).1
end LK
end
section
set_option Elab.async false
set_option linter.all false
set_option maxRecDepth 100000
set_option maxHeartbeats 400000
namespace LK
open PySem PySem.Spec PyProof.Rows L2 L3
def pyHead (h : Head) : PyData := .list [.str h.1, .list (h.2.map .str)]
def pyTest (h : Str × Str) : PyData := .list [.str h.1, .str h.2]
def pyRule (r : Rule) : PyData := .list [.list (r.1.map pyTest), .str r.2]
theorem shp_two {a b : PyData} {n : Nat} (ha : Shp a n) (hb : Shp b n) : Shp (.list [a, b]) (n + 1) := shp_list fun p hp => by
  rcases List.mem_cons.mp hp with e | hp
  · rw [e]; exact ha
  · rw [List.mem_singleton.mp hp]; exact hb
theorem rows_sz {w : Wd} (hw : WOk w) : w.rows.length ≤ 46656 := by
  have h1 := rows_len w.hs [[]] hw.vl
  have h2 : 6 ^ w.hs.length ≤ 6 ^ 6 := Nat.pow_le_pow_right (by decide) hw.hl
  have h3 : w.rows.length ≤ 1 * 6 ^ w.hs.length := h1
  have h4 : 6 ^ 6 = 46656 := by decide
  omega
theorem same_row {S : Sto} {n : Nat} {r : Row} (h : r.length ≤ 1000) (hs : ∀ v ∈ r, PyData.strOk v = true) : sameP (n + 2) S (rowD r) (rowD r) := by
  refine ⟨small_sz (by rw [List.length_map]; omega), _, rfl, rfl, fun p hp => ?_⟩
  rw [List.zip_eq_zipWith, List.zipWith_map, List.zipWith_self] at hp
  obtain ⟨x, hx, rfl⟩ := List.mem_map.mp hp
  exact ⟨rfl, hs x hx⟩
end LK
end
section
set_option Elab.async false
set_option linter.all false
set_option maxRecDepth 100000
set_option maxHeartbeats 400000
namespace LK
open PySem PySem.Spec PyProof.Rows L2 L3
def sp_lawG : DSp := fun ds S Q _ => ∃ (v : D) (ns : List Int), ds = [v] ∧ lstD S v = some (ns.map .int) ∧ ns.length ≤ 63 ∧ Q (.bl true) S
def RightOk (spr : DSp) : Prop := ∀ (l : Nat) (c : Int) (S : Sto) (Q : DK) (E : DXK), Bx S l c → c ≤ 2 ^ 30 → (∀ o, BxO o (c + 2 ^ 24) → Q (.bl true) (S.set l o)) → spr [.ref l] S Q E
def sp_rightG : DSp := fun ds S Q _ => ∃ (l : Nat) (c : Int), ds = [.ref l] ∧ Bx S l c ∧ c ≤ 2 ^ 30 ∧ ∀ o, BxO o (c + 2 ^ 24) → Q (.bl true) (S.set l o)
theorem rightG : RightOk sp_rightG := fun l c S Q E h1 h2 h3 => ⟨l, c, rfl, h1, h2, h3⟩
def lawC (m t : Int) (spr : DSp) : DS :=
  dSeq (dSet 1 (dCall (sp__law_cells) noX (aCons (dVar 0) (aCons (dC (.int m)) (aNil)))))
    (dSeq (dFor (iR1 (aCons (dCB bLen (aCons (dVar 1) (aNil))) (aNil))) (.one 2) (dSeq (dSet 3 (dCall (sp__law_box) noX (aCons (dVar 1) (aCons (dVar 2) (aNil)))))
    (dIfS (dNot (dTst (dCB bAll (aCons (dLcF (iR1 (aCons (dC (.int t)) (aNil))) (.one 4) (dYes) (dCall (spr) noX (aCons (dVar 3) (aNil))) [4]) (aNil))))) (dRet (dC (.bl false))) (dNext))))
    (dRet (dC (.bl true))))
section
variable {m : Nat} {spr : DSp} (h1 : 1 ≤ m) (h3 : m ≤ 3) (R : RightOk spr)
include h1 h3 R
theorem lawC_turns {l : Nat} {ρ : En} (hρ : ∀ d : D, (ρ.set 4 (some d))[3]? = some (some (.ref l))) {Q : List D → Sto → Prop} : ∀ (ds acc : List D) (S : Sto) (c : Int), acc.length + ds.length ≤ 1000 → Bx S l c → c + 2 ^ 24 * ds.length ≤ 2 ^ 29 → (∀ o, BxO o (c + 2 ^ 24 * ds.length) → Q (acc ++ ds.map fun _ => .bl true) (S.set l o)) →
    compW [] (.one 4) dYes (dCall (spr) noX (aCons (dVar 3) (aNil))) ρ Q ds acc S
  | [], acc, S, c, hz, ⟨o, ho, hO⟩, hc, q => ⟨Gs.ok_nil, by
      have := q o (hO.mono (by simp))
      rw [set_self ho] at this
      simpa using this⟩
  | d :: ds, acc, S, c, hz, ⟨o, ho, hO⟩, hc, q => by
    refine ⟨Gs.ok_nil, by have := small_sz (n := acc.length + 1) (by simp at hz; omega); omega, fun b x hb => ?_⟩
    have hbl : b ≠ l := fun e => by rw [e, ho] at hb; cases hb
    have hlb : l ≠ b := fun e => hbl e.symm
    simp only [Tg.d, dYes, if_true, dCall, aCons, aNil, dVar]
    refine ⟨_, hρ d, ?_⟩
    rw [List.length_cons] at hc q
    refine R l c _ _ _ ⟨o, by rw [Sto.set_ne hlb]; exact ho, hO⟩ (by omega) fun o' hO' => ⟨by rw [Sto.set_ne hbl, Sto.set_same], S.set l o', ?_, ?_⟩
    · rw [← set_swap hbl]
      rw [Sto.del_set (by rw [Sto.set_ne hbl]; exact hb)]
      exact Sto.sub_refl _
    · refine lawC_turns hρ ds _ _ (c + 2 ^ 24) (by simp at hz ⊢; omega) (Bx.of hO') (by omega) fun o2 hO2 => ?_
      have := q o2 (hO2.mono (by omega))
      rw [Sto.set_set]
      simpa using this
theorem lawC_go (t : Nat) (ht : t ≤ 12) (S0 : Sto) (l : Nat) (cs : List Int) (hcs : cs.length ≤ 3) (hl : S0 l = some (.lst (cs.map .int))) (E : DEnds) (x0 : Option D) : ∀ (n k : Nat) (S : Sto) (x2 x3 x4 : Option D), k + n = cs.length → S0.sub S → (∀ S' b2 b3 b4, S0.sub S' → E.nx [x0, some (.ref l), b2, b3, b4] S') →
    forW [] (.one 2) (dSeq (dSet 3 (dCall (sp__law_box) noX (aCons (dVar 1) (aCons (dVar 2) (aNil)))))
    (dIfS (dNot (dTst (dCB bAll (aCons (dLcF (iR1 (aCons (dC (.int t)) (aNil))) (.one 4) (dYes) (dCall (spr) noX (aCons (dVar 3) (aNil))) [4]) (aNil))))) (dRet (dC (.bl false))) (dNext))) E ((List.range' k n).map fun (i : Nat) => D.int i) [x0, some (.ref l), x2, x3, x4] S
  | 0, k, S, x2, x3, x4, hk, hs, q => ⟨Gs.ok_nil, q S x2 x3 x4 hs⟩
  | n + 1, k, S, x2, x3, x4, hk, hs, q => by
    rw [List.range'_succ, List.map_cons]
    refine ⟨Gs.ok_nil, ?_⟩
    simp only [Tg.d, sp__law_box, dWkA, dTupK, dTupL, dTupIx, dDictP, dDc2, dFor, dWhile, dLc, dLc2, dDc, dNextG, iSeq, iR1, iR2, iEn, iZpA, iZ2, iZ3, dSortK, dSortKF, dSortSet, dSortSetF, dBreak, bSortT, bSortTF, bSum, bSumL, bSumLF, bMaxL, bMinL, dDicE, bSortD, bSortDF, dGet2, oInA, oNotInA, oIxA, gdSubA, dSeq, dSet, dIf, dIfS, dTst, dOp, dUn, dVar, dCB, aCons, aNil, aStar, dRet, dRetN, dNext, dDrop, dLst, dTup, dC, dAnd, dOr, dNot, dAndV, dOrV, dNotV, dPar, dAsg, gdName, gdSub, gdTup, gdCons, gdNil, gdSlot, dIsi, dIsi2, dSlot, dSetSlot, dMethSl, dMakeSl, dCall, dCallP, dBM, dFrz, dLstF, dLcF, dLc2F, dDcF, dSlF, dListVF, bListF, bListDF, bSortSF, oAddLF, oRepLF, dSl, dNoP, dPart, dListV, dTru, dOrT, EndsD, startD, oLtI, oLeI, oGtI, oGeI, oIx, oMulI, oPowI, oAddI, oSubI, oModI, oDivI, oI, oI0, oEqD, oNeD, oInD, oNotInD, oAddL, oAddT, oAddS, oRepL, bLen, bAbs, bInt, bMin2, bMax2, bAll, bAny, bTuple, bList, bListD, bSortS, mAppend, mPop, mPopAt, mExtend, mIndex, tupOf_lst, tupOf_ref, tupOf_tup, List.map_cons, List.map_nil, List.length_cons, List.length_nil, List.cons_append, List.nil_append, List.append_nil, List.replicate, List.set_cons_zero, List.set_cons_succ, List.getElem?_cons_zero, List.getElem?_cons_succ, Option.some.injEq, exists_eq_left', exists_eq_left, exists_and_left, D.int.injEq, D.bl.injEq, D.str.injEq, D.tup.injEq, D.lst.injEq, D.ref.injEq, List.cons.injEq, and_true, true_and, reduceCtorEq, false_and, and_false, exists_false, or_false, false_or, exists_const, Bool.false_eq_true, if_true, if_false, decide_eq_true_eq, Ob.lst.injEq, Ob.slt.injEq, Ob.dic.injEq, seqD_ref, lstD_ref, seqD_tup, seqD_lst, lstD_lst, lstR_lst, Sto.set_same, Sto.set_set, atI_0, atI_1, atI_2, Nat.reduceAdd, ixN_30, ixN_32]
    refine ⟨.ref l, cs, k, ⟨rfl, rfl⟩, by rw [lstD_ref, hs _ _ hl], small_sz (by omega), by omega, by omega, fun o b hO hb => ?_⟩
    refine ⟨⟨by omega, by omega⟩, ?_⟩
    have et : (((List.range (Int.toNat (t : Int))).map fun (i : Nat) => D.int i)).length = t := by rw [List.length_map, List.length_range, Int.toNat_natCast]
    refine lawC_turns (spr := spr) h1 h3 R (l := b) (ρ := wipeD [x0, some (.ref l), some (.int k), some (.ref b), x4] [4]) (fun d => rfl) _ [] (S.set b o) 0 (by rw [et]; simp; omega) (Bx.of hO) (by rw [et]; omega) fun o' _ => ?_
    have e1 : ((List.range (Int.toNat (t : Int))).map fun _ => true).all id = true := by simp
    refine ⟨(List.range (Int.toNat (t : Int))).map fun _ => true, by rw [List.nil_append, List.map_map, List.map_map]; rfl, ?_⟩
    rw [e1, if_neg (by decide), Sto.set_set]
    exact ⟨_, Wk.refl _, _, Sto.sub_refl _, lawC_go t ht S0 l cs hcs hl E x0 n (k + 1) _ _ _ _ (by omega) (Sto.sub_trans hs (Sto.sub_set hb)) q⟩
theorem v_lawC {t : Nat} (ht : t ≤ 12) {N : List Str} (hN : N.length = 5) : ∀ ds S Q E, sp_lawG ds S Q E → lawC m t spr (EndsD Q) (startD N ds) S := by
  rintro ds S Q E ⟨v, ns, rfl, hv, hn, q⟩
  obtain ⟨a1, a2, a3, a4, a5, rfl⟩ : ∃ a b c d e, N = [a, b, c, d, e] := by match N, hN with | [a, b, c, d, e], _ => exact ⟨a, b, c, d, e, rfl⟩
  simp only [lawC, sp__law_cells, dWkA, dTupK, dTupL, dTupIx, dDictP, dDc2, dFor, dWhile, dLc, dLc2, dDc, dNextG, iSeq, iR1, iR2, iEn, iZpA, iZ2, iZ3, dSortK, dSortKF, dSortSet, dSortSetF, dBreak, bSortT, bSortTF, bSum, bSumL, bSumLF, bMaxL, bMinL, dDicE, bSortD, bSortDF, dGet2, oInA, oNotInA, oIxA, gdSubA, dSeq, dSet, dIf, dIfS, dTst, dOp, dUn, dVar, dCB, aCons, aNil, aStar, dRet, dRetN, dNext, dDrop, dLst, dTup, dC, dAnd, dOr, dNot, dAndV, dOrV, dNotV, dPar, dAsg, gdName, gdSub, gdTup, gdCons, gdNil, gdSlot, dIsi, dIsi2, dSlot, dSetSlot, dMethSl, dMakeSl, dCall, dCallP, dBM, dFrz, dLstF, dLcF, dLc2F, dDcF, dSlF, dListVF, bListF, bListDF, bSortSF, oAddLF, oRepLF, dSl, dNoP, dPart, dListV, dTru, dOrT, EndsD, startD, oLtI, oLeI, oGtI, oGeI, oIx, oMulI, oPowI, oAddI, oSubI, oModI, oDivI, oI, oI0, oEqD, oNeD, oInD, oNotInD, oAddL, oAddT, oAddS, oRepL, bLen, bAbs, bInt, bMin2, bMax2, bAll, bAny, bTuple, bList, bListD, bSortS, mAppend, mPop, mPopAt, mExtend, mIndex, tupOf_lst, tupOf_ref, tupOf_tup, List.map_cons, List.map_nil, List.length_cons, List.length_nil, List.cons_append, List.nil_append, List.append_nil, List.replicate, List.set_cons_zero, List.set_cons_succ, List.getElem?_cons_zero, List.getElem?_cons_succ, Option.some.injEq, exists_eq_left', exists_eq_left, exists_and_left, D.int.injEq, D.bl.injEq, D.str.injEq, D.tup.injEq, D.lst.injEq, D.ref.injEq, List.cons.injEq, and_true, true_and, reduceCtorEq, false_and, and_false, exists_false, or_false, false_or, exists_const, Bool.false_eq_true, if_true, if_false, decide_eq_true_eq, Ob.lst.injEq, Ob.slt.injEq, Ob.dic.injEq, seqD_ref, lstD_ref, seqD_tup, seqD_lst, lstD_lst, lstR_lst, Sto.set_same, Sto.set_set, atI_0, atI_1, atI_2, Nat.reduceAdd, ixN_30, ixN_32]
  refine ⟨_, ns, m, ⟨rfl, rfl⟩, h1, h3, hv, hn, fun cs l hcs hl => ⟨by rw [List.length_map]; omega, ?_⟩⟩
  rw [List.length_map, Int.toNat_natCast, List.range_eq_range']
  refine lawC_go h1 h3 R t ht _ l cs hcs Sto.set_same _ _ cs.length 0 _ _ _ _ (by omega) (Sto.sub_refl _) fun S' b2 b3 b4 hs => ⟨S, Sto.sub_trans (Sto.sub_set hl) hs, q⟩
end
end LK
end
section
set_option Elab.async false
set_option linter.all false
set_option maxRecDepth 100000
set_option maxHeartbeats 400000
namespace LK
open PySem PySem.Spec PyProof.Rows L2 L3
theorem lstD_tup (S : Sto) (ds : List D) : lstD S (.tup ds) = none := rfl
theorem seqD_row (S : Sto) (r : Row) : seqD S (rowD r) = some (r.map .str) := rfl
theorem sz_0 : (0 ≤ sizeLine) = True := eq_true (small_sz (by decide))
theorem sz_1 : (1 ≤ sizeLine) = True := eq_true (small_sz (by decide))
theorem sz_2 : (2 ≤ sizeLine) = True := eq_true (small_sz (by decide))
theorem sz_3 : (3 ≤ sizeLine) = True := eq_true (small_sz (by decide))
theorem sz_4 : (4 ≤ sizeLine) = True := eq_true (small_sz (by decide))
theorem sz_5 : (5 ≤ sizeLine) = True := eq_true (small_sz (by decide))
theorem sz_6 : (6 ≤ sizeLine) = True := eq_true (small_sz (by decide))
theorem sz_7 : (7 ≤ sizeLine) = True := eq_true (small_sz (by decide))
theorem sz_8 : (8 ≤ sizeLine) = True := eq_true (small_sz (by decide))
theorem sz_9 : (9 ≤ sizeLine) = True := eq_true (small_sz (by decide))
theorem sz_10 : (10 ≤ sizeLine) = True := eq_true (small_sz (by decide))
theorem sz_11 : (11 ≤ sizeLine) = True := eq_true (small_sz (by decide))
theorem sz_12 : (12 ≤ sizeLine) = True := eq_true (small_sz (by decide))
theorem forW_all {α : Type} {gs : Gs} {t : Tg} {body : DS} {E : DEnds} (g : α → D) (J : Nat → En → Sto → Prop) : ∀ (xs : List α) (n : Nat) {ρ : En} {S : Sto}, J n ρ S →
    (∀ (i : Nat) (a : α) (ρ : En) (S : Sto) (E' : DEnds), xs[i]? = some a → J (n + i) ρ S → E'.rt = E.rt → E'.bk = E.nx → (∀ ρ2 S2 ρ3 S3, Wk ρ3 ρ2 → S3.sub S2 → J (n + i + 1) ρ3 S3 → E'.nx ρ2 S2 ∧ E'.ct ρ2 S2) → gs.ok S ∧ t.d (g a) ρ fun ρ1 => body E' ρ1 S) →
    (∀ ρ S, J (n + xs.length) ρ S → gs.ok S ∧ E.nx ρ S) → forW gs t body E (xs.map g) ρ S
  | [], n, ρ, S, h0, _, hf => hf ρ S h0
  | a :: xs, n, ρ, S, h0, h, hf => by
    have ih : ∀ ρ3 S3, J (n + 1) ρ3 S3 → forW gs t body E (xs.map g) ρ3 S3 := fun ρ3 S3 j =>
      forW_all g J xs (n + 1) j (fun i a' ρ S E' e j1 e1 e2 k => h (i + 1) a' ρ S E' e (by rw [← Nat.add_assoc, Nat.add_right_comm]; exact j1) e1 e2 (by rw [← Nat.add_assoc, Nat.add_right_comm n i 1]; exact k)) fun ρ S j1 => hf ρ S (by rw [List.length_cons, Nat.add_comm xs.length, ← Nat.add_assoc]; exact j1)
    exact h 0 a ρ S _ rfl h0 rfl rfl fun ρ2 S2 ρ3 S3 w s j => ⟨⟨ρ3, S3, w, s, ih ρ3 S3 j⟩, ⟨ρ3, S3, w, s, ih ρ3 S3 j⟩⟩
theorem sub_del {S S' : Sto} {l : Nat} {o : Ob} (hl : S l = none) (s : (S.set l o).sub S') : S'  l = some o ∧ S.sub (S'.del l) :=
  ⟨s _ _ Sto.set_same, fun m w hm => by
    have e : m ≠ l := fun e => by rw [e, hl] at hm; cases hm
    rw [Sto.del_ne e]
    exact s _ _ (by rw [Sto.set_ne e]; exact hm)⟩
theorem compW_fs {α : Type} {gs : Gs} {t : Tg} {tt : DT} {te : DE} {ρ : En} {Q : List D → Sto → Prop} {S : Sto} (g : α → D) (f : α → Option D) : ∀ (xs : List α) (acc : List D), gs.ok S → acc.length + xs.length ≤ sizeLine →
    (∀ a ∈ xs, ∀ (S' : Sto) (Py : DK) (Pn : Sto → Prop), S.sub S' → (∀ v S'', f a = some v → S'.sub S'' → Py v S'') → (∀ S'', f a = none → S'.sub S'' → Pn S'') → turn t tt te ρ (g a) S' Py Pn) → Q (acc ++ xs.filterMap f) S → compW gs t tt te ρ Q (xs.map g) acc S
  | [], acc, h, _, _, q => ⟨h, by simpa using q⟩
  | d :: ds, acc, ok, hz, h, q => by
    refine ⟨ok, by simp at hz; omega, fun l o hl => ?_⟩
    have ih := fun acc' (hz' : acc'.length + ds.length ≤ sizeLine) (q' : Q (acc' ++ ds.filterMap f) S) => compW_fs (gs := gs) (t := t) (tt := tt) (te := te) (ρ := ρ) g f ds acc' ok hz' (fun d' hd => h d' (List.mem_cons_of_mem _ hd)) q'
    refine h d List.mem_cons_self (S.set l o) _ _ (Sto.sub_set hl) (fun v S'' e s => ⟨(sub_del hl s).1, S, (sub_del hl s).2, ih (acc ++ [v]) (by simp at hz ⊢; omega) ?_⟩) fun S'' e s => ⟨(sub_del hl s).1, S, (sub_del hl s).2, ih acc (by simp at hz ⊢; omega) ?_⟩
    · rw [List.filterMap_cons, e] at q
      simpa using q
    · rw [List.filterMap_cons, e] at q
      exact q
theorem nextW_fs {α : Type} {gs : Gs} {t : Tg} {tt : DT} {te : DE} {ρ : En} {z : D} {Q : DK} {S : Sto} (g : α → D) (f : α → Option D) : ∀ (xs : List α), gs.ok S →
    (∀ a ∈ xs, ∀ (Py : DK) (Pn : Sto → Prop), (∀ v S'', f a = some v → S.sub S'' → Py v S'') → (∀ S'', f a = none → S.sub S'' → Pn S'') → turn t tt te ρ (g a) S Py Pn) → (∀ S'', S.sub S'' → Q ((xs.findSome? f).getD z) S'') → nextW gs t tt te ρ z Q (xs.map g) S
  | [], ok, _, q => ⟨ok, q S (Sto.sub_refl _)⟩
  | d :: ds, ok, h, q => by
    have ih := fun (q' : ∀ S'', S.sub S'' → Q ((ds.findSome? f).getD z) S'') => nextW_fs (gs := gs) (t := t) (tt := tt) (te := te) (ρ := ρ) g f ds ok (fun d' hd => h d' (List.mem_cons_of_mem _ hd)) q'
    refine ⟨ok, h d List.mem_cons_self _ _ (fun v S'' e s => ?_) fun S'' e s => ⟨S, s, ih ?_⟩⟩
    · have := q S'' s
      rw [List.findSome?_cons, e] at this
      exact this
    · intro S3 s3
      have := q S3 s3
      rw [List.findSome?_cons, e] at this
      exact this
def Fr (l : Nat) (S0 S : Sto) : Prop := ∀ m o, m ≠ l → S0 m = some o → S m = some o
theorem Fr.refl {l : Nat} {S : Sto} : Fr l S S := fun _ _ _ h => h
theorem Fr.sub {l : Nat} {S0 S S' : Sto} (f : Fr l S0 S) (s : S.sub S') : Fr l S0 S' := fun m o h e => s _ _ (f m o h e)
theorem Fr.of {l : Nat} {S S' : Sto} (s : S.sub S') : Fr l S S' := fun m o _ e => s _ _ e
theorem Fr.trans {l : Nat} {S0 S S' : Sto} (f : Fr l S0 S) (k : Fr l S S') : Fr l S0 S' := fun m o h e => k m o h (f m o h e)
theorem Fr.box {l : Nat} {S0 S : Sto} {o : Ob} (f : Fr l S0 S) : Fr l S0 (S.set l o) := fun m x h e => by rw [Sto.set_ne h]; exact f m x h e
theorem Fr.put {l n : Nat} {S0 S : Sto} {o : Ob} (f : Fr l S0 S) (h : S0 n = none) : Fr l S0 (S.set n o) := fun m x hm e => by
  by_cases q : m = n
  · rw [q, h] at e; cases e
  · rw [Sto.set_ne q]; exact f m x hm e
theorem Fr.fresh {l n : Nat} {S0 S : Sto} (f : Fr l S0 S) (hn : n ≠ l) (h : S n = none) : S0 n = none := by
  cases e : S0 n with
  | none => rfl
  | some o => rw [f n o hn e] at h; cases h
theorem Fr.new {l n : Nat} {S0 S : Sto} {o : Ob} (f : Fr l S0 S) (h : S n = none) : Fr l S0 (S.set n o) := f.sub (Sto.sub_set h)
theorem Fr.fin {l : Nat} {S0 S : Sto} {o : Ob} (f : Fr l S0 S) (h : S l = some o) : (S0.set l o).sub S := fun m x e => by
  by_cases q : m = l
  · rw [q, Sto.set_same] at e
    rw [q, h]; exact e
  · rw [Sto.set_ne q] at e
    exact f m x q e
theorem sub_set_new {S0 S : Sto} {n : Nat} {o : Ob} (s : S0.sub S) (h : S0 n = none) : S0.sub (S.set n o) := fun m x e => by
  by_cases q : m = n
  · rw [q, h] at e; cases e
  · rw [Sto.set_ne q]; exact s _ _ e
end LK
end
section
set_option Elab.async false
set_option linter.all false
set_option maxRecDepth 100000
set_option maxHeartbeats 400000
namespace LK
open PySem PySem.Spec PyProof.Rows L2 L3
def Wd.hd (w : Wd) (k : Nat) : Head := w.hs.getD k ("", [])
def Wd.vs (w : Wd) (k : Nat) : List Str := ("" : Str) :: (w.hd k).2
def putAt (r : Row) (k : Nat) (b : Str) : Row := r.take k ++ b :: r.drop (k + 1)
def Wd.twin (w : Wd) (k : Nat) (a b : Str) : Bool := (w.rows.filter fun r => decide (r.getD k "" = a)).all fun r => decide (w.ans r = w.ans (putAt r k b))
def addG (s : Str → Str → Bool) : List (List Str) → Str → List (List Str)
  | [], v => [[v]]
  | g :: gs, v => if s (g.headD "") v = true then (g ++ [v]) :: gs else g :: addG s gs v
def grpsOf (s : Str → Str → Bool) (vs : List Str) : List (List Str) := vs.foldl (addG s) []
def Wd.grps (w : Wd) (k : Nat) : List (List Str) := grpsOf (w.twin k) (w.vs k)
def Wd.line (w : Wd) (k : Nat) : List Str := (w.vs k).map fun v => (((w.grps k).filter fun g => decide (v ∈ g)).map (·.headD "")).headD ""
def Wd.turn (w : Wd) (ls : List (List Str)) (r : Row) : Row := (List.range w.hs.length).map fun k => (ls.getD k []).getD ((w.vs k).idxOf (r.getD k "")) ""
theorem hd_at {w : Wd} {k : Nat} (hk : k < w.hs.length) : w.hs[k]? = some (w.hd k) ∧ w.hd k ∈ w.hs := by
  have e : w.hd k = w.hs[k] := by unfold Wd.hd; rw [List.getD_eq_getElem?_getD, List.getElem?_eq_getElem hk]; rfl
  rw [e]
  exact ⟨List.getElem?_eq_getElem hk, List.getElem_mem hk⟩
theorem name_at {w : Wd} {k : Nat} (hk : k < w.hs.length) : w.names[k]? = some (w.hd k).1 ∧ (w.hd k).1 ∈ w.names := by
  unfold Wd.names
  rw [List.getElem?_map, (hd_at hk).1]
  exact ⟨rfl, List.mem_map.mpr ⟨_, (hd_at hk).2, rfl⟩⟩
theorem idx_of_nd {α : Type} [DecidableEq α] {xs : List α} {k : Nat} {x : α} (hn : xs.Nodup) (e : xs[k]? = some x) : xs.idxOf x = k := by
  obtain ⟨hk, rfl⟩ := List.getElem?_eq_some_iff.mp e
  exact hn.idxOf_getElem k hk
theorem name_idx {w : Wd} (hw : WOk w) {k : Nat} (hk : k < w.hs.length) : w.names.idxOf (w.hd k).1 = k := idx_of_nd hw.nd (name_at hk).1
end LK
end
section
set_option Elab.async false
set_option linter.all false
set_option maxRecDepth 100000
set_option maxHeartbeats 400000
namespace LK
open PySem PySem.Spec PyProof.Rows L2 L3
theorem cut_take {α : Type} (xs : List α) (k : Nat) : L3.cutD xs none (some (k : Int)) = xs.take k := by
  unfold L3.cutD
  have e : HT.sIx xs.length xs.length (some (k : Int)) = min k xs.length := HT.sIx_nat xs.length xs.length k
  rw [e, HT.sIx_none, List.drop_zero, Nat.sub_zero]
  rcases Nat.le_total k xs.length with h | h
  · rw [Nat.min_eq_left h]
  · rw [Nat.min_eq_right h, List.take_of_length_le (Nat.le_refl _), List.take_of_length_le h]
theorem cut_drop {α : Type} (xs : List α) (k : Nat) : L3.cutD xs (some (k : Int)) none = xs.drop k := by
  unfold L3.cutD
  have e : HT.sIx xs.length 0 (some (k : Int)) = min k xs.length := HT.sIx_nat xs.length 0 k
  rw [e, HT.sIx_none]
  rcases Nat.le_total k xs.length with h | h
  · rw [Nat.min_eq_left h, List.take_of_length_le (by rw [List.length_drop]; exact Nat.le_refl _)]
  · rw [Nat.min_eq_right h, List.drop_of_length_le (Nat.le_refl _), List.drop_of_length_le h, List.take_nil]
theorem cut_d1 {α : Type} (xs : List α) : L3.cutD xs (some 1) none = xs.drop 1 := cut_drop xs 1
theorem cut_t1 {α : Type} (xs : List α) : L3.cutD xs none (some 1) = xs.take 1 := cut_take xs 1
def Grp (S : Sto) (ls : List Nat) (gs : List (List Str)) : Prop := ls.map S = gs.map fun g => some (Ob.lst (g.map D.str))
theorem Grp.len {S : Sto} {ls : List Nat} {gs : List (List Str)} (h : Grp S ls gs) : ls.length = gs.length := by
  have := congrArg List.length h
  simpa using this
theorem Grp.sub {S S' : Sto} : ∀ {ls : List Nat} {gs : List (List Str)}, Grp S ls gs → S.sub S' → Grp S' ls gs
  | [], [], h, _ => rfl
  | l :: ls, g :: gs, h, s => by
    obtain ⟨h1, h2⟩ := List.cons_eq_cons.mp (show S l :: ls.map S = some (Ob.lst (g.map D.str)) :: gs.map (fun g => some (Ob.lst (g.map D.str))) from h)
    show S' l :: ls.map S' = _
    rw [s _ _ h1, show ls.map S' = _ from Grp.sub h2 s]; rfl
  | [], _ :: _, h, _ => by cases h
  | _ :: _, [], h, _ => by cases h
theorem Grp.mem {S : Sto} : ∀ {ls : List Nat} {gs : List (List Str)}, Grp S ls gs → ∀ p ∈ ls.zip gs, S p.1 = some (.lst (p.2.map D.str)) ∧ p.1 ∈ ls ∧ p.2 ∈ gs
  | [], _, _, p, hp => by simp at hp
  | _ :: _, [], h, _, _ => by cases h
  | l :: ls, g :: gs, h, p, hp => by
    obtain ⟨h1, h2⟩ := List.cons_eq_cons.mp (show S l :: ls.map S = some (Ob.lst (g.map D.str)) :: gs.map (fun g => some (Ob.lst (g.map D.str))) from h)
    rcases List.mem_cons.mp hp with rfl | hp
    · exact ⟨h1, List.mem_cons_self, List.mem_cons_self⟩
    · obtain ⟨a, b, c⟩ := Grp.mem h2 p hp
      exact ⟨a, List.mem_cons_of_mem _ b, List.mem_cons_of_mem _ c⟩
theorem Grp.put {S : Sto} {n : Nat} {o : Ob} {ls : List Nat} {gs : List (List Str)} (h : Grp S ls gs) (hn : n ∉ ls) : Grp (S.set n o) ls gs := by
  unfold Grp
  rw [← show ls.map S = _ from h]
  exact List.map_congr_left fun l hl => Sto.set_ne fun e => hn (e ▸ hl)
theorem fm_some {α β : Type} (f : α → β) (xs : List α) : (xs.filterMap fun x => some (f x)) = xs.map f := by
  show xs.filterMap (some ∘ f) = _
  rw [List.filterMap_eq_map]
section
variable {K : PySem.W.Frag}
end
end LK
end
section
set_option Elab.async false
set_option linter.all false
set_option maxRecDepth 100000
set_option maxHeartbeats 400000
namespace LK
open PySem PySem.Spec PyProof.Rows L2 L3
section
variable {K : PySem.W.Frag}
end
end LK
end
section
set_option Elab.async false
set_option linter.all false
set_option maxRecDepth 100000
set_option maxHeartbeats 400000
namespace LK
open PySem PySem.Spec PyProof.Rows L2 L3
def Tup : List Head → List Str → Prop
  | [], [] => True
  | h :: hs, v :: t => v ∈ ("" : Str) :: h.2 ∧ Tup hs t
  | _, _ => False
theorem fold_rows : ∀ (hs : List Head) (rs : List Row) (r : Row), r ∈ hs.foldl grow rs ↔ ∃ r0 ∈ rs, ∃ t, r = r0 ++ t ∧ Tup hs t
  | [], rs, r => ⟨fun h => ⟨r, h, [], by simp, trivial⟩, fun ⟨r0, h, t, e, ht⟩ => by
      cases t with
      | nil => rw [e, List.append_nil]; exact h
      | cons a t => exact ht.elim⟩
  | h :: hs, rs, r => by
    rw [List.foldl_cons, fold_rows hs]
    constructor
    · rintro ⟨r1, h1, t, rfl, ht⟩
      obtain ⟨r0, h0, h1⟩ := List.mem_flatMap.mp h1
      obtain ⟨v, hv, rfl⟩ := List.mem_map.mp h1
      exact ⟨r0, h0, v :: t, by simp, hv, ht⟩
    · rintro ⟨r0, h0, t, rfl, ht⟩
      cases t with
      | nil => exact ht.elim
      | cons v t => exact ⟨r0 ++ [v], List.mem_flatMap.mpr ⟨r0, h0, List.mem_map.mpr ⟨v, ht.1, rfl⟩⟩, t, by simp, ht.2⟩
theorem rows_iff {w : Wd} {r : Row} : r ∈ w.rows ↔ Tup w.hs r := by
  show r ∈ w.hs.foldl grow [[]] ↔ _
  rw [fold_rows]
  exact ⟨fun ⟨r0, h0, t, e, ht⟩ => by rw [List.mem_singleton.mp h0] at e; rw [e]; exact ht, fun h => ⟨[], List.mem_singleton.mpr rfl, r, rfl, h⟩⟩
theorem Tup.get : ∀ {hs : List Head} {r : List Str} {k : Nat}, Tup hs r → k < hs.length → r.getD k "" ∈ ("" : Str) :: (hs.getD k ("", [])).2
  | h :: hs, v :: t, 0, ht, _ => ht.1
  | h :: hs, v :: t, k + 1, ht, hk => Tup.get (hs := hs) (r := t) (k := k) ht.2 (by simpa using hk)
  | [], _, _, _, hk => by simp at hk
  | _ :: _, [], _, ht, _ => ht.elim
theorem Tup.put : ∀ {hs : List Head} {r : List Str} {k : Nat} {b : Str}, Tup hs r → k < hs.length → b ∈ ("" : Str) :: (hs.getD k ("", [])).2 → Tup hs (putAt r k b)
  | h :: hs, v :: t, 0, b, ht, _, hb => ⟨hb, ht.2⟩
  | h :: hs, v :: t, k + 1, b, ht, hk, hb => ⟨ht.1, Tup.put (hs := hs) (r := t) (k := k) ht.2 (by simpa using hk) hb⟩
  | [], _, _, _, _, hk, _ => by simp at hk
  | _ :: _, [], _, _, ht, _, _ => ht.elim
theorem Tup.len : ∀ {hs : List Head} {r : List Str}, Tup hs r → r.length = hs.length
  | [], [], _ => rfl
  | h :: hs, v :: t, ht => by rw [List.length_cons, List.length_cons, Tup.len ht.2]
  | [], _ :: _, h => h.elim
  | _ :: _, [], h => h.elim
structure Eqv (s : Str → Str → Bool) (V : Str → Prop) : Prop where
  refl : ∀ a, V a → s a a = true
  symm : ∀ a b, V a → V b → s a b = true → s b a = true
  trans : ∀ a b c, V a → V b → V c → s a b = true → s b c = true → s a c = true
structure GP (s : Str → Str → Bool) (V : Str → Prop) (gs : List (List Str)) : Prop where
  ne : ∀ g ∈ gs, g ≠ []
  inV : ∀ g ∈ gs, ∀ x ∈ g, V x
  rep : ∀ g ∈ gs, ∀ x ∈ g, s (g.headD "") x = true
  sep : gs.Pairwise fun g g' => s (g.headD "") (g'.headD "") = false
theorem head_app {g : List Str} {v : Str} (h : g ≠ []) : (g ++ [v]).headD "" = g.headD "" := by
  cases g with
  | nil => exact absurd rfl h
  | cons a g => rfl
theorem addG_mem (s : Str → Str → Bool) : ∀ {gs : List (List Str)} {v : Str} {g : List Str}, (∀ g ∈ gs, g ≠ []) → g ∈ addG s gs v → g.headD "" = v ∨ ∃ g' ∈ gs, g.headD "" = g'.headD ""
  | [], v, g, _, h => by rw [List.mem_singleton.mp h]; exact .inl rfl
  | x :: gs, v, g, hn, h => by
    unfold addG at h
    split at h
    · rcases List.mem_cons.mp h with rfl | h
      · exact .inr ⟨x, List.mem_cons_self, head_app (hn x List.mem_cons_self)⟩
      · exact .inr ⟨g, List.mem_cons_of_mem _ h, rfl⟩
    · rcases List.mem_cons.mp h with rfl | h
      · exact .inr ⟨g, List.mem_cons_self, rfl⟩
      · rcases addG_mem s (fun g hg => hn g (List.mem_cons_of_mem _ hg)) h with e | ⟨g', h1, h2⟩
        · exact .inl e
        · exact .inr ⟨g', List.mem_cons_of_mem _ h1, h2⟩
theorem GP.add {s : Str → Str → Bool} {V : Str → Prop} (E : Eqv s V) {v : Str} (hv : V v) : ∀ {gs : List (List Str)}, GP s V gs → GP s V (addG s gs v)
  | [], _ => ⟨fun g h => by rw [List.mem_singleton.mp h]; simp, fun g h x hx => by rw [List.mem_singleton.mp h] at hx; rw [List.mem_singleton.mp hx]; exact hv, fun g h x hx => by rw [List.mem_singleton.mp h] at hx ⊢; rw [List.mem_singleton.mp hx]; exact E.refl v hv, List.pairwise_singleton _ _⟩
  | g :: gs, h => by
    obtain ⟨p1, p2⟩ := List.pairwise_cons.mp h.sep
    have ng := h.ne g List.mem_cons_self
    have tl : GP s V gs := ⟨fun x hx => h.ne x (List.mem_cons_of_mem _ hx), fun x hx => h.inV x (List.mem_cons_of_mem _ hx), fun x hx => h.rep x (List.mem_cons_of_mem _ hx), p2⟩
    unfold addG
    split
    · rename_i hs
      refine ⟨fun x hx => ?_, fun x hx y hy => ?_, fun x hx y hy => ?_, List.pairwise_cons.mpr ⟨fun x hx => ?_, p2⟩⟩
      · rcases List.mem_cons.mp hx with rfl | hx
        · simp
        · exact tl.ne x hx
      · rcases List.mem_cons.mp hx with rfl | hx
        · rcases List.mem_append.mp hy with hy | hy
          · exact h.inV g List.mem_cons_self y hy
          · rw [List.mem_singleton.mp hy]; exact hv
        · exact tl.inV x hx y hy
      · rcases List.mem_cons.mp hx with rfl | hx
        · rw [head_app ng]
          rcases List.mem_append.mp hy with hy | hy
          · exact h.rep g List.mem_cons_self y hy
          · rw [List.mem_singleton.mp hy]; exact hs
        · exact tl.rep x hx y hy
      · rw [head_app ng]; exact p1 x hx
    · rename_i hs
      have ih := GP.add E hv tl
      refine ⟨fun x hx => ?_, fun x hx => ?_, fun x hx => ?_, List.pairwise_cons.mpr ⟨fun x hx => ?_, ih.sep⟩⟩
      · rcases List.mem_cons.mp hx with rfl | hx
        · exact ng
        · exact ih.ne x hx
      · rcases List.mem_cons.mp hx with rfl | hx
        · exact h.inV x List.mem_cons_self
        · exact ih.inV x hx
      · rcases List.mem_cons.mp hx with rfl | hx
        · exact h.rep x List.mem_cons_self
        · exact ih.rep x hx
      · rcases addG_mem s tl.ne hx with e | ⟨g', h1, h2⟩
        · rw [e]; exact Bool.eq_false_iff.mpr hs
        · rw [h2]; exact p1 g' h1
end LK
end
section
set_option Elab.async false
set_option linter.all false
set_option maxRecDepth 100000
set_option maxHeartbeats 1000000
namespace LK
open PySem PySem.Spec PyProof.Rows L2 L3
def Wd.lookT (w : Wd) (r : Row) : List (Str × Str) → List Str
  | [] => []
  | t :: ts => t.1 :: if w.val r t.1 = t.2 then w.lookT r ts else []
def Wd.lookR (w : Wd) (r : Row) : List Rule → List Str
  | [] => []
  | x :: xs => w.lookT r x.1 ++ if w.fits r x.1 = true then [] else w.lookR r xs
def Wd.looked (w : Wd) (r : Row) : List Str := w.names.filter fun n => decide (n ∈ w.lookR r w.rs)
def srt (l : List Str) : List Str := l.mergeSort fun a b => !decide (slt b a)
def Wd.fitted (w : Wd) (r : Row) : List Str := match w.rs.filter fun x : Rule => w.fits r x.1 with
  | [] => []
  | x :: _ => srt (x.1.map (·.1))
theorem lookT_sub {w : Wd} {r : Row} : ∀ {ts : List (Str × Str)} {n : Str}, n ∈ w.lookT r ts → ∃ t ∈ ts, n = t.1
  | [], n, h => by cases h
  | t :: ts, n, h => by
    unfold Wd.lookT at h
    rcases List.mem_cons.mp h with rfl | h
    · exact ⟨t, List.mem_cons_self, rfl⟩
    · split at h
      · obtain ⟨u, hu, e⟩ := lookT_sub h
        exact ⟨u, List.mem_cons_of_mem _ hu, e⟩
      · cases h
theorem lookR_sub {w : Wd} {r : Row} : ∀ {rs : List Rule} {n : Str}, n ∈ w.lookR r rs → ∃ x ∈ rs, ∃ t ∈ x.1, n = t.1
  | [], n, h => by cases h
  | x :: xs, n, h => by
    unfold Wd.lookR at h
    rcases List.mem_append.mp h with h | h
    · obtain ⟨t, ht, e⟩ := lookT_sub h
      exact ⟨x, List.mem_cons_self, t, ht, e⟩
    · split at h
      · cases h
      · obtain ⟨y, hy, q⟩ := lookR_sub h
        exact ⟨y, List.mem_cons_of_mem _ hy, q⟩
theorem lookR_names {w : Wd} (hw : WOk w) {r : Row} {n : Str} (h : n ∈ w.lookR r w.rs) : n ∈ w.names := by
  obtain ⟨x, hx, t, ht, rfl⟩ := lookR_sub h
  exact hw.tn x hx t ht
theorem looked_of {w : Wd} (hw : WOk w) (hu : w.names.Pairwise slt) {r : Row} {ys : List Str} (hm : ∀ x, x ∈ ys ↔ x ∈ w.lookR r w.rs) (hn : ys.Nodup) (hs : sortedS ys = true) : ys = w.looked r := by
  refine up_eq (pw_up (sortedS_pw hs) hn) (hu.sublist (List.filter_sublist)) fun x => ?_
  unfold Wd.looked
  rw [hm, List.mem_filter, decide_eq_true_eq]
  exact ⟨fun h => ⟨lookR_names hw h, h⟩, fun h => h.2⟩
theorem names_len {w : Wd} (hw : WOk w) : w.names.length ≤ 6 := by
  unfold Wd.names
  rw [List.length_map]; exact hw.hl
theorem looked_ok {w : Wd} (hw : WOk w) (r : Row) : (w.looked r).length ≤ 6 ∧ ∀ v ∈ w.looked r, PyData.strOk v = true := by
  refine ⟨Nat.le_trans (List.length_filter_le _ _) (names_len hw), fun v hv => ?_⟩
  exact names_so hw (List.mem_filter.mp hv).1
def dicT (ks : List Str) : Ob := .dic (ks.map Sum.inr) (ks.map fun _ => .bl true)
theorem addK_mem (ks : List Str) (n x : Str) : x ∈ addK ks n ↔ x ∈ ks ∨ x = n := by
  have := foldK_mem [n] ks x
  simpa [foldK] using this
theorem addK_nd {ks : List Str} (n : Str) (h : ks.Nodup) : (addK ks n).Nodup := foldK_nd [n] ks h
end LK
end
section
set_option Elab.async false
set_option linter.all false
set_option maxRecDepth 100000
set_option maxHeartbeats 1000000
namespace LK
open PySem PySem.Spec PyProof.Rows L2 L3
structure Up (w : Wd) : Prop extends WOk w where
  up : w.names.Pairwise slt
  t64 : ∀ x ∈ w.rs, x.1.length < 64
  r9 : w.rs.length ≤ 12
def sp__law_looked : DSp := fun ds S Q _ => ∃ (w : Wd) (r : Row), ds = [w.d, rowD r] ∧ Up w ∧ ROk w r ∧ Q (rowD (w.looked r)) S
structure LI (w : Wd) (r : Row) (S S' : Sto) (lf : Nat) (ks rest : List Str) : Prop where
  sub : S.sub S'
  at_ : S' lf = some (dicT ks)
  nd : ks.Nodup
  mem : ∀ x, x ∈ w.lookR r w.rs ↔ x ∈ ks ∨ x ∈ rest
theorem LI.put {w : Wd} {r : Row} {S S1 : Sto} {lf : Nat} {k1 rest : List Str} {n : Str} (h : LI w r S S1 lf k1 (n :: rest)) (hlf : S lf = none) : LI w r S (S1.set lf (dicT (addK k1 n))) lf (addK k1 n) rest :=
  ⟨sub_set_new h.sub hlf, Sto.set_same, addK_nd n h.nd, fun x => by rw [h.mem, addK_mem, List.mem_cons, or_assoc]⟩
theorem nd_len {l m : List Str} (hl : l.Nodup) (hm : m.Nodup) (h : ∀ x ∈ l, x ∈ m) : l.length ≤ m.length := by
  have hp : l.Perm (m.filter fun x => decide (x ∈ l)) := (List.perm_ext_iff_of_nodup hl (hm.filter _)).mpr fun x => by
    rw [List.mem_filter, decide_eq_true_eq]
    exact ⟨fun q => ⟨h x q, q⟩, fun q => q.2⟩
  rw [hp.length_eq]
  exact List.length_filter_le _ _
theorem LI.len {w : Wd} {r : Row} {S S1 : Sto} {lf : Nat} {k1 rest : List Str} (h : LI w r S S1 lf k1 rest) (hw : WOk w) : k1.length ≤ 6 :=
  Nat.le_trans (nd_len h.nd hw.nd fun x hx => lookR_names hw ((h.mem x).mpr (.inl hx))) (names_len hw)
theorem LI.done {w : Wd} {r : Row} {S S1 : Sto} {lf : Nat} {k1 : List Str} {Q : DK} {ρ : En} (h : LI w r S S1 lf k1 []) (hw : Up w) (q : Q (rowD (w.looked r)) S) (e : ρ[2]? = some (some (.ref lf)) := by rfl) : ∃ v, ρ[2]? = some (some v) ∧ ∃ x, dicD S1 v = some x ∧ ∃ ks, x.1 = ks.map Sum.inr ∧ ks.length < 64 ∧ ∀ ys : List Str, ys.Perm ks → sortedS ys = true → drp (Q (.tup (ys.map .str))) S1 := by
  refine ⟨_, e, (k1.map Sum.inr, k1.map fun _ => .bl true), ?_, k1, rfl, by have := h.len hw.toWOk; omega, fun ys hp hs => ⟨S, h.sub, ?_⟩⟩
  · show (match S1 lf with | some (.dic ks ds) => some (ks, ds) | _ => none) = _
    rw [h.at_]
    rfl
  · have := looked_of hw.toWOk hw.up (r := r) (fun x => by rw [h.mem, hp.mem_iff]; simp) (hp.nodup_iff.mpr h.nd) hs
    rw [this]
    exact q
theorem drop_at {α : Type} {l : List α} {i : Nat} {a : α} (h : l[i]? = some a) : l.drop i = a :: l.drop (i + 1) := by
  obtain ⟨hi, rfl⟩ := List.getElem?_eq_some_iff.mp h
  exact List.drop_eq_getElem_cons hi
theorem gs_of_tup (ds : List D) (o : Ob) : gsOf (.tup ds) o = gsOf (.tup ds) (.lst []) := rfl
structure LJ (w : Wd) (r : Row) (S S' : Sto) (lf : Nat) (xs rest : List Str) : Prop where
  sub : S.sub S'
  at_ : S' lf = some (.lst (xs.map .str))
  mem : ∀ x, x ∈ w.lookR r w.rs ↔ x ∈ xs ∨ x ∈ rest
theorem LJ.put {w : Wd} {r : Row} {S S1 : Sto} {lf : Nat} {k1 rest : List Str} {n : Str} (h : LJ w r S S1 lf k1 (n :: rest)) (hlf : S lf = none) : LJ w r S (S1.set lf (.lst ((k1 ++ [n]).map .str))) lf (k1 ++ [n]) rest :=
  ⟨sub_set_new h.sub hlf, Sto.set_same, fun x => by rw [h.mem, List.mem_append, List.mem_cons, List.mem_singleton, or_assoc]⟩
abbrev N__law_looked : List Str := ["_law_world_so", "_law_request_so", "_law_rule", "_law_seen", "_law_goes", "_law_holds", "_law_name_so", "_law_value_so"]
def d__law_looked : DS :=
  dSeq (dPar 3 4 (aCons (dLst (aNil)) (aCons (dC (.bl true)) (aNil))))
    (dSeq (dFor (iSeq (dOp oIx (dVar 0) (dC (.int 1)))) (.one 2) (dSeq (dSet 5 (dVar 4))
    (dSeq (dFor (iSeq (dOp oIx (dVar 2) (dC (.int 0)))) (.many [6, 7]) (dIfS (dTru (dVar 5)) (dSeq (dDrop (dBM "list" mAppend (dVar 3) (aCons (dVar 6) (aNil))))
    (dSet 5 (dOp oEqD (dCall (sp__law_value) noX (aCons (dVar 0) (aCons (dVar 1) (aCons (dVar 6) (aNil))))) (dVar 7)))) (dNext)))
    (dSet 4 (dAndV (dVar 4) (dNotV (dVar 5)))))))
    (dRet (dCB bTuple (aCons (dSortSetF (dVar 3)) (aNil)))))
section
variable {K : PySem.W.Frag}
end
theorem v__law_looked : ∀ ds S Q E, sp__law_looked ds S Q E → d__law_looked (EndsD Q) (startD N__law_looked ds) S := by
  rintro ds S Q E ⟨w, r, rfl, hw, hr, q⟩
  simp only [d__law_looked, N__law_looked, Wd.d, dWkA, dTupK, dTupL, dTupIx, dDictP, dDc2, dFor, dWhile, dLc, dLc2, dDc, dNextG, iSeq, iR1, iR2, iEn, iZpA, iZ2, iZ3, dSortK, dSortKF, dSortSet, dSortSetF, dBreak, bSortT, bSortTF, bSum, bSumL, bSumLF, bMaxL, bMinL, dDicE, bSortD, bSortDF, dGet2, oInA, oNotInA, oIxA, gdSubA, dSeq, dSet, dIf, dIfS, dTst, dOp, dUn, dVar, dCB, aCons, aNil, aStar, dRet, dRetN, dNext, dDrop, dLst, dTup, dC, dAnd, dOr, dNot, dAndV, dOrV, dNotV, dPar, dAsg, gdName, gdSub, gdTup, gdCons, gdNil, gdSlot, dIsi, dIsi2, dSlot, dSetSlot, dMethSl, dMakeSl, dCall, dCallP, dBM, dFrz, dLstF, dLcF, dLc2F, dDcF, dSlF, dListVF, bListF, bListDF, bSortSF, oAddLF, oRepLF, dSl, dNoP, dPart, dListV, dTru, dOrT, EndsD, startD, oLtI, oLeI, oGtI, oGeI, oIx, oMulI, oPowI, oAddI, oSubI, oModI, oDivI, oI, oI0, oEqD, oNeD, oInD, oNotInD, oAddL, oAddT, oAddS, oRepL, bLen, bAbs, bInt, bMin2, bMax2, bAll, bAny, bTuple, bList, bListD, bSortS, mAppend, mPop, mPopAt, mExtend, mIndex, tupOf_lst, tupOf_ref, tupOf_tup, List.map_cons, List.map_nil, List.length_cons, List.length_nil, List.cons_append, List.nil_append, List.append_nil, List.replicate, List.set_cons_zero, List.set_cons_succ, List.getElem?_cons_zero, List.getElem?_cons_succ, Option.some.injEq, exists_eq_left', exists_eq_left, exists_and_left, D.int.injEq, D.bl.injEq, D.str.injEq, D.tup.injEq, D.lst.injEq, D.ref.injEq, List.cons.injEq, and_true, true_and, reduceCtorEq, false_and, and_false, exists_false, or_false, false_or, exists_const, Bool.false_eq_true, if_true, if_false, decide_eq_true_eq, Ob.lst.injEq, Ob.slt.injEq, Ob.dic.injEq, seqD_ref, lstD_ref, seqD_tup, seqD_lst, lstD_lst, lstR_lst, Sto.set_same, Sto.set_set, atI_0, atI_1, atI_2, Nat.reduceAdd, ixN_30, ixN_32, lstD_tup, seqD_row, List.append_assoc, false_or, or_false, cut_d1, cut_t1, sz_0, sz_1, sz_2, sz_3, sz_4, sz_5, sz_6, sz_7, sz_8, sz_9, sz_10, sz_11, sz_12]
  intro lf hlf
  refine ⟨_, _, ⟨rfl, rfl⟩, ?_⟩
  rw [gs_of_tup]
  refine forW_all ruleD (fun n ρ S' => ∃ xs g b2 b5 b6 b7, ρ = [some (.tup [.tup (w.hs.map headD), .tup (w.rs.map ruleD)]), some (rowD r), b2, some (.ref lf), some (.bl g), b5, b6, b7] ∧ LJ w r S S' lf xs (if g = true then w.lookR r (w.rs.drop n) else []) ∧ xs.length ≤ 63 * n) w.rs 0 ⟨[], true, _, _, _, _, rfl, ⟨Sto.sub_set hlf, Sto.set_same, fun x => by simp⟩, Nat.zero_le _⟩ ?_ ?_
  · rintro i x ρ S' E' hx ⟨xs, g, b2, b5, b6, b7, rfl, hL, hz⟩ hrt hbk hnx
    rw [Nat.zero_add] at hL hnx hz
    have hxm : x ∈ w.rs := List.mem_of_getElem? hx
    have hi : i < w.rs.length := (List.getElem?_eq_some_iff.mp hx).1
    have h64 := hw.t64 x hxm
    have h9 := hw.r9
    rw [drop_at hx] at hL
    refine ⟨gs_tup, ?_⟩
    simp only [Tg.d, ruleD, setsE, dWkA, dTupK, dTupL, dTupIx, dDictP, dDc2, dFor, dWhile, dLc, dLc2, dDc, dNextG, iSeq, iR1, iR2, iEn, iZpA, iZ2, iZ3, dSortK, dSortKF, dSortSet, dSortSetF, dBreak, bSortT, bSortTF, bSum, bSumL, bSumLF, bMaxL, bMinL, dDicE, bSortD, bSortDF, dGet2, oInA, oNotInA, oIxA, gdSubA, dSeq, dSet, dIf, dIfS, dTst, dOp, dUn, dVar, dCB, aCons, aNil, aStar, dRet, dRetN, dNext, dDrop, dLst, dTup, dC, dAnd, dOr, dNot, dAndV, dOrV, dNotV, dPar, dAsg, gdName, gdSub, gdTup, gdCons, gdNil, gdSlot, dIsi, dIsi2, dSlot, dSetSlot, dMethSl, dMakeSl, dCall, dCallP, dBM, dFrz, dLstF, dLcF, dLc2F, dDcF, dSlF, dListVF, bListF, bListDF, bSortSF, oAddLF, oRepLF, dSl, dNoP, dPart, dListV, dTru, dOrT, EndsD, startD, oLtI, oLeI, oGtI, oGeI, oIx, oMulI, oPowI, oAddI, oSubI, oModI, oDivI, oI, oI0, oEqD, oNeD, oInD, oNotInD, oAddL, oAddT, oAddS, oRepL, bLen, bAbs, bInt, bMin2, bMax2, bAll, bAny, bTuple, bList, bListD, bSortS, mAppend, mPop, mPopAt, mExtend, mIndex, tupOf_lst, tupOf_ref, tupOf_tup, List.map_cons, List.map_nil, List.length_cons, List.length_nil, List.cons_append, List.nil_append, List.append_nil, List.replicate, List.set_cons_zero, List.set_cons_succ, List.getElem?_cons_zero, List.getElem?_cons_succ, Option.some.injEq, exists_eq_left', exists_eq_left, exists_and_left, D.int.injEq, D.bl.injEq, D.str.injEq, D.tup.injEq, D.lst.injEq, D.ref.injEq, List.cons.injEq, and_true, true_and, reduceCtorEq, false_and, and_false, exists_false, or_false, false_or, exists_const, Bool.false_eq_true, if_true, if_false, decide_eq_true_eq, Ob.lst.injEq, Ob.slt.injEq, Ob.dic.injEq, seqD_ref, lstD_ref, seqD_tup, seqD_lst, lstD_lst, lstR_lst, Sto.set_same, Sto.set_set, atI_0, atI_1, atI_2, Nat.reduceAdd, ixN_30, ixN_32, lstD_tup, seqD_row, List.append_assoc, false_or, or_false, cut_d1, cut_t1, sz_0, sz_1, sz_2, sz_3, sz_4, sz_5, sz_6, sz_7, sz_8, sz_9, sz_10, sz_11, sz_12]
    rw [gs_of_tup]
    refine forW_all testD (fun n ρ S' => ∃ xs h b6 b7, ρ = [some (.tup [.tup (w.hs.map headD), .tup (w.rs.map ruleD)]), some (rowD r), some (ruleD x), some (.ref lf), some (.bl g), some (.bl h), b6, b7] ∧ LJ w r S S' lf xs ((if h = true then w.lookT r (x.1.drop n) else []) ++ if (g && !w.fits r x.1) = true then w.lookR r (w.rs.drop (i + 1)) else []) ∧ xs.length ≤ 63 * i + n ∧ (h && (x.1.drop n).all fun t => decide (w.val r t.1 = t.2)) = (g && w.fits r x.1)) x.1 0 ⟨xs, g, _, _, rfl, ⟨hL.sub, hL.at_, fun y => by
      rw [hL.mem]
      cases g
      · simp
      · cases h : w.fits r x.1 <;> simp [Wd.lookR, h]⟩, hz, rfl⟩ ?_ ?_
    · rintro j t ρ S1 E1 ht ⟨k1, h, b6, b7, rfl, hL1, hz1, hh⟩ hrt1 hbk1 hnx1
      rw [Nat.zero_add] at hL1 hnx1 hz1 hh
      have htm : t ∈ x.1 := List.mem_of_getElem? ht
      have hj : j < x.1.length := (List.getElem?_eq_some_iff.mp ht).1
      rw [drop_at ht] at hL1 hh
      refine ⟨gs_tup, ?_⟩
      have hf := hL1.at_
      simp only [Tg.d, testD, setsE, sp__law_value, dWkA, dTupK, dTupL, dTupIx, dDictP, dDc2, dFor, dWhile, dLc, dLc2, dDc, dNextG, iSeq, iR1, iR2, iEn, iZpA, iZ2, iZ3, dSortK, dSortKF, dSortSet, dSortSetF, dBreak, bSortT, bSortTF, bSum, bSumL, bSumLF, bMaxL, bMinL, dDicE, bSortD, bSortDF, dGet2, oInA, oNotInA, oIxA, gdSubA, dSeq, dSet, dIf, dIfS, dTst, dOp, dUn, dVar, dCB, aCons, aNil, aStar, dRet, dRetN, dNext, dDrop, dLst, dTup, dC, dAnd, dOr, dNot, dAndV, dOrV, dNotV, dPar, dAsg, gdName, gdSub, gdTup, gdCons, gdNil, gdSlot, dIsi, dIsi2, dSlot, dSetSlot, dMethSl, dMakeSl, dCall, dCallP, dBM, dFrz, dLstF, dLcF, dLc2F, dDcF, dSlF, dListVF, bListF, bListDF, bSortSF, oAddLF, oRepLF, dSl, dNoP, dPart, dListV, dTru, dOrT, EndsD, startD, oLtI, oLeI, oGtI, oGeI, oIx, oMulI, oPowI, oAddI, oSubI, oModI, oDivI, oI, oI0, oEqD, oNeD, oInD, oNotInD, oAddL, oAddT, oAddS, oRepL, bLen, bAbs, bInt, bMin2, bMax2, bAll, bAny, bTuple, bList, bListD, bSortS, mAppend, mPop, mPopAt, mExtend, mIndex, tupOf_lst, tupOf_ref, tupOf_tup, List.map_cons, List.map_nil, List.length_cons, List.length_nil, List.cons_append, List.nil_append, List.append_nil, List.replicate, List.set_cons_zero, List.set_cons_succ, List.getElem?_cons_zero, List.getElem?_cons_succ, Option.some.injEq, exists_eq_left', exists_eq_left, exists_and_left, D.int.injEq, D.bl.injEq, D.str.injEq, D.tup.injEq, D.lst.injEq, D.ref.injEq, List.cons.injEq, and_true, true_and, reduceCtorEq, false_and, and_false, exists_false, or_false, false_or, exists_const, Bool.false_eq_true, if_true, if_false, decide_eq_true_eq, Ob.lst.injEq, Ob.slt.injEq, Ob.dic.injEq, seqD_ref, lstD_ref, seqD_tup, seqD_lst, lstD_lst, lstR_lst, Sto.set_same, Sto.set_set, atI_0, atI_1, atI_2, Nat.reduceAdd, ixN_30, ixN_32, lstD_tup, seqD_row, List.append_assoc, false_or, or_false, cut_d1, cut_t1, sz_0, sz_1, sz_2, sz_3, sz_4, sz_5, sz_6, sz_7, sz_8, sz_9, sz_10, sz_11, sz_12]
      refine ⟨h, rfl, ?_⟩
      cases h with
      | false =>
        rw [if_neg Bool.false_ne_true]
        exact (hnx1 _ _ _ _ (Wk.refl _) (Sto.sub_refl _) ⟨k1, false, _, _, rfl, hL1, by omega, by simpa using hh⟩).1
      | true =>
        rw [if_pos rfl]
        have hL2 := LJ.put (n := t.1) (rest := (if decide (w.val r t.1 = t.2) = true then w.lookT r (x.1.drop (j + 1)) else []) ++ if (g && !w.fits r x.1) = true then w.lookR r (w.rs.drop (i + 1)) else []) ⟨hL1.sub, hL1.at_, by
          intro y
          have := hL1.mem y
          simp only [decide_eq_true_eq]
          exact this⟩ hlf
        rw [List.map_append] at hL2
        refine ⟨.inl ⟨rfl, _, show (match S1 lf with | some (.lst ds) => some ds | _ => none) = some _ by rw [hf]⟩, _, hf, small_sz (by rw [List.length_map]; omega), w, r, t.1, ⟨rfl, rfl, rfl⟩, hw.toWOk, hr, hw.tn x hxm t htm, _, rfl, _, rfl, (shp_str (val_so hr _)).ok, (shp_str ((hw.ro x hxm).2 t htm).2).ok, ?_⟩
        rw [eqv_str]
        exact (hnx1 _ _ _ _ (Wk.refl _) (Sto.sub_refl _) ⟨k1 ++ [t.1], _, _, _, rfl, hL2, by rw [List.length_append, List.length_singleton]; omega, by rw [List.all_cons, Bool.true_and] at hh; exact hh⟩).1
    · rintro ρ S2 ⟨k2, h, b6, b7, rfl, hL2, hz2, hh⟩
      rw [Nat.zero_add, List.drop_length] at hL2 hh
      refine ⟨gs_tup, _, rfl, g, rfl, ?_⟩
      have hh : h = (g && w.fits r x.1) := by simpa using hh
      have hm : ∀ y, y ∈ w.lookR r w.rs ↔ y ∈ k2 ∨ y ∈ if (g && !w.fits r x.1) = true then w.lookR r (w.rs.drop (i + 1)) else [] := fun y => by
        rw [hL2.mem y]
        cases h <;> simp [Wd.lookT]
      cases g with
      | false =>
        rw [if_neg Bool.false_ne_true]
        exact (hnx _ _ _ _ (Wk.refl _) (Sto.sub_refl _) ⟨k2, false, _, _, _, _, rfl, ⟨hL2.sub, hL2.at_, hm⟩, by omega⟩).1
      | true =>
        rw [Bool.true_and] at hh hm
        subst hh
        rw [if_pos rfl]
        exact ⟨_, rfl, _, rfl, (hnx _ _ _ _ (Wk.refl _) (Sto.sub_refl _) ⟨k2, _, _, _, _, _, rfl, ⟨hL2.sub, hL2.at_, hm⟩, by omega⟩).1⟩
  · rintro ρ S2 ⟨k2, g, b2, b5, b6, b7, rfl, hL2, hz2⟩
    rw [Nat.zero_add, List.drop_length] at hL2
    refine ⟨gs_tup, _, rfl, k2, ?_, ?_, fun ys hm hn hs => ?_⟩
    · show (match S2 lf with | some (.lst ds) => some ds | _ => none) = _
      rw [hL2.at_]
    · have := hw.r9
      omega
    · refine ⟨S, hL2.sub, ?_⟩
      rw [looked_of hw.toWOk hw.up (r := r) (fun x => by rw [hL2.mem, hm]; cases g <;> simp [Wd.lookR]) hn hs]
      exact q
end LK
end
section
set_option Elab.async false
set_option linter.all false
set_option maxRecDepth 100000
set_option maxHeartbeats 1000000
namespace LK
open PySem PySem.Spec PyProof.Rows L2 L3
def Wd.alike (w : Wd) (a b : Row) (ns : List Str) : Bool := ns.all fun n => decide (w.val a n = w.val b n)
def Wd.bad (w : Wd) (r : Row) (ns : List Str) : Option Row := w.rows.find? fun o => w.alike r o ns && !decide (w.ans o = w.ans r)
def Wd.safe (w : Wd) (r : Row) (ns : List Str) : Bool := (w.bad r ns).isNone
def optD : Option Row → D
  | none => .non
  | some r => rowD r
def subs (ns : List Str) : List (List Str) := ns.foldl (fun f n => f ++ f.map fun s => s ++ [n]) [[]]
def Wd.lists (w : Wd) : List (List Str) := (subs w.names).mergeSort lnLe
def Wd.safes (w : Wd) (r : Row) : List (List Str) := w.lists.filter (w.safe r)
def Wd.least (w : Wd) (r : Row) : List Str := (w.safes r).headD []
def part (a b : List Str) : Bool := a.all fun n => decide (n ∈ b)
theorem foldl_subs : ∀ (ns : List Str) (f : List (List Str)) (s : List Str), s ∈ ns.foldl (fun f n => f ++ f.map fun s => s ++ [n]) f ↔ ∃ a ∈ f, ∃ t, t.Sublist ns ∧ s = a ++ t
  | [], f, s => by simp
  | n :: ns, f, s => by
    rw [List.foldl_cons, foldl_subs ns]
    constructor
    · rintro ⟨a, ha, t, ht, rfl⟩
      rcases List.mem_append.mp ha with ha | ha
      · exact ⟨a, ha, t, ht.cons _, rfl⟩
      · obtain ⟨b, hb, rfl⟩ := List.mem_map.mp ha
        exact ⟨b, hb, n :: t, ht.cons_cons _, by simp⟩
    · rintro ⟨a, ha, t, ht, rfl⟩
      cases ht with
      | cons _ h => exact ⟨a, List.mem_append_left _ ha, t, h, rfl⟩
      | cons_cons _ h => exact ⟨a ++ [n], List.mem_append_right _ (List.mem_map.mpr ⟨a, ha, rfl⟩), _, h, by simp⟩
theorem subs_iff {ns s : List Str} : s ∈ subs ns ↔ s.Sublist ns := by
  unfold subs
  rw [foldl_subs]
  simp
theorem lists_iff {w : Wd} {s : List Str} : s ∈ w.lists ↔ s.Sublist w.names := by
  unfold Wd.lists
  rw [List.mem_mergeSort, subs_iff]
structure NsOk (w : Wd) (ns : List Str) : Prop where
  mem : ∀ n ∈ ns, n ∈ w.names
  len : ns.length ≤ 100
theorem val_hd {w : Wd} (hw : WOk w) (r : Row) {k : Nat} (hk : k < w.hs.length) : w.val r (w.hd k).1 = r.getD k "" := by
  unfold Wd.val
  rw [name_idx hw hk]
theorem ext_row {w : Wd} (hw : WOk w) {a b : Row} (ha : a.length = w.hs.length) (hb : b.length = w.hs.length) (h : ∀ n ∈ w.names, w.val a n = w.val b n) : a = b := by
  apply List.ext_getElem (by rw [ha, hb])
  intro k h1 h2
  have hk : k < w.hs.length := by omega
  have e := h _ (name_at hk).2
  rw [val_hd hw a hk, val_hd hw b hk] at e
  rw [List.getD_eq_getElem?_getD, List.getD_eq_getElem?_getD, List.getElem?_eq_getElem h1, List.getElem?_eq_getElem h2] at e
  exact e
theorem alike_iff {w : Wd} {a b : Row} {ns : List Str} : w.alike a b ns = true ↔ ∀ n ∈ ns, w.val a n = w.val b n := by
  unfold Wd.alike
  simp
theorem alike_symm {w : Wd} {a b : Row} {ns : List Str} (h : w.alike a b ns = true) : w.alike b a ns = true := alike_iff.mpr fun n hn => (alike_iff.mp h n hn).symm
theorem alike_trans {w : Wd} {a b c : Row} {ns : List Str} (h : w.alike a b ns = true) (k : w.alike b c ns = true) : w.alike a c ns = true := alike_iff.mpr fun n hn => (alike_iff.mp h n hn).trans (alike_iff.mp k n hn)
theorem alike_sub {w : Wd} {a b : Row} {ns ms : List Str} (h : w.alike a b ns = true) (k : ∀ n ∈ ms, n ∈ ns) : w.alike a b ms = true := alike_iff.mpr fun n hn => alike_iff.mp h n (k n hn)
theorem safe_iff {w : Wd} {r : Row} {ns : List Str} : w.safe r ns = true ↔ ∀ o ∈ w.rows, w.alike r o ns = true → w.ans o = w.ans r := by
  unfold Wd.safe Wd.bad
  rw [Option.isNone_iff_eq_none, List.find?_eq_none]
  simp only [Bool.and_eq_true, Bool.not_eq_true', decide_eq_false_iff_not, not_and, Decidable.not_not]
theorem row_len {w : Wd} {r : Row} (h : r ∈ w.rows) : r.length = w.hs.length := Tup.len (rows_iff.mp h)
theorem names_safe {w : Wd} (hw : WOk w) {r : Row} (hr : r.length = w.hs.length) : w.safe r w.names = true := safe_iff.mpr fun o ho h => by
  rw [ext_row hw hr (row_len ho) (alike_iff.mp h)]
theorem safes_iff {w : Wd} {r : Row} {s : List Str} : s ∈ w.safes r ↔ s.Sublist w.names ∧ w.safe r s = true := by
  unfold Wd.safes
  rw [List.mem_filter, lists_iff]
theorem safes_ne {w : Wd} (hw : WOk w) {r : Row} (hr : r.length = w.hs.length) : w.safes r ≠ [] := fun e => by
  have : w.names ∈ w.safes r := safes_iff.mpr ⟨List.Sublist.refl _, names_safe hw hr⟩
  rw [e] at this
  cases this
theorem least_mem {w : Wd} (hw : WOk w) {r : Row} (hr : r.length = w.hs.length) : w.least r ∈ w.safes r := by
  unfold Wd.least
  cases e : w.safes r with
  | nil => exact absurd e (safes_ne hw hr)
  | cons x xs => exact List.mem_cons_self
end LK
end
section
set_option Elab.async false
set_option linter.all false
set_option maxRecDepth 100000
set_option maxHeartbeats 1000000
namespace LK
open PySem PySem.Spec PyProof.Rows L2 L3
def sp_World_alike (K : PySem.W.Frag) : DSp := fun ds S Q _ => ∃ (l : Nat) (w : Wd) (a b : Row) (ns : List Str), ds = [.ref l, rowD a, rowD b, rowD ns] ∧ S l = some (w.ob (cW K)) ∧ WOk w ∧ ROk w a ∧ ROk w b ∧ NsOk w ns ∧ Q (.bl (w.alike a b ns)) S
def ansD (w : Wd) (r : Row) : D := .tup [rowD r, .str (w.ans r)]
def sp__law_answers : DSp := fun ds S Q _ => ∃ w : Wd, ds = [w.d] ∧ WOk w ∧ Q (.lst (w.rows.map (ansD w))) S
def Wd.shown (w : Wd) (r : Row) (ns : List Str) (due : Str) : Option Row := w.rows.find? fun o => w.alike r o ns && !decide (w.ans o = due)
abbrev N_World_alike : List Str := ["self", "one", "other", "names", "name"]
def d_World_alike (K : PySem.W.Frag) : DS :=
  dRet (dCB bAll (aCons (dLcF (iSeq (dVar 3)) (.one 4) (dYes) (dOp oEqD (dMethSl (He.ga K "World") (sp_World_value K) noX (dVar 0) (aCons (dVar 1) (aCons (dVar 4) (aNil)))) (dMethSl (He.ga K "World") (sp_World_value K) noX (dVar 0) (aCons (dVar 2) (aCons (dVar 4) (aNil))))) [4]) (aNil)))
abbrev N__law_answers : List Str := ["_law_world_so", "_law_own"]
def d__law_answers : DS :=
  dRet (dLcF (iSeq (dCall (sp__law_requests) noX (aCons (dVar 0) (aNil)))) (.one 1) (dYes) (dTup (aCons (dVar 1) (aCons (dCall (sp__law_answer) noX (aCons (dVar 0) (aCons (dVar 1) (aNil)))) (aNil)))) [1])
theorem fm_map {α β : Type} (f : α → β) (xs : List α) : (xs.filterMap fun x => some (f x)) = xs.map f := fm_some f xs
section
variable {S : Sto} {w : Wd} {r a b : Row} {ns : List Str} {v u x : D} {Q : DK} {E : DXK}
theorem c__law_answers (hw : WOk w) (q : Q (.lst (w.rows.map (ansD w))) S) : sp__law_answers [w.d] S Q E := ⟨w, rfl, hw, q⟩
end
section
variable {K : PySem.W.Frag}
theorem v_World_alike : ∀ ds S Q E, sp_World_alike K ds S Q E → d_World_alike K (EndsD Q) (startD N_World_alike ds) S := by
  rintro ds S Q E ⟨l, w, a, b, ns, rfl, hS, hw, ha, hb, hn, q⟩
  simp only [d_World_alike, N_World_alike, rowD, dWkA, dTupK, dTupL, dTupIx, dDictP, dDc2, dFor, dWhile, dLc, dLc2, dDc, dNextG, iSeq, iR1, iR2, iEn, iZpA, iZ2, iZ3, dSortK, dSortKF, dSortSet, dSortSetF, dBreak, bSortT, bSortTF, bSum, bSumL, bSumLF, bMaxL, bMinL, dDicE, bSortD, bSortDF, dGet2, oInA, oNotInA, oIxA, gdSubA, dSeq, dSet, dIf, dIfS, dTst, dOp, dUn, dVar, dCB, aCons, aNil, aStar, dRet, dRetN, dNext, dDrop, dLst, dTup, dC, dAnd, dOr, dNot, dAndV, dOrV, dNotV, dPar, dAsg, gdName, gdSub, gdTup, gdCons, gdNil, gdSlot, dIsi, dIsi2, dSlot, dSetSlot, dMethSl, dMakeSl, dCall, dCallP, dBM, dFrz, dLstF, dLcF, dLc2F, dDcF, dSlF, dListVF, bListF, bListDF, bSortSF, oAddLF, oRepLF, dSl, dNoP, dPart, dListV, dTru, dOrT, EndsD, startD, oLtI, oLeI, oGtI, oGeI, oIx, oMulI, oPowI, oAddI, oSubI, oModI, oDivI, oI, oI0, oEqD, oNeD, oInD, oNotInD, oAddL, oAddT, oAddS, oRepL, bLen, bAbs, bInt, bMin2, bMax2, bAll, bAny, bTuple, bList, bListD, bSortS, mAppend, mPop, mPopAt, mExtend, mIndex, tupOf_lst, tupOf_ref, tupOf_tup, List.map_cons, List.map_nil, List.length_cons, List.length_nil, List.cons_append, List.nil_append, List.append_nil, List.replicate, List.set_cons_zero, List.set_cons_succ, List.getElem?_cons_zero, List.getElem?_cons_succ, Option.some.injEq, exists_eq_left', exists_eq_left, exists_and_left, D.int.injEq, D.bl.injEq, D.str.injEq, D.tup.injEq, D.lst.injEq, D.ref.injEq, List.cons.injEq, and_true, true_and, reduceCtorEq, false_and, and_false, exists_false, or_false, false_or, exists_const, Bool.false_eq_true, if_true, if_false, decide_eq_true_eq, Ob.lst.injEq, Ob.slt.injEq, Ob.dic.injEq, seqD_ref, lstD_ref, seqD_tup, seqD_lst, lstD_lst, lstR_lst, Sto.set_same, Sto.set_set, atI_0, atI_1, atI_2, Nat.reduceAdd, ixN_30, ixN_32, lstD_tup, seqD_row, List.append_assoc, false_or, or_false, cut_d1, cut_t1, sz_0, sz_1, sz_2, sz_3, sz_4, sz_5, sz_6, sz_7, sz_8, sz_9, sz_10, sz_11, sz_12]
  refine compW_fs D.str (fun n => some (.bl (decide (w.val a n = w.val b n)))) ns [] gs_tup (small_sz (by have := hn.len; simp; omega)) (fun n hm S' Py Pn s hy hnn => ?_) ?_
  · simp only [turn, Tg.d, wipeD, sp_World_value, dWkA, dTupK, dTupL, dTupIx, dDictP, dDc2, dFor, dWhile, dLc, dLc2, dDc, dNextG, iSeq, iR1, iR2, iEn, iZpA, iZ2, iZ3, dSortK, dSortKF, dSortSet, dSortSetF, dBreak, bSortT, bSortTF, bSum, bSumL, bSumLF, bMaxL, bMinL, dDicE, bSortD, bSortDF, dGet2, oInA, oNotInA, oIxA, gdSubA, dSeq, dSet, dIf, dIfS, dTst, dOp, dUn, dVar, dCB, aCons, aNil, aStar, dRet, dRetN, dNext, dDrop, dLst, dTup, dC, dAnd, dOr, dNot, dAndV, dOrV, dNotV, dPar, dAsg, gdName, gdSub, gdTup, gdCons, gdNil, gdSlot, dIsi, dIsi2, dSlot, dSetSlot, dMethSl, dMakeSl, dCall, dCallP, dBM, dFrz, dLstF, dLcF, dLc2F, dDcF, dSlF, dListVF, bListF, bListDF, bSortSF, oAddLF, oRepLF, dSl, dNoP, dPart, dListV, dTru, dOrT, EndsD, startD, oLtI, oLeI, oGtI, oGeI, oIx, oMulI, oPowI, oAddI, oSubI, oModI, oDivI, oI, oI0, oEqD, oNeD, oInD, oNotInD, oAddL, oAddT, oAddS, oRepL, bLen, bAbs, bInt, bMin2, bMax2, bAll, bAny, bTuple, bList, bListD, bSortS, mAppend, mPop, mPopAt, mExtend, mIndex, tupOf_lst, tupOf_ref, tupOf_tup, List.map_cons, List.map_nil, List.length_cons, List.length_nil, List.cons_append, List.nil_append, List.append_nil, List.replicate, List.set_cons_zero, List.set_cons_succ, List.getElem?_cons_zero, List.getElem?_cons_succ, Option.some.injEq, exists_eq_left', exists_eq_left, exists_and_left, D.int.injEq, D.bl.injEq, D.str.injEq, D.tup.injEq, D.lst.injEq, D.ref.injEq, List.cons.injEq, and_true, true_and, reduceCtorEq, false_and, and_false, exists_false, or_false, false_or, exists_const, Bool.false_eq_true, if_true, if_false, decide_eq_true_eq, Ob.lst.injEq, Ob.slt.injEq, Ob.dic.injEq, seqD_ref, lstD_ref, seqD_tup, seqD_lst, lstD_lst, lstR_lst, Sto.set_same, Sto.set_set, atI_0, atI_1, atI_2, Nat.reduceAdd, ixN_30, ixN_32, lstD_tup, seqD_row, List.append_assoc, false_or, or_false, cut_d1, cut_t1, sz_0, sz_1, sz_2, sz_3, sz_4, sz_5, sz_6, sz_7, sz_8, sz_9, sz_10, sz_11, sz_12]
    refine ⟨_, s _ _ hS, l, w, a, n, ⟨rfl, rfl, rfl⟩, s _ _ hS, hw, ha, hn.mem n hm, _, s _ _ hS, l, w, b, n, ⟨rfl, rfl, rfl⟩, s _ _ hS, hw, hb, hn.mem n hm, _, rfl, _, rfl, (shp_str (val_so ha _)).ok, (shp_str (val_so hb _)).ok, ?_⟩
    rw [eqv_str]
    exact hy _ _ rfl (Sto.sub_refl _)
  · rw [List.nil_append, fm_map]
    refine ⟨ns.map fun n => decide (w.val a n = w.val b n), by rw [List.map_map]; rfl, drp_of ?_⟩
    rw [List.all_map]
    exact q
end
theorem v__law_answers : ∀ ds S Q E, sp__law_answers ds S Q E → d__law_answers (EndsD Q) (startD N__law_answers ds) S := by
  rintro ds S Q E ⟨w, rfl, hw, q⟩
  simp only [d__law_answers, N__law_answers, sp__law_requests, dWkA, dTupK, dTupL, dTupIx, dDictP, dDc2, dFor, dWhile, dLc, dLc2, dDc, dNextG, iSeq, iR1, iR2, iEn, iZpA, iZ2, iZ3, dSortK, dSortKF, dSortSet, dSortSetF, dBreak, bSortT, bSortTF, bSum, bSumL, bSumLF, bMaxL, bMinL, dDicE, bSortD, bSortDF, dGet2, oInA, oNotInA, oIxA, gdSubA, dSeq, dSet, dIf, dIfS, dTst, dOp, dUn, dVar, dCB, aCons, aNil, aStar, dRet, dRetN, dNext, dDrop, dLst, dTup, dC, dAnd, dOr, dNot, dAndV, dOrV, dNotV, dPar, dAsg, gdName, gdSub, gdTup, gdCons, gdNil, gdSlot, dIsi, dIsi2, dSlot, dSetSlot, dMethSl, dMakeSl, dCall, dCallP, dBM, dFrz, dLstF, dLcF, dLc2F, dDcF, dSlF, dListVF, bListF, bListDF, bSortSF, oAddLF, oRepLF, dSl, dNoP, dPart, dListV, dTru, dOrT, EndsD, startD, oLtI, oLeI, oGtI, oGeI, oIx, oMulI, oPowI, oAddI, oSubI, oModI, oDivI, oI, oI0, oEqD, oNeD, oInD, oNotInD, oAddL, oAddT, oAddS, oRepL, bLen, bAbs, bInt, bMin2, bMax2, bAll, bAny, bTuple, bList, bListD, bSortS, mAppend, mPop, mPopAt, mExtend, mIndex, tupOf_lst, tupOf_ref, tupOf_tup, List.map_cons, List.map_nil, List.length_cons, List.length_nil, List.cons_append, List.nil_append, List.append_nil, List.replicate, List.set_cons_zero, List.set_cons_succ, List.getElem?_cons_zero, List.getElem?_cons_succ, Option.some.injEq, exists_eq_left', exists_eq_left, exists_and_left, D.int.injEq, D.bl.injEq, D.str.injEq, D.tup.injEq, D.lst.injEq, D.ref.injEq, List.cons.injEq, and_true, true_and, reduceCtorEq, false_and, and_false, exists_false, or_false, false_or, exists_const, Bool.false_eq_true, if_true, if_false, decide_eq_true_eq, Ob.lst.injEq, Ob.slt.injEq, Ob.dic.injEq, seqD_ref, lstD_ref, seqD_tup, seqD_lst, lstD_lst, lstR_lst, Sto.set_same, Sto.set_set, atI_0, atI_1, atI_2, Nat.reduceAdd, ixN_30, ixN_32, lstD_tup, seqD_row, List.append_assoc, false_or, or_false, cut_d1, cut_t1, sz_0, sz_1, sz_2, sz_3, sz_4, sz_5, sz_6, sz_7, sz_8, sz_9, sz_10, sz_11, sz_12]
  refine ⟨w, rfl, hw, ?_⟩
  refine compW_fs rowD (fun r => some (ansD w r)) w.rows [] gs_lst (small_sz (by have := rows_sz hw; simp; omega)) (fun r hr S' Py Pn s hy hnn => ?_) ?_
  · simp only [turn, Tg.d, wipeD, sp__law_answer, dWkA, dTupK, dTupL, dTupIx, dDictP, dDc2, dFor, dWhile, dLc, dLc2, dDc, dNextG, iSeq, iR1, iR2, iEn, iZpA, iZ2, iZ3, dSortK, dSortKF, dSortSet, dSortSetF, dBreak, bSortT, bSortTF, bSum, bSumL, bSumLF, bMaxL, bMinL, dDicE, bSortD, bSortDF, dGet2, oInA, oNotInA, oIxA, gdSubA, dSeq, dSet, dIf, dIfS, dTst, dOp, dUn, dVar, dCB, aCons, aNil, aStar, dRet, dRetN, dNext, dDrop, dLst, dTup, dC, dAnd, dOr, dNot, dAndV, dOrV, dNotV, dPar, dAsg, gdName, gdSub, gdTup, gdCons, gdNil, gdSlot, dIsi, dIsi2, dSlot, dSetSlot, dMethSl, dMakeSl, dCall, dCallP, dBM, dFrz, dLstF, dLcF, dLc2F, dDcF, dSlF, dListVF, bListF, bListDF, bSortSF, oAddLF, oRepLF, dSl, dNoP, dPart, dListV, dTru, dOrT, EndsD, startD, oLtI, oLeI, oGtI, oGeI, oIx, oMulI, oPowI, oAddI, oSubI, oModI, oDivI, oI, oI0, oEqD, oNeD, oInD, oNotInD, oAddL, oAddT, oAddS, oRepL, bLen, bAbs, bInt, bMin2, bMax2, bAll, bAny, bTuple, bList, bListD, bSortS, mAppend, mPop, mPopAt, mExtend, mIndex, tupOf_lst, tupOf_ref, tupOf_tup, List.map_cons, List.map_nil, List.length_cons, List.length_nil, List.cons_append, List.nil_append, List.append_nil, List.replicate, List.set_cons_zero, List.set_cons_succ, List.getElem?_cons_zero, List.getElem?_cons_succ, Option.some.injEq, exists_eq_left', exists_eq_left, exists_and_left, D.int.injEq, D.bl.injEq, D.str.injEq, D.tup.injEq, D.lst.injEq, D.ref.injEq, List.cons.injEq, and_true, true_and, reduceCtorEq, false_and, and_false, exists_false, or_false, false_or, exists_const, Bool.false_eq_true, if_true, if_false, decide_eq_true_eq, Ob.lst.injEq, Ob.slt.injEq, Ob.dic.injEq, seqD_ref, lstD_ref, seqD_tup, seqD_lst, lstD_lst, lstR_lst, Sto.set_same, Sto.set_set, atI_0, atI_1, atI_2, Nat.reduceAdd, ixN_30, ixN_32, lstD_tup, seqD_row, List.append_assoc, false_or, or_false, cut_d1, cut_t1, sz_0, sz_1, sz_2, sz_3, sz_4, sz_5, sz_6, sz_7, sz_8, sz_9, sz_10, sz_11, sz_12]
    exact ⟨w, r, ⟨rfl, rfl⟩, hw, rows_ok hw hr, hy _ _ rfl (Sto.sub_refl _)⟩
  · rw [List.nil_append, fm_map]
    exact drp_of q
theorem shp_i (i : Int) : Shp (.int i) 0 := ⟨by first | rfl | simp [PyData.canLay0], Nat.le_refl _⟩
theorem find_first {α : Type} {p : α → Bool} {a : α} : ∀ {xs : List α} {i : Nat}, xs[i]? = some a → (∀ x ∈ xs.take i, p x = false) → p a = true → xs.find? p = some a
  | [], i, h, _, _ => by simp at h
  | x :: xs, 0, h, _, k => by
    simp at h
    rw [List.find?_cons, h, k]
  | x :: xs, i + 1, h, h2, k => by
    rw [List.find?_cons, h2 x (by simp)]
    exact find_first (i := i) (by simpa using h) (fun y hy => h2 y (by simp [hy])) k
theorem find_none {α : Type} {p : α → Bool} {xs : List α} (h : ∀ x ∈ xs, p x = false) : xs.find? p = none := by
  rw [List.find?_eq_none]
  intro x hx
  rw [h x hx]; decide
end LK
end
section
set_option Elab.async false
set_option linter.all false
set_option maxRecDepth 100000
set_option maxHeartbeats 1000000
namespace LK
open PySem PySem.Spec PyProof.Rows L2 L3
section
variable {S : Sto} {w : Wd} {r a b : Row} {ns : List Str} {v u x : D} {Q : DK} {E : DXK} {l : Nat} {c : Int}
theorem c__law_of {es : List D} (hv : ∀ o, seqD (S.set l o) v = some es) (hv0 : seqD S v = some es) (hne : es ≠ []) (hz : es.length < 1000) (hB : Bx S l c) (hc : c ≤ 2 ^ 40)
    (q : ∀ e S1, e ∈ es → Fr l S S1 → Bx S1 l (c + 1) → (∀ m, S1 m = none → S m = none) → Q e S1) : sp__law_of [.ref l, v] S Q E :=
  ⟨l, v, es, c, rfl, hv, hv0, hne, hz, hB, hc, fun e o he hO => q e _ he Fr.refl.box (Bx.of hO) fun m hm => by
    obtain ⟨ob, hob, _⟩ := hB
    by_cases k : m = l
    · rw [k, Sto.set_same] at hm; cases hm
    · rw [Sto.set_ne k] at hm; exact hm⟩
theorem c__law_of_lst {es : List D} (hne : es ≠ []) (hz : es.length < 1000) (hB : Bx S l c) (hc : c ≤ 2 ^ 40)
    (q : ∀ e S1, e ∈ es → Fr l S S1 → Bx S1 l (c + 1) → (∀ m, S1 m = none → S m = none) → Q e S1) : sp__law_of [.ref l, .lst es] S Q E :=
  c__law_of (fun _ => rfl) rfl hne hz hB hc q
theorem c__law_of_tup {es : List D} (hne : es ≠ []) (hz : es.length < 1000) (hB : Bx S l c) (hc : c ≤ 2 ^ 40)
    (q : ∀ e S1, e ∈ es → Fr l S S1 → Bx S1 l (c + 1) → (∀ m, S1 m = none → S m = none) → Q e S1) : sp__law_of [.ref l, .tup es] S Q E :=
  c__law_of (fun _ => rfl) rfl hne hz hB hc q
theorem c__law_take {m : Int} (h0 : 0 < m) (h1 : m < 2 ^ 30) (hB : Bx S l c) (hc : c ≤ 2 ^ 40)
    (q : ∀ i S1, 0 ≤ i → i < m → Fr l S S1 → Bx S1 l (c + 1) → (∀ m, S1 m = none → S m = none) → Q (.int i) S1) : sp__law_take [.ref l, .int m] S Q E :=
  ⟨l, m, c, rfl, h0, h1, hB, hc, fun i o a b hO => q i _ a b Fr.refl.box (Bx.of hO) fun m hm => by
    by_cases k : m = l
    · rw [k, Sto.set_same] at hm; cases hm
    · rw [Sto.set_ne k] at hm; exact hm⟩
structure Drawn (w : Wd) : Prop extends WS w where
  h2 : 2 ≤ w.hs.length
  ne : ∀ h ∈ w.hs, h.2 ≠ []
  r2 : 2 ≤ w.rs.length
  x : WX w
theorem c__law_world {ss : List Int} (h2 : 2 ≤ ss.length) (h4 : ss.length ≤ 4) (hs : ∀ s ∈ ss, 1 ≤ s ∧ s ≤ 3) (hB : Bx S l c) (hc : c ≤ 2 ^ 38)
    (q : ∀ w S1, Drawn w → Fr l S S1 → Bx S1 l (c + 1000000) → (∀ m, S1 m = none → S m = none) → Q w.d S1) : sp__law_world [.ref l, .lst (ss.map .int)] S Q E :=
  ⟨l, _, ss, c, rfl, fun _ => rfl, h4, hs, hB, hc, fun w o hw hx hl hne hr hO => q w _ { hw with h2 := by omega, ne := hne, r2 := hr, x := hx } Fr.refl.box (Bx.of hO) fun m hm => by
    by_cases k : m = l
    · rw [k, Sto.set_same] at hm; cases hm
    · rw [Sto.set_ne k] at hm; exact hm⟩
theorem c_world_of {sizes : List (List Int)} (hs : (sizes.all fun ss => decide (2 ≤ ss.length) && (decide (ss.length ≤ 4) && ss.all fun s => decide (1 ≤ s) && decide (s ≤ 3))) = true) (hne : sizes ≠ []) (hz : sizes.length < 1000) (hB : Bx S l c) (hc : c ≤ 2 ^ 37)
    (q : ∀ w S1, Drawn w → Fr l S S1 → Bx S1 l (c + 1000001) → (∀ m, S1 m = none → S m = none) → Q w.d S1) : sp__law_of [.ref l, .lst (sizes.map fun ss => .lst (ss.map .int))] S (fun e S' => sp__law_world [.ref l, e] S' Q E) E := by
  refine c__law_of_lst (by simpa using hne) (by simpa using hz) hB (by omega) fun e S1 he hf hB1 hn1 => ?_
  obtain ⟨ss, hss, rfl⟩ := List.mem_map.mp he
  have h := List.all_eq_true.mp hs ss hss
  simp only [Bool.and_eq_true, decide_eq_true_eq, List.all_eq_true] at h
  exact c__law_world h.1 h.2.1 h.2.2 hB1 (by omega) fun w S2 hw hf2 hB2 hn2 => q w S2 hw (hf.trans hf2) (hB2.mono (by omega)) fun m hm => hn1 m (hn2 m hm)
theorem c__law_names (hw : WOk w) (q : Q (.lst (w.names.map .str)) S) : sp__law_names [w.d] S Q E := ⟨w, rfl, hw, q⟩
theorem c__law_same {n : Nat} {g d : D} (h : sameP n S g d) (q : Q (.bl true) S) : sp__law_same n [g, d] S Q E := ⟨g, d, rfl, h, q⟩
end
theorem tyB_at {S : Sto} {l : Nat} {ds : List D} (h : S l = some (.lst ds)) : tyB S "list" (.ref l) := .inl ⟨rfl, ds, by show (match S l with | some (.lst ds) => some ds | _ => none) = some ds; rw [h]⟩
theorem tyB_new {S : Sto} {l : Nat} {ds : List D} : tyB (S.set l (.lst ds)) "list" (.ref l) := tyB_at Sto.set_same
theorem rows_ne {w : Wd} : w.rows ≠ [] := by
  have h : ∀ (hs : List Head) (rs : List Row), rs ≠ [] → hs.foldl grow rs ≠ [] := by
    intro hs
    induction hs with
    | nil => intro rs h; exact h
    | cons h hs ih =>
      intro rs hr
      rw [List.foldl_cons]
      refine ih _ ?_
      cases rs with
      | nil => exact absurd rfl hr
      | cons r rs => rw [grow_cons]; simp
  exact h w.hs [[]] (by simp)
theorem Bx.sub {S S' : Sto} {l : Nat} {c : Int} (h : Bx S l c) (s : S.sub S') : Bx S' l c := let ⟨o, e, k⟩ := h; ⟨o, s _ _ e, k⟩
theorem cut_mem {α : Type} {xs : List α} {lo hi : Option Int} {x : α} (h : x ∈ L3.cutD xs lo hi) : x ∈ xs := by
  unfold L3.cutD at h
  exact List.mem_of_mem_drop (List.mem_of_mem_take h)
theorem rows_len3 : ∀ (hs : List Head) (rs : List Row), (∀ h ∈ hs, h.2.length ≤ 3) → (hs.foldl grow rs).length ≤ rs.length * 4 ^ hs.length
  | [], rs, _ => by simp
  | h :: hs, rs, k => by
    rw [List.foldl_cons]
    have h1 := rows_len3 hs (grow rs h) fun x hx => k x (List.mem_cons_of_mem _ hx)
    have h2 : (grow rs h).length ≤ rs.length * 4 := by
      have h3 := k h List.mem_cons_self
      induction rs with
      | nil => simp [grow]
      | cons r rs ih =>
        rw [grow_cons, List.length_append, List.length_map, List.length_cons, List.length_cons]
        have := ih (by exact rows_len3 hs (grow rs h) fun x hx => k x (List.mem_cons_of_mem _ hx))
        omega
    rw [List.length_cons, Nat.pow_succ]
    calc _ ≤ (grow rs h).length * 4 ^ hs.length := h1
      _ ≤ rs.length * 4 * 4 ^ hs.length := Nat.mul_le_mul_right _ h2
      _ = _ := by rw [Nat.mul_assoc, Nat.mul_comm 4]
theorem rows_256 {w : Wd} (hw : WS w) : w.rows.length ≤ 256 := by
  have h := rows_len3 w.hs [[]] hw.v3
  have h2 : (4 : Nat) ^ w.hs.length ≤ 4 ^ 4 := Nat.pow_le_pow_right (by decide) hw.h4
  show (w.hs.foldl grow [[]]).length ≤ 256
  simp at h
  omega
theorem same_list {α : Type} {f : α → D} {n : Nat} {S : Sto} {g : D} {xs : List α} (hz : xs.length ≤ 16777216) (hg : lstD S g = some (xs.map f)) (ht : tyD S g = some "list") (h : ∀ x ∈ xs, sameP n S (f x) (f x)) : sameP (n + 1) S g (.lst (xs.map f)) := by
  refine ⟨small_sz (by rw [List.length_map]; exact hz), xs.map f, hg, ht, rfl, fun p hp => ?_⟩
  rw [List.zip_eq_zipWith, List.zipWith_map, List.zipWith_self] at hp
  obtain ⟨x, hx, rfl⟩ := List.mem_map.mp hp
  exact h x hx
theorem lstD_set {S : Sto} {m : Nat} {ds : List D} (h : S m = some (.lst ds)) : lstD S (.ref m) = some ds := by rw [lstD_ref, h]
theorem tyD_set {S : Sto} {m : Nat} {ds : List D} (h : S m = some (.lst ds)) : tyD S (.ref m) = some "list" := by
  show (match S m with | some (.lst _) => some "list" | some (.dic _ _) => some "dict" | _ => none) = some "list"
  rw [h]
theorem same_lref {α : Type} {f : α → D} {n : Nat} {S : Sto} {m : Nat} {xs : List α} (hm : S m = some (.lst (xs.map f))) (hz : xs.length ≤ 16777216) (h : ∀ x ∈ xs, sameP n S (f x) (f x)) : sameP (n + 1) S (.ref m) (.lst (xs.map f)) :=
  same_list hz (lstD_set hm) (tyD_set hm) h
theorem same_opt {w : Wd} {n : Nat} {S : Sto} {o : Option Row} (hw : WOk w) (h : ∀ r, o = some r → ROk w r) : sameP (n + 2) S (optD o) (optD o) := by
  cases o with
  | none => exact rfl
  | some r => exact same_row (by have := (h r rfl).len; have := hw.hl; omega) (h r rfl).so
end LK
end
section
set_option Elab.async false
set_option linter.all false
set_option maxRecDepth 100000
set_option maxHeartbeats 1000000
namespace LK
open PySem PySem.Spec PyProof.Rows L2 L3
def sp__law_lists_b (n : Nat) : DSp := fun ds S Q _ => ∃ v w, ds = [v] ∧ lisO n v = some w ∧ ((∃ zs, w = .lst zs ∧ ∀ m, S m = none → Q (.ref m) (S.set m (.lst zs))) ∨ ((∀ zs, w ≠ .lst zs) ∧ Q w S))
abbrev N__law_lists_b : List Str := ["_law_matter_so", "_law_bit"]
def d__law_lists_b (n : Nat) : DS :=
  dRet (dIf (dTst (dIsi2 "list" "tuple" (dVar 0))) (dLc (iSeq (dVar 0)) (.one 1) (dYes) (dFrzA (dCall (sp__law_lists_b n) noX (aCons (dVar 1) (aNil)))) [1]) (dVar 0))
theorem v0__law_lists_b : ∀ ds S Q E, sp__law_lists_b 0 ds S Q E → False := by
  rintro ds S Q E ⟨v, w, rfl, h, q⟩
  cases h
theorem lists_seqb {n : Nat} {S : Sto} {v : D} {ds ws : List D} {Q : DK} (hs : seqD S v = some ds) (ok : (gsOf v (.lst ds)).ok S) (ty : tyD S v = some "list" ∨ tyD S v = some "tuple") (hz : ds.length ≤ sizeLine) (hm : mapO (lisO n) ds = some ws) (q : ∀ m, S m = none → Q (.ref m) (S.set m (.lst ws))) :
    d__law_lists_b n (EndsD Q) (startD N__law_lists_b [v]) S := by
  obtain ⟨m1, m2, m3⟩ := mapO_some hm
  simp only [d__law_lists_b, N__law_lists_b, hs, dWkA, dTupK, dTupL, dTupIx, dDictP, dDc2, dFor, dWhile, dLc, dLc2, dDc, dNextG, iSeq, iR1, iR2, iEn, iZpA, iZ2, iZ3, dSortK, dSortKF, dSortSet, dSortSetF, dBreak, bSortT, bSortTF, bSum, bSumL, bSumLF, bMaxL, bMinL, dDicE, bSortD, bSortDF, dGet2, oInA, oNotInA, oIxA, gdSubA, dSeq, dSet, dIf, dIfS, dTst, dOp, dUn, dVar, dCB, aCons, aNil, aStar, dRet, dRetN, dNext, dDrop, dLst, dTup, dC, dAnd, dOr, dNot, dAndV, dOrV, dNotV, dPar, dAsg, gdName, gdSub, gdTup, gdCons, gdNil, gdSlot, dIsi, dIsi2, dSlot, dSetSlot, dMethSl, dMakeSl, dCall, dCallP, dBM, dFrz, dLstF, dLcF, dLc2F, dDcF, dSlF, dListVF, bListF, bListDF, bSortSF, oAddLF, oRepLF, dSl, dNoP, dPart, dListV, dTru, dOrT, EndsD, startD, oLtI, oLeI, oGtI, oGeI, oIx, oMulI, oPowI, oAddI, oSubI, oModI, oDivI, oI, oI0, oEqD, oNeD, oInD, oNotInD, oAddL, oAddT, oAddS, oRepL, bLen, bAbs, bInt, bMin2, bMax2, bAll, bAny, bTuple, bList, bListD, bSortS, mAppend, mPop, mPopAt, mExtend, mIndex, dFld, dSetFld, dAddFld, gdFld, dMeth, dMake, dPar3, dRevT, oAddTK, dSortSetT, dSortSetTF, gdLst, gdAll, dRevL, dRevLF, dYes, dFrzA, oNegI, tupOf_lst, tupOf_ref, tupOf_tup, List.map_cons, List.map_nil, List.length_cons, List.length_nil, List.cons_append, List.nil_append, List.append_nil, List.replicate, List.set_cons_zero, List.set_cons_succ, List.getElem?_cons_zero, List.getElem?_cons_succ, Option.some.injEq, exists_eq_left', exists_eq_left, exists_and_left, D.int.injEq, D.bl.injEq, D.str.injEq, D.tup.injEq, D.lst.injEq, D.ref.injEq, List.cons.injEq, and_true, true_and, reduceCtorEq, false_and, and_false, exists_false, or_false, false_or, exists_const, Bool.false_eq_true, if_true, if_false, decide_eq_true_eq, Ob.lst.injEq, Ob.slt.injEq, Ob.dic.injEq, seqD_ref, lstD_ref, seqD_tup, seqD_lst, lstD_lst, lstR_lst, Sto.set_same, Sto.set_set, atI_0, atI_1, atI_2, Nat.reduceAdd, ixN_30, ixN_32]
  obtain ⟨T, eT, hT⟩ : ∃ T, tyD S v = some T ∧ (isK T "list" || isK T "tuple") = true := by
    rcases ty with e | e
    · exact ⟨_, e, by decide⟩
    · exact ⟨_, e, by decide⟩
  refine ⟨T, eT, ?_⟩
  rw [if_pos hT]
  refine compW_by (lisO n) ds [] ok (by simpa using hz) (fun d hd S' Py Pn s hy hn => ?_) ?_
  · obtain ⟨y, ey⟩ := m1 d hd
    simp only [turn, Tg.d, wipeD, dYes, dWkA, dTupK, dTupL, dTupIx, dDictP, dDc2, dFor, dWhile, dLc, dLc2, dDc, dNextG, iSeq, iR1, iR2, iEn, iZpA, iZ2, iZ3, dSortK, dSortKF, dSortSet, dSortSetF, dBreak, bSortT, bSortTF, bSum, bSumL, bSumLF, bMaxL, bMinL, dDicE, bSortD, bSortDF, dGet2, oInA, oNotInA, oIxA, gdSubA, dSeq, dSet, dIf, dIfS, dTst, dOp, dUn, dVar, dCB, aCons, aNil, aStar, dRet, dRetN, dNext, dDrop, dLst, dTup, dC, dAnd, dOr, dNot, dAndV, dOrV, dNotV, dPar, dAsg, gdName, gdSub, gdTup, gdCons, gdNil, gdSlot, dIsi, dIsi2, dSlot, dSetSlot, dMethSl, dMakeSl, dCall, dCallP, dBM, dFrz, dLstF, dLcF, dLc2F, dDcF, dSlF, dListVF, bListF, bListDF, bSortSF, oAddLF, oRepLF, dSl, dNoP, dPart, dListV, dTru, dOrT, EndsD, startD, oLtI, oLeI, oGtI, oGeI, oIx, oMulI, oPowI, oAddI, oSubI, oModI, oDivI, oI, oI0, oEqD, oNeD, oInD, oNotInD, oAddL, oAddT, oAddS, oRepL, bLen, bAbs, bInt, bMin2, bMax2, bAll, bAny, bTuple, bList, bListD, bSortS, mAppend, mPop, mPopAt, mExtend, mIndex, dFld, dSetFld, dAddFld, gdFld, dMeth, dMake, dPar3, dRevT, oAddTK, dSortSetT, dSortSetTF, gdLst, gdAll, dRevL, dRevLF, dYes, dFrzA, oNegI, tupOf_lst, tupOf_ref, tupOf_tup, List.map_cons, List.map_nil, List.length_cons, List.length_nil, List.cons_append, List.nil_append, List.append_nil, List.replicate, List.set_cons_zero, List.set_cons_succ, List.getElem?_cons_zero, List.getElem?_cons_succ, Option.some.injEq, exists_eq_left', exists_eq_left, exists_and_left, D.int.injEq, D.bl.injEq, D.str.injEq, D.tup.injEq, D.lst.injEq, D.ref.injEq, List.cons.injEq, and_true, true_and, reduceCtorEq, false_and, and_false, exists_false, or_false, false_or, exists_const, Bool.false_eq_true, if_true, if_false, decide_eq_true_eq, Ob.lst.injEq, Ob.slt.injEq, Ob.dic.injEq, seqD_ref, lstD_ref, seqD_tup, seqD_lst, lstD_lst, lstR_lst, Sto.set_same, Sto.set_set, atI_0, atI_1, atI_2, Nat.reduceAdd, ixN_30, ixN_32]
    refine ⟨d, y, rfl, ey, ?_⟩
    have hy := hy y ey
    cases y with
    | lst zs => exact .inl ⟨zs, rfl, fun m hm => .inl ⟨m, rfl, _, Sto.set_same, _, rfl, by rw [Sto.del_set hm]; exact hy⟩⟩
    | _ => exact .inr ⟨fun zs => by simp, .inr hy⟩
  · rw [List.nil_append, m2]
    exact fun l hl => drp_of (q l hl)
theorem v__law_lists_b {n : Nat} : ∀ ds S Q E, sp__law_lists_b (n + 1) ds S Q E → d__law_lists_b n (EndsD Q) (startD N__law_lists_b ds) S := by
  rintro ds S Q E ⟨v, w, rfl, h, q⟩
  have atom : ∀ {T}, tyD S v = some T → (isK T "list" || isK T "tuple") = false → w = v → (∀ zs, w ≠ .lst zs) → d__law_lists_b n (EndsD Q) (startD N__law_lists_b [v]) S := fun {T} e hT ew hne => by
    subst ew
    rcases q with ⟨zs, ez, _⟩ | ⟨_, q⟩
    · exact absurd ez (hne zs)
    simp only [d__law_lists_b, N__law_lists_b, dWkA, dTupK, dTupL, dTupIx, dDictP, dDc2, dFor, dWhile, dLc, dLc2, dDc, dNextG, iSeq, iR1, iR2, iEn, iZpA, iZ2, iZ3, dSortK, dSortKF, dSortSet, dSortSetF, dBreak, bSortT, bSortTF, bSum, bSumL, bSumLF, bMaxL, bMinL, dDicE, bSortD, bSortDF, dGet2, oInA, oNotInA, oIxA, gdSubA, dSeq, dSet, dIf, dIfS, dTst, dOp, dUn, dVar, dCB, aCons, aNil, aStar, dRet, dRetN, dNext, dDrop, dLst, dTup, dC, dAnd, dOr, dNot, dAndV, dOrV, dNotV, dPar, dAsg, gdName, gdSub, gdTup, gdCons, gdNil, gdSlot, dIsi, dIsi2, dSlot, dSetSlot, dMethSl, dMakeSl, dCall, dCallP, dBM, dFrz, dLstF, dLcF, dLc2F, dDcF, dSlF, dListVF, bListF, bListDF, bSortSF, oAddLF, oRepLF, dSl, dNoP, dPart, dListV, dTru, dOrT, EndsD, startD, oLtI, oLeI, oGtI, oGeI, oIx, oMulI, oPowI, oAddI, oSubI, oModI, oDivI, oI, oI0, oEqD, oNeD, oInD, oNotInD, oAddL, oAddT, oAddS, oRepL, bLen, bAbs, bInt, bMin2, bMax2, bAll, bAny, bTuple, bList, bListD, bSortS, mAppend, mPop, mPopAt, mExtend, mIndex, dFld, dSetFld, dAddFld, gdFld, dMeth, dMake, dPar3, dRevT, oAddTK, dSortSetT, dSortSetTF, gdLst, gdAll, dRevL, dRevLF, dYes, dFrzA, oNegI, tupOf_lst, tupOf_ref, tupOf_tup, List.map_cons, List.map_nil, List.length_cons, List.length_nil, List.cons_append, List.nil_append, List.append_nil, List.replicate, List.set_cons_zero, List.set_cons_succ, List.getElem?_cons_zero, List.getElem?_cons_succ, Option.some.injEq, exists_eq_left', exists_eq_left, exists_and_left, D.int.injEq, D.bl.injEq, D.str.injEq, D.tup.injEq, D.lst.injEq, D.ref.injEq, List.cons.injEq, and_true, true_and, reduceCtorEq, false_and, and_false, exists_false, or_false, false_or, exists_const, Bool.false_eq_true, if_true, if_false, decide_eq_true_eq, Ob.lst.injEq, Ob.slt.injEq, Ob.dic.injEq, seqD_ref, lstD_ref, seqD_tup, seqD_lst, lstD_lst, lstR_lst, Sto.set_same, Sto.set_set, atI_0, atI_1, atI_2, Nat.reduceAdd, ixN_30, ixN_32]
    refine ⟨T, e, ?_⟩
    rw [hT, if_neg Bool.false_ne_true]
    exact drp_of q
  have lsq : ∀ {ws}, w = .lst ws → ∀ m, S m = none → Q (.ref m) (S.set m (.lst ws)) := fun {ws} e => by
    rcases q with ⟨zs, ez, q⟩ | ⟨hne, _⟩
    · rw [e] at ez
      cases ez
      exact q
    · exact absurd e (hne ws)
  cases v with
  | non => cases h; exact atom rfl (by decide) rfl (by simp)
  | bl b => cases h; exact atom rfl (by decide) rfl (by simp)
  | int i => cases h; exact atom rfl (by decide) rfl (by simp)
  | str x => cases h; exact atom rfl (by decide) rfl (by simp)
  | tup ds =>
    obtain ⟨hz, h⟩ := if_some (show (if ds.length ≤ sizeLine then (mapO (lisO n) ds).map D.lst else none) = some w from h)
    obtain ⟨ws, e, rfl⟩ := map_some h
    exact lists_seqb rfl gs_tup (.inr rfl) hz e (lsq rfl)
  | lst ds =>
    obtain ⟨hz, h⟩ := if_some (show (if ds.length ≤ sizeLine then (mapO (lisO n) ds).map D.lst else none) = some w from h)
    obtain ⟨ws, e, rfl⟩ := map_some h
    exact lists_seqb rfl gs_lst (.inl rfl) hz e (lsq rfl)
  | _ => cases h
end LK
end
section
set_option Elab.async false
set_option linter.all false
set_option maxRecDepth 100000
set_option maxHeartbeats 1000000
namespace LK
open PySem PySem.Spec PyProof.Rows L2 L3
abbrev Hand := List (Str × List Str)
def pairD (p : Str × List Str) : D := .tup [.str p.1, rowD p.2]
def handD (h : Hand) : D := .tup (h.map pairD)
def handGet (h : Hand) (a : Str) : List Str := ((h.find? fun p => decide (p.1 = a)).map (·.2)).getD []
structure IsHand (S : Sto) (v : D) (h : Hand) : Prop where
  top : topO S 8 v = some (handD h)
  py : ∃ ps, pyR S v = some (.tuple ps) ∧ SeqAt.shaped (.tuple ps) = true ∨ pyR S v = some (.list ps) ∧ SeqAt.shaped (.list ps) = true
  nd : (h.map (·.1)).Nodup
  len : h.length ≤ 1000
inductive Told (S : Sto) (w : Wd) (r : Row) : D → List Str → Prop
  | looked : Up w → Told S w r (.str "looked") (w.looked r)
  | fitted : Up w → Told S w r (.str "fitted") (w.fitted r)
  | every : Told S w r (.str "every") w.names
  | least : Told S w r (.str "least") (w.least r)
  | hand {v h} : IsHand S v h → Told S w r v (handGet h (w.ans r))
theorem pyR_mono {S S' : Sto} {v : D} {p : PyData} (h : pyR S v = some p) (s : S.sub S') : pyR S' v = some p := by
  cases v with
  | ref l =>
    have h' : (match S l with
      | some (.lst ds) => (pyDs ds).map PyData.list
      | _ => none) = some p := h
    show (match S' l with
      | some (.lst ds) => (pyDs ds).map PyData.list
      | _ => none) = some p
    cases e : S l with
    | none => rw [e] at h'; cases h'
    | some o => rw [s _ _ e]; rw [e] at h'; exact h'
  | _ => exact h
theorem IsHand.mono {S S' : Sto} {v : D} {h : Hand} (x : IsHand S v h) (s : S.sub S') : IsHand S' v h :=
  ⟨topO_mono x.top s, let ⟨ps, e⟩ := x.py; ⟨ps, e.imp (fun e => ⟨pyR_mono e.1 s, e.2⟩) fun e => ⟨pyR_mono e.1 s, e.2⟩⟩, x.nd, x.len⟩
theorem Told.mono {S S' : Sto} {w : Wd} {r : Row} {v : D} {ys : List Str} (x : Told S w r v ys) (s : S.sub S') : Told S' w r v ys := by
  cases x with
  | looked h => exact .looked h
  | fitted h => exact .fitted h
  | every => exact .every
  | least => exact .least
  | hand h => exact .hand (h.mono s)
section
variable {K : PySem.W.Frag}
end
end LK
end
section
set_option Elab.async false
set_option linter.all false
set_option maxRecDepth 100000
set_option maxHeartbeats 1000000
namespace LK
open PySem PySem.Spec PyProof.Rows L2 L3
end LK
end
section
set_option Elab.async false
set_option linter.all false
set_option maxRecDepth 100000
set_option maxHeartbeats 1000000
namespace LK
open PySem PySem.Spec PyProof.Rows L2 L3
abbrev Cp := Row × List Str × Str
def copyD (c : Cp) : D := .tup [rowD c.1, rowD c.2.1, .str c.2.2]
structure Sd where
  kind : Str
  L : D
  lst : Row → List Str
  cps : List Cp
  n : Int
abbrev cS (K : PySem.W.Frag) : Addr := He.ga K "Store"
def stF : List Str := ["own_world", "own_kind", "own_lister", "own_copies", "own_fetched"]
structure Lis (w : Wd) (L : D) (lst : Row → List Str) : Prop where
  told : ∀ S r, ROk w r → Told S w r L (lst r)
  ns : ∀ r, ROk w r → NsOk w (lst r)
  len : ∀ r, ROk w r → (lst r).length ≤ 63
structure CpOk (w : Wd) (c : Cp) : Prop where
  row : ROk w c.1
  ns : NsOk w c.2.1
  len : c.2.1.length ≤ 63
  so : PyData.strOk c.2.2 = true
structure SdOk (w : Wd) (s : Sd) : Prop where
  kd : PyData.strOk s.kind = true
  km : s.kind ∈ (["own", "first", "last", "all"] : List Str)
  li : Lis w s.L s.lst
  cp : ∀ c ∈ s.cps, CpOk w c
  len : s.cps.length ≤ 500
  up : w.names.Pairwise slt
structure HasSt (K : PySem.W.Frag) (S : Sto) (l lw lc : Nat) (w : Wd) (s : Sd) : Prop where
  ob : S l = some (.ins (cS K) stF [.ref lw, .str s.kind, s.L, .ref lc, .int s.n])
  wd : S lw = some (w.ob (cW K))
  cp : S lc = some (.lst (s.cps.map copyD))
def Fr2 (l lc : Nat) (S S' : Sto) : Prop := ∀ m o, m ≠ l → m ≠ lc → S m = some o → S' m = some o
def Sd.lists (s : Sd) : List (List Str) := if s.kind = "first" then (s.cps.map (·.2.1)).take 1 else if s.kind = "last" then L3.cutD (s.cps.map (·.2.1)) (some (-1)) none else s.cps.map (·.2.1)
def Sd.key (w : Wd) (s : Sd) : Option (List Str) := if s.kind = "own" then none else some (w.names.filter fun n => decide (n ∈ s.lists.flatten))
def Sd.found (w : Wd) (s : Sd) (r : Row) : Option Cp := s.cps.foldl (fun h c => if w.alike r c.1 ((s.key w).getD c.2.1) = true then some c else h) none
def Sd.ask (w : Wd) (s : Sd) (r : Row) : Str × Bool × Sd := match s.found w r with
  | some c => (c.2.2, true, s)
  | none => (w.ans r, false, { s with cps := s.cps ++ [(r, s.lst r, w.ans r)], n := s.n + 1 })
section
variable {α : Type} (a b c d e : α)
end
section
variable {K : PySem.W.Frag}
theorem HasSt.sub {S S' : Sto} {l lw lc : Nat} {w : Wd} {s : Sd} (h : HasSt K S l lw lc w s) (k : S.sub S') : HasSt K S' l lw lc w s := ⟨k _ _ h.ob, k _ _ h.wd, k _ _ h.cp⟩
theorem HasSt.ne {S : Sto} {l lw lc : Nat} {w : Wd} {s : Sd} (h : HasSt K S l lw lc w s) : lw ≠ l ∧ lc ≠ l ∧ lc ≠ lw := by
  refine ⟨fun e => ?_, fun e => ?_, fun e => ?_⟩
  · have := h.wd; rw [e, h.ob] at this; cases this
  · have := h.cp; rw [e, h.ob] at this; cases this
  · have := h.cp; rw [e, h.wd] at this; cases this
end
end LK
end
section
set_option Elab.async false
set_option linter.all false
set_option maxRecDepth 100000
set_option maxHeartbeats 1000000
namespace LK
open PySem PySem.Spec PyProof.Rows L2 L3
theorem ws_up {w : Wd} (h : WS w) : Up w := { h with
  r9 := Nat.le_trans h.r9 (by decide)
  t64 := fun x hx => by
    have h1 := nd_len (h.tnd x hx) h.nd fun n hn => by
      obtain ⟨t, ht, rfl⟩ := List.mem_map.mp hn
      exact h.tn x hx t ht
    have h2 := names_len h.toWOk
    rw [List.length_map] at h1
    omega }
theorem lnLe_len {a b : List Str} (h : lnLe a b = true) : a.length ≤ b.length := by
  have h' : (!PySem.W.dataLt (lnK b) (lnK a)) = true := h
  unfold lnK at h'
  rw [PySem.W.dataLt_tuple, PySem.W.dataLt_cons (by simp [PySem.W.alike])] at h'
  by_cases e : (b.length : Int) = a.length
  · omega
  · rw [if_neg (by simpa [PyData.eqv] using e), PySem.W.dataLt_int] at h'
    simp at h'
    omega
theorem looked_sub (w : Wd) (r : Row) : (w.looked r).Sublist w.names := List.filter_sublist
theorem looked_ns {w : Wd} (hw : WOk w) (r : Row) : NsOk w (w.looked r) := ⟨fun n hn => (looked_sub w r).subset hn, by have := (looked_ok hw r).1; omega⟩
end LK
end
section
set_option Elab.async false
set_option linter.all false
set_option maxRecDepth 100000
set_option maxHeartbeats 1000000
namespace LK
open PySem PySem.Spec PyProof.Rows L2 L3
structure HandOk (w : Wd) (h : Hand) : Prop where
  nd : (h.map (·.1)).Nodup
  len : h.length ≤ 6
  so : ∀ p ∈ h, PyData.strOk p.1 = true
  ns : ∀ p ∈ h, NsOk w p.2
theorem c_pick_strs {S : Sto} {l : Nat} {c : Int} {Q : DK} {E : DXK} {k : Int} {v : D} {xs : List Str} (hv : seqD S v = some (xs.map .str)) (hz : xs.length ≤ 1000) (hk : 0 ≤ k ∧ k < 2 ^ 30) (hB : Bx S l c) (hc : c ≤ 2 ^ 39)
    (q : ∀ (ps zs : List Str) (m : Nat) S1, (ps ++ zs).Perm xs → Fr l S S1 → Bx S1 l (c + 1000) → S1 m = some (.lst (ps.map .str)) → m ≠ l → S m = none → Q (.ref m) S1) : sp__law_pick [.ref l, v, .int k] S Q E := by
  refine ⟨l, v, xs.map .str, k, c, rfl, hv, by rw [List.length_map]; omega, hk.1, hk.2, hB, hc, fun ps rest o m hp hlen hO hm hne => ?_⟩
  obtain ⟨ys, zs, rfl, hyz⟩ := perm_back D.str dS dS_str hp
  exact q ys zs m _ hyz (Fr.refl.box.put hm) ⟨o, by rw [Sto.set_ne (Ne.symm hne)]; exact Sto.set_same, hO⟩ Sto.set_same hne hm
end LK
end
section
set_option Elab.async false
set_option linter.all false
set_option maxRecDepth 100000
set_option maxHeartbeats 1000000
namespace LK
open PySem PySem.Spec PyProof.Rows L2 L3
theorem list_range {α : Type} (xs : List α) (d : α) : xs = (List.range xs.length).map fun k => xs.getD k d := by
  refine List.ext_getElem (by simp) fun i h1 h2 => ?_
  rw [List.getElem_map, List.getElem_range, List.getD_eq_getElem?_getD, List.getElem?_eq_getElem h1]
  rfl
section
variable {S : Sto} {w : Wd} {r : Row} {v u : D} {l k : Nat} {Q : DK} {E : DXK} {K : PySem.W.Frag}
end
section
variable {K : PySem.W.Frag}
end
end LK
end
section
set_option Elab.async false
set_option linter.all false
set_option maxRecDepth 100000
set_option maxHeartbeats 1000000
namespace LK
open PySem PySem.Spec PyProof.Rows L2 L3
section
variable {S : Sto} {w : Wd} {r : Row} {Q : DK} {E : DXK}
end
end LK
end
section
set_option Elab.async false
set_option linter.all false
set_option maxRecDepth 100000
set_option maxHeartbeats 1000000
namespace LK
open PySem PySem.Spec PyProof.Rows L2 L3
theorem same_str {S : Sto} {n : Nat} {x : Str} (h : PyData.strOk x = true) : sameP (n + 1) S (.str x) (.str x) := ⟨rfl, h⟩
theorem same_tup {α : Type} {f : α → D} {n : Nat} {S : Sto} {xs : List α} (hz : xs.length ≤ 16777216) (h : ∀ x ∈ xs, sameP n S (f x) (f x)) : sameP (n + 1) S (.tup (xs.map f)) (.tup (xs.map f)) := by
  refine ⟨small_sz (by rw [List.length_map]; exact hz), xs.map f, rfl, rfl, fun p hp => ?_⟩
  rw [List.zip_eq_zipWith, List.zipWith_map, List.zipWith_self] at hp
  obtain ⟨r, hr, rfl⟩ := List.mem_map.mp hp
  exact h r hr
theorem same_strs {S : Sto} {n : Nat} {r : List Str} (h : r.length ≤ 1000) (hs : ∀ v ∈ r, PyData.strOk v = true) : sameP (n + 2) S (.tup (r.map .str)) (.tup (r.map .str)) := same_tup (by omega) fun x hx => same_str (hs x hx)
section
variable {S : Sto} {w : Wd} {l : Nat} {c : Int} {Q : DK} {E : DXK}
end
end LK
end
section
set_option Elab.async false
set_option linter.all false
set_option maxRecDepth 100000
set_option maxHeartbeats 1000000
namespace LK
open PySem PySem.Spec PyProof.Rows L2 L3
end LK
end
section
set_option Elab.async false
set_option linter.all false
set_option maxRecDepth 100000
set_option maxHeartbeats 1000000
namespace LK
open PySem PySem.Spec PyProof.Rows L2 L3
def Sd.given (w : Wd) (s : Sd) (r : Row) : List Cp := s.cps.filter fun c => w.alike r c.1 ((s.key w).getD c.2.1)
def LkOf (w : Wd) (L : D) (lst : Row → List Str) : Prop := (L = .str "looked" ∧ lst = w.looked) ∨ (L = .str "fitted" ∧ lst = w.fitted) ∨ (L = .str "least" ∧ lst = w.least) ∨ (L = .str "every" ∧ lst = fun _ => w.names) ∨
  ∃ h : Hand, L = handD h ∧ (lst = fun r => handGet h (w.ans r)) ∧ HandOk w h ∧ ∀ p ∈ h, p.2.length ≤ 63
theorem found_given (w : Wd) (s : Sd) (r : Row) : s.found w r = (s.given w r).getLast? := by
  unfold Sd.found Sd.given
  have : ∀ (cs : List Cp) (h : Option Cp) (p : Cp → Bool), cs.foldl (fun h c => if p c = true then some c else h) h = ((cs.filter p).getLast?).or h := by
    intro cs
    induction cs with
    | nil => intro h p; rfl
    | cons c cs ih =>
      intro h p
      rw [List.foldl_cons, ih, List.filter_cons]
      cases e : p c with
      | false => rw [if_neg Bool.false_ne_true, if_neg Bool.false_ne_true]
      | true =>
        rw [if_pos rfl, if_pos rfl, List.getLast?_cons]
        cases (cs.filter p).getLast? <;> rfl
  rw [this s.cps none fun c => w.alike r c.1 ((s.key w).getD c.2.1)]
  cases (s.cps.filter fun c => w.alike r c.1 ((s.key w).getD c.2.1)).getLast? <;> rfl
end LK
end
section
set_option Elab.async false
set_option linter.all false
set_option maxRecDepth 100000
set_option maxHeartbeats 1000000
namespace LK
open PySem PySem.Spec PyProof.Rows L2 L3
def s0 (kind : Str) (L : D) (lst : Row → List Str) : Sd := ⟨kind, L, lst, [], 0⟩
theorem same_cp {S : Sto} {n : Nat} {w : Wd} {c : Cp} (hw : WOk w) (h : CpOk w c) : sameP (n + 3) S (copyD c) (copyD c) :=
  same_tup (f := fun d : D => d) (xs := [rowD c.1, rowD c.2.1, .str c.2.2]) (by show 3 ≤ 16777216; decide) fun x hx => by
    simp only [List.mem_cons, List.not_mem_nil, or_false] at hx
    rcases hx with rfl | rfl | rfl
    · exact same_strs (by have := h.row.len; have := hw.hl; omega) h.row.so
    · exact same_strs (by have := h.len; omega) fun v hv => names_so hw (h.ns.mem v hv)
    · exact same_str h.so
theorem own_key {w : Wd} {s : Sd} (h : s.kind = "own") : s.key w = none := if_pos h
end LK
end
section
set_option Elab.async false
set_option linter.all false
set_option maxRecDepth 100000
set_option maxHeartbeats 1000000
namespace LK
open PySem PySem.Spec PyProof.Rows L2 L3
end LK
end
section
set_option Elab.async false
set_option linter.all false
set_option maxRecDepth 100000
set_option maxHeartbeats 1000000
namespace LK
open PySem PySem.Spec PyProof.Rows L2 L3
def Sd.purge (w : Wd) (s : Sd) (n v : Str) : Sd := { s with cps := s.cps.filter fun c => !decide (w.val c.1 n = v) }
section
variable {K : PySem.W.Frag}
end
end LK
end
section
set_option Elab.async false
set_option linter.all false
set_option maxRecDepth 100000
set_option maxHeartbeats 1000000
namespace LK
open PySem PySem.Spec PyProof.Rows L2 L3
theorem slt_tri {a b : Str} (h : ¬ slt a b) (k : ¬ slt b a) : a = b := by
  have e : a.cps.toList = b.cps.toList := List.le_antisymm (List.not_lt.mp k) (List.not_lt.mp h)
  cases a; cases b
  simp only at e
  rw [Str.mk.injEq]
  exact Array.ext' e
theorem strs_anti : ∀ {a b : List Str}, a.length = b.length → PySem.W.dataLt (.tuple (a.map .str)) (.tuple (b.map .str)) = false → PySem.W.dataLt (.tuple (b.map .str)) (.tuple (a.map .str)) = false → a = b
  | [], [], _, _, _ => rfl
  | [], _ :: _, z, _, _ => by simp at z
  | _ :: _, [], z, _, _ => by simp at z
  | x :: xs, y :: ys, z, h, k => by
    rw [List.map_cons, List.map_cons, PySem.W.dataLt_tuple, PySem.W.dataLt_cons (by simp [PySem.W.alike])] at h k
    by_cases e : x = y
    · subst e
      rw [if_pos (by simp [PyData.eqv])] at h k
      rw [strs_anti (a := xs) (b := ys) (by simpa using z) (by rw [PySem.W.dataLt_tuple]; exact h) (by rw [PySem.W.dataLt_tuple]; exact k)]
    · rw [if_neg (by simpa [PyData.eqv] using e), PySem.W.dataLt_str] at h
      rw [if_neg (by simpa [PyData.eqv] using Ne.symm e), PySem.W.dataLt_str] at k
      exact absurd (slt_tri (of_decide_eq_false h) (of_decide_eq_false k)) e
theorem lnLe_anti {a b : List Str} (h : lnLe a b = true) (k : lnLe b a = true) : a = b := by
  have z : a.length = b.length := Nat.le_antisymm (lnLe_len h) (lnLe_len k)
  have h' : PySem.W.dataLt (lnK b) (lnK a) = false := by
    have : (!PySem.W.dataLt (lnK b) (lnK a)) = true := h
    simpa using this
  have k' : PySem.W.dataLt (lnK a) (lnK b) = false := by
    have : (!PySem.W.dataLt (lnK a) (lnK b)) = true := k
    simpa using this
  have ez : PyData.eqv (.int (a.length : Int)) (.int (b.length : Int)) = true := by rw [z]; simp [PyData.eqv]
  have ez' : PyData.eqv (.int (b.length : Int)) (.int (a.length : Int)) = true := by rw [z]; simp [PyData.eqv]
  unfold lnK at h' k'
  rw [PySem.W.dataLt_pair (by simp [PySem.W.alike]) (by simp [PySem.W.alike, alike_strs]), if_pos ez'] at h'
  rw [PySem.W.dataLt_pair (by simp [PySem.W.alike]) (by simp [PySem.W.alike, alike_strs]), if_pos ez] at k'
  by_cases e : PyData.eqv (PyData.tuple (a.map .str)) (.tuple (b.map .str)) = true
  · rw [eqv_row] at e
    exact of_decide_eq_true e
  · have e' : ¬ PyData.eqv (PyData.tuple (b.map .str)) (.tuple (a.map .str)) = true := fun q => e (by
      rw [eqv_row] at q ⊢
      rw [of_decide_eq_true q]
      exact decide_eq_true rfl)
    rw [if_neg e'] at h'
    rw [if_neg e] at k'
    exact strs_anti z k' h'
theorem lists_pw (w : Wd) : w.lists.Pairwise fun a b => lnLe a b = true := PySem.W.sort_pairwise (PySem.W.sortLe_total _ false _) (subs w.names)
theorem lnLe_refl (a : List Str) : lnLe a a = true := by
  rcases (PySem.W.sortLe_total _ false _ : PySem.W.TotalLe lnLe).total a a with h | h <;> exact h
theorem least_le {w : Wd} {r : Row} {s : List Str} (h : s ∈ w.safes r) : lnLe (w.least r) s = true := by
  have hp : (w.safes r).Pairwise fun a b => lnLe a b = true := (lists_pw w).sublist List.filter_sublist
  unfold Wd.least
  cases e : w.safes r with
  | nil => rw [e] at h; cases h
  | cons x xs =>
    rw [e] at h hp
    rcases List.mem_cons.mp h with rfl | h
    · exact lnLe_refl _
    · exact (List.pairwise_cons.mp hp).1 _ h
theorem least_eq {w : Wd} (hw : WOk w) {r : Row} (hr : r.length = w.hs.length) {s : List Str} (h : s ∈ w.safes r) (k : ∀ t ∈ w.safes r, lnLe s t = true) : w.least r = s :=
  lnLe_anti (least_le h) (k _ (least_mem hw hr))

structure More (w w2 : Wd) (A B : List Head) (h : Head) : Prop where
  e1 : w.hs = A ++ B
  e2 : w2.hs = A ++ h :: B
  er : w2.rs = w.rs
  ok : WOk w
  ok2 : WOk w2
def cutR (k : Nat) (r : Row) : Row := r.take k ++ r.drop (k + 1)
def insR (k : Nat) (v : Str) (r : Row) : Row := r.take k ++ v :: r.drop k
theorem cut_ins {k : Nat} {v : Str} {r : Row} (h : k ≤ r.length) : cutR k (insR k v r) = r := by
  unfold cutR insR
  have hk : (r.take k).length = k := by rw [List.length_take]; omega
  rw [List.take_append_of_le_length (by omega), List.take_of_length_le (by omega), List.drop_append, List.drop_eq_nil_of_le (by omega), hk, show k + 1 - k = 1 by omega]
  simp
theorem Tup.append : ∀ {A B : List Head} {r : Row}, Tup (A ++ B) r ↔ Tup A (r.take A.length) ∧ Tup B (r.drop A.length) ∧ A.length ≤ r.length
  | [], B, r => by simp [Tup]
  | a :: A, B, [] => by simp [Tup]
  | a :: A, B, v :: r => by
    show (v ∈ ("" : Str) :: a.2 ∧ Tup (A ++ B) r) ↔ (v ∈ ("" : Str) :: a.2 ∧ Tup A (r.take A.length)) ∧ Tup B (r.drop A.length) ∧ A.length + 1 ≤ r.length + 1
    rw [Tup.append (A := A)]
    constructor
    · rintro ⟨h1, h2, h3, h4⟩; exact ⟨⟨h1, h2⟩, h3, by omega⟩
    · rintro ⟨⟨h1, h2⟩, h3, h4⟩; exact ⟨h1, h2, h3, by omega⟩
theorem idx_in {l m : List Str} {a : Str} (h : a ∈ l) : (l ++ m).idxOf a = l.idxOf a := by rw [List.idxOf_append, if_pos h]
theorem idx_cons {l : List Str} {a b : Str} (h : a ≠ b) : (b :: l).idxOf a = l.idxOf a + 1 := by
  rw [List.idxOf_cons, beq_eq_false_iff_ne.mpr (Ne.symm h)]; rfl
theorem idx_out {l m : List Str} {a : Str} (h : a ∉ l) : (l ++ m).idxOf a = m.idxOf a + l.length := by rw [List.idxOf_append, if_neg h]
theorem getD_left {l m : List Str} {i : Nat} (h : i < l.length) : (l ++ m).getD i "" = l.getD i "" := by
  rw [List.getD_eq_getElem?_getD, List.getD_eq_getElem?_getD, List.getElem?_append_left h]
theorem getD_right {l m : List Str} {i : Nat} (h : l.length ≤ i) : (l ++ m).getD i "" = m.getD (i - l.length) "" := by
  rw [List.getD_eq_getElem?_getD, List.getD_eq_getElem?_getD, List.getElem?_append_right h]
section
variable {w w2 : Wd} {A B : List Head} {h : Head}
theorem More.nm (m : More w w2 A B h) : w.names = A.map (·.1) ++ B.map (·.1) := by unfold Wd.names; rw [m.e1, List.map_append]
theorem More.nm2 (m : More w w2 A B h) : w2.names = A.map (·.1) ++ h.1 :: B.map (·.1) := by unfold Wd.names; rw [m.e2, List.map_append]; rfl
theorem More.not (m : More w w2 A B h) : h.1 ∉ w.names := by
  have := m.ok2.nd
  rw [m.nm2, List.nodup_append] at this
  rw [m.nm]
  intro hh
  rcases List.mem_append.mp hh with q | q
  · exact this.2.2 _ q _ List.mem_cons_self rfl
  · exact (List.nodup_cons.mp this.2.1).1 q
theorem More.sub (m : More w w2 A B h) : w.names.Sublist w2.names := by
  rw [m.nm, m.nm2]
  exact (List.Sublist.refl _).append (List.sublist_cons_self _ _)
theorem More.rest (m : More w w2 A B h) : w2.names.filter (fun n => !decide (n = h.1)) = w.names := by
  have hn := m.not
  rw [m.nm] at hn
  rw [m.nm2, m.nm, List.filter_append, List.filter_cons, if_neg (by simp)]
  have : ∀ l : List Str, h.1 ∉ l → l.filter (fun n => !decide (n = h.1)) = l := fun l hl => List.filter_eq_self.mpr fun a ha => by
    have : a ≠ h.1 := fun e => hl (e ▸ ha)
    simp [this]
  rw [this _ fun q => hn (List.mem_append_left _ q), this _ fun q => hn (List.mem_append_right _ q)]
theorem More.len2 (m : More w w2 A B h) {r : Row} (hr : r.length = w2.hs.length) : r.length = A.length + 1 + B.length ∧ (cutR A.length r).length = w.hs.length := by
  rw [m.e2] at hr
  rw [m.e1]
  unfold cutR
  simp at hr ⊢
  omega
theorem More.val (m : More w w2 A B h) {r : Row} (hr : r.length = w2.hs.length) {n : Str} (hn : n ∈ w.names) : w2.val r n = w.val (cutR A.length r) n := by
  have hne : n ≠ h.1 := fun e => m.not (e ▸ hn)
  have hl := (m.len2 hr).1
  unfold Wd.val
  rw [m.nm] at hn
  rw [m.nm, m.nm2]
  have ht : (r.take A.length).length = A.length := by rw [List.length_take]; omega
  have hA : (A.map (·.1)).length = A.length := List.length_map _
  by_cases hA' : n ∈ A.map (·.1)
  · rw [idx_in hA', idx_in hA']
    have : (A.map (·.1)).idxOf n < A.length := by rw [← hA]; exact List.idxOf_lt_length_iff.mpr hA'
    unfold cutR
    rw [getD_left (by omega), List.getD_eq_getElem?_getD, List.getD_eq_getElem?_getD, List.getElem?_take_of_lt this]
  · rw [idx_out hA', idx_out hA', idx_cons hne, hA]
    unfold cutR
    rw [getD_right (by omega), ht, List.getD_eq_getElem?_getD, List.getD_eq_getElem?_getD, List.getElem?_drop]
    congr 2
    omega
theorem More.cut_row (m : More w w2 A B h) {r : Row} (hr : r ∈ w2.rows) : cutR A.length r ∈ w.rows := by
  have hl := row_len hr
  have hl2 := (m.len2 hl).1
  rw [rows_iff, m.e2, Tup.append] at hr
  rw [rows_iff, m.e1, Tup.append]
  unfold cutR
  have ht : (r.take A.length).length = A.length := by rw [List.length_take]; omega
  rw [List.take_append_of_le_length (by omega), List.take_of_length_le (by omega), List.drop_append, List.drop_eq_nil_of_le (by omega), ht, Nat.sub_self, List.nil_append, List.drop_zero]
  refine ⟨hr.1, ?_, by simp; omega⟩
  have h2 := hr.2.1
  cases e : r.drop A.length with
  | nil => rw [e] at h2; exact h2.elim
  | cons v t =>
    rw [e] at h2
    have : r.drop (A.length + 1) = t := by rw [← List.drop_drop, e]; rfl
    rw [this]
    exact h2.2
theorem More.ins_row (m : More w w2 A B h) {r : Row} {v : Str} (hr : r ∈ w.rows) (hv : v ∈ ("" : Str) :: h.2) : insR A.length v r ∈ w2.rows := by
  rw [rows_iff, m.e1, Tup.append] at hr
  rw [rows_iff, m.e2, Tup.append]
  unfold insR
  have ht : (r.take A.length).length = A.length := by rw [List.length_take]; omega
  rw [List.take_append_of_le_length (by omega), List.take_of_length_le (by omega), List.drop_append, List.drop_eq_nil_of_le (by omega), ht, Nat.sub_self, List.nil_append, List.drop_zero]
  exact ⟨hr.1, ⟨hv, hr.2.1⟩, by simp; omega⟩
theorem More.cut_len (m : More w w2 A B h) {r : Row} (hr : r ∈ w.rows) : A.length ≤ r.length := by
  rw [rows_iff, m.e1, Tup.append] at hr
  exact hr.2.2
theorem More.fits (m : More w w2 A B h) {r : Row} (hr : r.length = w2.hs.length) {ts : List (Str × Str)} (ht : ∀ t ∈ ts, t.1 ∈ w.names) : w2.fits r ts = w.fits (cutR A.length r) ts := by
  unfold Wd.fits
  induction ts with
  | nil => rfl
  | cons t ts ih =>
    rw [List.all_cons, List.all_cons, ih fun x hx => ht x (List.mem_cons_of_mem _ hx), m.val hr (ht t List.mem_cons_self)]
theorem More.rsel (m : More w w2 A B h) {r : Row} (hr : r.length = w2.hs.length) : (w2.rs.filter fun x : Rule => w2.fits r x.1) = w.rs.filter fun x : Rule => w.fits (cutR A.length r) x.1 := by
  rw [m.er]
  exact List.filter_congr fun x hx => m.fits hr (m.ok.tn x hx)
theorem More.ans (m : More w w2 A B h) {r : Row} (hr : r.length = w2.hs.length) : w2.ans r = w.ans (cutR A.length r) := by
  unfold Wd.ans
  rw [m.rsel hr]
theorem More.fitted (m : More w w2 A B h) {r : Row} (hr : r.length = w2.hs.length) : w2.fitted r = w.fitted (cutR A.length r) := by
  unfold Wd.fitted
  rw [m.rsel hr]
theorem More.lookT (m : More w w2 A B h) {r : Row} (hr : r.length = w2.hs.length) : ∀ {ts : List (Str × Str)}, (∀ t ∈ ts, t.1 ∈ w.names) → w2.lookT r ts = w.lookT (cutR A.length r) ts
  | [], _ => rfl
  | t :: ts, ht => by
    unfold Wd.lookT
    rw [m.val hr (ht t List.mem_cons_self), m.lookT hr fun x hx => ht x (List.mem_cons_of_mem _ hx)]
theorem More.lookR (m : More w w2 A B h) {r : Row} (hr : r.length = w2.hs.length) : ∀ {xs : List Rule}, (∀ x ∈ xs, ∀ t ∈ x.1, t.1 ∈ w.names) → w2.lookR r xs = w.lookR (cutR A.length r) xs
  | [], _ => rfl
  | x :: xs, ht => by
    unfold Wd.lookR
    rw [m.lookT hr (ht x List.mem_cons_self), m.fits hr (ht x List.mem_cons_self), m.lookR hr fun y hy => ht y (List.mem_cons_of_mem _ hy)]
theorem More.pick (m : More w w2 A B h) {xs : List Str} (hx : ∀ n ∈ xs, n ∈ w.names) : (w2.names.filter fun n => decide (n ∈ xs)) = w.names.filter fun n => decide (n ∈ xs) := by
  rw [← m.rest, List.filter_filter]
  refine List.filter_congr fun n _ => ?_
  by_cases e : n ∈ xs
  · have : n ≠ h.1 := fun q => m.not (q ▸ hx n e)
    simp [e, this]
  · simp [e]
theorem More.looked (m : More w w2 A B h) {r : Row} (hr : r.length = w2.hs.length) : w2.looked r = w.looked (cutR A.length r) := by
  unfold Wd.looked
  rw [m.er, m.lookR hr m.ok.tn]
  exact m.pick fun n hn => lookR_names m.ok hn
theorem More.alike (m : More w w2 A B h) {a b : Row} (ha : a.length = w2.hs.length) (hb : b.length = w2.hs.length) {ns : List Str} (hn : ∀ n ∈ ns, n ∈ w.names) : w2.alike a b ns = w.alike (cutR A.length a) (cutR A.length b) ns := by
  unfold Wd.alike
  induction ns with
  | nil => rfl
  | cons n ns ih => rw [List.all_cons, List.all_cons, ih fun x hx => hn x (List.mem_cons_of_mem _ hx), m.val ha (hn n List.mem_cons_self), m.val hb (hn n List.mem_cons_self)]
theorem More.safe (m : More w w2 A B h) {r : Row} (hr : r ∈ w2.rows) {ns : List Str} (hn : ∀ n ∈ ns, n ∈ w.names) : w2.safe r ns = true ↔ w.safe (cutR A.length r) ns = true := by
  have hl := row_len hr
  rw [safe_iff, safe_iff]
  constructor
  · intro k o ho ha
    have ho2 := m.ins_row ho (v := "") List.mem_cons_self
    have e := cut_ins (v := "") (m.cut_len ho)
    have := k _ ho2 (by rw [m.alike hl (row_len ho2) hn, e]; exact ha)
    rw [m.ans (row_len ho2), m.ans hl, e] at this
    exact this
  · intro k o ho ha
    rw [m.ans (row_len ho), m.ans hl]
    exact k _ (m.cut_row ho) (by rw [← m.alike hl (row_len ho) hn]; exact ha)
theorem More.drop (m : More w w2 A B h) {r : Row} (hr : r ∈ w2.rows) {ns : List Str} (hn : ns.Sublist w2.names) (hs : w2.safe r ns = true) : w2.safe r (ns.filter fun n => !decide (n = h.1)) = true := by
  have hl := row_len hr
  have hmem : ∀ n ∈ ns.filter (fun n => !decide (n = h.1)), n ∈ w.names := fun n hn' => by
    rw [← m.rest]
    obtain ⟨h1, h2⟩ := List.mem_filter.mp hn'
    exact List.mem_filter.mpr ⟨hn.subset h1, h2⟩
  rw [m.safe hr hmem, safe_iff]
  intro o ho ha
  -- the other row, with r's own value of the new header
  have hv : r.getD A.length "" ∈ ("" : Str) :: h.2 := by
    have := (rows_iff.mp hr).get (k := A.length) (by rw [m.e2]; simp)
    rw [m.e2] at this
    simpa using this
  have ho2 := m.ins_row ho hv
  have e := cut_ins (v := r.getD A.length "") (m.cut_len ho)
  have hl2 := (m.len2 hl).1
  have := safe_iff.mp hs _ ho2 (alike_iff.mpr fun n hn' => by
    by_cases en : n = h.1
    · subst en
      unfold Wd.val
      have hi : w2.names.idxOf h.1 = A.length := by
        rw [m.nm2, idx_out (fun q => m.not (by rw [m.nm]; exact List.mem_append_left _ q)), List.idxOf_cons_self, List.length_map]
        exact Nat.zero_add _
      rw [hi]
      unfold insR
      have ht : (o.take A.length).length = A.length := by have := m.cut_len ho; rw [List.length_take]; omega
      rw [getD_right (by omega), ht, Nat.sub_self]
      rfl
    · have hn2 : n ∈ ns.filter fun n => !decide (n = h.1) := List.mem_filter.mpr ⟨hn', by simp [en]⟩
      rw [m.val hl (hmem n hn2), m.val (row_len ho2) (hmem n hn2), e]
      exact alike_iff.mp ha n hn2)
  rw [m.ans (row_len ho2), m.ans hl, e] at this
  exact this
theorem More.least (m : More w w2 A B h) {r : Row} (hr : r ∈ w2.rows) : w2.least r = w.least (cutR A.length r) := by
  have hl := row_len hr
  have hl1 := (m.len2 hl).2
  have h1 := safes_iff.mp (least_mem m.ok hl1)
  refine least_eq m.ok2 hl (safes_iff.mpr ⟨h1.1.trans m.sub, (m.safe hr fun n hn => h1.1.subset hn).mpr h1.2⟩) fun t ht => ?_
  obtain ⟨t1, t2⟩ := safes_iff.mp ht
  have hs : (t.filter fun n => !decide (n = h.1)) ∈ w.safes (cutR A.length r) := by
    have hsub : (t.filter fun n => !decide (n = h.1)).Sublist w.names := by rw [← m.rest]; exact t1.filter _
    exact safes_iff.mpr ⟨hsub, (m.safe hr fun n hn => hsub.subset hn).mp (m.drop hr t1 t2)⟩
  have hle := least_le hs
  by_cases e : h.1 ∈ t
  · -- shorter
    have hlt : (t.filter fun n => !decide (n = h.1)).length < t.length := by
      rcases Nat.lt_or_ge (t.filter fun n => !decide (n = h.1)).length t.length with q | q
      · exact q
      · have := List.filter_sublist.eq_of_length_le q
        rw [← this] at e
        simp at e
    rcases (PySem.W.sortLe_total _ false _ : PySem.W.TotalLe lnLe).total (w.least (cutR A.length r)) t with q | q
    · exact q
    · have q1 := lnLe_len q
      have q2 := lnLe_len hle
      omega
  · have : (t.filter fun n => !decide (n = h.1)) = t := List.filter_eq_self.mpr fun a ha => by
      have : a ≠ h.1 := fun q => e (q ▸ ha)
      simp [this]
    rw [this] at hle
    exact hle
structure Beside (w w2 : Wd) (k : Nat) (s s2 : Sd) : Prop where
  kd : s2.kind = s.kind
  n : s2.n = s.n
  cp : s2.cps.map (fun c => (cutR k c.1, c.2)) = s.cps
  row : ∀ c ∈ s2.cps, c.1.length = w2.hs.length
  ns : ∀ c ∈ s2.cps, ∀ n ∈ c.2.1, n ∈ w.names
theorem Beside.lists {k : Nat} {s s2 : Sd} (b : Beside w w2 k s s2) : s2.lists = s.lists := by
  have e : s.cps.map (·.2.1) = s2.cps.map (·.2.1) := by rw [← b.cp, List.map_map]; rfl
  unfold Sd.lists
  rw [e, b.kd]
theorem Beside.lists_in {k : Nat} {s s2 : Sd} (b : Beside w w2 k s s2) : ∀ x ∈ s2.lists, ∀ n ∈ x, n ∈ w.names := fun x hx => by
  have h0 : ∀ x ∈ s2.cps.map (·.2.1), ∀ n ∈ x, n ∈ w.names := fun x hx => by
    obtain ⟨c, hc, rfl⟩ := List.mem_map.mp hx
    exact b.ns c hc
  unfold Sd.lists at hx
  split at hx
  · exact h0 x (List.mem_of_mem_take hx)
  · split at hx
    · exact h0 x (cut_mem hx)
    · exact h0 x hx
theorem Beside.key (m : More w w2 A B h) {s s2 : Sd} (b : Beside w w2 A.length s s2) : s2.key w2 = s.key w := by
  unfold Sd.key
  rw [b.kd, b.lists]
  by_cases e : s.kind = "own"
  · rw [if_pos e, if_pos e]
  · rw [if_neg e, if_neg e, m.pick fun n hn => ?_]
    obtain ⟨x, hx, hn⟩ := List.mem_flatten.mp hn
    rw [← b.lists] at hx
    exact b.lists_in x hx n hn
theorem key_in {w : Wd} {s : Sd} {ns : List Str} (e : s.key w = some ns) : ∀ n ∈ ns, n ∈ w.names := by
  unfold Sd.key at e
  by_cases q : s.kind = "own"
  · rw [if_pos q] at e; cases e
  · rw [if_neg q] at e
    cases e
    exact fun n hn => (List.mem_filter.mp hn).1
theorem Beside.given (m : More w w2 A B h) {s s2 : Sd} (b : Beside w w2 A.length s s2) {r : Row} (hr : r.length = w2.hs.length) : (s2.given w2 r).map (fun c => (cutR A.length c.1, c.2)) = s.given w (cutR A.length r) := by
  unfold Sd.given
  rw [← b.cp, List.filter_map, b.key m]
  congr 1
  refine List.filter_congr fun c hc => ?_
  show _ = w.alike (cutR A.length r) (cutR A.length c.1) ((s.key w).getD c.2.1)
  refine m.alike hr (b.row c hc) ?_
  cases e : s.key w with
  | none => exact b.ns c hc
  | some ns => exact key_in e
theorem Beside.ask (m : More w w2 A B h) {s s2 : Sd} (b : Beside w w2 A.length s s2) {r : Row} (hr : r.length = w2.hs.length) (hl : s2.lst r = s.lst (cutR A.length r)) (hn : ∀ n ∈ s.lst (cutR A.length r), n ∈ w.names) :
    (s2.ask w2 r).1 = (s.ask w (cutR A.length r)).1 ∧ (s2.ask w2 r).2.1 = (s.ask w (cutR A.length r)).2.1 ∧ Beside w w2 A.length (s.ask w (cutR A.length r)).2.2 (s2.ask w2 r).2.2 := by
  have hg := congrArg List.getLast? (b.given m hr)
  rw [List.getLast?_map, ← found_given, ← found_given] at hg
  unfold Sd.ask
  cases e2 : s2.found w2 r with
  | some c2 =>
    rw [e2] at hg
    rw [← hg]
    exact ⟨rfl, rfl, b⟩
  | none =>
    rw [e2] at hg
    rw [← hg]
    refine ⟨m.ans hr, rfl, b.kd, by show s2.n + 1 = s.n + 1; rw [b.n], ?_, fun c hc => ?_, fun c hc => ?_⟩
    · show (s2.cps ++ [(r, s2.lst r, w2.ans r)]).map (fun c => (cutR A.length c.1, c.2)) = s.cps ++ [(cutR A.length r, s.lst (cutR A.length r), w.ans (cutR A.length r))]
      rw [List.map_append, b.cp, List.map_cons, List.map_nil, hl, m.ans hr]
    · rcases List.mem_append.mp hc with hc | hc
      · exact b.row c hc
      · rw [List.mem_singleton.mp hc]; exact hr
    · rcases List.mem_append.mp hc with hc | hc
      · exact b.ns c hc
      · rw [List.mem_singleton.mp hc]
        show ∀ n ∈ s2.lst r, n ∈ w.names
        rw [hl]; exact hn
theorem Beside.purge (m : More w w2 A B h) {s s2 : Sd} (b : Beside w w2 A.length s s2) {n v : Str} (hn : n ∈ w.names) :
    (s2.purge w2 n v).cps.length = (s.purge w n v).cps.length ∧ s2.cps.length = s.cps.length ∧ Beside w w2 A.length (s.purge w n v) (s2.purge w2 n v) := by
  have e : (s2.cps.filter fun c => !decide (w2.val c.1 n = v)).map (fun c => (cutR A.length c.1, c.2)) = s.cps.filter fun c => !decide (w.val c.1 n = v) := by
    rw [← b.cp, List.filter_map]
    congr 1
    exact List.filter_congr fun c hc => by
      show (!decide (w2.val c.1 n = v)) = (!decide (w.val (cutR A.length c.1) n = v))
      rw [m.val (b.row c hc) hn]
  refine ⟨?_, ?_, b.kd, b.n, e, fun c hc => b.row c (List.mem_filter.mp hc).1, fun c hc => b.ns c (List.mem_filter.mp hc).1⟩
  · have := congrArg List.length e
    rw [List.length_map] at this
    exact this
  · have := congrArg List.length b.cp
    rw [List.length_map] at this
    exact this
end
end LK
end
section
set_option Elab.async false
set_option linter.all false
set_option maxRecDepth 100000
set_option maxHeartbeats 1000000
namespace LK
open PySem PySem.Spec PyProof.Rows L2 L3
structure Sk where
  l : Nat
  lw : Nat
  lc : Nat
  w : Wd
  s : Sd
structure Fam (K : PySem.W.Frag) (S0 S : Sto) (l : Nat) (xs : List Sk) : Prop where
  st : ∀ x ∈ xs, HasSt K S x.l x.lw x.lc x.w x.s ∧ x.l ≠ l ∧ x.lc ≠ l ∧ S0 x.l = none ∧ S0 x.lc = none
  ne : xs.Pairwise fun x y => x.l ≠ y.l ∧ x.lc ≠ y.lc
  f : Fr l S0 S
section
variable {K : PySem.W.Frag} {S0 S S' : Sto} {l : Nat} {xs pre post : List Sk} {x : Sk}
theorem Fam.nil (f : Fr l S0 S) : Fam K S0 S l [] := ⟨fun _ h => (List.not_mem_nil h).elim, .nil, f⟩
theorem HasSt.fr {w : Wd} {s : Sd} {a b c : Nat} (h : HasSt K S a b c w s) (f : Fr l S S') (h1 : a ≠ l) (h2 : c ≠ l) (h3 : b ≠ l) : HasSt K S' a b c w s := ⟨f _ _ h1 h.ob, f _ _ h3 h.wd, f _ _ h2 h.cp⟩
theorem box_ne {c : Int} {n : Nat} {C : Addr} {ds : List (Option D)} (hB : Bx S l c) (h : S n = some (.slt C ds)) : n ≠ l := fun e => by
  obtain ⟨o, ho, a, b, k, rfl, _⟩ := hB
  rw [e, ho] at h; cases h
theorem Fam.box {c : Int} (F : Fam K S0 S l xs) (hB : Bx S l c) (f : Fr l S S') : Fam K S0 S' l xs := ⟨fun x hx => by
  obtain ⟨h, h1, h2, h3, h4⟩ := F.st x hx
  exact ⟨h.fr f h1 h2 (box_ne hB h.wd), h1, h2, h3, h4⟩, F.ne, F.f.trans f⟩
theorem Fam.sub (F : Fam K S0 S l xs) (s : S.sub S') : Fam K S0 S' l xs := ⟨fun x hx => by
  obtain ⟨h, h1⟩ := F.st x hx
  exact ⟨h.sub s, h1⟩, F.ne, F.f.sub s⟩
theorem Fam.at_ (F : Fam K S0 S l (pre ++ x :: post)) : HasSt K S x.l x.lw x.lc x.w x.s ∧ x.l ≠ l ∧ x.lc ≠ l ∧ S0 x.l = none ∧ S0 x.lc = none := F.st x (List.mem_append_right _ List.mem_cons_self)
theorem Fam.others (F : Fam K S0 S l (pre ++ x :: post)) : ∀ y, y ∈ pre ∨ y ∈ post → y.l ≠ x.l ∧ y.lc ≠ x.lc ∧ y.l ≠ x.lc ∧ y.lc ≠ x.l ∧ y.lw ≠ x.l ∧ y.lw ≠ x.lc := fun y hy => by
  have hx := F.at_.1
  have hym : y ∈ pre ++ x :: post := by
    rcases hy with h | h
    · exact List.mem_append_left _ h
    · exact List.mem_append_right _ (List.mem_cons_of_mem _ h)
  have hyy := (F.st y hym).1
  have h1 : y.l ≠ x.l ∧ y.lc ≠ x.lc := by
    have := List.pairwise_append.mp F.ne
    rcases hy with h | h
    · exact this.2.2 y h x List.mem_cons_self
    · have := (List.pairwise_cons.mp this.2.1).1 y h
      exact ⟨Ne.symm this.1, Ne.symm this.2⟩
  refine ⟨h1.1, h1.2, fun e => ?_, fun e => ?_, fun e => ?_, fun e => ?_⟩
  · have := hyy.ob; rw [e, hx.cp] at this; cases this
  · have := hyy.cp; rw [e, hx.ob] at this; cases this
  · have := hyy.wd; rw [e, hx.ob] at this; cases this
  · have := hyy.wd; rw [e, hx.cp] at this; cases this
theorem fam_ne {y : Sk} (h : (pre ++ x :: post).Pairwise fun x y => x.l ≠ y.l ∧ x.lc ≠ y.lc) (k : ∀ z, z ∈ pre ∨ z ∈ post → z.l ≠ y.l ∧ z.lc ≠ y.lc) : (pre ++ y :: post).Pairwise fun x y => x.l ≠ y.l ∧ x.lc ≠ y.lc := by
  obtain ⟨h1, h2, h3⟩ := List.pairwise_append.mp h
  obtain ⟨h4, h5⟩ := List.pairwise_cons.mp h2
  refine List.pairwise_append.mpr ⟨h1, List.pairwise_cons.mpr ⟨fun z hz => ?_, h5⟩, fun a ha b hb => ?_⟩
  · have := k z (.inr hz)
    exact ⟨Ne.symm this.1, Ne.symm this.2⟩
  · rcases List.mem_cons.mp hb with rfl | hb
    · exact k a (.inl ha)
    · exact h3 a ha b (List.mem_cons_of_mem _ hb)
theorem Fam.ask {s' : Sd} (F : Fam K S0 S l (pre ++ x :: post)) (f : Fr2 x.l x.lc S S') (h : HasSt K S' x.l x.lw x.lc x.w s') : Fam K S0 S' l (pre ++ ⟨x.l, x.lw, x.lc, x.w, s'⟩ :: post) := by
  obtain ⟨hx, n1, n2, z1, z2⟩ := F.at_
  refine ⟨fun y hy => ?_, fam_ne F.ne fun z hz => ⟨(F.others z hz).1, (F.others z hz).2.1⟩, fun m o hm e => ?_⟩
  · have hc : (y ∈ pre ∨ y ∈ post) ∨ y = ⟨x.l, x.lw, x.lc, x.w, s'⟩ := by
      rcases List.mem_append.mp hy with h | h
      · exact .inl (.inl h)
      · rcases List.mem_cons.mp h with h | h
        · exact .inr h
        · exact .inl (.inr h)
    rcases hc with hc | rfl
    · have hym : y ∈ pre ++ x :: post := by
        rcases hc with h | h
        · exact List.mem_append_left _ h
        · exact List.mem_append_right _ (List.mem_cons_of_mem _ h)
      obtain ⟨o1, o2, o3, o4, o5, o6⟩ := F.others y hc
      obtain ⟨hy, rest⟩ := F.st y hym
      exact ⟨⟨f _ _ o1 o3 hy.ob, f _ _ o5 o6 hy.wd, f _ _ o4 o2 hy.cp⟩, rest⟩
    · exact ⟨h, n1, n2, z1, z2⟩
  · have h1 : m ≠ x.l := fun q => by rw [q, z1] at e; cases e
    have h2 : m ≠ x.lc := fun q => by rw [q, z2] at e; cases e
    exact f m o h1 h2 (F.f m o hm e)
theorem Fam.bx {c : Int} (F : Fam K S0 S l (pre ++ x :: post)) (f : Fr2 x.l x.lc S S') (hB : Bx S l c) : Bx S' l c := by
  obtain ⟨hx, n1, n2, z1, z2⟩ := F.at_
  obtain ⟨o, ho, k⟩ := hB
  exact ⟨o, f l o (Ne.symm n1) (Ne.symm n2) ho, k⟩
theorem Fam.purge {s' : Sd} {lc' : Nat} {c : Int} (F : Fam K S0 S l (pre ++ x :: post)) (hB : Bx S l c) (f : ∀ m o, m ≠ x.l → S m = some o → S' m = some o) (hn : S lc' = none) (h : HasSt K S' x.l x.lw lc' x.w s') :
    Fam K S0 S' l (pre ++ ⟨x.l, x.lw, lc', x.w, s'⟩ :: post) ∧ Bx S' l c := by
  obtain ⟨hx, n1, n2, z1, z2⟩ := F.at_
  have hcl : lc' ≠ l := fun e => by obtain ⟨o, ho, _⟩ := hB; rw [e, ho] at hn; cases hn
  refine ⟨⟨fun y hy => ?_, fam_ne F.ne fun z hz => ⟨(F.others z hz).1, fun e => ?_⟩, fun m o hm e => ?_⟩, ?_⟩
  · have hc : (y ∈ pre ∨ y ∈ post) ∨ y = ⟨x.l, x.lw, lc', x.w, s'⟩ := by
      rcases List.mem_append.mp hy with h | h
      · exact .inl (.inl h)
      · rcases List.mem_cons.mp h with h | h
        · exact .inr h
        · exact .inl (.inr h)
    rcases hc with hc | rfl
    · have hym : y ∈ pre ++ x :: post := by
        rcases hc with h | h
        · exact List.mem_append_left _ h
        · exact List.mem_append_right _ (List.mem_cons_of_mem _ h)
      obtain ⟨o1, o2, o3, o4, o5, o6⟩ := F.others y hc
      obtain ⟨hy, rest⟩ := F.st y hym
      exact ⟨⟨f _ _ o1 hy.ob, f _ _ o5 hy.wd, f _ _ o4 hy.cp⟩, rest⟩
    · exact ⟨h, n1, hcl, z1, F.f.fresh hcl hn⟩
  · have hzm : z ∈ pre ++ x :: post := by
      rcases hz with h | h
      · exact List.mem_append_left _ h
      · exact List.mem_append_right _ (List.mem_cons_of_mem _ h)
    have := (F.st z hzm).1.cp
    rw [e, hn] at this; cases this
  · have h1 : m ≠ x.l := fun q => by rw [q, z1] at e; cases e
    exact f m o h1 (F.f m o hm e)
  · obtain ⟨o, ho, k⟩ := hB
    exact ⟨o, f l o (Ne.symm n1) ho, k⟩
theorem Fam.init {o : Ob} {c : Int} {a lw lc : Nat} {w : Wd} {s : Sd} (F : Fam K S0 S l xs) (hB : Bx S l c) (ha : S a = none) (f : Fr a (S.set a o) S') (hlc : (S.set a o) lc = none) (h : HasSt K S' a lw lc w s) :
    Fam K S0 S' l (xs ++ [⟨a, lw, lc, w, s⟩]) ∧ Bx S' l c := by
  have hal : a ≠ l := fun e => by obtain ⟨o, ho, _⟩ := hB; rw [e, ho] at ha; cases ha
  have hca : lc ≠ a := fun e => by rw [e, Sto.set_same] at hlc; cases hlc
  rw [Sto.set_ne hca] at hlc
  have hcl : lc ≠ l := fun e => by obtain ⟨o, ho, _⟩ := hB; rw [e, ho] at hlc; cases hlc
  have s1 : S.sub S' := fun m p e => by
    have : m ≠ a := fun q => by rw [q, ha] at e; cases e
    exact f m p this (by rw [Sto.set_ne this]; exact e)
  have F' := F.sub s1
  refine ⟨⟨fun y hy => ?_, List.pairwise_append.mpr ⟨F.ne, List.pairwise_singleton _ _, fun y hy z hz => ?_⟩, F'.f⟩, hB.sub s1⟩
  · rcases List.mem_append.mp hy with hy | hy
    · exact F'.st y hy
    · rw [List.mem_singleton.mp hy]
      exact ⟨h, hal, hcl, F.f.fresh hal ha, F.f.fresh hcl hlc⟩
  · rw [List.mem_singleton.mp hz]
    obtain ⟨hy, _⟩ := F.st y hy
    refine ⟨fun e => ?_, fun e => ?_⟩
    · have := hy.ob; rw [show y.l = a from e, ha] at this; cases this
    · have := hy.cp; rw [show y.lc = lc from e, hlc] at this; cases this
end
section
variable {w w2 : Wd} {A B : List Head} {h : Head}
end
end LK
end
section
set_option Elab.async false
set_option linter.all false
set_option maxRecDepth 100000
set_option maxHeartbeats 1000000
namespace LK
open PySem PySem.Spec PyProof.Rows L2 L3
abbrev cL (K : PySem.W.Frag) : Addr := He.ga K "Line"
structure Lns (K : PySem.W.Frag) (S : Sto) (ll lw ls : Nat) (w : Wd) (L : D) (xs : List Sk) : Prop where
  ob : S ll = some (.slt (cL K) [some (.tup (xs.map fun x => .str x.s.kind)), some L, some (.ref ls), some (.ref lw)])
  wd : S lw = some (w.ob (cW K))
  st : S ls = some (.lst (xs.map fun x => .ref x.l))
  hs : ∀ x ∈ xs, HasSt K S x.l x.lw x.lc w x.s
  ne : xs.Pairwise fun x y => x.l ≠ y.l ∧ x.lc ≠ y.lc
structure LnOk (w : Wd) (L : D) (lst : Row → List Str) (xs : List Sk) : Prop where
  li : Lis w L lst
  sd : ∀ x ∈ xs, SdOk w x.s
  len : xs.length ≤ 10
def lookS (w : Wd) (lst : Row → List Str) (r : Row) : List Sk → Nat → List Str × Str × Nat
  | [], n => (lst r, w.ans r, n)
  | x :: xs, n => match x.s.found w r with
    | some c => (c.2.1, c.2.2, n)
    | none => lookS w lst r xs (n + 1)
def keepC (c : Cp) (x : Sk) : Sk := { x with s := { x.s with cps := x.s.cps ++ [c] } }
def keepAt (p : Nat) (c : Cp) (xs : List Sk) : List Sk := (xs.take p).map (keepC c) ++ xs.drop p
def askS (w : Wd) (lst : Row → List Str) (r : Row) (xs : List Sk) : Str × Nat × List Sk :=
  let t := lookS w lst r xs 0
  (t.2.1, t.2.2, keepAt t.2.2 (r, t.1, t.2.1) xs)
section
variable {K : PySem.W.Frag}
theorem Lns.lc_ne {S : Sto} {ll lw ls : Nat} {w : Wd} {L : D} {xs : List Sk} (h : Lns K S ll lw ls w L xs) {x : Sk} (hx : x ∈ xs) : x.lc ≠ ls ∧ x.lc ≠ ll ∧ x.lc ≠ lw ∧ ∀ y ∈ xs, y.l ≠ x.lc ∧ y.lw ≠ x.lc := by
  have hc := (h.hs x hx).cp
  refine ⟨fun e => ?_, fun e => ?_, fun e => ?_, fun y hy => ⟨fun e => ?_, fun e => ?_⟩⟩
  · rw [e, h.st] at hc
    cases xs with
    | nil => cases hx
    | cons y ys => 
      cases k : x.s.cps with
      | nil => rw [k] at hc; cases hc
      | cons c cs => rw [k] at hc; cases hc
  · rw [e, h.ob] at hc; cases hc
  · rw [e, h.wd] at hc; cases hc
  · rw [← e, (h.hs y hy).ob] at hc; cases hc
  · rw [← e, (h.hs y hy).wd] at hc; cases hc
theorem sub_none {S S' : Sto} {m : Nat} (s : S.sub S') (h : S' m = none) : S m = none := by
  cases e : S m with
  | none => rfl
  | some o => rw [s _ _ e] at h; cases h
end
end LK
end
section
set_option Elab.async false
set_option linter.all false
set_option maxRecDepth 100000
set_option maxHeartbeats 1000000
namespace LK
open PySem PySem.Spec PyProof.Rows L2 L3
end LK
end
section
set_option Elab.async false
set_option linter.all false
set_option maxRecDepth 100000
set_option maxHeartbeats 1000000
namespace LK
open PySem PySem.Spec PyProof.Rows L2 L3
section
variable {w : Wd} {lst : Row → List Str} {r : Row} {L : D} {xs : List Sk} {c : Cp} {p : Nat} {as : List (List Str × Str)}
theorem look_cases (w : Wd) (lst : Row → List Str) (r : Row) : ∀ (xs : List Sk) (n : Nat), lookS w lst r xs n = (lst r, w.ans r, n + xs.length) ∨ ∃ i x c, xs[i]? = some x ∧ x.s.found w r = some c ∧ lookS w lst r xs n = (c.2.1, c.2.2, n + i)
  | [], n => .inl rfl
  | x :: xs, n => by
    cases e : x.s.found w r with
    | some c => exact .inr ⟨0, x, c, rfl, e, by simp [lookS, e]⟩
    | none =>
      have h0 : lookS w lst r (x :: xs) n = lookS w lst r xs (n + 1) := by simp [lookS, e]
      rcases look_cases w lst r xs (n + 1) with h | ⟨i, y, c, h1, h2, h3⟩
      · exact .inl (by rw [h0, h, List.length_cons, show n + 1 + xs.length = n + (xs.length + 1) by omega])
      · exact .inr ⟨i + 1, y, c, by simpa using h1, h2, by rw [h0, h3, show n + 1 + i = n + (i + 1) by omega]⟩
theorem found_mem {s : Sd} (h : s.found w r = some c) : c ∈ s.cps := by
  rw [found_given] at h
  exact (List.mem_filter.mp (List.mem_of_getLast? h)).1
theorem keep_all : keepAt xs.length c xs = xs.map (keepC c) := by simp [keepAt]
theorem keep_len : (keepAt p c xs).length = xs.length := by
  unfold keepAt
  rw [List.length_append, List.length_map, ← List.length_append, List.take_append_drop]
theorem keep_mem {y : Sk} (h : y ∈ keepAt p c xs) : ∃ x ∈ xs, y = x ∨ y = keepC c x := by
  rcases List.mem_append.mp h with h | h
  · obtain ⟨x, hx, rfl⟩ := List.mem_map.mp h
    exact ⟨x, List.mem_of_mem_take hx, .inr rfl⟩
  · exact ⟨y, List.mem_of_mem_drop h, .inl rfl⟩
structure Good (as : List (List Str × Str)) (xs : List Sk) : Prop where
  down : (xs.map fun x => x.s.cps.length).Pairwise (· ≥ ·)
  last : ∀ x, xs.getLast? = some x → x.s.cps.length = as.length
  inn : ∀ x ∈ xs, ∀ c ∈ x.s.cps, (c.2.1, c.2.2) ∈ as
theorem Good.out (g : Good as xs) (c : Cp) : Good (as ++ [(c.2.1, c.2.2)]) (keepAt xs.length c xs) := by
  rw [keep_all]
  refine ⟨?_, fun x hx => ?_, fun x hx d hd => ?_⟩
  · rw [List.map_map]
    have h := g.down
    rw [List.pairwise_map] at h ⊢
    exact h.imp fun {a b} h => by
      show (a.s.cps ++ [c]).length ≥ (b.s.cps ++ [c]).length
      rw [List.length_append, List.length_append]
      omega
  · rw [List.getLast?_map] at hx
    obtain ⟨y, hy, rfl⟩ := Option.map_eq_some_iff.mp hx
    have := g.last y hy
    show (y.s.cps ++ [c]).length = _
    rw [List.length_append, List.length_append, this]
    rfl
  · obtain ⟨y, hy, rfl⟩ := List.mem_map.mp hx
    rcases List.mem_append.mp (show d ∈ y.s.cps ++ [c] from hd) with h | h
    · exact List.mem_append_left _ (g.inn y hy d h)
    · rw [List.mem_singleton.mp h]
      exact List.mem_append_right _ (List.mem_singleton.mpr rfl)
theorem Good.in_ (g : Good as xs) (hp : p < xs.length) (hc : (c.2.1, c.2.2) ∈ as) : Good as (keepAt p c xs) := by
  have hd := g.down
  have hl := g.last
  rw [← List.take_append_drop p xs] at hd hl
  rw [List.map_append, List.pairwise_append] at hd
  obtain ⟨h1, h2, h3⟩ := hd
  refine ⟨?_, fun x hx => hl x ?_, fun x hx d hd => ?_⟩
  · unfold keepAt
    rw [List.map_append, List.pairwise_append]
    refine ⟨?_, h2, fun a ha b hb => ?_⟩
    · rw [List.map_map]
      rw [List.pairwise_map] at h1 ⊢
      exact h1.imp fun {a b} h => by
        show (a.s.cps ++ [c]).length ≥ (b.s.cps ++ [c]).length
        rw [List.length_append, List.length_append]
        omega
    · rw [List.map_map] at ha
      obtain ⟨x, hx, rfl⟩ := List.mem_map.mp ha
      have := h3 _ (List.mem_map_of_mem hx) b hb
      show (x.s.cps ++ [c]).length ≥ b
      rw [List.length_append]
      omega
  · unfold keepAt at hx
    rw [List.getLast?_append] at hx ⊢
    have hne : xs.drop p ≠ [] := fun e => by
      have := congrArg List.length e
      rw [List.length_drop] at this
      simp at this
      omega
    cases e : (xs.drop p).getLast? with
    | none => exact absurd (List.getLast?_eq_none_iff.mp e) hne
    | some y => rw [e] at hx; exact hx
  · obtain ⟨y, hy, rfl | rfl⟩ := keep_mem hx
    · exact g.inn x hy d hd
    · rcases List.mem_append.mp (show d ∈ y.s.cps ++ [c] from hd) with h | h
      · exact g.inn y hy d h
      · rw [List.mem_singleton.mp h]; exact hc
theorem LnOk.look (ho : LnOk w L lst xs) (hw : WOk w) (hr : ROk w r) : CpOk w (r, (lookS w lst r xs 0).1, (lookS w lst r xs 0).2.1) := by
  rcases look_cases w lst r xs 0 with h | ⟨i, x, c, h1, h2, h3⟩
  · rw [h]; exact ⟨hr, ho.li.ns r hr, ho.li.len r hr, ans_ok hw⟩
  · rw [h3]
    have := (ho.sd x (List.mem_of_getElem? h1)).cp c (found_mem h2)
    exact ⟨hr, this.ns, this.len, this.so⟩
theorem LnOk.keep (ho : LnOk w L lst xs) (hc : CpOk w c) (hl : ∀ x ∈ xs, x.s.cps.length ≤ 400) : LnOk w L lst (keepAt p c xs) := ⟨ho.li, fun y hy => by
  obtain ⟨x, hx, rfl | rfl⟩ := keep_mem hy
  · exact ho.sd _ hx
  · have h := ho.sd x hx
    have hxl := hl x hx
    refine ⟨h.kd, h.km, h.li, fun d hd => ?_, ?_, h.up⟩
    · rcases List.mem_append.mp (show d ∈ x.s.cps ++ [c] from hd) with h' | h'
      · exact h.cp d h'
      · rw [List.mem_singleton.mp h']; exact hc
    · show (x.s.cps ++ [c]).length ≤ 500
      rw [List.length_append]
      simp
      omega, by rw [keep_len]; exact ho.len⟩
theorem Lns.sub {K : PySem.W.Frag} {S S' : Sto} {ll lw ls : Nat} (h : Lns K S ll lw ls w L xs) (s : S.sub S') : Lns K S' ll lw ls w L xs := ⟨s _ _ h.ob, s _ _ h.wd, s _ _ h.st, fun x hx => (h.hs x hx).sub s, h.ne⟩
end
end LK
end
section
set_option Elab.async false
set_option linter.all false
set_option maxRecDepth 100000
set_option maxHeartbeats 1000000
namespace LK
open PySem PySem.Spec PyProof.Rows L2 L3
abbrev Wd.rul (w : Wd) (rs : List Rule) : Wd := ⟨w.hs, rs⟩
def sp_World_header_pairs (K : PySem.W.Frag) : DSp := fun ds S Q _ => ∃ (l : Nat) (w : Wd), ds = [.ref l] ∧ S l = some (w.ob (cW K)) ∧ WOk w ∧ Q (.tup (w.hs.map headD)) S
abbrev N_World_header_pairs : List Str := ["self", "name", "values"]
def d_World_header_pairs (K : PySem.W.Frag) : DS :=
  dRet (dCB bTuple (aCons (dLcF (iDi (dSlot (He.ga K "World") 2 (dVar 0))) (.many [1, 2]) (dYes) (dTup (aCons (dVar 1) (aCons (dSlK (dVar 2) (dPart (dC (.int 1))) (dNoP)) (aNil)))) [1, 2]) (aNil)))
section
variable {K : PySem.W.Frag}
theorem v_World_header_pairs : ∀ ds S Q E, sp_World_header_pairs K ds S Q E → d_World_header_pairs K (EndsD Q) (startD N_World_header_pairs ds) S := by
  rintro ds S Q E ⟨l, w, rfl, h, hw, q⟩
  simp only [d_World_header_pairs, N_World_header_pairs, dWkA, dTupK, dTupL, dTupIx, dDictP, dDc2, dFor, dWhile, dLc, dLc2, dDc, dNextG, iSeq, iR1, iR2, iEn, iZpA, iZ2, iZ3, dSortK, dSortKF, dSortSet, dSortSetF, dBreak, bSortT, bSortTF, bSum, bSumL, bSumLF, bMaxL, bMinL, dDicE, bSortD, bSortDF, dGet2, oInA, oNotInA, oIxA, gdSubA, dSeq, dSet, dIf, dIfS, dTst, dOp, dUn, dVar, dCB, aCons, aNil, aStar, dRet, dRetN, dNext, dDrop, dLst, dTup, dC, dAnd, dOr, dNot, dAndV, dOrV, dNotV, dPar, dAsg, gdName, gdSub, gdTup, gdCons, gdNil, gdSlot, dIsi, dIsi2, dSlot, dSetSlot, dMethSl, dMakeSl, dCall, dCallP, dBM, dFrz, dLstF, dLcF, dLc2F, dDcF, dSlF, dListVF, bListF, bListDF, bSortSF, oAddLF, oRepLF, dSl, dNoP, dPart, dListV, dTru, dOrT, EndsD, startD, oLtI, oLeI, oGtI, oGeI, oIx, oMulI, oPowI, oAddI, oSubI, oModI, oDivI, oI, oI0, oEqD, oNeD, oInD, oNotInD, oAddL, oAddT, oAddS, oRepL, bLen, bAbs, bInt, bMin2, bMax2, bAll, bAny, bTuple, bList, bListD, bSortS, mAppend, mPop, mPopAt, mExtend, mIndex, dFld, dSetFld, dAddFld, gdFld, dMeth, dMake, dPar3, dRevT, oAddTK, dSortSetT, dSortSetTF, gdLst, gdAll, dRevL, dRevLF, dYes, dFrzA, oNegI, bSortG, bSortGF, dSlK, oIsB, oNotB, bSortTS, bSortTSF, bSortI, bSortIF, iDi, tupOf_lst, tupOf_ref, tupOf_tup, List.map_cons, List.map_nil, List.length_cons, List.length_nil, List.cons_append, List.nil_append, List.append_nil, List.replicate, List.set_cons_zero, List.set_cons_succ, List.getElem?_cons_zero, List.getElem?_cons_succ, Option.some.injEq, exists_eq_left', exists_eq_left, exists_and_left, D.int.injEq, D.bl.injEq, D.str.injEq, D.tup.injEq, D.lst.injEq, D.ref.injEq, List.cons.injEq, and_true, true_and, reduceCtorEq, false_and, and_false, exists_false, or_false, false_or, exists_const, Bool.false_eq_true, if_true, if_false, decide_eq_true_eq, Ob.lst.injEq, Ob.slt.injEq, Ob.dic.injEq, seqD_ref, lstD_ref, seqD_tup, seqD_lst, lstD_lst, lstR_lst, Sto.set_same, Sto.set_set, atI_0, atI_1, atI_2, Nat.reduceAdd, ixN_30, ixN_32, lstD_tup, seqD_row, List.append_assoc, false_or, or_false, cut_d1, cut_t1, sz_0, sz_1, sz_2, sz_3, sz_4, sz_5, sz_6, sz_7, sz_8, sz_9, sz_10, sz_11, sz_12]
  refine ⟨_, h, _, rfl, _, _, rfl, ?_⟩
  have e : List.map (fun p : Key × D => D.tup [kD p.1, p.2]) ((w.names.map Sum.inr).zip (w.hs.map valsD)) = w.hs.map fun h => D.tup [.str h.1, valsD h] := by
    unfold Wd.names
    rw [List.map_map, List.zip_map', List.map_map]
    rfl
  rw [e]
  have h6 := hw.hl
  refine compW_fs (fun h : Head => D.tup [.str h.1, valsD h]) (fun h => some (headD h)) w.hs [] Gs.ok_nil (small_sz (by simp; omega)) (fun g hg S' Py Pn s2 hy hn => ?_) ?_
  · simp only [turn, Tg.d, wipeD, valsD, dWkA, dTupK, dTupL, dTupIx, dDictP, dDc2, dFor, dWhile, dLc, dLc2, dDc, dNextG, iSeq, iR1, iR2, iEn, iZpA, iZ2, iZ3, dSortK, dSortKF, dSortSet, dSortSetF, dBreak, bSortT, bSortTF, bSum, bSumL, bSumLF, bMaxL, bMinL, dDicE, bSortD, bSortDF, dGet2, oInA, oNotInA, oIxA, gdSubA, dSeq, dSet, dIf, dIfS, dTst, dOp, dUn, dVar, dCB, aCons, aNil, aStar, dRet, dRetN, dNext, dDrop, dLst, dTup, dC, dAnd, dOr, dNot, dAndV, dOrV, dNotV, dPar, dAsg, gdName, gdSub, gdTup, gdCons, gdNil, gdSlot, dIsi, dIsi2, dSlot, dSetSlot, dMethSl, dMakeSl, dCall, dCallP, dBM, dFrz, dLstF, dLcF, dLc2F, dDcF, dSlF, dListVF, bListF, bListDF, bSortSF, oAddLF, oRepLF, dSl, dNoP, dPart, dListV, dTru, dOrT, EndsD, startD, oLtI, oLeI, oGtI, oGeI, oIx, oMulI, oPowI, oAddI, oSubI, oModI, oDivI, oI, oI0, oEqD, oNeD, oInD, oNotInD, oAddL, oAddT, oAddS, oRepL, bLen, bAbs, bInt, bMin2, bMax2, bAll, bAny, bTuple, bList, bListD, bSortS, mAppend, mPop, mPopAt, mExtend, mIndex, dFld, dSetFld, dAddFld, gdFld, dMeth, dMake, dPar3, dRevT, oAddTK, dSortSetT, dSortSetTF, gdLst, gdAll, dRevL, dRevLF, dYes, dFrzA, oNegI, bSortG, bSortGF, dSlK, oIsB, oNotB, bSortTS, bSortTSF, bSortI, bSortIF, iDi, tupOf_lst, tupOf_ref, tupOf_tup, List.map_cons, List.map_nil, List.length_cons, List.length_nil, List.cons_append, List.nil_append, List.append_nil, List.replicate, List.set_cons_zero, List.set_cons_succ, List.getElem?_cons_zero, List.getElem?_cons_succ, Option.some.injEq, exists_eq_left', exists_eq_left, exists_and_left, D.int.injEq, D.bl.injEq, D.str.injEq, D.tup.injEq, D.lst.injEq, D.ref.injEq, List.cons.injEq, and_true, true_and, reduceCtorEq, false_and, and_false, exists_false, or_false, false_or, exists_const, Bool.false_eq_true, if_true, if_false, decide_eq_true_eq, Ob.lst.injEq, Ob.slt.injEq, Ob.dic.injEq, seqD_ref, lstD_ref, seqD_tup, seqD_lst, lstD_lst, lstR_lst, Sto.set_same, Sto.set_set, atI_0, atI_1, atI_2, Nat.reduceAdd, ixN_30, ixN_32, lstD_tup, seqD_row, List.append_assoc, false_or, or_false, cut_d1, cut_t1, sz_0, sz_1, sz_2, sz_3, sz_4, sz_5, sz_6, sz_7, sz_8, sz_9, sz_10, sz_11, sz_12]
    exact ⟨_, rfl, _, rfl, _, rfl, by simp, hy _ _ rfl (Sto.sub_refl _)⟩
  · rw [fm_some, List.nil_append]
    exact drp_of q
end
end LK
end
section
set_option Elab.async false
set_option linter.all false
set_option maxRecDepth 100000
set_option maxHeartbeats 1000000
namespace LK
open PySem PySem.Spec PyProof.Rows L2 L3
structure SS (K : PySem.W.Frag) (B S : Sto) (l : Nat) (w : Wd) (n : Nat) (s : Sd) : Prop where
  ex : ∃ lw lc, HasSt K S l lw lc w s ∧ B lc = none
  fr : B.sub S
  nb : B l = none
  ok : SdOk w s
  few : s.cps.length ≤ n
  up : Up w
section
variable {K : PySem.W.Frag} {B S : Sto} {l n : Nat} {w : Wd} {s : Sd} {Q : DK} {E : DXK}
theorem SS.sub {S' : Sto} (h : SS K B S l w n s) (k : S.sub S') : SS K B S' l w n s := ⟨let ⟨a, b, c, d⟩ := h.ex; ⟨a, b, c.sub k, d⟩, Sto.sub_trans h.fr k, h.nb, h.ok, h.few, h.up⟩
theorem SS.ob (h : SS K B S l w n s) : ∃ fs vs, S l = some (.ins (cS K) fs vs) ∧ fs = stF := let ⟨_, _, c, _⟩ := h.ex; ⟨_, _, c.ob, rfl⟩
end
end LK
end
section
set_option Elab.async false
set_option linter.all false
set_option maxRecDepth 100000
set_option maxHeartbeats 1000000
namespace LK
open PySem PySem.Spec PyProof.Rows L2 L3
end LK
end
section
set_option Elab.async false
set_option linter.all false
set_option maxRecDepth 100000
set_option maxHeartbeats 1000000
namespace LK
open PySem PySem.Spec PyProof.Rows L2 L3
theorem same_zip {S : Sto} {n : Nat} {gs ds : List D} (hz : ds.length ≤ 1000) (hl : gs.length = ds.length) (h : ∀ p ∈ gs.zip ds, sameP n S p.1 p.2) : sameP (n + 1) S (.lst gs) (.lst ds) :=
  ⟨small_sz (by omega), gs, rfl, rfl, hl, h⟩
section
variable {K : PySem.W.Frag}
theorem c_World {S : Sto} {v : D} {w : Wd} {R : Nat → Sto → Prop} {E E2 : DXK} (hv : topO S 8 v = some w.d) (hw : WOk w) (q : ∀ l S', S l = none → S.sub S' → S' l = some (w.ob (cW K)) → S' = S.set l (w.ob (cW K)) → R l S') :
    sp_tupled 8 [v] S (fun v1 S1 => ∀ l, S1 l = none → sp_World_init K [D.ref l, v1] (S1.set l (Ob.slt (He.ga K (Str.ofString "World")) [])) (fun v2 S2 => v2 = D.non ∧ R l S2) E) E2 := by
  refine ⟨v, w.d, rfl, hv, .inl fun l hl => ⟨l, w.d, w, rfl, Sto.set_same, top_world hw, hw, rfl, ?_⟩⟩
  rw [Sto.set_set]
  exact q l _ hl (Sto.sub_set hl) Sto.set_same rfl
theorem SS.more {B S : Sto} {l n m : Nat} {w : Wd} {s : Sd} {o : Ob} (h : SS K B S l w n s) (hm : S m = none) : SS K (B.set m o) (S.set m o) l w n s := by
  obtain ⟨lw, lc, hh, hb⟩ := h.ex
  have ne : ∀ {a p}, S a = some p → a ≠ m := fun e z => by rw [z, hm] at e; cases e
  refine ⟨⟨lw, lc, hh.sub (Sto.sub_set hm), by rw [Sto.set_ne (ne hh.cp)]; exact hb⟩, fun a p e => ?_, by rw [Sto.set_ne (ne hh.ob)]; exact h.nb, h.ok, h.few, h.up⟩
  by_cases z : a = m
  · rw [z, Sto.set_same] at e ⊢; exact e
  · rw [Sto.set_ne z] at e ⊢; exact h.fr _ _ e
theorem SS.put {B S : Sto} {l n m : Nat} {w : Wd} {s : Sd} {ds : List D} {o : Ob} (h : SS K B S l w n s) (hm : B m = some (.lst ds)) : SS K (B.set m o) (S.set m o) l w n s := by
  obtain ⟨lw, lc, hh, hb⟩ := h.ex
  have n1 : l ≠ m := fun z => by have := h.nb; rw [z, hm] at this; cases this
  have n2 : lw ≠ m := fun z => by have := hh.wd; rw [z, h.fr _ _ hm] at this; cases this
  have n3 : lc ≠ m := fun z => by rw [z, hm] at hb; cases hb
  refine ⟨⟨lw, lc, ⟨by rw [Sto.set_ne n1]; exact hh.ob, by rw [Sto.set_ne n2]; exact hh.wd, by rw [Sto.set_ne n3]; exact hh.cp⟩, by rw [Sto.set_ne n3]; exact hb⟩, fun a p e => ?_, by rw [Sto.set_ne n1]; exact h.nb, h.ok, h.few, h.up⟩
  by_cases z : a = m
  · rw [z, Sto.set_same] at e ⊢; exact e
  · rw [Sto.set_ne z] at e ⊢; exact h.fr _ _ e
end
end LK
end
section
set_option Elab.async false
set_option linter.all false
set_option maxRecDepth 100000
set_option maxHeartbeats 1000000
namespace LK
open PySem PySem.Spec PyProof.Rows L2 L3
def stOb (s : Sd) : Ob := .dic [Sum.inr "copies", Sum.inr "fetched"] [.lst (s.cps.map copyD), .int s.n]
end LK
end
section
set_option Elab.async false
set_option linter.all false
set_option maxRecDepth 100000
set_option maxHeartbeats 1000000
namespace LK
open PySem PySem.Spec PyProof.Rows L2 L3
def rowK (r : Row) : List Key := r.map Sum.inr
def entD (w : Wd) (lst : Row → List Str) (r : Row) : D := .tup [rowD (lst r), .str (w.ans r)]
def TabOk (w : Wd) (lst : Row → List Str) (rs : List Row) (ks : List (List Key)) (es : List D) : Prop := ∀ r ∈ rs, getT ks es (rowK r) = some (entD w lst r)
end LK
end
section
set_option Elab.async false
set_option linter.all false
set_option maxRecDepth 100000
set_option maxHeartbeats 1000000
namespace LK
open PySem PySem.Spec PyProof.Rows L2 L3
structure Two (K : PySem.W.Frag) (S0 S : Sto) (l : Nat) (c : Int) (w : Wd) (L : D) (l1 ls lp n : Nat) (s : Sd) : Prop where
  ex : ∃ lw lc, HasSt K S l1 lw lc w s ∧ S0 lc = none ∧ lc ≠ l ∧ lc ≠ lp
  own : S ls = some (stOb s)
  f : Fr l S0 S
  n1 : S0 l1 = none
  ns : S0 ls = none
  bx : Bx S l c
  ok : SdOk w s
  few : s.cps.length ≤ n
  lk : LkOf w L s.lst
  eL : s.L = L
  up : Up w
section
variable {K : PySem.W.Frag} {S0 S : Sto} {l l1 ls lp n : Nat} {c : Int} {w : Wd} {L : D} {s : Sd} {Q : DK} {E : DXK}
theorem Two.ob (h : Two K S0 S l c w L l1 ls lp n s) : ∃ vs, S l1 = some (.ins (cS K) stF vs) := let ⟨_, _, a, _⟩ := h.ex; ⟨_, a.ob⟩
theorem bx_lst (h : Bx S l c) : ∃ xs, S l = some (.lst xs) := by
  obtain ⟨o, e, a, b, k, rfl, _⟩ := h
  exact ⟨_, e⟩
theorem Two.box {S' : Sto} {c' : Int} (h : Two K S0 S l c w L l1 ls lp n s) (f : Fr l S S') (b : Bx S' l c') : Two K S0 S' l c' w L l1 ls lp n s := by
  obtain ⟨lw, lc, hh, c1, c2, c3⟩ := h.ex
  obtain ⟨bs, hb⟩ := bx_lst h.bx
  have e1 : l1 ≠ l := fun e => by have := hh.ob; rw [e, hb] at this; cases this
  have e2 : lw ≠ l := fun e => by have := hh.wd; rw [e, hb] at this; cases this
  have e3 : ls ≠ l := fun e => by have := h.own; rw [e, hb] at this; cases this
  exact ⟨⟨lw, lc, ⟨f _ _ e1 hh.ob, f _ _ e2 hh.wd, f _ _ c2 hh.cp⟩, c1, c2, c3⟩, f _ _ e3 h.own, h.f.trans f, h.n1, h.ns, b, h.ok, h.few, h.lk, h.eL, h.up⟩
theorem Two.put {xs : List D} {o : Ob} (h : Two K S0 S l c w L l1 ls lp n s) (hp : S lp = some (.lst xs)) (hpl : lp ≠ l) (h0 : S0 lp = none) : Two K S0 (S.set lp o) l c w L l1 ls lp n s := by
  obtain ⟨lw, lc, hh, c1, c2, c3⟩ := h.ex
  obtain ⟨b, hb, hbo⟩ := h.bx
  have e1 : l1 ≠ lp := fun e => by have := hh.ob; rw [e, hp] at this; cases this
  have e2 : lw ≠ lp := fun e => by have := hh.wd; rw [e, hp] at this; cases this
  have e3 : ls ≠ lp := fun e => by have := h.own; rw [e, hp] at this; cases this
  exact ⟨⟨lw, lc, ⟨by rw [Sto.set_ne e1]; exact hh.ob, by rw [Sto.set_ne e2]; exact hh.wd, by rw [Sto.set_ne c3]; exact hh.cp⟩, c1, c2, c3⟩, by rw [Sto.set_ne e3]; exact h.own, h.f.put h0, h.n1, h.ns, ⟨b, by rw [Sto.set_ne (Ne.symm hpl)]; exact hb, hbo⟩, h.ok, h.few, h.lk, h.eL, h.up⟩
theorem Two.sub {S' : Sto} (h : Two K S0 S l c w L l1 ls lp n s) (k : S.sub S') : Two K S0 S' l c w L l1 ls lp n s := by
  obtain ⟨o, ho, hbo⟩ := h.bx
  exact h.box (Fr.of k) ⟨o, k _ _ ho, hbo⟩
end
end LK
end
section
set_option Elab.async false
set_option linter.all false
set_option maxRecDepth 100000
set_option maxHeartbeats 1000000
namespace LK
open PySem PySem.Spec PyProof.Rows L2 L3
section
variable {K : PySem.W.Frag} {S0 S : Sto} {l l1 ls lp n : Nat} {c : Int} {w : Wd} {L : D} {s : Sd} {Q : DK} {E : DXK}
end
end LK
end
section
set_option Elab.async false
set_option linter.all false
set_option maxRecDepth 100000
set_option maxHeartbeats 1000000
namespace LK
open PySem PySem.Spec PyProof.Rows L2 L3
theorem shp_world {w : Wd} (hw : WOk w) : Shp (.list [.list (w.hs.map pyHead), .list (w.rs.map pyRule)]) 5 := by
  refine shp_two (shp_list (shp_map fun h hh => ?_)) (shp_list (shp_map fun r hr => ?_))
  · exact (shp_two ((shp_str (hw.so h hh).1).mono (by decide)) (shp_list (n := 1) (shp_map fun v hv => (shp_str ((hw.so h hh).2 v hv)).mono (by decide)))).mono (by decide)
  · exact shp_two (n := 2) (shp_list (n := 1) (shp_map fun t ht => shp_two (n := 0) (shp_str ((hw.ro r hr).2 t ht).1) (shp_str ((hw.ro r hr).2 t ht).2))) ((shp_str (hw.ro r hr).1).mono (by decide))
end LK
end
section
set_option Elab.async false
set_option linter.all false
set_option maxRecDepth 100000
set_option maxHeartbeats 1000000
namespace LK
open PySem PySem.Spec PyProof.Rows L2 L3
def Sd.fresh (s : Sd) (lst : Row → List Str) (L : D) : Sd := { s0 s.kind L lst with cps := s.cps }
section
variable {K : PySem.W.Frag}
theorem Lns.keep {S : Sto} {ll lw ls : Nat} {w : Wd} {L : D} {pre post : List Sk} {x : Sk} (c : Cp) (hL : Lns K S ll lw ls w L (pre ++ x :: post)) : Lns K (S.set x.lc (.lst ((x.s.cps ++ [c]).map copyD))) ll lw ls w L (pre ++ keepC c x :: post) := by
  have hxm : x ∈ pre ++ x :: post := List.mem_append_right _ List.mem_cons_self
  have hx := hL.hs x hxm
  obtain ⟨n1, n2, n3, n4⟩ := hL.lc_ne hxm
  obtain ⟨p1, p2, p3⟩ := List.pairwise_append.mp hL.ne
  have dis : ∀ z, z ∈ pre ∨ z ∈ post → z.l ≠ x.l ∧ z.lc ≠ x.lc := fun z hz => by
    rcases hz with h | h
    · exact p3 z h x List.mem_cons_self
    · have := (List.pairwise_cons.mp p2).1 z h
      exact ⟨Ne.symm this.1, Ne.symm this.2⟩
  refine ⟨?_, ?_, ?_, fun y hy => ?_, fam_ne hL.ne dis⟩
  · rw [Sto.set_ne (Ne.symm n2), hL.ob]
    simp [keepC]
  · rw [Sto.set_ne (Ne.symm n3)]; exact hL.wd
  · rw [Sto.set_ne (Ne.symm n1), hL.st]
    simp [keepC]
  · have hc : (y ∈ pre ∨ y ∈ post) ∨ y = keepC c x := by
      rcases List.mem_append.mp hy with h | h
      · exact .inl (.inl h)
      · rcases List.mem_cons.mp h with h | h
        · exact .inr h
        · exact .inl (.inr h)
    rcases hc with hc | rfl
    · have hym : y ∈ pre ++ x :: post := by
        rcases hc with h | h
        · exact List.mem_append_left _ h
        · exact List.mem_append_right _ (List.mem_cons_of_mem _ h)
      have hyy := hL.hs y hym
      have hn4 := n4 y hym
      exact ⟨by rw [Sto.set_ne hn4.1]; exact hyy.ob, by rw [Sto.set_ne hn4.2]; exact hyy.wd, by rw [Sto.set_ne (dis y hc).2]; exact hyy.cp⟩
    · have hn4 := n4 x hxm
      exact ⟨by show Sto.set _ _ _ x.l = _; rw [Sto.set_ne hn4.1]; exact hx.ob, by show Sto.set _ _ _ x.lw = _; rw [Sto.set_ne hn4.2]; exact hx.wd, Sto.set_same⟩
end
end LK
end
section
set_option Elab.async false
set_option linter.all false
set_option maxRecDepth 100000
set_option maxHeartbeats 1000000
namespace LK
open PySem PySem.Spec PyProof.Rows L2 L3
structure CpR (w : Wd) (c : Cp) : Prop where
  row : c.1 ∈ w.rows
  ns : ∀ n ∈ c.2.1, n ∈ w.names
  ans : c.2.2 = w.ans c.1
  safe : w.safe c.1 c.2.1 = true
section
variable {w : Wd} {s : Sd} {r : Row} {c : Cp}
theorem found_alike (hk : s.kind = "own" ∨ s.kind = "all") (hn : ∀ c ∈ s.cps, ∀ n ∈ c.2.1, n ∈ w.names) (h : s.found w r = some c) : c ∈ s.cps ∧ w.alike r c.1 c.2.1 = true := by
  rw [found_given] at h
  obtain ⟨hc, ha⟩ := List.mem_filter.mp (List.mem_of_getLast? h)
  refine ⟨hc, ?_⟩
  rcases hk with hk | hk
  · rw [own_key hk] at ha; exact ha
  · have ek : s.key w = some (w.names.filter fun n => decide (n ∈ s.lists.flatten)) := if_neg (by rw [hk]; decide +kernel)
    rw [ek] at ha
    refine alike_sub ha fun n hnm => List.mem_filter.mpr ⟨hn c hc n hnm, decide_eq_true (List.mem_flatten.mpr ⟨c.2.1, ?_, hnm⟩)⟩
    unfold Sd.lists
    rw [if_neg (by rw [hk]; decide +kernel), if_neg (by rw [hk]; decide +kernel)]
    exact List.mem_map_of_mem hc
theorem found_right (hr : r ∈ w.rows) (hk : s.kind = "own" ∨ s.kind = "all") (hc : ∀ c ∈ s.cps, CpR w c) (h : s.found w r = some c) : CpR w (r, c.2.1, c.2.2) := by
  obtain ⟨hm, ha⟩ := found_alike hk (fun c hcm => (hc c hcm).ns) h
  have k := hc c hm
  have e : w.ans r = w.ans c.1 := safe_iff.mp k.safe r hr (alike_symm ha)
  exact ⟨hr, k.ns, k.ans.trans e.symm, safe_iff.mpr fun o ho q => (safe_iff.mp k.safe o ho (alike_trans (alike_symm ha) q)).trans e.symm⟩
structure OkL (w : Wd) (lst : Row → List Str) (xs : List Sk) : Prop where
  kd : ∀ x ∈ xs, x.s.kind = "own" ∨ x.s.kind = "all"
  cp : ∀ x ∈ xs, ∀ c ∈ x.s.cps, CpR w c
  li : ∀ r ∈ w.rows, (∀ n ∈ lst r, n ∈ w.names) ∧ w.safe r (lst r) = true
variable {lst : Row → List Str} {xs : List Sk}
theorem OkL.look (h : OkL w lst xs) (hr : r ∈ w.rows) : CpR w (r, (lookS w lst r xs 0).1, (lookS w lst r xs 0).2.1) := by
  rcases look_cases w lst r xs 0 with e | ⟨i, x, c, h1, h2, e⟩
  · rw [e]; exact ⟨hr, (h.li r hr).1, rfl, (h.li r hr).2⟩
  · rw [e]
    have hx := List.mem_of_getElem? h1
    exact found_right hr (h.kd x hx) (h.cp x hx) h2
theorem OkL.keep {p : Nat} (h : OkL w lst xs) (hc : CpR w c) : OkL w lst (keepAt p c xs) := by
  refine ⟨fun y hy => ?_, fun y hy d hd => ?_, h.li⟩
  · obtain ⟨x, hx, rfl | rfl⟩ := keep_mem hy
    · exact h.kd _ hx
    · exact h.kd x hx
  · obtain ⟨x, hx, rfl | rfl⟩ := keep_mem hy
    · exact h.cp _ hx d hd
    · rcases List.mem_append.mp (show d ∈ x.s.cps ++ [c] from hd) with h' | h'
      · exact h.cp x hx d h'
      · rw [List.mem_singleton.mp h']; exact hc
theorem OkL.ask (h : OkL w lst xs) (hr : r ∈ w.rows) : OkL w lst (askS w lst r xs).2.2 := h.keep (h.look hr)
theorem OkL.right (h : OkL w lst xs) (hr : r ∈ w.rows) : (askS w lst r xs).1 = w.ans r := (h.look hr).ans
end
end LK
end
section
set_option Elab.async false
set_option linter.all false
set_option maxRecDepth 100000
set_option maxHeartbeats 1000000
namespace LK
open PySem PySem.Spec PyProof.Rows L2 L3
def gone (w : Wd) (n v : Str) (x : Sk) : Int := (x.s.cps.length : Int) - ((x.s.purge w n v).cps.length : Int)
section
variable {K : PySem.W.Frag}
end
end LK
end
section
set_option Elab.async false
set_option linter.all false
set_option maxRecDepth 100000
set_option maxHeartbeats 1000000
namespace LK
open PySem PySem.Spec PyProof.Rows L2 L3
def lookD (w : Wd) (lst : Row → List Str) (r : Row) : List Sd → Nat → List Str × Str × Nat
  | [], n => (lst r, w.ans r, n)
  | s :: ss, n => match s.found w r with
    | some c => (c.2.1, c.2.2, n)
    | none => lookD w lst r ss (n + 1)
def keepD (p : Nat) (c : Cp) (ss : List Sd) : List Sd := (ss.take p).map (fun s => { s with cps := s.cps ++ [c] }) ++ ss.drop p
def askD (w : Wd) (lst : Row → List Str) (r : Row) (ss : List Sd) : Str × Nat × List Sd :=
  let t := lookD w lst r ss 0
  (t.2.1, t.2.2, keepD t.2.2 (r, t.1, t.2.1) ss)
theorem look_D (w : Wd) (lst : Row → List Str) (r : Row) : ∀ (xs : List Sk) (n : Nat), lookS w lst r xs n = lookD w lst r (xs.map (·.s)) n
  | [], n => rfl
  | x :: xs, n => by
    show (match x.s.found w r with | some c => (c.2.1, c.2.2, n) | none => lookS w lst r xs (n + 1)) = (match x.s.found w r with | some c => (c.2.1, c.2.2, n) | none => lookD w lst r (xs.map (·.s)) (n + 1))
    rw [look_D w lst r xs (n + 1)]
theorem keep_D (p : Nat) (c : Cp) (xs : List Sk) : (keepAt p c xs).map (·.s) = keepD p c (xs.map (·.s)) := by
  unfold keepAt keepD
  rw [List.map_append, List.map_map, ← List.map_take, ← List.map_drop, List.map_map]
  rfl
theorem ask_D (w : Wd) (lst : Row → List Str) (r : Row) (xs : List Sk) : askD w lst r (xs.map (·.s)) = ((askS w lst r xs).1, (askS w lst r xs).2.1, (askS w lst r xs).2.2.map (·.s)) := by
  unfold askD askS
  simp only [← look_D, ← keep_D]
structure LF where
  row : List Row
  ll : Nat
  lw : Nat
  ls : Nat
  xs : List Sk
def LF.d (f : LF) : D := .tup [.tup (f.row.map rowD), .ref f.ll]
structure FOk (K : PySem.W.Frag) (S : Sto) (w : Wd) (L : D) (lst : Row → List Str) (k : Nat) (f : LF) : Prop where
  h : Lns K S f.ll f.lw f.ls w L f.xs
  ok : LnOk w L lst f.xs
  fr : ∀ x ∈ f.xs, x.s.fresh lst L = x.s
  few : ∀ x ∈ f.xs, x.s.cps.length ≤ k
  rl : f.row.length ≤ k
structure FNew (K : PySem.W.Frag) (S : Sto) (w : Wd) (L : D) (lst : Row → List Str) (k lg : Nat) (f : LF) : Prop extends FOk K S w L lst k f where
  n1 : lg ≠ f.ls
  n2 : ∀ x ∈ f.xs, lg ≠ x.lc
section
variable {K : PySem.W.Frag} {S S' : Sto} {w : Wd} {L : D} {lst : Row → List Str} {k lg : Nat} {f : LF}
theorem FOk.sub (h : FOk K S w L lst k f) (s : S.sub S') : FOk K S' w L lst k f := ⟨h.h.sub s, h.ok, h.fr, h.few, h.rl⟩
theorem FOk.up (h : FOk K S w L lst k f) {k' : Nat} (hk : k ≤ k') : FOk K S w L lst k' f := ⟨h.h, h.ok, h.fr, fun x hx => Nat.le_trans (h.few x hx) hk, Nat.le_trans h.rl hk⟩
theorem FNew.sub (h : FNew K S w L lst k lg f) (s : S.sub S') : FNew K S' w L lst k lg f := ⟨h.toFOk.sub s, h.n1, h.n2⟩
theorem FNew.put {ds : List D} {o : Ob} (h : FNew K S w L lst k lg f) (hm : S lg = some (.lst ds)) : FNew K (S.set lg o) w L lst k lg f := by
  have hL := h.h
  have a1 : f.ll ≠ lg := fun e => by have := hL.ob; rw [e, hm] at this; cases this
  have a2 : f.lw ≠ lg := fun e => by have := hL.wd; rw [e, hm] at this; cases this
  refine ⟨⟨⟨by rw [Sto.set_ne a1]; exact hL.ob, by rw [Sto.set_ne a2]; exact hL.wd, by rw [Sto.set_ne (Ne.symm h.n1)]; exact hL.st, fun x hx => ?_, hL.ne⟩, h.ok, h.fr, h.few, h.rl⟩, h.n1, h.n2⟩
  have hh := hL.hs x hx
  have b1 : x.l ≠ lg := fun e => by have := hh.ob; rw [e, hm] at this; cases this
  have b2 : x.lw ≠ lg := fun e => by have := hh.wd; rw [e, hm] at this; cases this
  exact ⟨by rw [Sto.set_ne b1]; exact hh.ob, by rw [Sto.set_ne b2]; exact hh.wd, by rw [Sto.set_ne (Ne.symm (h.n2 x hx))]; exact hh.cp⟩
end
end LK
end
section
set_option Elab.async false
set_option linter.all false
set_option maxRecDepth 100000
set_option maxHeartbeats 1000000
namespace LK
open PySem PySem.Spec PyProof.Rows L2 L3
abbrev Rn := List Row × Sd
def Sd.kept (s : Sd) (c : Cp) : Sd := { s with cps := s.cps ++ [c] }
def wrReq (w : Wd) (last : Bool) (p : Rn) : List Row → List Rn → Sum (List Row) (List Rn)
  | [], acc => .inr acc
  | r :: rs, acc => match p.2.found w r with
    | some c => if c.2.2 = w.ans r then wrReq w last p rs acc else .inl (p.1 ++ [r])
    | none => wrReq w last p rs (if last = false then acc ++ [(p.1 ++ [r], p.2.kept (r, p.2.lst r, w.ans r))] else acc)
def wrRows (w : Wd) (last : Bool) : List Rn → List Rn → Sum (List Row) (List Rn)
  | [], acc => .inr acc
  | p :: ps, acc => match wrReq w last p w.rows acc with
    | .inl r => .inl r
    | .inr acc => wrRows w last ps acc
def wrGo (w : Wd) : Nat → List Rn → Option (List Row)
  | 0, _ => none
  | k + 1, ps => match wrRows w (decide (k = 0)) ps [] with
    | .inl r => some r
    | .inr ps => wrGo w k ps
def wr (w : Wd) (lst : Row → List Str) (kind : Str) (L : D) (many : Nat) : Option (List Row) := wrGo w many [([], s0 kind L lst)]
structure RF where
  row : List Row
  l : Nat
  s : Sd
def RF.d (f : RF) : D := .tup [.tup (f.row.map rowD), .ref f.l]
def eB : Sto := fun _ => none
section
variable {K : PySem.W.Frag} {B S : Sto} {l n : Nat} {w : Wd} {s : Sd} {Q : DK} {E : DXK}
theorem SS.base (h : SS K B S l w n s) : SS K eB S l w n s := ⟨let ⟨a, b, c, _⟩ := h.ex; ⟨a, b, c, rfl⟩, fun _ _ e => (nomatch e), rfl, h.ok, h.few, h.up⟩
structure FOk2 (K : PySem.W.Frag) (S : Sto) (w : Wd) (L : D) (lst : Row → List Str) (kind : Str) (k : Nat) (f : RF) : Prop where
  h : SS K eB S f.l w k f.s
  kd : f.s.kind = kind
  eL : f.s.L = L
  el : f.s.lst = lst
  en : f.s.n = 0
  rl : f.row.length ≤ k
structure FNew2 (K : PySem.W.Frag) (S : Sto) (w : Wd) (L : D) (lst : Row → List Str) (kind : Str) (k lg : Nat) (ds : List D) (f : RF) : Prop where
  old : FOk2 K S w L lst kind k f
  h : SS K (eB.set lg (.lst ds)) S f.l w k f.s
theorem FOk2.sub {S' : Sto} {L : D} {lst : Row → List Str} {kind : Str} {k : Nat} {f : RF} (h : FOk2 K S w L lst kind k f) (s : S.sub S') : FOk2 K S' w L lst kind k f := ⟨h.h.sub s, h.kd, h.eL, h.el, h.en, h.rl⟩
theorem FNew2.sub {S' : Sto} {L : D} {lst : Row → List Str} {kind : Str} {k lg : Nat} {ds : List D} {f : RF} (h : FNew2 K S w L lst kind k lg ds f) (s : S.sub S') : FNew2 K S' w L lst kind k lg ds f := ⟨h.old.sub s, h.h.sub s⟩
theorem FNew2.put {L : D} {lst : Row → List Str} {kind : Str} {k lg : Nat} {ds es : List D} {f : RF} (h : FNew2 K S w L lst kind k lg ds f) : FNew2 K (S.set lg (.lst es)) w L lst kind k lg es f := by
  have h1 := h.h.put (o := .lst es) (m := lg) Sto.set_same
  rw [Sto.set_set] at h1
  exact ⟨⟨h1.base, h.old.kd, h.old.eL, h.old.el, h.old.en, h.old.rl⟩, h1⟩
theorem SS.weak {B' : Sto} (h : SS K B S l w n s) (k : B'.sub B) : SS K B' S l w n s := ⟨let ⟨a, b, c, d⟩ := h.ex; ⟨a, b, c, sub_none k d⟩, Sto.sub_trans k h.fr, sub_none k h.nb, h.ok, h.few, h.up⟩
end
end LK
end
section
set_option Elab.async false
set_option linter.all false
set_option maxRecDepth 100000
set_option maxHeartbeats 1000000
namespace LK
open PySem PySem.Spec PyProof.Rows L2 L3
def mkS (w : Wd) (s : Sd) : Sk := ⟨0, 0, 0, w, s⟩
theorem mkS_s (w : Wd) (ss : List Sd) : (ss.map (mkS w)).map (·.s) = ss := by
  rw [List.map_map]
  exact List.map_id ss
def OkD (w : Wd) (lst : Row → List Str) (ss : List Sd) : Prop := OkL w lst (ss.map (mkS w))
section
variable {w : Wd} {lst : Row → List Str} {r : Row} {ss : List Sd}
theorem okL_map {xs ys : List Sk} (h : OkL w lst xs) (e : ys.map (·.s) = xs.map (·.s)) : OkL w lst ys := by
  have go : ∀ y ∈ ys, ∃ x ∈ xs, x.s = y.s := fun y hy => by
    have : y.s ∈ ys.map (·.s) := List.mem_map_of_mem hy
    rw [e] at this
    obtain ⟨x, hx, k⟩ := List.mem_map.mp this
    exact ⟨x, hx, k⟩
  refine ⟨fun y hy => ?_, fun y hy => ?_, h.li⟩
  · obtain ⟨x, hx, k⟩ := go y hy
    rw [← k]; exact h.kd x hx
  · obtain ⟨x, hx, k⟩ := go y hy
    rw [← k]; exact h.cp x hx
theorem OkD.of {xs : List Sk} (h : OkL w lst xs) : OkD w lst (xs.map (·.s)) := okL_map h (mkS_s w _)
theorem OkD.to {xs : List Sk} (h : OkD w lst (xs.map (·.s))) : OkL w lst xs := okL_map h (mkS_s w _).symm
theorem OkD.right (h : OkD w lst ss) (hr : r ∈ w.rows) : (lookD w lst r ss 0).2.1 = w.ans r := by
  have := (OkL.look h hr).ans
  rw [look_D, mkS_s] at this
  exact this
theorem OkD.ask (h : OkD w lst ss) (hr : r ∈ w.rows) : OkD w lst (askD w lst r ss).2.2 := by
  have h2 := OkD.of (OkL.ask h hr)
  have e := ask_D w lst r (ss.map (mkS w))
  rw [mkS_s] at e
  rw [e]
  exact h2
theorem Lns.put {K : PySem.W.Frag} {S : Sto} {ll lw ls ma : Nat} {w : Wd} {L : D} {xs : List Sk} {ds : List D} {o : Ob} (h : Lns K S ll lw ls w L xs) (hm : S ma = some (.lst ds)) (n1 : ma ≠ ls) (n2 : ∀ x ∈ xs, ma ≠ x.lc) : Lns K (S.set ma o) ll lw ls w L xs := by
  have a1 : ll ≠ ma := fun e => by have := h.ob; rw [e, hm] at this; cases this
  have a2 : lw ≠ ma := fun e => by have := h.wd; rw [e, hm] at this; cases this
  refine ⟨by rw [Sto.set_ne a1]; exact h.ob, by rw [Sto.set_ne a2]; exact h.wd, by rw [Sto.set_ne (Ne.symm n1)]; exact h.st, fun x hx => ?_, h.ne⟩
  have hh := h.hs x hx
  have b1 : x.l ≠ ma := fun e => by have := hh.ob; rw [e, hm] at this; cases this
  have b2 : x.lw ≠ ma := fun e => by have := hh.wd; rw [e, hm] at this; cases this
  exact ⟨by rw [Sto.set_ne b1]; exact hh.ob, by rw [Sto.set_ne b2]; exact hh.wd, by rw [Sto.set_ne (Ne.symm (n2 x hx))]; exact hh.cp⟩
end
end LK
end
section
set_option Elab.async false
set_option linter.all false
set_option maxRecDepth 100000
set_option maxHeartbeats 1000000
namespace LK
open PySem PySem.Spec PyProof.Rows L2 L3
structure LS (K : PySem.W.Frag) (B S : Sto) (ll : Nat) (w : Wd) (L : D) (lst : Row → List Str) (n : Nat) (ss : List Sd) : Prop where
  ex : ∃ lw ls xs, Lns K S ll lw ls w L xs ∧ xs.map (·.s) = ss ∧ ∀ x ∈ xs, B x.l = none ∧ B x.lc = none
  fr : B.sub S
  nb : B ll = none
  ok : ∀ s ∈ ss, SdOk w s
  eL : ∀ s ∈ ss, s.L = L
  li : Lis w L lst
  len : ss.length ≤ 10
  few : ∀ s ∈ ss, s.cps.length ≤ n
  up : Up w
section
variable {K : PySem.W.Frag} {B S : Sto} {ll n : Nat} {w : Wd} {L : D} {lst : Row → List Str} {ss : List Sd} {Q : DK} {E : DXK}
theorem LS.sub {S' : Sto} (h : LS K B S ll w L lst n ss) (s : S.sub S') : LS K B S' ll w L lst n ss := ⟨let ⟨a, b, c, d, e⟩ := h.ex; ⟨a, b, c, d.sub s, e⟩, Sto.sub_trans h.fr s, h.nb, h.ok, h.eL, h.li, h.len, h.few, h.up⟩
theorem LS.ob (h : LS K B S ll w L lst n ss) : ∃ x, S ll = some (.slt (He.ga K "Line") x) := let ⟨_, _, _, d, _⟩ := h.ex; ⟨_, d.ob⟩
def cps (ss : List Sd) (k : Nat) : Option (List Cp) := (ss[k]?).map (·.cps)
end
end LK
end
section
set_option Elab.async false
set_option linter.all false
set_option maxRecDepth 100000
set_option maxHeartbeats 1000000
namespace LK
open PySem PySem.Spec PyProof.Rows L2 L3
def Kp (F : List Nat) (S S' : Sto) : Prop := ∀ m o, m ∉ F → S m = some o → S' m = some o
def Nw (F F' : List Nat) (S : Sto) : Prop := ∀ m ∈ F', m ∈ F ∨ S m = none
def Dj (F G : List Nat) : Prop := ∀ m ∈ F, m ∉ G
def NoW (K : PySem.W.Frag) (S : Sto) (F : List Nat) : Prop := ∀ m ∈ F, ∃ o, S m = some o ∧ ∀ w : Wd, o ≠ w.ob (cW K)
theorem Dj.symm {F G : List Nat} (h : Dj F G) : Dj G F := fun m hm hf => h m hf hm
theorem Dj.new {K : PySem.W.Frag} {F F' G : List Nat} {S : Sto} (h : Dj F G) (n : Nw F F' S) (g : NoW K S G) : Dj F' G := fun m hm hg => by
  rcases n m hm with k | k
  · exact h m k hg
  · obtain ⟨o, e, _⟩ := g m hg
    rw [k] at e; cases e
theorem Kp.fr {l : Nat} {S S' : Sto} (h : Fr l S S') : Kp [l] S S' := fun m o hm e => h m o (fun z => hm (by rw [z]; exact List.mem_cons_self)) e
theorem Kp.sub {F : List Nat} {S S' : Sto} (h : S.sub S') : Kp F S S' := fun m o _ e => h m o e
theorem NoW.kp {K : PySem.W.Frag} {F G : List Nat} {S S' : Sto} (h : NoW K S F) (d : Dj F G) (k : Kp G S S') : NoW K S' F := fun m hm => let ⟨o, e, z⟩ := h m hm; ⟨o, k m o (d m hm) e, z⟩
theorem NoW.wd {K : PySem.W.Frag} {S : Sto} {G : List Nat} {m : Nat} {w : Wd} (g : NoW K S G) (e : S m = some (w.ob (cW K))) : m ∉ G := fun hm => by
  obtain ⟨o, e2, z⟩ := g m hm
  rw [e] at e2
  exact z w (Option.some.inj e2).symm
theorem noW_box {K : PySem.W.Frag} {S : Sto} {l : Nat} {c : Int} (h : Bx S l c) : NoW K S [l] := fun m hm => by
  rw [List.mem_singleton.mp hm]
  obtain ⟨o, e, _, _, _, rfl, _⟩ := h
  exact ⟨_, e, fun w z => by cases z⟩
structure FS (K : PySem.W.Frag) (S : Sto) (F : List Nat) (l : Nat) (w : Wd) (n : Nat) (s : Sd) : Prop where
  ex : ∃ lw lc, F = [l, lc] ∧ HasSt K S l lw lc w s
  ok : SdOk w s
  few : s.cps.length ≤ n
  up : Up w
structure FL (K : PySem.W.Frag) (S : Sto) (F : List Nat) (ll : Nat) (w : Wd) (L : D) (lst : Row → List Str) (n : Nat) (ss : List Sd) : Prop where
  ex : ∃ lw ls xs, F = ll :: ls :: xs.flatMap (fun x : Sk => [x.l, x.lc]) ∧ Lns K S ll lw ls w L xs ∧ xs.map (·.s) = ss
  ok : ∀ s ∈ ss, SdOk w s
  eL : ∀ s ∈ ss, s.L = L
  li : Lis w L lst
  len : ss.length ≤ 10
  few : ∀ s ∈ ss, s.cps.length ≤ n
  up : Up w
section
variable {K : PySem.W.Frag} {S S' : Sto} {F G : List Nat} {l ll n : Nat} {w : Wd} {L : D} {lst : Row → List Str} {s : Sd} {ss : List Sd} {Q : DK} {E : DXK}
theorem FS.now (h : FS K S F l w n s) : NoW K S F := fun m hm => by
  obtain ⟨lw, lc, rfl, hh⟩ := h.ex
  simp only [List.mem_cons, List.not_mem_nil, or_false] at hm
  rcases hm with rfl | rfl
  · exact ⟨_, hh.ob, fun w z => by cases z⟩
  · exact ⟨_, hh.cp, fun w z => by cases z⟩
theorem FL.now (h : FL K S F ll w L lst n ss) : NoW K S F := fun m hm => by
  obtain ⟨lw, ls, xs, rfl, hL, e⟩ := h.ex
  rcases List.mem_cons.mp hm with rfl | hm
  · exact ⟨_, hL.ob, fun w z => by
      have := Ob.slt.inj z
      exact absurd (congrArg List.length this.2) (by simp)⟩
  rcases List.mem_cons.mp hm with rfl | hm
  · exact ⟨_, hL.st, fun w z => by cases z⟩
  · obtain ⟨x, hx, hm⟩ := List.mem_flatMap.mp hm
    simp only [List.mem_cons, List.not_mem_nil, or_false] at hm
    rcases hm with rfl | rfl
    · exact ⟨_, (hL.hs x hx).ob, fun w z => by cases z⟩
    · exact ⟨_, (hL.hs x hx).cp, fun w z => by cases z⟩
theorem FS.kp (h : FS K S F l w n s) (d : Dj F G) (g : NoW K S G) (k : Kp G S S') : FS K S' F l w n s := by
  refine ⟨?_, h.ok, h.few, h.up⟩
  obtain ⟨lw, lc, rfl, hh⟩ := h.ex
  exact ⟨lw, lc, rfl, k _ _ (d _ (by simp)) hh.ob, k _ _ (g.wd hh.wd) hh.wd, k _ _ (d _ (by simp)) hh.cp⟩
theorem FL.kp (h : FL K S F ll w L lst n ss) (d : Dj F G) (g : NoW K S G) (k : Kp G S S') : FL K S' F ll w L lst n ss := by
  refine ⟨?_, h.ok, h.eL, h.li, h.len, h.few, h.up⟩
  obtain ⟨lw, ls, xs, rfl, hL, e⟩ := h.ex
  have hin : ∀ x ∈ xs, x.l ∉ G ∧ x.lc ∉ G := fun x hx => ⟨d _ (List.mem_cons_of_mem _ (List.mem_cons_of_mem _ (List.mem_flatMap.mpr ⟨x, hx, by simp⟩))), d _ (List.mem_cons_of_mem _ (List.mem_cons_of_mem _ (List.mem_flatMap.mpr ⟨x, hx, by simp⟩)))⟩
  exact ⟨lw, ls, xs, rfl, ⟨k _ _ (d _ (by simp)) hL.ob, k _ _ (g.wd hL.wd) hL.wd, k _ _ (d _ (by simp)) hL.st, fun x hx => ⟨k _ _ (hin x hx).1 (hL.hs x hx).ob, k _ _ (g.wd (hL.hs x hx).wd) (hL.hs x hx).wd, k _ _ (hin x hx).2 (hL.hs x hx).cp⟩, hL.ne⟩, e⟩
theorem FL.ob (h : FL K S F ll w L lst n ss) : ∃ x, S ll = some (.slt (He.ga K "Line") x) := let ⟨_, _, _, _, d, _⟩ := h.ex; ⟨_, d.ob⟩
theorem FS.ob (h : FS K S F l w n s) : ∃ fs vs, S l = some (.ins (cS K) fs vs) ∧ fs = stF := let ⟨_, _, _, c⟩ := h.ex; ⟨_, _, c.ob, rfl⟩
theorem FL.ls (h : FL K S F ll w L lst n ss) : LS K eB S ll w L lst n ss := ⟨let ⟨a, b, c, _, d, e⟩ := h.ex; ⟨a, b, c, d, e, fun _ _ => ⟨rfl, rfl⟩⟩, fun _ _ e => (nomatch e), rfl, h.ok, h.eL, h.li, h.len, h.few, h.up⟩
structure Rest (S0 S : Sto) (l : Nat) (c : Int) (F G H : List Nat) : Prop where
  fg : Dj F G
  gh : Dj G H
  hf : Dj H F
  lf : l ∉ F
  lg : l ∉ G
  lh : l ∉ H
  new : ∀ m, m ∈ F ∨ m ∈ G ∨ m ∈ H → S0 m = none
  fr : Fr l S0 S
  bx : Bx S l c
theorem Rest.box {S0 : Sto} {c c' : Int} {H : List Nat} (h : Rest S0 S l c F G H) (k : Fr l S S') (b : Bx S' l c') : Rest S0 S' l c' F G H := ⟨h.fg, h.gh, h.hf, h.lf, h.lg, h.lh, h.new, h.fr.trans k, b⟩
theorem FS.bx {c : Int} (h : FS K S F l w n s) {b : Nat} (hb : Bx S b c) (hl : b ∉ F) (k : Fr b S S') : FS K S' F l w n s := h.kp (fun m hm z => hl (by rw [← List.mem_singleton.mp z]; exact hm)) (noW_box hb) (Kp.fr k)
theorem FL.bx {c : Int} (h : FL K S F ll w L lst n ss) {b : Nat} (hb : Bx S b c) (hl : b ∉ F) (k : Fr b S S') : FL K S' F ll w L lst n ss := h.kp (fun m hm z => hl (by rw [← List.mem_singleton.mp z]; exact hm)) (noW_box hb) (Kp.fr k)
end
end LK
end
section
set_option Elab.async false
set_option linter.all false
set_option maxRecDepth 100000
set_option maxHeartbeats 1000000
namespace LK
open PySem PySem.Spec PyProof.Rows L2 L3
def Sd.z (s : Sd) : Sd := { s with n := 0 }
section
variable {w : Wd} {lst : Row → List Str} {r : Row} {s : Sd} {m : Nat}
end
end LK
end
section
set_option Elab.async false
set_option linter.all false
set_option maxRecDepth 100000
set_option maxHeartbeats 1000000
namespace LK
open PySem PySem.Spec PyProof.Rows L2 L3
def NoT (S : Sto) (v : D) (T : String) : Prop := ∃ t, tyD S v = some t ∧ isK t T = false
def ValIn (S : Sto) (v : D) : Prop := (∃ x, v = .str x) ∨ NoT S v "str"
def RowIn (S : Sto) (v : D) : Prop := NoT S v "tuple" ∨ ∃ vs, v = .tup vs ∧ vs.length ≤ 1000 ∧ ∀ x ∈ vs, ValIn S x
def MapIn (S : Sto) (v : D) : Prop := NoT S v "tuple" ∨ ∃ rows, v = .tup rows ∧ rows.length ≤ 1000 ∧ ∀ x ∈ rows, RowIn S x
section
variable {K : PySem.W.Frag}
theorem eqvI (a b : Int) : PyData.eqv (.int a) (.int b) = decide (a = b) := by rw [eqv_int]; rfl
theorem NoT.mono {S S' : Sto} {v : D} {T : String} (k : NoT S v T) (s : S.sub S') : NoT S' v T := by
  obtain ⟨t, hT, hk⟩ := k
  refine ⟨t, ?_, hk⟩
  cases v with
  | ref l =>
    have h' : (match S l with | some (.lst _) => some "list" | some (.dic _ _) => some "dict" | _ => none) = some t := hT
    show (match S' l with | some (.lst _) => some "list" | some (.dic _ _) => some "dict" | _ => none) = some t
    cases e : S l with
    | none => rw [e] at h'; cases h'
    | some o => rw [s _ _ e]; rw [e] at h'; exact h'
  | _ => exact hT
theorem ValIn.mono {S S' : Sto} {v : D} (k : ValIn S v) (s : S.sub S') : ValIn S' v := k.imp id fun k => k.mono s
theorem RowIn.mono {S S' : Sto} {v : D} (k : RowIn S v) (s : S.sub S') : RowIn S' v := k.imp (fun k => k.mono s) fun ⟨vs, e, h, f⟩ => ⟨vs, e, h, fun x hx => (f x hx).mono s⟩
theorem MapIn.mono {S S' : Sto} {v : D} (k : MapIn S v) (s : S.sub S') : MapIn S' v := k.imp (fun k => k.mono s) fun ⟨vs, e, h, f⟩ => ⟨vs, e, h, fun x hx => (f x hx).mono s⟩
theorem pyO_lst {S : Sto} {n : Nat} {ds : List D} {ps : List PyData} (h : pyOs S n ds = some ps) : pyO S (n + 1) (.lst ds) = some (.list ps) := by rw [pyO.eq_def]; show (pyOs S n ds).map _ = _; rw [h]; rfl
theorem pyO_ref {S : Sto} {n l : Nat} {ds : List D} {ps : List PyData} (e : S l = some (.lst ds)) (h : pyOs S n ds = some ps) : pyO S (n + 1) (.ref l) = some (.list ps) := by
  rw [pyO.eq_def]
  show (match S l with | some (.lst ds) => (pyOs S n ds).map PyData.list | _ => none) = _
  rw [e]; show (pyOs S n ds).map _ = _; rw [h]; rfl
theorem pyO_str {S : Sto} {n : Nat} {x : Str} : pyO S (n + 1) (.str x) = some (.str x) := by rw [pyO.eq_def]
theorem pyOs_nil {S : Sto} {n : Nat} : pyOs S n [] = some [] := by rw [pyOs]
theorem pyOs_cons {S : Sto} {n : Nat} {d : D} {ds : List D} {p : PyData} {ps : List PyData} (h1 : pyO S n d = some p) (h2 : pyOs S n ds = some ps) : pyOs S n (d :: ds) = some (p :: ps) := by rw [pyOs, h1, h2]; rfl
theorem pyOs_map {α : Type} {S : Sto} {n : Nat} {g : α → D} {f : α → PyData} : ∀ {xs : List α}, (∀ a ∈ xs, pyO S n (g a) = some (f a)) → pyOs S n (xs.map g) = some (xs.map f)
  | [], _ => pyOs_nil
  | a :: as, h => pyOs_cons (h a List.mem_cons_self) (pyOs_map fun x hx => h x (List.mem_cons_of_mem _ hx))
theorem pyO_two {S : Sto} {n : Nat} {a b : D} {p q : PyData} (h1 : pyO S n a = some p) (h2 : pyO S n b = some q) : pyO S (n + 1) (.lst [a, b]) = some (.list [p, q]) := pyO_lst (pyOs_cons h1 (pyOs_cons h2 pyOs_nil))
theorem pyO_w {S : Sto} {n : Nat} (w : Wd) : pyOs S (n + 5) w.l = some [.list (w.hs.map pyHead), .list (w.rs.map pyRule)] := by
  refine pyOs_cons (pyO_lst (n := n + 4) (pyOs_map fun h _ => ?_)) (pyOs_cons (pyO_lst (n := n + 4) (pyOs_map fun r _ => ?_)) pyOs_nil)
  · exact pyO_two (n := n + 3) pyO_str (pyO_lst (n := n + 2) (pyOs_map fun x _ => pyO_str))
  · exact pyO_two (n := n + 3) (pyO_lst (n := n + 2) (pyOs_map fun t _ => pyO_two (n := n + 1) pyO_str pyO_str)) pyO_str
end
end LK
end
section
set_option Elab.async false
set_option linter.all false
set_option maxRecDepth 100000
set_option maxHeartbeats 1000000
namespace LK
open PySem PySem.Spec PyProof.Rows L2 L3
def Pl (S : Sto) : Nat → D → Nat → Prop
  | 0, _, _ => False
  | n + 1, r, m => match r with
    | .ref l => m = l ∨ ∃ gs, S l = some (.lst gs) ∧ ∃ g ∈ gs, Pl S n g m
    | _ => False
def Lv (S : Sto) : Nat → (Nat → Prop) → D → D → Prop
  | 0, _, _, _ => False
  | n + 1, B, w, r => match w with
    | .lst ds => ∃ (l : Nat) (gs : List D), r = .ref l ∧ B l ∧ S l = some (.lst gs) ∧ gs.length = ds.length ∧ ds.length ≤ sizeLine ∧
      (∀ (i j : Nat) (g h : D), i ≠ j → gs[i]? = some g → gs[j]? = some h → ∀ m, Pl S n g m → ¬ Pl S n h m) ∧ ∀ (i : Nat) (d g : D), ds[i]? = some d → gs[i]? = some g → Lv S n (fun m => B m ∧ m ≠ l) d g
    | .ref _ => False
    | w => r = w
theorem Lv.pl {S : Sto} : ∀ {n : Nat} {B : Nat → Prop} {w r : D} {m : Nat}, Lv S n B w r → Pl S n r m → B m ∧ ∃ gs, S m = some (.lst gs)
  | 0, B, w, r, m, h, _ => h.elim
  | n + 1, B, w, r, m, h, k => by
    cases w with
    | lst ds =>
      obtain ⟨l, gs, rfl, hb, hl, h1, h2, hd, h3⟩ := h
      rcases k with rfl | ⟨gs', e, g, hg, k⟩
      · exact ⟨hb, gs, hl⟩
      · rw [hl] at e; cases e
        obtain ⟨i, hi, rfl⟩ := List.getElem_of_mem hg
        have := (h3 i _ _ (List.getElem?_eq_getElem (by omega)) (List.getElem?_eq_getElem hi)).pl k
        exact ⟨this.1.1, this.2⟩
    | ref _ => exact h.elim
    | _ => rw [show r = _ from h] at k; exact k.elim
theorem Lv.back {S S' : Sto} : ∀ {n : Nat} {B : Nat → Prop} {w r : D} {m : Nat}, Lv S n B w r → (∀ m o, B m → S m = some o → S' m = some o) → Pl S' n r m → Pl S n r m
  | 0, B, w, r, m, h, _, _ => h.elim
  | n + 1, B, w, r, m, h, q, k => by
    cases w with
    | lst ds =>
      obtain ⟨l, gs, rfl, hb, hl, h1, h2, hd, h3⟩ := h
      rcases k with rfl | ⟨gs', e, g, hg, k⟩
      · exact .inl rfl
      · rw [q l _ hb hl] at e; cases e
        obtain ⟨i, hi, rfl⟩ := List.getElem_of_mem hg
        exact .inr ⟨gs, hl, _, hg, (h3 i _ _ (List.getElem?_eq_getElem (by omega)) (List.getElem?_eq_getElem hi)).back (fun m o hm => q m o hm.1) k⟩
    | ref _ => exact h.elim
    | _ => rw [show r = _ from h] at k; exact k.elim
theorem Lv.keep {S S' : Sto} : ∀ {n : Nat} {B B' : Nat → Prop} {w r : D}, Lv S n B w r → (∀ m o, B m → S m = some o → S' m = some o ∧ B' m) → Lv S' n B' w r
  | 0, B, B', w, r, h, _ => h
  | n + 1, B, B', w, r, h, k => by
    cases w with
    | lst ds =>
      obtain ⟨l, gs, rfl, hb, hl, h1, h2, hd, h3⟩ := h
      have bk : ∀ (i : Nat) (g : D), gs[i]? = some g → ∀ m, Pl S' n g m → Pl S n g m := fun i g e m hm => by
        have hi := (List.getElem?_eq_some_iff.mp e).1
        exact (h3 i _ _ (List.getElem?_eq_getElem (by omega)) e).back (fun m o hm ho => (k m o hm.1 ho).1) hm
      exact ⟨l, gs, rfl, (k l _ hb hl).2, (k l _ hb hl).1, h1, h2, fun i j g g' ne e1 e2 m p1 p2 => hd i j g g' ne e1 e2 m (bk i g e1 m p1) (bk j g' e2 m p2), fun i d g e1 e2 => (h3 i d g e1 e2).keep fun m o hm ho => ⟨(k m o hm.1 ho).1, (k m o hm.1 ho).2, hm.2⟩⟩
    | _ => exact h
theorem mapO_rel {α β γ : Type} {f : α → Option γ} {g : β → Option γ} : ∀ {ds : List α} {gs : List β} {ws : List γ}, gs.length = ds.length → (∀ (i : Nat) (d : α) (x : β), ds[i]? = some d → gs[i]? = some x → ∀ y, f d = some y → g x = some y) → mapO f ds = some ws → mapO g gs = some ws
  | [], gs, ws, hl, _, h => by rw [List.eq_nil_of_length_eq_zero hl]; cases h; rfl
  | d :: ds, [], ws, hl, _, h => by simp at hl
  | d :: ds, x :: gs, ws, hl, k, h => by
    have h' : (match f d, mapO f ds with
      | some b, some bs => some (b :: bs)
      | _, _ => none) = some ws := h
    show (match g x, mapO g gs with
      | some b, some bs => some (b :: bs)
      | _, _ => none) = some ws
    cases e1 : f d with
    | none => rw [e1] at h'; cases h'
    | some b =>
      cases e2 : mapO f ds with
      | none => rw [e1, e2] at h'; cases h'
      | some bs =>
        rw [e1, e2] at h'
        rw [k 0 d x rfl rfl b e1, mapO_rel (by simpa using hl) (fun i d x h1 h2 => k (i + 1) d x (by simpa using h1) (by simpa using h2)) e2]
        exact h'
theorem Lv.top {S : Sto} : ∀ {n : Nat} {B : Nat → Prop} {w r t : D}, Lv S n B w r → tupO n w = some t → topO S n r = some t
  | 0, B, w, r, t, h, _ => h.elim
  | n + 1, B, w, r, t, h, e => by
    cases w with
    | lst ds =>
      obtain ⟨l, gs, rfl, hb, hl, h1, h2, hd, h3⟩ := h
      obtain ⟨hz, e2⟩ := if_some (show (if ds.length ≤ sizeLine then (mapO (tupO n) ds).map D.tup else none) = some t from e)
      obtain ⟨ws, e3, e4⟩ := map_some e2
      rw [e4]
      exact topO_at hl (mapO_rel h1 (fun i d x k1 k2 y ky => (h3 i d x k1 k2).top ky) e3) (by omega)
    | ref l => cases e
    | tup ds => rw [show r = .tup ds from h]; exact tupO_top e
    | kt ds => rw [show r = .kt ds from h]; exact tupO_top e
    | non => rw [show r = .non from h]; exact tupO_top e
    | bl b => rw [show r = .bl b from h]; exact tupO_top e
    | int b => rw [show r = .int b from h]; exact tupO_top e
    | str b => rw [show r = .str b from h]; exact tupO_top e
    | _ => cases e
def Sp (S : Sto) : Nat → (Nat → Prop) → D → Prop
  | 0, _, _ => False
  | n + 1, B, r => (∃ x, r = .str x ∧ PyData.strOk x = true) ∨ ∃ (l : Nat) (gs : List D), r = .ref l ∧ B l ∧ S l = some (.lst gs) ∧ gs.length ≤ 1000000 ∧ ∀ g ∈ gs, Sp S n (fun m => B m ∧ m ≠ l) g
def Emp (B : Nat → Prop) (S S' : Sto) : Prop := ∀ m, S' m = S m ∨ (B m ∧ (∃ gs, S m = some (.lst gs)) ∧ S' m = some (.lst []))
theorem Emp.refl {B : Nat → Prop} {S : Sto} : Emp B S S := fun _ => .inl rfl
theorem Emp.trans {B : Nat → Prop} {S S1 S2 : Sto} (h : Emp B S S1) (k : Emp B S1 S2) : Emp B S S2 := fun m => by
  rcases k m with e | ⟨b, ⟨gs, e1⟩, e2⟩
  · rw [e]; exact h m
  · rcases h m with f | ⟨_, f, _⟩
    · exact .inr ⟨b, ⟨gs, by rw [← f]; exact e1⟩, e2⟩
    · exact .inr ⟨b, f, e2⟩
theorem Emp.mono {B B' : Nat → Prop} {S S' : Sto} (h : Emp B S S') (k : ∀ m, B m → B' m) : Emp B' S S' := fun m => (h m).imp id fun ⟨a, b, c⟩ => ⟨k m a, b, c⟩
theorem Emp.empty {B : Nat → Prop} {S S' : Sto} {m : Nat} (h : Emp B S S') (e : S m = some (.lst [])) : S' m = some (.lst []) := by
  rcases h m with f | ⟨_, _, f⟩
  · rw [f]; exact e
  · exact f
theorem Emp.out {B : Nat → Prop} {S S' : Sto} {m : Nat} (h : Emp B S S') (e : ¬ B m) : S' m = S m := by
  rcases h m with f | ⟨b, _⟩
  · exact f
  · exact absurd b e
inductive Txt : Nat → D → Prop
  | str {n x} : PyData.strOk x = true → Txt (n + 1) (.str x)
  | lst {n ds} : ds.length ≤ 1000000 → (∀ d ∈ ds, Txt n d) → Txt (n + 1) (.lst ds)
theorem Lv.sp {S : Sto} : ∀ {n : Nat} {B : Nat → Prop} {w r : D}, Lv S n B w r → Txt n w → Sp S n B r
  | 0, _, _, _, h, _ => h
  | n + 1, B, w, r, h, t => by
    cases t with
    | str hx => exact .inl ⟨_, h, hx⟩
    | @lst _ ds hz ht =>
      obtain ⟨l, gs, rfl, hb, hl, h1, h2, hd, h3⟩ := h
      refine .inr ⟨l, gs, rfl, hb, hl, by omega, fun g hg => ?_⟩
      obtain ⟨i, hi, rfl⟩ := List.getElem_of_mem hg
      have hi' : i < ds.length := by omega
      exact (h3 i _ _ (List.getElem?_eq_getElem hi') (List.getElem?_eq_getElem hi)).sp (ht _ (List.getElem_mem hi'))
end LK
end
section
set_option Elab.async false
set_option linter.all false
set_option maxRecDepth 100000
set_option maxHeartbeats 1000000
namespace LK
open PySem PySem.Spec PyProof.Rows L2 L3
section
variable {K : PySem.W.Frag}
end
end LK
end
section
set_option Elab.async false
set_option linter.all false
set_option maxRecDepth 100000
set_option maxHeartbeats 1000000
namespace LK
open PySem PySem.Spec PyProof.Rows L2 L3
section
variable {K : PySem.W.Frag} {S0 S S' : Sto} {F G : List Nat} {l l6 l7 n : Nat} {c : Int} {w : Wd} {L : D} {lst : Row → List Str} {s : Sd} {B : Nat → Prop}
theorem rules_lis {m : Nat} (hw : WOk w) {rs : List Rule} (h : ∀ r ∈ rs, r ∈ w.rs) (hl : rs.length ≤ 1000) : lisO (m + 5) (.tup (rs.map ruleD)) = some (.lst (rs.map ruleL)) :=
  lisO_tup (mapO_map (h := ruleL) fun r hr => lisO_tup (two_O (lisO_tup (mapO_map (h := testL) fun t ht => lisO_tup (two_O rfl rfl) two_sz) (small_sz (by rw [List.length_map]; have := hw.tl r (h r hr); omega))) rfl) two_sz) (small_sz (by rw [List.length_map]; omega))
theorem rules_tupL {m : Nat} (hw : WOk w) {rs : List Rule} (h : ∀ r ∈ rs, r ∈ w.rs) (hl : rs.length ≤ 1000) : tupO (m + 5) (.lst (rs.map ruleL)) = some (.tup (rs.map ruleD)) :=
  tupO_lst (mapO_map (h := ruleD) fun r hr => tupO_lst (two_O (tupO_lst (mapO_map (h := testD) fun t ht => tupO_lst (two_O rfl rfl) two_sz) (small_sz (by rw [List.length_map]; have := hw.tl r (h r hr); omega))) rfl) two_sz) (small_sz (by rw [List.length_map]; omega))
def Lsd (B : Nat → Prop) (S S' : Sto) : Prop := ∀ m, S' m = S m ∨ (B m ∧ (∃ gs, S m = some (.lst gs)) ∧ ∃ gs, S' m = some (.lst gs))
theorem Lsd.refl : Lsd B S S := fun _ => .inl rfl
theorem Lsd.trans {S2 : Sto} (h : Lsd B S S') (k : Lsd B S' S2) : Lsd B S S2 := fun m => by
  rcases k m with e | ⟨b, ⟨gs, e1⟩, e2⟩
  · rw [e]; exact h m
  · rcases h m with f | ⟨_, f, _⟩
    · exact .inr ⟨b, ⟨gs, by rw [← f]; exact e1⟩, e2⟩
    · exact .inr ⟨b, f, e2⟩
theorem Lsd.out {m : Nat} (h : Lsd B S S') (e : ¬ B m) : S' m = S m := by
  rcases h m with f | ⟨b, _⟩
  · exact f
  · exact absurd b e
theorem Lsd.put {m : Nat} {gs gs' : List D} (h : Lsd B S S') (b : B m) (e : S' m = some (.lst gs)) : Lsd B S (S'.set m (.lst gs')) := h.trans fun m' => by
  by_cases z : m' = m
  · rw [z, Sto.set_same]; exact .inr ⟨b, ⟨gs, e⟩, gs', rfl⟩
  · rw [Sto.set_ne z]; exact .inl rfl
theorem Lsd.mono {B' : Nat → Prop} (h : Lsd B S S') (k : ∀ m, B m → B' m) : Lsd B' S S' := fun m => (h m).imp id fun ⟨a, b⟩ => ⟨k m a, b⟩
theorem FS.subK (h : FS K S F l w n s) (k : S.sub S') : FS K S' F l w n s := h.kp (G := []) (fun m _ z => nomatch z) (fun m z => nomatch z) (Kp.sub k)
structure Ts (K : PySem.W.Frag) (S0 S : Sto) (l : Nat) (c : Int) (l8 l9 : Nat) (w : Wd) (n : Nat) (s : Sd) (F G : List Nat) : Prop where
  re : Rest S0 S l c F G []
  f8 : FS K S F l8 w n s
  f9 : FS K S G l9 w n s
theorem Ts.sub {l8 l9 : Nat} (h : Ts K S0 S l c l8 l9 w n s F G) (k : S.sub S') : Ts K S0 S' l c l8 l9 w n s F G := ⟨h.re.box (Fr.of k) (h.re.bx.sub k), h.f8.subK k, h.f9.subK k⟩
theorem Ts.fresh {l8 l9 m : Nat} (h : Ts K S0 S l c l8 l9 w n s F G) (hm : S m = none) : S0 m = none ∧ m ∉ F ∧ m ∉ G ∧ m ≠ l := by
  have ml : m ≠ l := fun e => by
    obtain ⟨o, ho, _⟩ := h.re.bx
    rw [← e, hm] at ho; cases ho
  refine ⟨h.re.fr.fresh ml hm, fun hf => ?_, fun hf => ?_, ml⟩
  · obtain ⟨o, e, _⟩ := h.f8.now m hf
    rw [hm] at e; cases e
  · obtain ⟨o, e, _⟩ := h.f9.now m hf
    rw [hm] at e; cases e
end
end LK
end
section
set_option Elab.async false
set_option linter.all false
set_option maxRecDepth 100000
set_option maxHeartbeats 2000000
namespace PySem
namespace OwnX
open PySem.W PySem.Calls PyProof.Rows PySem.HandSPX
def iB (fld : Str) (q0 q1 q2 q3 q4 q5 q6 q7 q8 q9 : Pos) : List Stmt :=
  [.Expr (.Call (.Attribute (.Call (.Name "super" q0) [] [] q1) "__init__" q2) [.Name fld q3] [] q4) q5, .Assign [.Attribute (.Name "self" q6) fld q7] (.Name fld q8) q9]
section
variable {prog : Program} {w : World} {A : Around} {E : Value → Shared → Prop} {R : Result → Shared → Prop} {s : Shared} {K : Frag} {mg mb : Str → Option Value} {C fI : Addr} {fld : Str}
section
open Builtin Builtin.ObjectAttr
variable {hp : Heap} {g : Array GenState} {d : Drawn} {t : Nat} {os : OsState}
end
end
end OwnX
end PySem
namespace L3
open PySem PySem.Spec PyProof.Rows L2
section
variable {M : Md} {X : Cx} {C fI : Addr} {fld x : Str} {k : Nat}
end
end L3
end
section
set_option Elab.async false
set_option linter.all false
set_option maxRecDepth 100000
set_option maxHeartbeats 2000000
namespace PySem
namespace OwnX
open PySem.W PySem.Calls PyProof.Rows PySem.HandSPX
end OwnX
end PySem
end
section
set_option Elab.async false
set_option linter.all false
set_option maxRecDepth 100000
set_option maxHeartbeats 2000000
namespace L3
namespace Catch
open PySem PySem.Spec PyProof.Rows L2
section
variable {X : Cx} {x x1 x2 x3 x4 x5 : Str} {c c1 c2 c3 c4 c5 : Value} {np p1 p2 p3 p4 p5 tp : Pos} {kk : Nat}
end
structure Caught (X : Cx) (pins : List (Addr × Obj)) (σ : L2.St) (H : Hp) (B : Heap) (a : Addr) (cls : Value) (d : Option Addr) (s : Shared) : Prop where
  was : ∃ sI, Inv X pins σ H sI ∧ (∀ b o, sI.heap.get? b = some o → b ∉ frs X.stack → B.get? b = some o) ∧ sI.heap.UpToSlots s.heap ∧ s.os = sI.os
  fly : HandSPX.FlyingZ B (X.env :: X.outer) a (Zc cls d) s.heap
  na : H a = none
  bare : AllBare s.gens
section
variable {X : Cx} {pins : List (Addr × Obj)} {σ : L2.St} {H : Hp} {B : Heap} {a : Addr} {cls : Value} {d : Option Addr} {s : Shared}
theorem Caught.go (c : Caught X pins σ H B a cls d s) {h' : Heap} (f : HandSPX.FlyingZ B (X.env :: X.outer) a (Zc cls d) h') (u : s.heap.UpToSlots h') : Caught X pins σ H B a cls d { s with heap := h' } :=
  let ⟨sI, I, nb, up, os⟩ := c.was
  ⟨⟨sI, I, nb, up.trans u, os⟩, f, c.na, c.bare⟩
theorem Caught.more (c : Caught X pins σ H B a cls d s) {h' : Heap} (k : s.heap.StaysIn h') : Caught X pins σ H B a cls d { s with heap := h' } := by
  obtain ⟨f1, f2, f3, oe, vs, T, oT, ts, e1, e2, e3, e4, e5, e6, e7, e8⟩ := c.fly
  exact c.go ⟨fun b o e => k b o (f1 b o e), f2, f3.of_keeps fun b o e _ => ⟨o, k b o e, rfl⟩, oe, vs, T, oT, ts, k _ _ e1, e2, e3, e4, e5, e6, k _ _ e7, e8⟩ (Heap.UpToSlots.of_keeps k)
theorem found {oe : Obj} {o : HO} (I : Inv X (pins ++ [(a, oe)]) σ H s) (n0 : X.s_0.heap.get? a = none) (np : ∀ p ∈ X.pn ++ pins, p.1 ≠ a) (new : ObjOk X.prog X.w (upd H a o) s.heap a o) : Inv X pins σ (upd H a o) s := by
  have at_ := I.pin (a, oe) (List.mem_append_right _ (List.mem_append_right _ (List.mem_singleton.mpr rfl)))
  have ha : s.heap.get? a = some oe := at_.1
  have hn : H a = none := at_.2.1
  have keep : ∀ {b : Addr} {u : HO}, H b = some u → upd H a o b = some u := fun {b u} e => by
    rw [upd_ne (ne_of_none e hn)]
    exact e
  have none_ : ∀ {b : Addr}, b ≠ a → H b = none → upd H a o b = none := fun {b} z e => by
    rw [upd_ne z]
    exact e
  refine { ok := I.ok, os := I.os, bare := I.bare, loc := I.loc, cell := I.cell, len := I.len, free := none_ (Ne.symm at_.2.2.1) I.free, hok := I.hok.laidN (fun _ _ z => z) hn new, freeC := ?_, pin := ?_, base := ?_ }
  · refine ⟨I.base.keep, I.base.slot, fun b ob e n hb => none_ (fun z => ?_) (I.base.free b ob e n hb), I.base.there, fun b xs e => keep (I.base.tups b xs e), fun b ob u e => keep (I.base.frzs b ob u e), fun b ps e => ?_⟩
    · rw [z, n0] at e
      cases e
    · obtain ⟨m, q⟩ := I.base.tbls b ps e
      exact ⟨m, keep q⟩
  · refine fun x c e => none_ (fun z => ?_) (I.freeC x c e)
    obtain ⟨v, o', e1, e2⟩ := I.cell x c e
    rw [z, ha] at e1
    cases e1
    exact at_.2.2.2.2 v e2
  · intro p hp
    have q := I.pin p ((List.mem_append.mp hp).elim (List.mem_append_left _) fun h => List.mem_append_right _ (List.mem_append_left _ h))
    exact ⟨q.1, none_ (np p hp) q.2.1, q.2.2⟩
end
section
variable {X : Cx} {x n : Str} {i j : Nat} {body : List Stmt} {t : Expr} {T : Value → Option Bool} {pos pos' q1 q2 q3 : Pos} {tb : WX → TS}
end
end Catch
end L3
end
section
set_option Elab.async false
set_option linter.all false
set_option maxRecDepth 100000
set_option maxHeartbeats 2000000
namespace L3
open PySem PySem.Spec PyProof.Rows L2
theorem RX.sub {K : PySem.W.Frag} {io : Pl} {H : Hp} {S S' : Sto} {d : Option Addr} {ns : List Str} {ds : List D} (x : RX K io H S d ns ds) (h : S'.sub S) : RX K io H S' d ns ds := by
  cases d with
  | none => exact x
  | some a => exact ⟨fun l o p e1 e2 => x.1 l o p (h l o e1) e2, x.2⟩
abbrev DXS := En → DXK
section
variable {X : Cx} {CX : CXT} {k : Nat} {f C : Addr} {sp0 : Sp} {W : WX} {m : Str} {pos apos : Pos} {e o : Expr} {es : List Expr} {ta : TE} {t : TA} {pl : Sem Bool}
end
section
variable {M : Md} {X : Cx} {k : Nat} {f C : Addr} {params : Arguments} {ps : List Str} {sp : DSp} {Ed : DXS} {W : WX} {x m : Str} {p pos apos : Pos} {e o : Expr} {es : List Expr} {d : DE} {t : DA}
end
theorem RE.clear {K : PySem.W.Frag} {io : Pl} {H : Hp} {ρ : En} {σ : L2.St} (r : RE K io H ρ σ) (i : Nat) : RE K io H (ρ.set i none) (σ.set i none) := by
  refine ⟨by simp [r.1], fun j e q => ?_⟩
  by_cases hj : j = i
  · subst hj
    by_cases hl : j < ρ.length
    · rw [List.getElem?_set_self hl] at q
      cases q
    · rw [List.getElem?_eq_none (by simpa using hl)] at q
      cases q
  · rw [List.getElem?_set_ne (Ne.symm hj)] at q
    obtain ⟨y, e1, h1⟩ := r.2 j e q
    exact ⟨y, by rw [List.getElem?_set_ne (Ne.symm hj)]; exact e1, h1⟩
theorem RS.exc {M : Md} {io : Pl} {H : Hp} {S : Sto} (r : RS M io H S) {a dd : Addr} {cls : Value} {ns : List Str} {ds : List D} (ha : H a = none) (x : RX M.K io H S (some dd) ns ds) :
    RS M (io ++ [(a, dd)]) (upd H a (ExD cls dd a)) (S.set io.length (.exc cls ns ds)) ∧ Stp io H (io ++ [(a, dd)]) (upd H a (ExD cls dd a)) ∧ S io.length = none ∧ (io ++ [(a, dd)])[io.length]? = some (a, dd) := by
  obtain ⟨sp, vs, hd, hl, rv⟩ := x
  have nda : dd ≠ a := ne_of_none hd ha
  have at_ : ∀ b, b ≠ a → upd H a (ExD cls dd a) b = H b := fun b h => upd_ne h
  have nx : ∀ {b : Addr} {u : HO}, H b = some u → b ≠ a := fun h => ne_of_none h ha
  have st : Stp io H (io ++ [(a, dd)]) (upd H a (ExD cls dd a)) := ⟨⟨_, rfl⟩, fun b xs h => by rw [at_ b (nx h)]; exact h, fun b ob u h => by rw [at_ b (nx h)]; exact h⟩
  have hat : (io ++ [(a, dd)])[io.length]? = some (a, dd) := by simp
  have hS : S io.length = none := by
    cases e : S io.length with
    | none => rfl
    | some o =>
      obtain ⟨p, e1, _⟩ := r.ob _ _ e
      rw [List.getElem?_eq_none (Nat.le_refl _)] at e1; cases e1
  have old : ∀ l o', S l = some o' → l ≠ io.length ∧ ∃ p, io[l]? = some p ∧ (io ++ [(a, dd)])[l]? = some p ∧ RO M.K io H p o' ∧ (p.1 ≠ a ∧ p.2 ≠ a) ∧ p.1 ≠ dd ∧ p.2 ≠ dd := fun l o' e => by
    obtain ⟨p, e1, h1⟩ := r.ob l o' e
    obtain ⟨⟨_, a1, _⟩, ⟨_, a2, _⟩⟩ := h1.there
    exact ⟨fun z => (by subst z; rw [hS] at e; exact nomatch e), p, e1, st.at_ e1, h1, ⟨nx a1, nx a2⟩, sp l o' p e e1⟩
  refine ⟨⟨fun l o' e => ?_, fun l m o1 o2 p1 p2 e1 e2 hn h1 h2 => ?_, fun P hP => ?_, sz_upd r.sz trivial, r.bs.trans st⟩, st, hS, hat⟩
  · by_cases hl' : l = io.length
    · subst hl'; rw [Sto.set_same] at e; cases e
      exact ⟨_, hat, nda, upd_same, vs, by rw [at_ dd nda]; exact hd, hl, rv.mono st⟩
    · rw [Sto.set_ne hl'] at e
      obtain ⟨_, p, e1, e2, h1, ⟨n1, n2⟩, _⟩ := old l o' e
      exact ⟨p, e2, h1.keep st (at_ _ n1) (at_ _ n2)⟩
  · by_cases hl' : l = io.length
    · subst hl'
      rw [hat] at h1; cases h1
      have hm : m ≠ io.length := fun z => hn z.symm
      rw [Sto.set_ne hm] at e2
      obtain ⟨_, p, z1, z2, _, ⟨n1, n2⟩, n3, n4⟩ := old m o2 e2
      rw [z2] at h2; cases h2
      exact ⟨n1.symm, n2.symm, n3.symm, n4.symm⟩
    · rw [Sto.set_ne hl'] at e1
      obtain ⟨_, p, z1, z2, _, ⟨n1, n2⟩, n3, n4⟩ := old l o1 e1
      rw [z2] at h1; cases h1
      by_cases hm : m = io.length
      · subst hm
        rw [hat] at h2; cases h2
        exact ⟨n1, n3, n2, n4⟩
      · rw [Sto.set_ne hm] at e2
        obtain ⟨_, p', z1', z2', _⟩ := old m o2 e2
        rw [z2'] at h2; cases h2
        exact r.sep l m o1 o2 _ _ e1 e2 hn z1 z1'
  · exact (r.tab P hP).keep st.frz fun ps h => by rw [at_ _ (nx h)]; exact h
section
variable {X : Cx} {pins : List (Addr × Obj)} {σ : L2.St} {H : Hp} {s : Shared}
end
section
variable {M : Md} {X : Cx} {e : Expr} {d : DE} {p q pos : Pos} {x f : Str} {c : Value} {tab : List (Value × Bool)} {ok : List Value}
end
section
variable {P : Program} {w : World} {K : PySem.W.Frag} {mg : Str → Option Value} {base : Heap} {x qual : Str} {params : Arguments} {body : List Stmt} {scope : Scope} {f : Addr} {fd : FuncData} {N ps : List Str} {k : Nat} {sp : DSp} {tabs : List (Addr × Str)}
end
end L3
end
section
set_option Elab.async false
set_option linter.all false
set_option maxRecDepth 100000
set_option maxHeartbeats 2000000
namespace L3
open PySem PySem.Spec PyProof.Rows L2
end L3
end
section
set_option Elab.async false
set_option linter.all false
set_option maxRecDepth 100000
set_option maxHeartbeats 1000000
namespace L3
open PySem PySem.Spec PyProof.Rows L2
section
variable {X : Cx} {T U : String}
end
section
variable {M : Md} {X : Cx} {e : Expr} {d : DE} {p q pos p1 p2 : Pos} {x y : Str} {T U : String} {tab : List (Value × Bool)}
end
end L3
end
section
set_option Elab.async false
set_option linter.all false
set_option maxRecDepth 100000
set_option maxHeartbeats 2000000
namespace L3
open PySem PySem.Spec PyProof.Rows L2
section
variable {prog : Program} {w : World} {A : Around} {E : Value → Shared → Prop} {s : Shared} {β : Type} {R : Value → β → Prop} {T : String} {r d : Addr} {n : Nat} {P : Nat → Value → Prop} {OK : Heap → Prop}
end
section
variable {X : Cx} {pins : List (Addr × Obj)} {σ : L2.St} {H : Hp} {s : Shared}
end
def txK (b : List Str) : List Key := b.map Sum.inr
section
variable {M : Md} {X : Cx} {e : Expr} {d : DE} {x : Str} {params : Arguments} {scope : Scope} {p lpos kpos pos p1 p2 p3 p4 p5 : Pos} {kk k : Nat} {c P : Addr}
end
end L3
end
section
set_option Elab.async false
set_option linter.all false
set_option maxRecDepth 100000
set_option maxHeartbeats 2000000
namespace L3
open PySem PySem.Spec PyProof.Rows L2
section
variable {M : Md} {X : Cx} {pos : Pos}
end
end L3
end
section
set_option Elab.async false
set_option linter.all false
set_option maxRecDepth 100000
set_option maxHeartbeats 2000000
namespace L3
open PySem PySem.Spec PyProof.Rows L2
section
variable {P : Program} {w : World} {A : Around} {kx vx t1 i1 : Expr} {ifs1 : List Expr} {scope : Scope} {pos : Pos} {D : Addr} {env : Env} {it : Value}
end
section
variable {X : Cx} {kx vx tg iter : Expr} {ifs : List Expr} {scope : Scope} {own : List (Str × Nat)} {pos : Pos} {wi : TI} {g : TG} {tt : TT} {tk tv : TE}
end
def dicTW (gs : Gs) (t : Tg) (tt : DT) (tk tv : DE) (ρ : En) (Q : List (List Key) → List D → Sto → Prop) : List D → List (List Key) → List D → Sto → Prop
  | [], ks, es, S => gs.ok S ∧ Q ks es S
  | d :: ds, ks, es, S => gs.ok S ∧ ks.length < sizeLine ∧ ∀ l o, S l = none → t.d d ρ fun ρ1 => tt ρ1 (S.set l o) fun b S2 =>
      if b = true then tk ρ1 S2 fun y S3 => tv ρ1 S3 fun z S4 => ∃ k, y = .tup (k.map kD) ∧ S4 l = some o ∧ ∃ S5, S5.sub (S4.del l) ∧ dicTW gs t tt tk tv ρ Q ds (putTs ks k) (putTd ks es k z) S5
      else S2 l = some o ∧ ∃ S4, S4.sub (S2.del l) ∧ dicTW gs t tt tk tv ρ Q ds ks es S4
def dDcT (di : DI) (t : Tg) (tt : DT) (tk tv : DE) (vs : List Nat) : DE := fun ρ S Q => di ρ S fun ds gs S1 => dicTW gs t tt tk tv (wipeD ρ vs) (fun ks es S2 => ∀ l, S2 l = none → Q (.ref l) (S2.set l (.dit ks es))) ds [] [] S1
section
variable {M : Md} {di : DI} {t : Tg} {tt : DT} {tk tv : DE} {vs : List Nat} {K : PySem.W.Frag}
end
section
variable {M : Md} {X : Cx} {kx vx tg iter : Expr} {ifs : List Expr} {scope : Scope} {own : List (Str × Nat)} {pos : Pos} {di : DI} {t : Tg} {tt : DT} {tk tv : DE}
end
def dSortKDF (d : DE) : DE := fun ρ S Q => d ρ S fun v S1 => ∃ (l : Nat) (bs : List (List Str)) (es : List D), v = .ref l ∧ S1 l = some (.dit (bs.map txK) es) ∧ bs.length ≤ 1000 ∧ (∀ b ∈ bs, b.length ≤ 1000) ∧ Q (.lst ((bs.mergeSort lnLe).map tS)) S1
end L3
end
section
set_option Elab.async false
set_option linter.all false
set_option maxRecDepth 100000
set_option maxHeartbeats 2000000
namespace L3
open PySem PySem.Spec PyProof.Rows L2
section
variable {M : Md} {X : Cx}
def oCmpD (f : PyData → PyData → Bool) : DR2 := fun v w S Q => ∃ p q, pyR S v = some p ∧ pyR S w = some q ∧ PySem.W.alike p q = true ∧ p ≠ .none ∧ p.depth ≤ 8 ∧ Q (.bl (f p q)) S
def oGeD : DR2 := oCmpD fun d e => !PySem.W.dataLt d e
end
end L3
end
section
set_option Elab.async false
set_option linter.all false
set_option maxRecDepth 100000
set_option maxHeartbeats 1000000
namespace LK
open PySem PySem.Spec PyProof.Rows L2 L3
abbrev cLt (K : PySem.W.Frag) : Addr := He.ga K "Later"
structure HasLt (K : PySem.W.Frag) (S : Sto) (l lw lc : Nat) (w : Wd) (cs : List Cp) : Prop where
  ob : S l = some (.slt (cLt K) [some (.ref lc), some (.ref lw)])
  wd : S lw = some (w.ob (cW K))
  cp : S lc = some (.lst (cs.map copyD))
theorem HasLt.mono {K : PySem.W.Frag} {S S' : Sto} {l lw lc : Nat} {w : Wd} {cs : List Cp} (h : HasLt K S l lw lc w cs) (s : S.sub S') : HasLt K S' l lw lc w cs := ⟨s _ _ h.ob, s _ _ h.wd, s _ _ h.cp⟩
def Wd.shownC (w : Wd) (c : Cp) : Option Row := w.shown c.1 c.2.1 c.2.2
def Wd.rightC (w : Wd) (cs : List Cp) : List Cp := cs.filter fun c => (w.shownC c).isNone
structure CsOk (w : Wd) (cs : List Cp) : Prop where
  len : cs.length ≤ 100
  row : ∀ c ∈ cs, c.1 ∈ w.rows
  ok : ∀ c ∈ cs, CpOk w c
def sp_World_with_rules_k45 (K : PySem.W.Frag) : DSp := fun ds S Q _ => ∃ (l : Nat) (w : Wd) (rs : List Rule) (v : D), ds = [.ref l, v] ∧ S l = some (w.ob (cW K)) ∧ WOk w ∧ WOk (w.rul rs) ∧ topO S 7 v = some (.tup (rs.map ruleD)) ∧ ∀ l', S l' = none → Q (.ref l') (S.set l' ((w.rul rs).ob (cW K)))
def sp_Later_init_k45 (K : PySem.W.Frag) : DSp := fun ds S Q _ => ∃ (l : Nat) (v u x : D) (w : Wd) (rs : List Rule) (cs : List Cp), ds = [.ref l, v, u, x] ∧ S l = some (.slt (cLt K) []) ∧ topO S 8 v = some w.d ∧ topO S 7 u = some (.tup (rs.map ruleD)) ∧ topO S 8 x = some (.tup (cs.map copyD)) ∧
  WOk w ∧ WOk (w.rul rs) ∧ CsOk w cs ∧ ∀ lw lc S', Fr l S S' → HasLt K S' l lw lc (w.rul rs) cs → Q .non S'
def sp_Later_copies_k45 (K : PySem.W.Frag) : DSp := fun ds S Q _ => ∃ (l lw lc : Nat) (w : Wd) (cs : List Cp), ds = [.ref l] ∧ HasLt K S l lw lc w cs ∧ cs.length ≤ 100 ∧ Q (.lst (cs.map copyD)) S
def sp_Later_shown_k45 (K : PySem.W.Frag) : DSp := fun ds S Q _ => ∃ (l lw lc : Nat) (w : Wd) (cs : List Cp) (c : Cp), ds = [.ref l, copyD c] ∧ HasLt K S l lw lc w cs ∧ WOk w ∧ CpOk w c ∧ Q (optD (w.shownC c)) S
def sp_Later_right_k45 (K : PySem.W.Frag) : DSp := fun ds S Q _ => ∃ (l lw lc : Nat) (w : Wd) (cs : List Cp), ds = [.ref l] ∧ HasLt K S l lw lc w cs ∧ WOk w ∧ CsOk w cs ∧ ∀ m, S m = none → Q (.ref m) (S.set m (.lst ((w.rightC cs).map copyD)))
def sp_right_k45 : DSp := fun ds S Q _ => ∃ (v u x : D) (w : Wd) (rs : List Rule) (cs : List Cp), ds = [v, u, x] ∧ topO S 8 v = some w.d ∧ topO S 7 u = some (.tup (rs.map ruleD)) ∧ topO S 8 x = some (.tup (cs.map copyD)) ∧
  WOk w ∧ WOk (w.rul rs) ∧ CsOk w cs ∧ ∀ m, S m = none → Q (.ref m) (S.set m (.lst (((w.rul rs).rightC cs).map copyD)))
def sp_shows_wrong_k45 : DSp := fun ds S Q _ => ∃ (v u x : D) (w : Wd) (rs : List Rule) (c : Cp), ds = [v, u, x] ∧ topO S 8 v = some w.d ∧ topO S 7 u = some (.tup (rs.map ruleD)) ∧ topO S 7 x = some (copyD c) ∧
  WOk w ∧ WOk (w.rul rs) ∧ CsOk w [c] ∧ Q (optD ((w.rul rs).shownC c)) S
def sp__law_shown_k45 : DSp := fun ds S Q _ => ∃ (w : Wd) (rs : List Rule) (r : Row) (ns : List Str) (due : Str), ds = [w.d, .lst (w.rows.map (ansD (w.rul rs))), rowD r, rowD ns, .str due] ∧ WOk w ∧ WOk (w.rul rs) ∧ ROk w r ∧ NsOk w ns ∧ PyData.strOk due = true ∧ Q (optD ((w.rul rs).shown r ns due)) S
def sp__law_fine_k45 : DSp := fun ds S Q _ => ∃ (w : Wd) (rs : List Rule) (cs : List Cp), ds = [w.d, .tup (rs.map ruleD), .tup (cs.map copyD)] ∧ WOk w ∧ WOk (w.rul rs) ∧ CsOk w cs ∧ Q (.lst (cs.map fun c => optD ((w.rul rs).shownC c))) S
def sp__law_rules_k45 : DSp := fun ds S Q _ => ∃ (l : Nat) (w : Wd) (c : Int), ds = [.ref l, w.d] ∧ WS w ∧ w.hs ≠ [] ∧ Bx S l c ∧ c ≤ 2 ^ 38 ∧
  ∀ (rs : List Rule) S1, WOk (w.rul rs) → rs.length ≤ 20 → Fr l S S1 → Bx S1 l (c + 4) → (∀ m, S1 m = none → S m = none) → Q (.tup (rs.map ruleD)) S1
def sp__law_copies_k45 : DSp := fun ds S Q _ => ∃ (l : Nat) (w : Wd) (c m : Int), ds = [.ref l, w.d, .int m] ∧ WS w ∧ Bx S l c ∧ c ≤ 2 ^ 38 ∧ 0 ≤ m ∧ m ≤ 50 ∧
  ∀ (cs : List Cp) S1, CsOk w cs → (cs.length : Int) = m → Fr l S S1 → Bx S1 l (c + 60000) → (∀ m, S1 m = none → S m = none) → Q (.tup (cs.map copyD)) S1
def sp__law_right_k45 : DSp := sp_rightG
def sp_law_k45 : DSp := sp_lawG
abbrev N_World_with_rules_k45 : List Str := ["self", "rules"]
def d_World_with_rules_k45 (K : PySem.W.Frag) : DS :=
  dRet (dMakeSl (He.ga K "World") (sp_World_init K) noX (aCons (dTup (aCons (dMethSl (He.ga K "World") (sp_World_header_pairs K) noX (dVar 0) aNil) (aCons (dVar 1) (aNil)))) (aNil)))
abbrev N_Later_init_k45 : List Str := ["self", "world", "rules", "copies", "request", "names", "told"]
def d_Later_init_k45 (K : PySem.W.Frag) : DS :=
  dSeq (dSetSlot (He.ga K "Later") 1 (dVar 0) (dMethSl (He.ga K "World") (sp_World_with_rules_k45 K) noX (dMakeSl (He.ga K "World") (sp_World_init K) noX (aCons (dVar 1) (aNil))) (aCons (dVar 2) (aNil))))
    (dSeq (dSetSlot (He.ga K "Later") 0 (dVar 0) (dLst (aNil)))
    (dFor (iSeq (dCall (sp_tupled 8) noX (aCons (dVar 3) (aNil)))) (.many [4, 5, 6]) (dDrop (dBM "list" mAppend (dSlot (He.ga K "Later") 0 (dVar 0)) (aCons (dTup (aCons (dMethSl (He.ga K "World") (sp_World_check K) noX (dSlot (He.ga K "Later") 1 (dVar 0)) (aCons (dVar 4) (aNil))) (aCons (dVar 5) (aCons (dVar 6) (aNil))))) (aNil))))))
abbrev N_Later_copies_k45 : List Str := ["self"]
def d_Later_copies_k45 (K : PySem.W.Frag) : DS :=
  dRet (dCB bListF (aCons (dSlot (He.ga K "Later") 0 (dVar 0)) (aNil)))
abbrev N_Later_shown_k45 : List Str := ["self", "copy", "some", "request", "names", "told", "other"]
def d_Later_shown_k45 (K : PySem.W.Frag) : DS :=
  dSeq (dAsg (dVar 1) (gdTup 3 (gdCons (gdName 3) (gdCons (gdName 4) (gdCons (gdName 5) (gdNil))))))
    (dSeq (dSet 2 (dLcF (iSeq (dMethSl (He.ga K "World") (sp_World_requests K) noX (dSlot (He.ga K "Later") 1 (dVar 0)) aNil)) (.one 6) (dTst (dMethSl (He.ga K "World") (sp_World_alike K) noX (dSlot (He.ga K "Later") 1 (dVar 0)) (aCons (dVar 3) (aCons (dVar 6) (aCons (dVar 4) (aNil)))))) (dVar 6) [6]))
    (dRet (dNextG (iSeq (dVar 2)) (.one 6) (dTst (dOp oNeD (dMethSl (He.ga K "World") (sp_World_answer K) noX (dSlot (He.ga K "Later") 1 (dVar 0)) (aCons (dVar 6) (aNil))) (dVar 5))) (dVar 6) [6] .non)))
abbrev N_Later_right_k45 : List Str := ["self", "copy"]
def d_Later_right_k45 (K : PySem.W.Frag) : DS :=
  dRet (dLc (iSeq (dMethSl (He.ga K "Later") (sp_Later_copies_k45 K) noX (dVar 0) aNil)) (.one 1) (dTst (dOp oIsN (dMethSl (He.ga K "Later") (sp_Later_shown_k45 K) noX (dVar 0) (aCons (dVar 1) (aNil))) (dC .non))) (dVar 1) [1])
abbrev N_right_k45 : List Str := ["world", "rules", "copies"]
def d_right_k45 (K : PySem.W.Frag) : DS :=
  dRet (dMethSl (He.ga K "Later") (sp_Later_right_k45 K) noX (dMakeSl (He.ga K "Later") (sp_Later_init_k45 K) noX (aCons (dVar 0) (aCons (dVar 1) (aCons (dVar 2) (aNil))))) aNil)
abbrev N_shows_wrong_k45 : List Str := ["world", "rules", "copy", "later"]
def d_shows_wrong_k45 (K : PySem.W.Frag) : DS :=
  dSeq (dSet 3 (dMakeSl (He.ga K "Later") (sp_Later_init_k45 K) noX (aCons (dVar 0) (aCons (dVar 1) (aCons (dLstF (aCons (dVar 2) (aNil))) (aNil))))))
    (dRet (dMethSl (He.ga K "Later") (sp_Later_shown_k45 K) noX (dVar 3) (aCons (dOp oIx (dMethSl (He.ga K "Later") (sp_Later_copies_k45 K) noX (dVar 3) aNil) (dC (.int 0))) (aNil))))
abbrev N__law_shown_k45 : List Str := ["_law_world_so", "_law_told_so", "_law_request_so", "_law_names_so", "_law_due", "_law_spots", "_law_own", "_law_its", "_law_k"]
def d__law_shown_k45 : DS :=
  dSeq (dSet 5 (dLcF (iSeq (dVar 3)) (.one 6) (dYes) (dBM "list" mIndex (dCall (sp__law_names) noX (aCons (dVar 0) (aNil))) (aCons (dVar 6) (aNil))) [6]))
    (dSeq (dFor (iSeq (dVar 1)) (.many [6, 7]) (dIfS (dAnd (dTst (dOp oNeD (dVar 7) (dVar 4))) (dTst (dOp oEqD (dLcF (iSeq (dVar 5)) (.one 8) (dTst (dOp oNeD (dOp oIx (dVar 6) (dVar 8)) (dOp oIx (dVar 2) (dVar 8)))) (dVar 8) [8]) (dLstF (aNil))))) (dRet (dVar 6)) (dNext)))
    (dRet (dC .non)))
abbrev N__law_fine_k45 : List Str := ["_law_world_so", "_law_rules_so", "_law_copies_so", "_law_told_so", "_law_own"]
def d__law_fine_k45 : DS :=
  dSeq (dSet 3 (dCall (sp__law_answers) noX (aCons (dTup (aCons (dOp oIx (dVar 0) (dC (.int 0))) (aCons (dVar 1) (aNil)))) (aNil))))
    (dRet (dLcF (iSeq (dVar 2)) (.one 4) (dYes) (dCall (sp__law_shown_k45) noX (aCons (dVar 0) (aCons (dVar 3) (aCons (dOp oIx (dVar 4) (dC (.int 0))) (aCons (dOp oIx (dVar 4) (dC (.int 1))) (aCons (dOp oIx (dVar 4) (dC (.int 2))) (aNil))))))) [4]))
abbrev N__law_rules_k45 : List Str := ["_law_box_here", "_law_world_so", "_law_rules_so", "_law_way", "_law_spot", "_law_name_so", "_law_values_so"]
def t__law_rules_k45 : DS :=
  (dSeq (dAsg (dCall (sp__law_of) noX (aCons (dVar 0) (aCons (dCB bListF (aCons (dOp oIx (dVar 1) (dC (.int 0))) (aNil))) (aNil)))) (gdTup 2 (gdCons (gdName 5) (gdCons (gdName 6) (gdNil)))))
    (dSet 2 (dOp oAddLF (dLstF (aCons (dTup (aCons (dTup (aCons (dTup (aCons (dVar 5) (aCons (dCall (sp__law_of) noX (aCons (dVar 0) (aCons (dOp oAddT (dTup (aCons (dC (.str "")) (aNil))) (dVar 6)) (aNil)))) (aNil)))) (aNil))) (aCons (dCall (sp__law_of) noX (aCons (dVar 0) (aCons (dLstF (aCons (dC (.str "eng")) (aCons (dC (.str "new")) (aNil)))) (aNil)))) (aNil)))) (aNil))) (dSlF (dVar 2) (dNoP) (dPart (dC (.int 5)))))))
def d__law_rules_k45 : DS :=
  dSeq (dPar 2 3 (aCons (dCB bList (aCons (dOp oIx (dVar 1) (dC (.int 1))) (aNil))) (aCons (dCall (sp__law_take) noX (aCons (dVar 0) (aCons (dC (.int 4)) (aNil)))) (aNil))))
    (dSeq (dIfS (dAnd (dTst (dOp oNeD (dVar 2) (dLstF (aNil)))) (dTst (dOp oEqD (dVar 3) (dC (.int 0))))) (dDrop (dBM "list" mPopAt (dVar 2) (aCons (dCall (sp__law_take) noX (aCons (dVar 0) (aCons (dCB bLen (aCons (dVar 2) (aNil))) (aNil)))) (aNil)))) (dIfS (dTst (dOp oEqD (dVar 3) (dC (.int 1)))) (dSet 2 (dRevLF (dVar 2))) (dIfS (dAnd (dTst (dOp oNeD (dVar 2) (dLstF (aNil)))) (dTst (dOp oEqD (dVar 3) (dC (.int 2))))) (dSeq (dSet 4 (dCall (sp__law_take) noX (aCons (dVar 0) (aCons (dCB bLen (aCons (dVar 2) (aNil))) (aNil)))))
    (dAsg (dTup (aCons (dOp oIx (dOp oIx (dVar 2) (dVar 4)) (dC (.int 0))) (aCons (dCall (sp__law_of) noX (aCons (dVar 0) (aCons (dLstF (aCons (dC (.str "eng")) (aCons (dC (.str "new")) (aNil)))) (aNil)))) (aNil)))) (gdSub (dVar 2) (dVar 4)))) t__law_rules_k45)))
    (dRet (dCB bTuple (aCons (dVar 2) (aNil)))))
abbrev N__law_copies_k45 : List Str := ["_law_box_here", "_law_world_so", "_law_many_so", "_law_turn", "_law_told_so", "_law_some", "_law_names_so", "_law_request_so", "_law_due"]
def t__law_copies_k45 : DS :=
  (dDrop (dBM "list" mAppend (dVar 5) (aCons (dTup (aCons (dVar 7) (aCons (dVar 6) (aCons (dCall (sp__law_of) noX (aCons (dVar 0) (aCons (dLstF (aCons (dVar 8) (aCons (dVar 8) (aCons (dVar 8) (aCons (dC (.str "eng")) (aNil)))))) (aNil)))) (aNil))))) (aNil))))
def d__law_copies_k45 : DS :=
  dSeq (dPar 4 5 (aCons (dCall (sp__law_answers) noX (aCons (dVar 1) (aNil))) (aCons (dLst (aNil)) (aNil))))
    (dSeq (dFor (iR1 (aCons (dVar 2) (aNil))) (.one 3) (dSeq (dAsg (dCall (sp__law_of) noX (aCons (dVar 0) (aCons (dVar 4) (aNil)))) (gdTup 2 (gdCons (gdName 7) (gdCons (gdName 8) (gdNil)))))
    (dSeq (dSet 6 (dCall (sp__law_looked) noX (aCons (dVar 1) (aCons (dVar 7) (aNil)))))
    (dSeq (dIfS (dTst (dOp oEqD (dCall (sp__law_take) noX (aCons (dVar 0) (aCons (dC (.int 3)) (aNil)))) (dC (.int 0)))) (dSet 6 (dCB bTuple (aCons (dCB bSortSF (aCons (dCall (sp__law_pick) noX (aCons (dVar 0) (aCons (dCall (sp__law_names) noX (aCons (dVar 1) (aNil))) (aCons (dCall (sp__law_take) noX (aCons (dVar 0) (aCons (dC (.int 4)) (aNil)))) (aNil))))) (aNil))) (aNil)))) (dNext))
    t__law_copies_k45))))
    (dRet (dCB bTuple (aCons (dVar 5) (aNil)))))
abbrev N__law_right_k45 : List Str := ["_law_box_here", "_law_shelf_so", "_law_turn", "_law_copies_so", "_law_said", "_law_world_so", "_law_odd", "_law_due", "_law_hard", "_law_told_so", "_law_k", "_law_three", "_law_rules_so", "_law_own"]
def t__law_right_k45 : DS :=
  (dSeq (dSet 5 (dCall (sp__law_world) noX (aCons (dVar 0) (aCons (dCall (sp__law_of) noX (aCons (dVar 0) (aCons (dLstF (aCons (dLstF (aCons (dC (.int 2)) (aCons (dC (.int 2)) (aCons (dC (.int 1)) (aNil))))) (aCons (dLstF (aCons (dC (.int 1)) (aCons (dC (.int 2)) (aCons (dC (.int 2)) (aNil))))) (aCons (dLstF (aCons (dC (.int 3)) (aCons (dC (.int 3)) (aCons (dC (.int 3)) (aNil))))) (aCons (dLstF (aCons (dC (.int 3)) (aCons (dC (.int 2)) (aNil)))) (aCons (dLstF (aCons (dC (.int 1)) (aCons (dC (.int 1)) (aCons (dC (.int 1)) (aCons (dC (.int 1)) (aNil)))))) (aNil))))))) (aNil)))) (aNil)))))
    (dSeq (dAsg (dTup (aCons (dCall (sp__law_copies_k45) noX (aCons (dVar 0) (aCons (dVar 5) (aCons (dOp oAddI (dC (.int 2)) (dCall (sp__law_take) noX (aCons (dVar 0) (aCons (dC (.int 11)) (aNil))))) (aNil))))) (aCons (dCall (sp__law_rules_k45) noX (aCons (dVar 0) (aCons (dVar 5) (aNil)))) (aNil)))) (gdTup 2 (gdCons (gdName 3) (gdCons (gdName 12) (gdNil)))))
    (dSeq (dSet 6 (dCall (sp__law_fine_k45) noX (aCons (dVar 5) (aCons (dVar 12) (aCons (dVar 3) (aNil))))))
    (dSeq (dSet 7 (dLcF (iR1 (aCons (dCB bLen (aCons (dVar 3) (aNil))) (aNil))) (.one 10) (dTst (dOp oIsN (dOp oIx (dVar 6) (dVar 10)) (dC .non))) (dOp oIx (dVar 3) (dVar 10)) [10]))
    (dSeq (dSet 4 (dCall (sp_right_k45) noX (aCons (dVar 5) (aCons (dVar 12) (aCons (dVar 3) (aNil))))))
    (dSeq (dFor (iEnS (aCons (dTup (aCons (dVar 5) (aCons (dVar 12) (aCons (dVar 3) (aNil))))) (aNil))) (.many [10, 13]) (dAsg (dFrz (dCall (sp__law_lists_b 8) noX (aCons (dVar 13) (aNil)))) (gdAll (dOp oIx (dVar 1) (dVar 10)))))
    (dSeq (dSet 8 (dLstF (aCons (dFrz (dCall (sp__law_lists_b 8) noX (aCons (dVar 12) (aNil)))) (aCons (dFrz (dCall (sp__law_lists_b 8) noX (aCons (dVar 3) (aNil)))) (aNil)))))
    (dSeq (dSet 9 (dCallP 3 (sp_right_k45) noX [2, 1, 0] (aCons (dOp oIx (dVar 1) (dC (.int 2))) (aCons (dOp oIx (dVar 1) (dC (.int 1))) (aCons (dOp oIx (dVar 1) (dC (.int 0))) (aNil))))))
    (dSeq (dIfS (dNot (dTst (dCall (sp__law_same 8) noX (aCons (dLstF (aCons (dVar 4) (aCons (dVar 9) (aNil)))) (aCons (dLstF (aCons (dVar 7) (aCons (dVar 7) (aNil)))) (aNil)))))) (dRet (dC (.bl false))) (dNext))
    (dSeq (dDrop (dBM "list" mAppend (dVar 4) (aCons (dC (.str "more")) (aNil))))
    (dSeq (dIfS (dNot (dTst (dCall (sp__law_same 8) noX (aCons (dCall (sp_right_k45) noX (aCons (dVar 5) (aCons (dVar 12) (aCons (dVar 3) (aNil))))) (aCons (dVar 7) (aNil)))))) (dRet (dC (.bl false))) (dNext))
    (dSeq (dFor (iR1 (aCons (dCB bLen (aCons (dVar 3) (aNil))) (aNil))) (.one 10) (dSeq (dSet 4 (dLst (aCons (dCall (sp_shows_wrong_k45) noX (aCons (dVar 5) (aCons (dVar 12) (aCons (dOp oIx (dVar 3) (dVar 10)) (aNil))))) (aNil))))
    (dSeq (dDrop (dBM "list" mAppend (dVar 4) (aCons (dCallP 3 (sp_shows_wrong_k45) noX [2, 1, 0] (aCons (dOp oIx (dOp oIx (dVar 8) (dC (.int 1))) (dVar 10)) (aCons (dOp oIx (dVar 1) (dC (.int 1))) (aCons (dOp oIx (dVar 1) (dC (.int 0))) (aNil))))) (aNil))))
    (dIfS (dNot (dTst (dCall (sp__law_same 8) noX (aCons (dVar 4) (aCons (dOp oRepLF (dLstF (aCons (dOp oIx (dVar 6) (dVar 10)) (aNil))) (dC (.int 2))) (aNil)))))) (dRet (dC (.bl false))) (dNext)))))
    (dIfS (dOr (dTst (dOp oNeO (dVar 1) (dOp oAddLF (dLstF (aCons (dFrz (dCall (sp__law_lists_b 8) noX (aCons (dVar 5) (aNil)))) (aNil))) (dVar 8)))) (dTst (dOp oNeD (dCall (sp_right_k45) noX (aCons (dVar 5) (aCons (dVar 12) (aCons (dTup (aNil)) (aNil))))) (dLstF (aNil))))) (dRet (dC (.bl false))) (dNext))))))))))))))
def d__law_right_k45 : DS :=
  dSeq (dSet 1 (dLstF (aCons (dLst (aNil)) (aCons (dLst (aNil)) (aCons (dLst (aNil)) (aNil))))))
    (dSeq (dFor (iR1 (aCons (dC (.int 3)) (aNil))) (.one 2) t__law_right_k45)
    (dSeq (dAsg (dTup (aCons (dTup (aCons (dTup (aCons (dTup (aCons (dC (.str "a")) (aCons (dTup (aCons (dC (.str "x")) (aCons (dC (.str "y")) (aNil)))) (aNil)))) (aNil))) (aCons (dTup (aNil)) (aNil)))) (aCons (dTup (aCons (dTup (aCons (dTup (aCons (dTup (aCons (dC (.str "a")) (aCons (dC (.str "y")) (aNil)))) (aNil))) (aCons (dC (.str "k")) (aNil)))) (aNil))) (aNil)))) (gdTup 2 (gdCons (gdName 11) (gdCons (gdName 12) (gdNil)))))
    (dSeq (dSet 3 (dTup (aCons (dTup (aCons (dTup (aCons (dC (.str "")) (aNil))) (aCons (dTup (aNil)) (aCons (dC (.str "")) (aNil))))) (aCons (dTup (aCons (dTup (aCons (dC (.str "x")) (aNil))) (aCons (dTup (aCons (dC (.str "a")) (aNil))) (aCons (dC (.str "")) (aNil))))) (aCons (dTup (aCons (dTup (aCons (dC (.str "y")) (aNil))) (aCons (dTup (aCons (dC (.str "a")) (aNil))) (aCons (dC (.str "k")) (aNil))))) (aNil))))))
    (dSeq (dSet 4 (dLstF (aCons (dCall (sp_right_k45) noX (aCons (dVar 11) (aCons (dVar 12) (aCons (dVar 3) (aNil))))) (aCons (dCall (sp_shows_wrong_k45) noX (aCons (dVar 11) (aCons (dVar 12) (aCons (dOp oIx (dVar 3) (dC (.int 0))) (aNil))))) (aNil)))))
    (dRet (dCall (sp__law_same 8) noX (aCons (dVar 4) (aCons (dLstF (aCons (dCB bListF (aCons (dSlF (dVar 3) (dPart (dC (.int 1))) (dNoP)) (aNil))) (aCons (dTup (aCons (dC (.str "y")) (aNil))) (aNil)))) (aNil)))))))))
abbrev N_law_k45 : List Str := ["_law_script", "_law_cells_here", "_law_k", "_law_box_here", "_law_turn"]
def d_law_k45 : DS :=
  dSeq (dSet 1 (dCall (sp__law_cells) noX (aCons (dVar 0) (aCons (dC (.int 3)) (aNil)))))
    (dSeq (dFor (iR1 (aCons (dCB bLen (aCons (dVar 1) (aNil))) (aNil))) (.one 2) (dSeq (dSet 3 (dCall (sp__law_box) noX (aCons (dVar 1) (aCons (dVar 2) (aNil)))))
    (dIfS (dNot (dTst (dCB bAll (aCons (dLcF (iR1 (aCons (dC (.int 1)) (aNil))) (.one 4) (dYes) (dCall (sp__law_right_k45) noX (aCons (dVar 3) (aNil))) [4]) (aNil))))) (dRet (dC (.bl false))) (dNext))))
    (dRet (dC (.bl true))))
theorem CsOk.rul {w : Wd} {rs : List Rule} {cs : List Cp} (h : CsOk w cs) : CsOk (w.rul rs) cs := ⟨h.len, h.row, fun c hc => ⟨⟨(h.ok c hc).row.len, (h.ok c hc).row.so⟩, ⟨(h.ok c hc).ns.mem, (h.ok c hc).ns.len⟩, (h.ok c hc).len, (h.ok c hc).so⟩⟩
theorem CsOk.one {w : Wd} {cs : List Cp} {x : Cp} (h : CsOk w cs) (hx : x ∈ cs) : CsOk w [x] := ⟨by simp, fun c hc => by rw [List.mem_singleton.mp hc]; exact h.row x hx, fun c hc => by rw [List.mem_singleton.mp hc]; exact h.ok x hx⟩
theorem fr_new {l : Nat} {S S' : Sto} {o : Ob} (hl : S l = none) (f : Fr l (S.set l o) S') : S.sub S' := fun m x e => by
  have hm : m ≠ l := fun z => by rw [z, hl] at e; cases e
  exact f m x hm (by rw [Sto.set_ne hm]; exact e)
theorem topO_two {S : Sto} {n : Nat} {a b a' b' : D} (h : topO S n a = some a') (k : topO S n b = some b') : topO S (n + 1) (.tup [a, b]) = some (.tup [a', b']) := by
  show (if [a, b].length ≤ sizeLine then (mapO (topO S n) [a, b]).map D.tup else none) = _
  rw [if_pos two_sz]
  unfold mapO mapO mapO
  rw [h, k]
  rfl
theorem topO_one {S : Sto} {n : Nat} {a a' : D} (h : topO S n a = some a') : topO S (n + 1) (.lst [a]) = some (.tup [a']) := by
  show (if [a].length ≤ sizeLine then (mapO (topO S n) [a]).map D.tup else none) = _
  rw [if_pos (show [a].length ≤ sizeLine by rw [sizeLine_eq]; simp)]
  unfold mapO mapO
  rw [h]
  rfl
theorem heads_tup {w : Wd} (hw : WOk w) : tupO 7 (.tup (w.hs.map headD)) = some (.tup (w.hs.map headD)) := by
  refine tupO_tup (mapO_map fun h hh => ?_) ?_
  · exact tupO_tup (two_O rfl (tupO_tup (tupO_strs _) (small_sz (by rw [List.length_map]; have := hw.vl h hh; omega)))) two_sz
  · have := hw.hl
    exact small_sz (by rw [List.length_map]; omega)
theorem first_of {w : Wd} {c : Cp} : ∀ rows : List Row, ((rows.filter fun o => w.alike c.1 o c.2.1).findSome? fun o => if (!decide (w.ans o = c.2.2)) = true then some (rowD o) else none).getD D.non = optD (rows.find? fun o => w.alike c.1 o c.2.1 && !decide (w.ans o = c.2.2))
  | [] => rfl
  | o :: rows => by
    have ih := first_of (w := w) (c := c) rows
    rw [List.find?_cons, List.filter_cons]
    by_cases e : w.alike c.1 o c.2.1 = true
    · rw [if_pos e, e, Bool.true_and, List.findSome?_cons]
      cases e2 : !decide (w.ans o = c.2.2) with
      | true => rfl
      | false => exact ih
    · rw [if_neg e, Bool.not_eq_true _ |>.mp e, Bool.false_and]
      exact ih
theorem isN_o {K' : DK} {S : Sto} {o : Option Row} (q : K' (.bl o.isNone) S) : oIsN (optD o) .non S K' := by
  refine ⟨rfl, ?_⟩
  cases o with
  | none => exact .inl ⟨rfl, q⟩
  | some r => exact .inr ⟨rfl, q⟩
section
variable {K : PySem.W.Frag}
theorem v_World_with_rules_k45 : ∀ ds S Q E, sp_World_with_rules_k45 K ds S Q E → d_World_with_rules_k45 K (EndsD Q) (startD N_World_with_rules_k45 ds) S := by
  rintro ds S Q E ⟨l, w, rs, v, rfl, h, hw, hw2, hv, q⟩
  simp only [d_World_with_rules_k45, N_World_with_rules_k45, dWkA, dTupK, dTupL, dTupIx, dDictP, dDc2, dFor, dWhile, dLc, dLc2, dDc, dNextG, iSeq, iR1, iR2, iEn, iZpA, iZ2, iZ3, dSortK, dSortKF, dSortSet, dSortSetF, dBreak, bSortT, bSortTF, bSum, bSumL, bSumLF, bMaxL, bMinL, dDicE, bSortD, bSortDF, dGet2, oInA, oNotInA, oIxA, gdSubA, dSeq, dSet, dIf, dIfS, dTst, dOp, dUn, dVar, dCB, aCons, aNil, aStar, dRet, dRetN, dNext, dDrop, dLst, dTup, dC, dAnd, dOr, dNot, dAndV, dOrV, dNotV, dPar, dAsg, gdName, gdSub, gdTup, gdCons, gdNil, gdSlot, dIsi, dIsi2, dSlot, dSetSlot, dMethSl, dMakeSl, dCall, dCallP, dBM, dFrz, dLstF, dLcF, dLc2F, dDcF, dSlF, dListVF, bListF, bListDF, bSortSF, oAddLF, oRepLF, dSl, dNoP, dPart, dListV, dTru, dOrT, EndsD, startD, oLtI, oLeI, oGtI, oGeI, oIx, oMulI, oPowI, oAddI, oSubI, oModI, oDivI, oI, oI0, oEqD, oNeD, oInD, oNotInD, oAddL, oAddT, oAddS, oRepL, bLen, bAbs, bInt, bMin2, bMax2, bAll, bAny, bTuple, bList, bListD, bSortS, mAppend, mPop, mPopAt, mExtend, mIndex, dFld, dSetFld, dAddFld, gdFld, dMeth, dMake, dPar3, dRevT, oAddTK, dSortSetT, dSortSetTF, gdLst, gdAll, dRevL, dRevLF, dYes, dFrzA, oNegI, bSortG, bSortGF, dSlK, oIsB, oNotB, bSortTS, bSortTSF, bSortI, bSortIF, iDi, dDisp, iEnS, dEi, oTimes, oEqO, oNeO, mClear, mReverse, dMethP, dMethSlP, dMakeP, dMakeSlP, oGeD, oCmpD, dSortSetBF, dSortKDF, dDcT, tupOf_lst, tupOf_ref, tupOf_tup, List.map_cons, List.map_nil, List.length_cons, List.length_nil, List.cons_append, List.nil_append, List.append_nil, List.replicate, List.set_cons_zero, List.set_cons_succ, List.getElem?_cons_zero, List.getElem?_cons_succ, Option.some.injEq, exists_eq_left', exists_eq_left, exists_and_left, D.int.injEq, D.bl.injEq, D.str.injEq, D.tup.injEq, D.lst.injEq, D.ref.injEq, List.cons.injEq, and_true, true_and, reduceCtorEq, false_and, and_false, exists_false, or_false, false_or, exists_const, Bool.false_eq_true, if_true, if_false, decide_eq_true_eq, Ob.lst.injEq, Ob.slt.injEq, Ob.dic.injEq, seqD_ref, lstD_ref, seqD_tup, seqD_lst, lstD_lst, lstR_lst, Sto.set_same, Sto.set_set, atI_0, atI_1, atI_2, Nat.reduceAdd, ixN_30, ixN_32, lstD_tup, seqD_row, List.append_assoc, false_or, or_false, cut_d1, cut_t1, sz_0, sz_1, sz_2, sz_3, sz_4, sz_5, sz_6, sz_7, sz_8, sz_9, sz_10, sz_11, sz_12]
  refine ⟨_, h, l, w, rfl, h, hw, fun l' hl' => ⟨l', _, w.rul rs, rfl, Sto.set_same, ?_, hw2, rfl, ?_⟩⟩
  · have h1 : topO (S.set l' (.slt (He.ga K (Str.ofString "World")) [])) 7 v = some (.tup (rs.map ruleD)) := topO_mono hv (Sto.sub_set hl')
    have h2 : topO (S.set l' (.slt (He.ga K (Str.ofString "World")) [])) 7 (.tup (w.hs.map headD)) = some (.tup (w.hs.map headD)) := by
      have := tup_world hw
      exact tupO_top (heads_tup hw)
    exact topO_two h2 h1
  rw [Sto.set_set]
  exact drp_of (q l' hl')
theorem v_Later_init_k45 : ∀ ds S Q E, sp_Later_init_k45 K ds S Q E → d_Later_init_k45 K (EndsD Q) (startD N_Later_init_k45 ds) S := by
  rintro ds S Q E ⟨l, v, u, x, w, rs, cs, rfl, h, hv, hu, hx, hw, hw2, hc, q⟩
  simp only [d_Later_init_k45, N_Later_init_k45, dWkA, dTupK, dTupL, dTupIx, dDictP, dDc2, dFor, dWhile, dLc, dLc2, dDc, dNextG, iSeq, iR1, iR2, iEn, iZpA, iZ2, iZ3, dSortK, dSortKF, dSortSet, dSortSetF, dBreak, bSortT, bSortTF, bSum, bSumL, bSumLF, bMaxL, bMinL, dDicE, bSortD, bSortDF, dGet2, oInA, oNotInA, oIxA, gdSubA, dSeq, dSet, dIf, dIfS, dTst, dOp, dUn, dVar, dCB, aCons, aNil, aStar, dRet, dRetN, dNext, dDrop, dLst, dTup, dC, dAnd, dOr, dNot, dAndV, dOrV, dNotV, dPar, dAsg, gdName, gdSub, gdTup, gdCons, gdNil, gdSlot, dIsi, dIsi2, dSlot, dSetSlot, dMethSl, dMakeSl, dCall, dCallP, dBM, dFrz, dLstF, dLcF, dLc2F, dDcF, dSlF, dListVF, bListF, bListDF, bSortSF, oAddLF, oRepLF, dSl, dNoP, dPart, dListV, dTru, dOrT, EndsD, startD, oLtI, oLeI, oGtI, oGeI, oIx, oMulI, oPowI, oAddI, oSubI, oModI, oDivI, oI, oI0, oEqD, oNeD, oInD, oNotInD, oAddL, oAddT, oAddS, oRepL, bLen, bAbs, bInt, bMin2, bMax2, bAll, bAny, bTuple, bList, bListD, bSortS, mAppend, mPop, mPopAt, mExtend, mIndex, dFld, dSetFld, dAddFld, gdFld, dMeth, dMake, dPar3, dRevT, oAddTK, dSortSetT, dSortSetTF, gdLst, gdAll, dRevL, dRevLF, dYes, dFrzA, oNegI, bSortG, bSortGF, dSlK, oIsB, oNotB, bSortTS, bSortTSF, bSortI, bSortIF, iDi, dDisp, iEnS, dEi, oTimes, oEqO, oNeO, mClear, mReverse, dMethP, dMethSlP, dMakeP, dMakeSlP, oGeD, oCmpD, dSortSetBF, dSortKDF, dDcT, tupOf_lst, tupOf_ref, tupOf_tup, List.map_cons, List.map_nil, List.length_cons, List.length_nil, List.cons_append, List.nil_append, List.append_nil, List.replicate, List.set_cons_zero, List.set_cons_succ, List.getElem?_cons_zero, List.getElem?_cons_succ, Option.some.injEq, exists_eq_left', exists_eq_left, exists_and_left, D.int.injEq, D.bl.injEq, D.str.injEq, D.tup.injEq, D.lst.injEq, D.ref.injEq, List.cons.injEq, and_true, true_and, reduceCtorEq, false_and, and_false, exists_false, or_false, false_or, exists_const, Bool.false_eq_true, if_true, if_false, decide_eq_true_eq, Ob.lst.injEq, Ob.slt.injEq, Ob.dic.injEq, seqD_ref, lstD_ref, seqD_tup, seqD_lst, lstD_lst, lstR_lst, Sto.set_same, Sto.set_set, atI_0, atI_1, atI_2, Nat.reduceAdd, ixN_30, ixN_32, lstD_tup, seqD_row, List.append_assoc, false_or, or_false, cut_d1, cut_t1, sz_0, sz_1, sz_2, sz_3, sz_4, sz_5, sz_6, sz_7, sz_8, sz_9, sz_10, sz_11, sz_12]
  refine fun l0 hl0 => ⟨l0, v, w, rfl, Sto.set_same, topO_mono hv (Sto.sub_set hl0), hw, rfl, ?_⟩
  rw [Sto.set_set]
  have s1 : S.sub (S.set l0 (w.ob (cW K))) := Sto.sub_set hl0
  have h1 : (S.set l0 (w.ob (cW K))) l0 = some (w.ob (cW K)) := Sto.set_same
  generalize S.set l0 (w.ob (cW K)) = S1 at s1 h1 ⊢
  refine ⟨_, h1, l0, w, rs, u, rfl, h1, hw, hw2, topO_mono hu s1, fun l1 hl1 => ?_⟩
  have s2 : S.sub (S1.set l1 ((w.rul rs).ob (cW K))) := Sto.sub_trans s1 (Sto.sub_set hl1)
  have h2 : (S1.set l1 ((w.rul rs).ob (cW K))) l1 = some ((w.rul rs).ob (cW K)) := Sto.set_same
  have hn1 : l1 ≠ l := fun e => by rw [e, s1 _ _ h] at hl1; cases hl1
  generalize S1.set l1 ((w.rul rs).ob (cW K)) = S2 at s2 h2 ⊢
  refine ⟨_, s2 _ _ h, fun lc hlc => ?_⟩
  have hn2 : lc ≠ l := fun e => by rw [e, Sto.set_same] at hlc; cases hlc
  have hc0 : S2 lc = none := by rw [Sto.set_ne hn2] at hlc; exact hlc
  have hn3 : lc ≠ l1 := fun e => by rw [e, h2] at hc0; cases hc0
  refine ⟨_, by rw [Sto.set_ne (Ne.symm hn2), Sto.set_same], ?_⟩
  have e3 : putD 0 (D.ref lc) (putD 1 (.ref l1) []) = [some (.ref lc), some (.ref l1)] := rfl
  rw [e3]
  have hL : HasLt K (((S2.set l (.slt (cLt K) (putD 1 (.ref l1) []))).set lc (.lst [])).set l (.slt (cLt K) [some (.ref lc), some (.ref l1)])) l l1 lc (w.rul rs) [] :=
    ⟨Sto.set_same, by rw [Sto.set_ne hn1, Sto.set_ne (Ne.symm hn3), Sto.set_ne hn1]; exact h2, by rw [Sto.set_ne hn2, Sto.set_same]; rfl⟩
  have hF : Fr l S (((S2.set l (.slt (cLt K) (putD 1 (.ref l1) []))).set lc (.lst [])).set l (.slt (cLt K) [some (.ref lc), some (.ref l1)])) := fun m o hm e => by
    have hmc : m ≠ lc := fun z => by rw [z] at e; rw [s2 _ _ e] at hc0; cases hc0
    rw [Sto.set_ne hm, Sto.set_ne hmc, Sto.set_ne hm]
    exact s2 _ _ e
  have hc1 : S lc = none := by
    cases e : S lc with
    | none => rfl
    | some o => rw [s2 _ _ e] at hc0; cases hc0
  generalize ((S2.set l (.slt (cLt K) (putD 1 (.ref l1) []))).set lc (.lst [])).set l (.slt (cLt K) [some (.ref lc), some (.ref l1)]) = S3 at hL hF ⊢
  have ht : topO S3 8 x = some (.tup (cs.map copyD)) := topO_lst hx fun m ds e => by
    refine hF m _ (fun z => ?_) e
    rw [z, h] at e
    cases e
  refine ⟨x, _, rfl, ht, .inl ⟨_, rfl, ?_⟩⟩
  refine forW_all copyD (fun n ρ S' => ∃ b1 b2 b3 b4 b5 b6, ρ = [some (.ref l), b1, b2, b3, b4, b5, b6] ∧ Fr l S S' ∧ HasLt K S' l l1 lc (w.rul rs) (cs.take n)) cs 0 ⟨_, _, _, _, _, _, rfl, hF, hL⟩ ?_ ?_
  · rintro i c ρ S4 E' hi ⟨b1, b2, b3, b4, b5, b6, rfl, hF4, hL4⟩ hrt hbk hnx
    clear hrt hbk
    rw [Nat.zero_add] at hL4 hnx
    have hcm := List.mem_of_getElem? hi
    refine ⟨gs_tup, ?_⟩
    simp only [Tg.d, copyD, setsE, dWkA, dTupK, dTupL, dTupIx, dDictP, dDc2, dFor, dWhile, dLc, dLc2, dDc, dNextG, iSeq, iR1, iR2, iEn, iZpA, iZ2, iZ3, dSortK, dSortKF, dSortSet, dSortSetF, dBreak, bSortT, bSortTF, bSum, bSumL, bSumLF, bMaxL, bMinL, dDicE, bSortD, bSortDF, dGet2, oInA, oNotInA, oIxA, gdSubA, dSeq, dSet, dIf, dIfS, dTst, dOp, dUn, dVar, dCB, aCons, aNil, aStar, dRet, dRetN, dNext, dDrop, dLst, dTup, dC, dAnd, dOr, dNot, dAndV, dOrV, dNotV, dPar, dAsg, gdName, gdSub, gdTup, gdCons, gdNil, gdSlot, dIsi, dIsi2, dSlot, dSetSlot, dMethSl, dMakeSl, dCall, dCallP, dBM, dFrz, dLstF, dLcF, dLc2F, dDcF, dSlF, dListVF, bListF, bListDF, bSortSF, oAddLF, oRepLF, dSl, dNoP, dPart, dListV, dTru, dOrT, EndsD, startD, oLtI, oLeI, oGtI, oGeI, oIx, oMulI, oPowI, oAddI, oSubI, oModI, oDivI, oI, oI0, oEqD, oNeD, oInD, oNotInD, oAddL, oAddT, oAddS, oRepL, bLen, bAbs, bInt, bMin2, bMax2, bAll, bAny, bTuple, bList, bListD, bSortS, mAppend, mPop, mPopAt, mExtend, mIndex, dFld, dSetFld, dAddFld, gdFld, dMeth, dMake, dPar3, dRevT, oAddTK, dSortSetT, dSortSetTF, gdLst, gdAll, dRevL, dRevLF, dYes, dFrzA, oNegI, bSortG, bSortGF, dSlK, oIsB, oNotB, bSortTS, bSortTSF, bSortI, bSortIF, iDi, dDisp, iEnS, dEi, oTimes, oEqO, oNeO, mClear, mReverse, dMethP, dMethSlP, dMakeP, dMakeSlP, oGeD, oCmpD, dSortSetBF, dSortKDF, dDcT, tupOf_lst, tupOf_ref, tupOf_tup, List.map_cons, List.map_nil, List.length_cons, List.length_nil, List.cons_append, List.nil_append, List.append_nil, List.replicate, List.set_cons_zero, List.set_cons_succ, List.getElem?_cons_zero, List.getElem?_cons_succ, Option.some.injEq, exists_eq_left', exists_eq_left, exists_and_left, D.int.injEq, D.bl.injEq, D.str.injEq, D.tup.injEq, D.lst.injEq, D.ref.injEq, List.cons.injEq, and_true, true_and, reduceCtorEq, false_and, and_false, exists_false, or_false, false_or, exists_const, Bool.false_eq_true, if_true, if_false, decide_eq_true_eq, Ob.lst.injEq, Ob.slt.injEq, Ob.dic.injEq, seqD_ref, lstD_ref, seqD_tup, seqD_lst, lstD_lst, lstR_lst, Sto.set_same, Sto.set_set, atI_0, atI_1, atI_2, Nat.reduceAdd, ixN_30, ixN_32, lstD_tup, seqD_row, List.append_assoc, false_or, or_false, cut_d1, cut_t1, sz_0, sz_1, sz_2, sz_3, sz_4, sz_5, sz_6, sz_7, sz_8, sz_9, sz_10, sz_11, sz_12]
    have hcr := (hc.ok c hcm).row
    have h6 := hw.hl
    refine ⟨_, hL4.ob, _, rfl, tyB_at hL4.cp, _, hL4.ob, _, rfl, l1, rfl, _, hL4.wd, l1, w.rul rs, c.1, rowD c.1, rfl, hL4.wd, hw2, hc.row c hcm, top_row (by rw [hcr.len]; omega), lc, rfl, _, hL4.cp, small_sz (by have := hc.len; rw [List.length_map, List.length_take]; omega), ?_⟩
    have n1 : l ≠ lc := fun z => by have := hL4.ob; rw [z, hL4.cp] at this; cases this
    have n2 : l1 ≠ lc := fun z => by have := hL4.wd; rw [z, hL4.cp] at this; cases this
    have e : (cs.take i).map copyD ++ [D.tup [rowD c.1, rowD c.2.1, .str c.2.2]] = (cs.take (i + 1)).map copyD := by rw [List.take_add_one, hi, List.map_append]; rfl
    rw [e]
    exact (hnx _ _ _ _ (Wk.refl _) (Sto.sub_refl _) ⟨_, _, _, _, _, _, rfl, hF4.put hc1, by rw [Sto.set_ne n1]; exact hL4.ob, by rw [Sto.set_ne n2]; exact hL4.wd, Sto.set_same⟩).1
  · rintro ρ S4 ⟨b1, b2, b3, b4, b5, b6, rfl, hF4, hL4⟩
    rw [Nat.zero_add, List.take_length] at hL4
    exact ⟨gs_tup, drp_of (q _ _ _ hF4 hL4)⟩
theorem v_Later_copies_k45 : ∀ ds S Q E, sp_Later_copies_k45 K ds S Q E → d_Later_copies_k45 K (EndsD Q) (startD N_Later_copies_k45 ds) S := by
  rintro ds S Q E ⟨l, lw, lc, w, cs, rfl, h, hl, q⟩
  simp only [d_Later_copies_k45, N_Later_copies_k45, dWkA, dTupK, dTupL, dTupIx, dDictP, dDc2, dFor, dWhile, dLc, dLc2, dDc, dNextG, iSeq, iR1, iR2, iEn, iZpA, iZ2, iZ3, dSortK, dSortKF, dSortSet, dSortSetF, dBreak, bSortT, bSortTF, bSum, bSumL, bSumLF, bMaxL, bMinL, dDicE, bSortD, bSortDF, dGet2, oInA, oNotInA, oIxA, gdSubA, dSeq, dSet, dIf, dIfS, dTst, dOp, dUn, dVar, dCB, aCons, aNil, aStar, dRet, dRetN, dNext, dDrop, dLst, dTup, dC, dAnd, dOr, dNot, dAndV, dOrV, dNotV, dPar, dAsg, gdName, gdSub, gdTup, gdCons, gdNil, gdSlot, dIsi, dIsi2, dSlot, dSetSlot, dMethSl, dMakeSl, dCall, dCallP, dBM, dFrz, dLstF, dLcF, dLc2F, dDcF, dSlF, dListVF, bListF, bListDF, bSortSF, oAddLF, oRepLF, dSl, dNoP, dPart, dListV, dTru, dOrT, EndsD, startD, oLtI, oLeI, oGtI, oGeI, oIx, oMulI, oPowI, oAddI, oSubI, oModI, oDivI, oI, oI0, oEqD, oNeD, oInD, oNotInD, oAddL, oAddT, oAddS, oRepL, bLen, bAbs, bInt, bMin2, bMax2, bAll, bAny, bTuple, bList, bListD, bSortS, mAppend, mPop, mPopAt, mExtend, mIndex, dFld, dSetFld, dAddFld, gdFld, dMeth, dMake, dPar3, dRevT, oAddTK, dSortSetT, dSortSetTF, gdLst, gdAll, dRevL, dRevLF, dYes, dFrzA, oNegI, bSortG, bSortGF, dSlK, oIsB, oNotB, bSortTS, bSortTSF, bSortI, bSortIF, iDi, dDisp, iEnS, dEi, oTimes, oEqO, oNeO, mClear, mReverse, dMethP, dMethSlP, dMakeP, dMakeSlP, oGeD, oCmpD, dSortSetBF, dSortKDF, dDcT, tupOf_lst, tupOf_ref, tupOf_tup, List.map_cons, List.map_nil, List.length_cons, List.length_nil, List.cons_append, List.nil_append, List.append_nil, List.replicate, List.set_cons_zero, List.set_cons_succ, List.getElem?_cons_zero, List.getElem?_cons_succ, Option.some.injEq, exists_eq_left', exists_eq_left, exists_and_left, D.int.injEq, D.bl.injEq, D.str.injEq, D.tup.injEq, D.lst.injEq, D.ref.injEq, List.cons.injEq, and_true, true_and, reduceCtorEq, false_and, and_false, exists_false, or_false, false_or, exists_const, Bool.false_eq_true, if_true, if_false, decide_eq_true_eq, Ob.lst.injEq, Ob.slt.injEq, Ob.dic.injEq, seqD_ref, lstD_ref, seqD_tup, seqD_lst, lstD_lst, lstR_lst, Sto.set_same, Sto.set_set, atI_0, atI_1, atI_2, Nat.reduceAdd, ixN_30, ixN_32, lstD_tup, seqD_row, List.append_assoc, false_or, or_false, cut_d1, cut_t1, sz_0, sz_1, sz_2, sz_3, sz_4, sz_5, sz_6, sz_7, sz_8, sz_9, sz_10, sz_11, sz_12]
  exact ⟨_, h.ob, _, rfl, _, by rw [seqD_ref, h.cp], drp_of q⟩
theorem v_Later_shown_k45 : ∀ ds S Q E, sp_Later_shown_k45 K ds S Q E → d_Later_shown_k45 K (EndsD Q) (startD N_Later_shown_k45 ds) S := by
  rintro ds S Q E ⟨l, lw, lc, w, cs, c, rfl, h, hw, hc, q⟩
  simp only [d_Later_shown_k45, N_Later_shown_k45, copyD, dWkA, dTupK, dTupL, dTupIx, dDictP, dDc2, dFor, dWhile, dLc, dLc2, dDc, dNextG, iSeq, iR1, iR2, iEn, iZpA, iZ2, iZ3, dSortK, dSortKF, dSortSet, dSortSetF, dBreak, bSortT, bSortTF, bSum, bSumL, bSumLF, bMaxL, bMinL, dDicE, bSortD, bSortDF, dGet2, oInA, oNotInA, oIxA, gdSubA, dSeq, dSet, dIf, dIfS, dTst, dOp, dUn, dVar, dCB, aCons, aNil, aStar, dRet, dRetN, dNext, dDrop, dLst, dTup, dC, dAnd, dOr, dNot, dAndV, dOrV, dNotV, dPar, dAsg, gdName, gdSub, gdTup, gdCons, gdNil, gdSlot, dIsi, dIsi2, dSlot, dSetSlot, dMethSl, dMakeSl, dCall, dCallP, dBM, dFrz, dLstF, dLcF, dLc2F, dDcF, dSlF, dListVF, bListF, bListDF, bSortSF, oAddLF, oRepLF, dSl, dNoP, dPart, dListV, dTru, dOrT, EndsD, startD, oLtI, oLeI, oGtI, oGeI, oIx, oMulI, oPowI, oAddI, oSubI, oModI, oDivI, oI, oI0, oEqD, oNeD, oInD, oNotInD, oAddL, oAddT, oAddS, oRepL, bLen, bAbs, bInt, bMin2, bMax2, bAll, bAny, bTuple, bList, bListD, bSortS, mAppend, mPop, mPopAt, mExtend, mIndex, dFld, dSetFld, dAddFld, gdFld, dMeth, dMake, dPar3, dRevT, oAddTK, dSortSetT, dSortSetTF, gdLst, gdAll, dRevL, dRevLF, dYes, dFrzA, oNegI, bSortG, bSortGF, dSlK, oIsB, oNotB, bSortTS, bSortTSF, bSortI, bSortIF, iDi, dDisp, iEnS, dEi, oTimes, oEqO, oNeO, mClear, mReverse, dMethP, dMethSlP, dMakeP, dMakeSlP, oGeD, oCmpD, dSortSetBF, dSortKDF, dDcT, tupOf_lst, tupOf_ref, tupOf_tup, List.map_cons, List.map_nil, List.length_cons, List.length_nil, List.cons_append, List.nil_append, List.append_nil, List.replicate, List.set_cons_zero, List.set_cons_succ, List.getElem?_cons_zero, List.getElem?_cons_succ, Option.some.injEq, exists_eq_left', exists_eq_left, exists_and_left, D.int.injEq, D.bl.injEq, D.str.injEq, D.tup.injEq, D.lst.injEq, D.ref.injEq, List.cons.injEq, and_true, true_and, reduceCtorEq, false_and, and_false, exists_false, or_false, false_or, exists_const, Bool.false_eq_true, if_true, if_false, decide_eq_true_eq, Ob.lst.injEq, Ob.slt.injEq, Ob.dic.injEq, seqD_ref, lstD_ref, seqD_tup, seqD_lst, lstD_lst, lstR_lst, Sto.set_same, Sto.set_set, atI_0, atI_1, atI_2, Nat.reduceAdd, ixN_30, ixN_32, lstD_tup, seqD_row, List.append_assoc, false_or, or_false, cut_d1, cut_t1, sz_0, sz_1, sz_2, sz_3, sz_4, sz_5, sz_6, sz_7, sz_8, sz_9, sz_10, sz_11, sz_12]
  refine ⟨_, _, ⟨rfl, rfl⟩, _, _, rfl, _, _, rfl, rfl, _, h.ob, _, rfl, lw, rfl, _, h.wd, lw, w, rfl, h.wd, fun m hm => ?_⟩
  have s1 : S.sub (S.set m (.lst (w.rows.map rowD))) := Sto.sub_set hm
  have hm1 : (S.set m (.lst (w.rows.map rowD))) m = some (.lst (w.rows.map rowD)) := Sto.set_same
  have h1 := h.mono s1
  generalize S.set m (.lst (w.rows.map rowD)) = S1 at s1 hm1 h1 ⊢
  refine ⟨_, by rw [seqD_ref, hm1], ?_⟩
  refine compW_fs rowD (fun o => if w.alike c.1 o c.2.1 = true then some (rowD o) else none) w.rows [] (gs_ref hm1) (small_sz (by have := rows_sz hw; simp; omega)) (fun o ho S' Py Pn s hyy hno => ?_) ?_
  · have hoo := rows_ok hw ho
    have h2 := h1.mono s
    simp only [turn, Tg.d, wipeD, dWkA, dTupK, dTupL, dTupIx, dDictP, dDc2, dFor, dWhile, dLc, dLc2, dDc, dNextG, iSeq, iR1, iR2, iEn, iZpA, iZ2, iZ3, dSortK, dSortKF, dSortSet, dSortSetF, dBreak, bSortT, bSortTF, bSum, bSumL, bSumLF, bMaxL, bMinL, dDicE, bSortD, bSortDF, dGet2, oInA, oNotInA, oIxA, gdSubA, dSeq, dSet, dIf, dIfS, dTst, dOp, dUn, dVar, dCB, aCons, aNil, aStar, dRet, dRetN, dNext, dDrop, dLst, dTup, dC, dAnd, dOr, dNot, dAndV, dOrV, dNotV, dPar, dAsg, gdName, gdSub, gdTup, gdCons, gdNil, gdSlot, dIsi, dIsi2, dSlot, dSetSlot, dMethSl, dMakeSl, dCall, dCallP, dBM, dFrz, dLstF, dLcF, dLc2F, dDcF, dSlF, dListVF, bListF, bListDF, bSortSF, oAddLF, oRepLF, dSl, dNoP, dPart, dListV, dTru, dOrT, EndsD, startD, oLtI, oLeI, oGtI, oGeI, oIx, oMulI, oPowI, oAddI, oSubI, oModI, oDivI, oI, oI0, oEqD, oNeD, oInD, oNotInD, oAddL, oAddT, oAddS, oRepL, bLen, bAbs, bInt, bMin2, bMax2, bAll, bAny, bTuple, bList, bListD, bSortS, mAppend, mPop, mPopAt, mExtend, mIndex, dFld, dSetFld, dAddFld, gdFld, dMeth, dMake, dPar3, dRevT, oAddTK, dSortSetT, dSortSetTF, gdLst, gdAll, dRevL, dRevLF, dYes, dFrzA, oNegI, bSortG, bSortGF, dSlK, oIsB, oNotB, bSortTS, bSortTSF, bSortI, bSortIF, iDi, dDisp, iEnS, dEi, oTimes, oEqO, oNeO, mClear, mReverse, dMethP, dMethSlP, dMakeP, dMakeSlP, oGeD, oCmpD, dSortSetBF, dSortKDF, dDcT, tupOf_lst, tupOf_ref, tupOf_tup, List.map_cons, List.map_nil, List.length_cons, List.length_nil, List.cons_append, List.nil_append, List.append_nil, List.replicate, List.set_cons_zero, List.set_cons_succ, List.getElem?_cons_zero, List.getElem?_cons_succ, Option.some.injEq, exists_eq_left', exists_eq_left, exists_and_left, D.int.injEq, D.bl.injEq, D.str.injEq, D.tup.injEq, D.lst.injEq, D.ref.injEq, List.cons.injEq, and_true, true_and, reduceCtorEq, false_and, and_false, exists_false, or_false, false_or, exists_const, Bool.false_eq_true, if_true, if_false, decide_eq_true_eq, Ob.lst.injEq, Ob.slt.injEq, Ob.dic.injEq, seqD_ref, lstD_ref, seqD_tup, seqD_lst, lstD_lst, lstR_lst, Sto.set_same, Sto.set_set, atI_0, atI_1, atI_2, Nat.reduceAdd, ixN_30, ixN_32, lstD_tup, seqD_row, List.append_assoc, false_or, or_false, cut_d1, cut_t1, sz_0, sz_1, sz_2, sz_3, sz_4, sz_5, sz_6, sz_7, sz_8, sz_9, sz_10, sz_11, sz_12]
    refine ⟨_, h2.ob, _, rfl, lw, rfl, _, h2.wd, lw, w, c.1, o, c.2.1, rfl, h2.wd, hw, hc.row, hoo, hc.ns, ?_⟩
    by_cases e : w.alike c.1 o c.2.1 = true
    · rw [if_pos e] at hyy
      exact ⟨_, rfl, by rw [if_pos e]; exact hyy _ _ rfl (Sto.sub_refl _)⟩
    · rw [if_neg e] at hno
      exact ⟨_, rfl, by rw [if_neg e]; exact hno _ rfl (Sto.sub_refl _)⟩
  rw [List.nil_append, fm_if]
  refine nextW_fs rowD (fun o => if (!decide (w.ans o = c.2.2)) = true then some (rowD o) else none) (w.rows.filter fun o => w.alike c.1 o c.2.1) gs_lst (fun o ho Py Pn hyy hno => ?_) fun S2 s2 => ?_
  · have hoo := rows_ok hw (List.mem_filter.mp ho).1
    simp only [turn, Tg.d, wipeD, dWkA, dTupK, dTupL, dTupIx, dDictP, dDc2, dFor, dWhile, dLc, dLc2, dDc, dNextG, iSeq, iR1, iR2, iEn, iZpA, iZ2, iZ3, dSortK, dSortKF, dSortSet, dSortSetF, dBreak, bSortT, bSortTF, bSum, bSumL, bSumLF, bMaxL, bMinL, dDicE, bSortD, bSortDF, dGet2, oInA, oNotInA, oIxA, gdSubA, dSeq, dSet, dIf, dIfS, dTst, dOp, dUn, dVar, dCB, aCons, aNil, aStar, dRet, dRetN, dNext, dDrop, dLst, dTup, dC, dAnd, dOr, dNot, dAndV, dOrV, dNotV, dPar, dAsg, gdName, gdSub, gdTup, gdCons, gdNil, gdSlot, dIsi, dIsi2, dSlot, dSetSlot, dMethSl, dMakeSl, dCall, dCallP, dBM, dFrz, dLstF, dLcF, dLc2F, dDcF, dSlF, dListVF, bListF, bListDF, bSortSF, oAddLF, oRepLF, dSl, dNoP, dPart, dListV, dTru, dOrT, EndsD, startD, oLtI, oLeI, oGtI, oGeI, oIx, oMulI, oPowI, oAddI, oSubI, oModI, oDivI, oI, oI0, oEqD, oNeD, oInD, oNotInD, oAddL, oAddT, oAddS, oRepL, bLen, bAbs, bInt, bMin2, bMax2, bAll, bAny, bTuple, bList, bListD, bSortS, mAppend, mPop, mPopAt, mExtend, mIndex, dFld, dSetFld, dAddFld, gdFld, dMeth, dMake, dPar3, dRevT, oAddTK, dSortSetT, dSortSetTF, gdLst, gdAll, dRevL, dRevLF, dYes, dFrzA, oNegI, bSortG, bSortGF, dSlK, oIsB, oNotB, bSortTS, bSortTSF, bSortI, bSortIF, iDi, dDisp, iEnS, dEi, oTimes, oEqO, oNeO, mClear, mReverse, dMethP, dMethSlP, dMakeP, dMakeSlP, oGeD, oCmpD, dSortSetBF, dSortKDF, dDcT, tupOf_lst, tupOf_ref, tupOf_tup, List.map_cons, List.map_nil, List.length_cons, List.length_nil, List.cons_append, List.nil_append, List.append_nil, List.replicate, List.set_cons_zero, List.set_cons_succ, List.getElem?_cons_zero, List.getElem?_cons_succ, Option.some.injEq, exists_eq_left', exists_eq_left, exists_and_left, D.int.injEq, D.bl.injEq, D.str.injEq, D.tup.injEq, D.lst.injEq, D.ref.injEq, List.cons.injEq, and_true, true_and, reduceCtorEq, false_and, and_false, exists_false, or_false, false_or, exists_const, Bool.false_eq_true, if_true, if_false, decide_eq_true_eq, Ob.lst.injEq, Ob.slt.injEq, Ob.dic.injEq, seqD_ref, lstD_ref, seqD_tup, seqD_lst, lstD_lst, lstR_lst, Sto.set_same, Sto.set_set, atI_0, atI_1, atI_2, Nat.reduceAdd, ixN_30, ixN_32, lstD_tup, seqD_row, List.append_assoc, false_or, or_false, cut_d1, cut_t1, sz_0, sz_1, sz_2, sz_3, sz_4, sz_5, sz_6, sz_7, sz_8, sz_9, sz_10, sz_11, sz_12]
    refine ⟨_, h1.ob, _, rfl, lw, rfl, _, h1.wd, lw, w, o, rfl, h1.wd, hw, hoo, _, rfl, _, rfl, (shp_str (ans_ok hw)).ok, (shp_str hc.so).ok, ?_⟩
    rw [eqv_str]
    by_cases e : (!decide (w.ans o = c.2.2)) = true
    · rw [if_pos e] at hyy ⊢
      exact hyy _ _ rfl (Sto.sub_refl _)
    · rw [if_neg e] at hno ⊢
      exact hno _ rfl (Sto.sub_refl _)
  · rw [first_of]
    exact ⟨S, Sto.sub_trans s1 s2, q⟩
theorem v_Later_right_k45 : ∀ ds S Q E, sp_Later_right_k45 K ds S Q E → d_Later_right_k45 K (EndsD Q) (startD N_Later_right_k45 ds) S := by
  rintro ds S Q E ⟨l, lw, lc, w, cs, rfl, h, hw, hc, q⟩
  simp only [d_Later_right_k45, N_Later_right_k45, dWkA, dTupK, dTupL, dTupIx, dDictP, dDc2, dFor, dWhile, dLc, dLc2, dDc, dNextG, iSeq, iR1, iR2, iEn, iZpA, iZ2, iZ3, dSortK, dSortKF, dSortSet, dSortSetF, dBreak, bSortT, bSortTF, bSum, bSumL, bSumLF, bMaxL, bMinL, dDicE, bSortD, bSortDF, dGet2, oInA, oNotInA, oIxA, gdSubA, dSeq, dSet, dIf, dIfS, dTst, dOp, dUn, dVar, dCB, aCons, aNil, aStar, dRet, dRetN, dNext, dDrop, dLst, dTup, dC, dAnd, dOr, dNot, dAndV, dOrV, dNotV, dPar, dAsg, gdName, gdSub, gdTup, gdCons, gdNil, gdSlot, dIsi, dIsi2, dSlot, dSetSlot, dMethSl, dMakeSl, dCall, dCallP, dBM, dFrz, dLstF, dLcF, dLc2F, dDcF, dSlF, dListVF, bListF, bListDF, bSortSF, oAddLF, oRepLF, dSl, dNoP, dPart, dListV, dTru, dOrT, EndsD, startD, oLtI, oLeI, oGtI, oGeI, oIx, oMulI, oPowI, oAddI, oSubI, oModI, oDivI, oI, oI0, oEqD, oNeD, oInD, oNotInD, oAddL, oAddT, oAddS, oRepL, bLen, bAbs, bInt, bMin2, bMax2, bAll, bAny, bTuple, bList, bListD, bSortS, mAppend, mPop, mPopAt, mExtend, mIndex, dFld, dSetFld, dAddFld, gdFld, dMeth, dMake, dPar3, dRevT, oAddTK, dSortSetT, dSortSetTF, gdLst, gdAll, dRevL, dRevLF, dYes, dFrzA, oNegI, bSortG, bSortGF, dSlK, oIsB, oNotB, bSortTS, bSortTSF, bSortI, bSortIF, iDi, dDisp, iEnS, dEi, oTimes, oEqO, oNeO, mClear, mReverse, dMethP, dMethSlP, dMakeP, dMakeSlP, oGeD, oCmpD, dSortSetBF, dSortKDF, dDcT, tupOf_lst, tupOf_ref, tupOf_tup, List.map_cons, List.map_nil, List.length_cons, List.length_nil, List.cons_append, List.nil_append, List.append_nil, List.replicate, List.set_cons_zero, List.set_cons_succ, List.getElem?_cons_zero, List.getElem?_cons_succ, Option.some.injEq, exists_eq_left', exists_eq_left, exists_and_left, D.int.injEq, D.bl.injEq, D.str.injEq, D.tup.injEq, D.lst.injEq, D.ref.injEq, List.cons.injEq, and_true, true_and, reduceCtorEq, false_and, and_false, exists_false, or_false, false_or, exists_const, Bool.false_eq_true, if_true, if_false, decide_eq_true_eq, Ob.lst.injEq, Ob.slt.injEq, Ob.dic.injEq, seqD_ref, lstD_ref, seqD_tup, seqD_lst, lstD_lst, lstR_lst, Sto.set_same, Sto.set_set, atI_0, atI_1, atI_2, Nat.reduceAdd, ixN_30, ixN_32, lstD_tup, seqD_row, List.append_assoc, false_or, or_false, cut_d1, cut_t1, sz_0, sz_1, sz_2, sz_3, sz_4, sz_5, sz_6, sz_7, sz_8, sz_9, sz_10, sz_11, sz_12]
  refine ⟨_, h.ob, l, lw, lc, w, cs, rfl, h, hc.len, _, rfl, ?_⟩
  refine compW_fs copyD (fun c => if (w.shownC c).isNone = true then some (copyD c) else none) cs [] gs_lst (small_sz (by have := hc.len; simp; omega)) (fun c hcm S' Py Pn s hyy hno => ?_) ?_
  · have h2 := h.mono s
    simp only [turn, Tg.d, wipeD, dWkA, dTupK, dTupL, dTupIx, dDictP, dDc2, dFor, dWhile, dLc, dLc2, dDc, dNextG, iSeq, iR1, iR2, iEn, iZpA, iZ2, iZ3, dSortK, dSortKF, dSortSet, dSortSetF, dBreak, bSortT, bSortTF, bSum, bSumL, bSumLF, bMaxL, bMinL, dDicE, bSortD, bSortDF, dGet2, oInA, oNotInA, oIxA, gdSubA, dSeq, dSet, dIf, dIfS, dTst, dOp, dUn, dVar, dCB, aCons, aNil, aStar, dRet, dRetN, dNext, dDrop, dLst, dTup, dC, dAnd, dOr, dNot, dAndV, dOrV, dNotV, dPar, dAsg, gdName, gdSub, gdTup, gdCons, gdNil, gdSlot, dIsi, dIsi2, dSlot, dSetSlot, dMethSl, dMakeSl, dCall, dCallP, dBM, dFrz, dLstF, dLcF, dLc2F, dDcF, dSlF, dListVF, bListF, bListDF, bSortSF, oAddLF, oRepLF, dSl, dNoP, dPart, dListV, dTru, dOrT, EndsD, startD, oLtI, oLeI, oGtI, oGeI, oIx, oMulI, oPowI, oAddI, oSubI, oModI, oDivI, oI, oI0, oEqD, oNeD, oInD, oNotInD, oAddL, oAddT, oAddS, oRepL, bLen, bAbs, bInt, bMin2, bMax2, bAll, bAny, bTuple, bList, bListD, bSortS, mAppend, mPop, mPopAt, mExtend, mIndex, dFld, dSetFld, dAddFld, gdFld, dMeth, dMake, dPar3, dRevT, oAddTK, dSortSetT, dSortSetTF, gdLst, gdAll, dRevL, dRevLF, dYes, dFrzA, oNegI, bSortG, bSortGF, dSlK, oIsB, oNotB, bSortTS, bSortTSF, bSortI, bSortIF, iDi, dDisp, iEnS, dEi, oTimes, oEqO, oNeO, mClear, mReverse, dMethP, dMethSlP, dMakeP, dMakeSlP, oGeD, oCmpD, dSortSetBF, dSortKDF, dDcT, tupOf_lst, tupOf_ref, tupOf_tup, List.map_cons, List.map_nil, List.length_cons, List.length_nil, List.cons_append, List.nil_append, List.append_nil, List.replicate, List.set_cons_zero, List.set_cons_succ, List.getElem?_cons_zero, List.getElem?_cons_succ, Option.some.injEq, exists_eq_left', exists_eq_left, exists_and_left, D.int.injEq, D.bl.injEq, D.str.injEq, D.tup.injEq, D.lst.injEq, D.ref.injEq, List.cons.injEq, and_true, true_and, reduceCtorEq, false_and, and_false, exists_false, or_false, false_or, exists_const, Bool.false_eq_true, if_true, if_false, decide_eq_true_eq, Ob.lst.injEq, Ob.slt.injEq, Ob.dic.injEq, seqD_ref, lstD_ref, seqD_tup, seqD_lst, lstD_lst, lstR_lst, Sto.set_same, Sto.set_set, atI_0, atI_1, atI_2, Nat.reduceAdd, ixN_30, ixN_32, lstD_tup, seqD_row, List.append_assoc, false_or, or_false, cut_d1, cut_t1, sz_0, sz_1, sz_2, sz_3, sz_4, sz_5, sz_6, sz_7, sz_8, sz_9, sz_10, sz_11, sz_12]
    refine ⟨_, h2.ob, l, lw, lc, w, cs, c, rfl, h2, hw, hc.ok c hcm, isN_o ⟨_, rfl, ?_⟩⟩
    by_cases e : (w.shownC c).isNone = true
    · rw [if_pos e] at hyy
      rw [if_pos e]
      exact hyy _ _ rfl (Sto.sub_refl _)
    · rw [if_neg e] at hno
      rw [if_neg e]
      exact hno _ rfl (Sto.sub_refl _)
  rw [List.nil_append, fm_if]
  intro m hm
  exact drp_of (q m hm)
theorem v_right_k45 : ∀ ds S Q E, sp_right_k45 ds S Q E → d_right_k45 K (EndsD Q) (startD N_right_k45 ds) S := by
  rintro ds S Q E ⟨v, u, x, w, rs, cs, rfl, hv, hu, hx, hw, hw2, hc, q⟩
  simp only [d_right_k45, N_right_k45, dWkA, dTupK, dTupL, dTupIx, dDictP, dDc2, dFor, dWhile, dLc, dLc2, dDc, dNextG, iSeq, iR1, iR2, iEn, iZpA, iZ2, iZ3, dSortK, dSortKF, dSortSet, dSortSetF, dBreak, bSortT, bSortTF, bSum, bSumL, bSumLF, bMaxL, bMinL, dDicE, bSortD, bSortDF, dGet2, oInA, oNotInA, oIxA, gdSubA, dSeq, dSet, dIf, dIfS, dTst, dOp, dUn, dVar, dCB, aCons, aNil, aStar, dRet, dRetN, dNext, dDrop, dLst, dTup, dC, dAnd, dOr, dNot, dAndV, dOrV, dNotV, dPar, dAsg, gdName, gdSub, gdTup, gdCons, gdNil, gdSlot, dIsi, dIsi2, dSlot, dSetSlot, dMethSl, dMakeSl, dCall, dCallP, dBM, dFrz, dLstF, dLcF, dLc2F, dDcF, dSlF, dListVF, bListF, bListDF, bSortSF, oAddLF, oRepLF, dSl, dNoP, dPart, dListV, dTru, dOrT, EndsD, startD, oLtI, oLeI, oGtI, oGeI, oIx, oMulI, oPowI, oAddI, oSubI, oModI, oDivI, oI, oI0, oEqD, oNeD, oInD, oNotInD, oAddL, oAddT, oAddS, oRepL, bLen, bAbs, bInt, bMin2, bMax2, bAll, bAny, bTuple, bList, bListD, bSortS, mAppend, mPop, mPopAt, mExtend, mIndex, dFld, dSetFld, dAddFld, gdFld, dMeth, dMake, dPar3, dRevT, oAddTK, dSortSetT, dSortSetTF, gdLst, gdAll, dRevL, dRevLF, dYes, dFrzA, oNegI, bSortG, bSortGF, dSlK, oIsB, oNotB, bSortTS, bSortTSF, bSortI, bSortIF, iDi, dDisp, iEnS, dEi, oTimes, oEqO, oNeO, mClear, mReverse, dMethP, dMethSlP, dMakeP, dMakeSlP, oGeD, oCmpD, dSortSetBF, dSortKDF, dDcT, tupOf_lst, tupOf_ref, tupOf_tup, List.map_cons, List.map_nil, List.length_cons, List.length_nil, List.cons_append, List.nil_append, List.append_nil, List.replicate, List.set_cons_zero, List.set_cons_succ, List.getElem?_cons_zero, List.getElem?_cons_succ, Option.some.injEq, exists_eq_left', exists_eq_left, exists_and_left, D.int.injEq, D.bl.injEq, D.str.injEq, D.tup.injEq, D.lst.injEq, D.ref.injEq, List.cons.injEq, and_true, true_and, reduceCtorEq, false_and, and_false, exists_false, or_false, false_or, exists_const, Bool.false_eq_true, if_true, if_false, decide_eq_true_eq, Ob.lst.injEq, Ob.slt.injEq, Ob.dic.injEq, seqD_ref, lstD_ref, seqD_tup, seqD_lst, lstD_lst, lstR_lst, Sto.set_same, Sto.set_set, atI_0, atI_1, atI_2, Nat.reduceAdd, ixN_30, ixN_32, lstD_tup, seqD_row, List.append_assoc, false_or, or_false, cut_d1, cut_t1, sz_0, sz_1, sz_2, sz_3, sz_4, sz_5, sz_6, sz_7, sz_8, sz_9, sz_10, sz_11, sz_12]
  intro l hl
  have s1 : S.sub (S.set l (.slt (cLt K) [])) := Sto.sub_set hl
  refine ⟨l, v, u, x, w, rs, cs, rfl, Sto.set_same, topO_mono hv s1, topO_mono hu s1, topO_mono hx s1, hw, hw2, hc, fun lw lc S' hf h => ⟨rfl, _, h.ob, l, lw, lc, w.rul rs, cs, rfl, h, hw2, hc.rul, fun m hm => ?_⟩⟩
  have s2 : S.sub S' := fr_new hl hf
  exact ⟨_, set_mono s2, q m (none_of_sub s2 hm)⟩
theorem v_shows_wrong_k45 : ∀ ds S Q E, sp_shows_wrong_k45 ds S Q E → d_shows_wrong_k45 K (EndsD Q) (startD N_shows_wrong_k45 ds) S := by
  rintro ds S Q E ⟨v, u, x, w, rs, c, rfl, hv, hu, hx, hw, hw2, hc, q⟩
  simp only [d_shows_wrong_k45, N_shows_wrong_k45, dWkA, dTupK, dTupL, dTupIx, dDictP, dDc2, dFor, dWhile, dLc, dLc2, dDc, dNextG, iSeq, iR1, iR2, iEn, iZpA, iZ2, iZ3, dSortK, dSortKF, dSortSet, dSortSetF, dBreak, bSortT, bSortTF, bSum, bSumL, bSumLF, bMaxL, bMinL, dDicE, bSortD, bSortDF, dGet2, oInA, oNotInA, oIxA, gdSubA, dSeq, dSet, dIf, dIfS, dTst, dOp, dUn, dVar, dCB, aCons, aNil, aStar, dRet, dRetN, dNext, dDrop, dLst, dTup, dC, dAnd, dOr, dNot, dAndV, dOrV, dNotV, dPar, dAsg, gdName, gdSub, gdTup, gdCons, gdNil, gdSlot, dIsi, dIsi2, dSlot, dSetSlot, dMethSl, dMakeSl, dCall, dCallP, dBM, dFrz, dLstF, dLcF, dLc2F, dDcF, dSlF, dListVF, bListF, bListDF, bSortSF, oAddLF, oRepLF, dSl, dNoP, dPart, dListV, dTru, dOrT, EndsD, startD, oLtI, oLeI, oGtI, oGeI, oIx, oMulI, oPowI, oAddI, oSubI, oModI, oDivI, oI, oI0, oEqD, oNeD, oInD, oNotInD, oAddL, oAddT, oAddS, oRepL, bLen, bAbs, bInt, bMin2, bMax2, bAll, bAny, bTuple, bList, bListD, bSortS, mAppend, mPop, mPopAt, mExtend, mIndex, dFld, dSetFld, dAddFld, gdFld, dMeth, dMake, dPar3, dRevT, oAddTK, dSortSetT, dSortSetTF, gdLst, gdAll, dRevL, dRevLF, dYes, dFrzA, oNegI, bSortG, bSortGF, dSlK, oIsB, oNotB, bSortTS, bSortTSF, bSortI, bSortIF, iDi, dDisp, iEnS, dEi, oTimes, oEqO, oNeO, mClear, mReverse, dMethP, dMethSlP, dMakeP, dMakeSlP, oGeD, oCmpD, dSortSetBF, dSortKDF, dDcT, tupOf_lst, tupOf_ref, tupOf_tup, List.map_cons, List.map_nil, List.length_cons, List.length_nil, List.cons_append, List.nil_append, List.append_nil, List.replicate, List.set_cons_zero, List.set_cons_succ, List.getElem?_cons_zero, List.getElem?_cons_succ, Option.some.injEq, exists_eq_left', exists_eq_left, exists_and_left, D.int.injEq, D.bl.injEq, D.str.injEq, D.tup.injEq, D.lst.injEq, D.ref.injEq, List.cons.injEq, and_true, true_and, reduceCtorEq, false_and, and_false, exists_false, or_false, false_or, exists_const, Bool.false_eq_true, if_true, if_false, decide_eq_true_eq, Ob.lst.injEq, Ob.slt.injEq, Ob.dic.injEq, seqD_ref, lstD_ref, seqD_tup, seqD_lst, lstD_lst, lstR_lst, Sto.set_same, Sto.set_set, atI_0, atI_1, atI_2, Nat.reduceAdd, ixN_30, ixN_32, lstD_tup, seqD_row, List.append_assoc, false_or, or_false, cut_d1, cut_t1, sz_0, sz_1, sz_2, sz_3, sz_4, sz_5, sz_6, sz_7, sz_8, sz_9, sz_10, sz_11, sz_12]
  intro l hl
  have s1 : S.sub (S.set l (.slt (cLt K) [])) := Sto.sub_set hl
  refine ⟨l, v, u, .lst [x], w, rs, [c], rfl, Sto.set_same, topO_mono hv s1, topO_mono hu s1, topO_one (topO_mono hx s1), hw, hw2, hc, fun lw lc S' hf h => ⟨rfl, _, h.ob, _, h.ob, l, lw, lc, w.rul rs, [c], rfl, h, (hc.rul (rs := rs)).len, ?_⟩⟩
  have s2 : S.sub S' := fr_new hl hf
  exact ⟨_, rfl, _, atI_0 _ _, l, lw, lc, w.rul rs, [c], c, rfl, h, hw2, (hc.rul (rs := rs)).ok c (by simp), S, s2, q⟩
theorem v__law_shown_k45 : ∀ ds S Q E, sp__law_shown_k45 ds S Q E → d__law_shown_k45 (EndsD Q) (startD N__law_shown_k45 ds) S := by
  rintro ds S Q E ⟨w, rs, r, ns, due, rfl, hw, hw2, hr, hn, hd, q⟩
  simp only [d__law_shown_k45, N__law_shown_k45, rowD, dWkA, dTupK, dTupL, dTupIx, dDictP, dDc2, dFor, dWhile, dLc, dLc2, dDc, dNextG, iSeq, iR1, iR2, iEn, iZpA, iZ2, iZ3, dSortK, dSortKF, dSortSet, dSortSetF, dBreak, bSortT, bSortTF, bSum, bSumL, bSumLF, bMaxL, bMinL, dDicE, bSortD, bSortDF, dGet2, oInA, oNotInA, oIxA, gdSubA, dSeq, dSet, dIf, dIfS, dTst, dOp, dUn, dVar, dCB, aCons, aNil, aStar, dRet, dRetN, dNext, dDrop, dLst, dTup, dC, dAnd, dOr, dNot, dAndV, dOrV, dNotV, dPar, dAsg, gdName, gdSub, gdTup, gdCons, gdNil, gdSlot, dIsi, dIsi2, dSlot, dSetSlot, dMethSl, dMakeSl, dCall, dCallP, dBM, dFrz, dLstF, dLcF, dLc2F, dDcF, dSlF, dListVF, bListF, bListDF, bSortSF, oAddLF, oRepLF, dSl, dNoP, dPart, dListV, dTru, dOrT, EndsD, startD, oLtI, oLeI, oGtI, oGeI, oIx, oMulI, oPowI, oAddI, oSubI, oModI, oDivI, oI, oI0, oEqD, oNeD, oInD, oNotInD, oAddL, oAddT, oAddS, oRepL, bLen, bAbs, bInt, bMin2, bMax2, bAll, bAny, bTuple, bList, bListD, bSortS, mAppend, mPop, mPopAt, mExtend, mIndex, dFld, dSetFld, dAddFld, gdFld, dMeth, dMake, dPar3, dRevT, oAddTK, dSortSetT, dSortSetTF, gdLst, gdAll, dRevL, dRevLF, dYes, dFrzA, oNegI, bSortG, bSortGF, dSlK, oIsB, oNotB, bSortTS, bSortTSF, bSortI, bSortIF, iDi, dDisp, iEnS, dEi, oTimes, oEqO, oNeO, mClear, mReverse, dMethP, dMethSlP, dMakeP, dMakeSlP, oGeD, oCmpD, dSortSetBF, dSortKDF, dDcT, tupOf_lst, tupOf_ref, tupOf_tup, List.map_cons, List.map_nil, List.length_cons, List.length_nil, List.cons_append, List.nil_append, List.append_nil, List.replicate, List.set_cons_zero, List.set_cons_succ, List.getElem?_cons_zero, List.getElem?_cons_succ, Option.some.injEq, exists_eq_left', exists_eq_left, exists_and_left, D.int.injEq, D.bl.injEq, D.str.injEq, D.tup.injEq, D.lst.injEq, D.ref.injEq, List.cons.injEq, and_true, true_and, reduceCtorEq, false_and, and_false, exists_false, or_false, false_or, exists_const, Bool.false_eq_true, if_true, if_false, decide_eq_true_eq, Ob.lst.injEq, Ob.slt.injEq, Ob.dic.injEq, seqD_ref, lstD_ref, seqD_tup, seqD_lst, lstD_lst, lstR_lst, Sto.set_same, Sto.set_set, atI_0, atI_1, atI_2, Nat.reduceAdd, ixN_30, ixN_32, lstD_tup, seqD_row, List.append_assoc, false_or, or_false, cut_d1, cut_t1, sz_0, sz_1, sz_2, sz_3, sz_4, sz_5, sz_6, sz_7, sz_8, sz_9, sz_10, sz_11, sz_12]
  have hz := hn.len
  have hnl : w.names.length = w.hs.length := by unfold Wd.names; rw [List.length_map]
  refine compW_fs D.str (fun n => some (.int (w.names.idxOf n : Nat))) ns [] gs_tup (small_sz (by simp; omega)) (fun n hm S' Py Pn s hy hnn => ?_) ?_
  · simp only [turn, Tg.d, wipeD, sp__law_names, dWkA, dTupK, dTupL, dTupIx, dDictP, dDc2, dFor, dWhile, dLc, dLc2, dDc, dNextG, iSeq, iR1, iR2, iEn, iZpA, iZ2, iZ3, dSortK, dSortKF, dSortSet, dSortSetF, dBreak, bSortT, bSortTF, bSum, bSumL, bSumLF, bMaxL, bMinL, dDicE, bSortD, bSortDF, dGet2, oInA, oNotInA, oIxA, gdSubA, dSeq, dSet, dIf, dIfS, dTst, dOp, dUn, dVar, dCB, aCons, aNil, aStar, dRet, dRetN, dNext, dDrop, dLst, dTup, dC, dAnd, dOr, dNot, dAndV, dOrV, dNotV, dPar, dAsg, gdName, gdSub, gdTup, gdCons, gdNil, gdSlot, dIsi, dIsi2, dSlot, dSetSlot, dMethSl, dMakeSl, dCall, dCallP, dBM, dFrz, dLstF, dLcF, dLc2F, dDcF, dSlF, dListVF, bListF, bListDF, bSortSF, oAddLF, oRepLF, dSl, dNoP, dPart, dListV, dTru, dOrT, EndsD, startD, oLtI, oLeI, oGtI, oGeI, oIx, oMulI, oPowI, oAddI, oSubI, oModI, oDivI, oI, oI0, oEqD, oNeD, oInD, oNotInD, oAddL, oAddT, oAddS, oRepL, bLen, bAbs, bInt, bMin2, bMax2, bAll, bAny, bTuple, bList, bListD, bSortS, mAppend, mPop, mPopAt, mExtend, mIndex, dFld, dSetFld, dAddFld, gdFld, dMeth, dMake, dPar3, dRevT, oAddTK, dSortSetT, dSortSetTF, gdLst, gdAll, dRevL, dRevLF, dYes, dFrzA, oNegI, bSortG, bSortGF, dSlK, oIsB, oNotB, bSortTS, bSortTSF, bSortI, bSortIF, iDi, dDisp, iEnS, dEi, oTimes, oEqO, oNeO, mClear, mReverse, dMethP, dMethSlP, dMakeP, dMakeSlP, oGeD, oCmpD, dSortSetBF, dSortKDF, dDcT, tupOf_lst, tupOf_ref, tupOf_tup, List.map_cons, List.map_nil, List.length_cons, List.length_nil, List.cons_append, List.nil_append, List.append_nil, List.replicate, List.set_cons_zero, List.set_cons_succ, List.getElem?_cons_zero, List.getElem?_cons_succ, Option.some.injEq, exists_eq_left', exists_eq_left, exists_and_left, D.int.injEq, D.bl.injEq, D.str.injEq, D.tup.injEq, D.lst.injEq, D.ref.injEq, List.cons.injEq, and_true, true_and, reduceCtorEq, false_and, and_false, exists_false, or_false, false_or, exists_const, Bool.false_eq_true, if_true, if_false, decide_eq_true_eq, Ob.lst.injEq, Ob.slt.injEq, Ob.dic.injEq, seqD_ref, lstD_ref, seqD_tup, seqD_lst, lstD_lst, lstR_lst, Sto.set_same, Sto.set_set, atI_0, atI_1, atI_2, Nat.reduceAdd, ixN_30, ixN_32, lstD_tup, seqD_row, List.append_assoc, false_or, or_false, cut_d1, cut_t1, sz_0, sz_1, sz_2, sz_3, sz_4, sz_5, sz_6, sz_7, sz_8, sz_9, sz_10, sz_11, sz_12]
    obtain ⟨h1, h2, h3⟩ := idx_first (hn.mem n hm)
    exact ⟨w, rfl, hw, .inl ⟨rfl, _, rfl⟩, _, _, pyR_of (pyD_lst (pyDs_strs _)), rfl, shp_names hw, (shp_str (names_so hw (hn.mem n hm))).ok, _, _, h1, h2, h3, hy _ _ rfl (Sto.sub_refl _)⟩
  rw [List.nil_append, fm_map]
  have hspot : ∀ n ∈ ns, w.names.idxOf n < w.hs.length := fun n hm => by rw [← hnl]; exact List.idxOf_lt_length_of_mem (hn.mem n hm)
  refine forW_all (ansD (w.rul rs)) (fun n ρ S' => ∃ b6 b7 b8, ρ = [some w.d, some (.lst (w.rows.map (ansD (w.rul rs)))), some (.tup (r.map .str)), some (.tup (ns.map .str)), some (.str due), some (.lst (ns.map fun n => .int (w.names.idxOf n : Nat))), b6, b7, b8] ∧ S.sub S' ∧ ∀ o ∈ w.rows.take n, (w.alike r o ns && !decide ((w.rul rs).ans o = due)) = false) w.rows 0 ⟨_, _, _, rfl, Sto.sub_refl _, fun o ho => by simp at ho⟩ ?_ ?_
  · rintro i o ρ S' E' hi ⟨b6, b7, b8, rfl, hs, hno⟩ hrt hbk hnx
    rw [Nat.zero_add] at hnx hno
    have ho : o ∈ w.rows := List.mem_of_getElem? hi
    have hro := rows_ok hw ho
    refine ⟨gs_lst, ?_⟩
    simp only [Tg.d, ansD, rowD, setsE, dWkA, dTupK, dTupL, dTupIx, dDictP, dDc2, dFor, dWhile, dLc, dLc2, dDc, dNextG, iSeq, iR1, iR2, iEn, iZpA, iZ2, iZ3, dSortK, dSortKF, dSortSet, dSortSetF, dBreak, bSortT, bSortTF, bSum, bSumL, bSumLF, bMaxL, bMinL, dDicE, bSortD, bSortDF, dGet2, oInA, oNotInA, oIxA, gdSubA, dSeq, dSet, dIf, dIfS, dTst, dOp, dUn, dVar, dCB, aCons, aNil, aStar, dRet, dRetN, dNext, dDrop, dLst, dTup, dC, dAnd, dOr, dNot, dAndV, dOrV, dNotV, dPar, dAsg, gdName, gdSub, gdTup, gdCons, gdNil, gdSlot, dIsi, dIsi2, dSlot, dSetSlot, dMethSl, dMakeSl, dCall, dCallP, dBM, dFrz, dLstF, dLcF, dLc2F, dDcF, dSlF, dListVF, bListF, bListDF, bSortSF, oAddLF, oRepLF, dSl, dNoP, dPart, dListV, dTru, dOrT, EndsD, startD, oLtI, oLeI, oGtI, oGeI, oIx, oMulI, oPowI, oAddI, oSubI, oModI, oDivI, oI, oI0, oEqD, oNeD, oInD, oNotInD, oAddL, oAddT, oAddS, oRepL, bLen, bAbs, bInt, bMin2, bMax2, bAll, bAny, bTuple, bList, bListD, bSortS, mAppend, mPop, mPopAt, mExtend, mIndex, dFld, dSetFld, dAddFld, gdFld, dMeth, dMake, dPar3, dRevT, oAddTK, dSortSetT, dSortSetTF, gdLst, gdAll, dRevL, dRevLF, dYes, dFrzA, oNegI, bSortG, bSortGF, dSlK, oIsB, oNotB, bSortTS, bSortTSF, bSortI, bSortIF, iDi, dDisp, iEnS, dEi, oTimes, oEqO, oNeO, mClear, mReverse, dMethP, dMethSlP, dMakeP, dMakeSlP, oGeD, oCmpD, dSortSetBF, dSortKDF, dDcT, tupOf_lst, tupOf_ref, tupOf_tup, List.map_cons, List.map_nil, List.length_cons, List.length_nil, List.cons_append, List.nil_append, List.append_nil, List.replicate, List.set_cons_zero, List.set_cons_succ, List.getElem?_cons_zero, List.getElem?_cons_succ, Option.some.injEq, exists_eq_left', exists_eq_left, exists_and_left, D.int.injEq, D.bl.injEq, D.str.injEq, D.tup.injEq, D.lst.injEq, D.ref.injEq, List.cons.injEq, and_true, true_and, reduceCtorEq, false_and, and_false, exists_false, or_false, false_or, exists_const, Bool.false_eq_true, if_true, if_false, decide_eq_true_eq, Ob.lst.injEq, Ob.slt.injEq, Ob.dic.injEq, seqD_ref, lstD_ref, seqD_tup, seqD_lst, lstD_lst, lstR_lst, Sto.set_same, Sto.set_set, atI_0, atI_1, atI_2, Nat.reduceAdd, ixN_30, ixN_32, lstD_tup, seqD_row, List.append_assoc, false_or, or_false, cut_d1, cut_t1, sz_0, sz_1, sz_2, sz_3, sz_4, sz_5, sz_6, sz_7, sz_8, sz_9, sz_10, sz_11, sz_12]
    have go : ∀ b6 b7 b8 S2, S'.sub S2 → (w.alike r o ns && !decide ((w.rul rs).ans o = due)) = false → E'.nx [some w.d, some (.lst (w.rows.map (ansD (w.rul rs)))), some (.tup (r.map .str)), some (.tup (ns.map .str)), some (.str due), some (.lst (ns.map fun n => .int (w.names.idxOf n : Nat))), b6, b7, b8] S2 := fun b6 b7 b8 S2 s2 h =>
      (hnx _ _ _ _ (Wk.refl _) s2 ⟨b6, b7, b8, rfl, hs, fun x hx => by
        rw [List.take_add_one, hi] at hx
        rcases List.mem_append.mp hx with hx | hx
        · exact hno x hx
        · rw [show x = o by simpa using hx]; exact h⟩).1
    refine ⟨_, rfl, _, rfl, (shp_str (ans_ok hw2)).ok, (shp_str hd).ok, ?_⟩
    rw [eqv_str]
    by_cases e : (!decide ((w.rul rs).ans o = due)) = true
    · rw [if_pos e]
      refine compW_fs (fun n : Str => D.int (w.names.idxOf n : Nat)) (fun n => if (!decide (w.val o n = w.val r n)) = true then some (.int (w.names.idxOf n : Nat)) else none) ns [] gs_lst (small_sz (by simp; omega)) (fun n hm S2 Py Pn s2 hy hnn => ?_) ?_
      · have hsp := hspot n hm
        simp only [turn, Tg.d, wipeD, dWkA, dTupK, dTupL, dTupIx, dDictP, dDc2, dFor, dWhile, dLc, dLc2, dDc, dNextG, iSeq, iR1, iR2, iEn, iZpA, iZ2, iZ3, dSortK, dSortKF, dSortSet, dSortSetF, dBreak, bSortT, bSortTF, bSum, bSumL, bSumLF, bMaxL, bMinL, dDicE, bSortD, bSortDF, dGet2, oInA, oNotInA, oIxA, gdSubA, dSeq, dSet, dIf, dIfS, dTst, dOp, dUn, dVar, dCB, aCons, aNil, aStar, dRet, dRetN, dNext, dDrop, dLst, dTup, dC, dAnd, dOr, dNot, dAndV, dOrV, dNotV, dPar, dAsg, gdName, gdSub, gdTup, gdCons, gdNil, gdSlot, dIsi, dIsi2, dSlot, dSetSlot, dMethSl, dMakeSl, dCall, dCallP, dBM, dFrz, dLstF, dLcF, dLc2F, dDcF, dSlF, dListVF, bListF, bListDF, bSortSF, oAddLF, oRepLF, dSl, dNoP, dPart, dListV, dTru, dOrT, EndsD, startD, oLtI, oLeI, oGtI, oGeI, oIx, oMulI, oPowI, oAddI, oSubI, oModI, oDivI, oI, oI0, oEqD, oNeD, oInD, oNotInD, oAddL, oAddT, oAddS, oRepL, bLen, bAbs, bInt, bMin2, bMax2, bAll, bAny, bTuple, bList, bListD, bSortS, mAppend, mPop, mPopAt, mExtend, mIndex, dFld, dSetFld, dAddFld, gdFld, dMeth, dMake, dPar3, dRevT, oAddTK, dSortSetT, dSortSetTF, gdLst, gdAll, dRevL, dRevLF, dYes, dFrzA, oNegI, bSortG, bSortGF, dSlK, oIsB, oNotB, bSortTS, bSortTSF, bSortI, bSortIF, iDi, dDisp, iEnS, dEi, oTimes, oEqO, oNeO, mClear, mReverse, dMethP, dMethSlP, dMakeP, dMakeSlP, oGeD, oCmpD, dSortSetBF, dSortKDF, dDcT, tupOf_lst, tupOf_ref, tupOf_tup, List.map_cons, List.map_nil, List.length_cons, List.length_nil, List.cons_append, List.nil_append, List.append_nil, List.replicate, List.set_cons_zero, List.set_cons_succ, List.getElem?_cons_zero, List.getElem?_cons_succ, Option.some.injEq, exists_eq_left', exists_eq_left, exists_and_left, D.int.injEq, D.bl.injEq, D.str.injEq, D.tup.injEq, D.lst.injEq, D.ref.injEq, List.cons.injEq, and_true, true_and, reduceCtorEq, false_and, and_false, exists_false, or_false, false_or, exists_const, Bool.false_eq_true, if_true, if_false, decide_eq_true_eq, Ob.lst.injEq, Ob.slt.injEq, Ob.dic.injEq, seqD_ref, lstD_ref, seqD_tup, seqD_lst, lstD_lst, lstR_lst, Sto.set_same, Sto.set_set, atI_0, atI_1, atI_2, Nat.reduceAdd, ixN_30, ixN_32, lstD_tup, seqD_row, List.append_assoc, false_or, or_false, cut_d1, cut_t1, sz_0, sz_1, sz_2, sz_3, sz_4, sz_5, sz_6, sz_7, sz_8, sz_9, sz_10, sz_11, sz_12]
        refine ⟨_, val_at hro (hn.mem n hm), _, val_at hr (hn.mem n hm), _, rfl, _, rfl, (shp_str (val_so hro _)).ok, (shp_str (val_so hr _)).ok, ?_⟩
        rw [eqv_str]
        by_cases e : (!decide (w.val o n = w.val r n)) = true
        · rw [if_pos e] at hy ⊢
          exact hy _ _ rfl (Sto.sub_refl _)
        · rw [if_neg e] at hnn ⊢
          exact hnn _ rfl (Sto.sub_refl _)
      · rw [List.nil_append, fm_if]
        refine ⟨_, pyR_of (pyD_lst (pyDs_map (f := fun n : Str => D.int (w.names.idxOf n : Nat)) (g := fun n => PyData.int (w.names.idxOf n : Nat)) (fun _ => rfl) _)), _, rfl, (shp_list (n := 0) (shp_map fun v hv => shp_i _)).ok, (shp_nil (n := 0)).ok, ?_⟩
        rw [eqv_nil]
        have e2 : ((ns.filter fun n => !decide (w.val o n = w.val r n)).map fun n => PyData.int (w.names.idxOf n : Nat)).isEmpty = w.alike r o ns := by
          rw [Bool.eq_iff_iff, List.isEmpty_iff, List.map_eq_nil_iff, List.filter_eq_nil_iff, alike_iff]
          simp only [Bool.not_eq_true', decide_eq_false_iff_not, Decidable.not_not]
          exact ⟨fun h n hn => (h n hn).symm, fun h n hn => (h n hn).symm⟩
        rw [e2]
        by_cases e3 : w.alike r o ns = true
        · rw [if_pos e3, hrt]
          have : (w.rul rs).shown r ns due = some o := find_first hi hno (by rw [show (w.rul rs).alike r o ns = w.alike r o ns from rfl, e3, e]; rfl)
          rw [this] at q
          exact ⟨S, hs, q⟩
        · rw [if_neg e3]
          exact go _ _ _ _ (Sto.sub_refl _) (by rw [Bool.not_eq_true _ |>.mp e3]; rfl)
    · rw [if_neg e]
      exact go _ _ _ _ (Sto.sub_refl _) (by rw [Bool.not_eq_true _ |>.mp e, Bool.and_false])
  · rintro ρ S' ⟨b6, b7, b8, rfl, hs, hno⟩
    rw [Nat.zero_add, List.take_length] at hno
    refine ⟨gs_lst, S, hs, ?_⟩
    have : (w.rul rs).shown r ns due = none := find_none hno
    rw [this] at q
    exact q
theorem v__law_fine_k45 : ∀ ds S Q E, sp__law_fine_k45 ds S Q E → d__law_fine_k45 (EndsD Q) (startD N__law_fine_k45 ds) S := by
  rintro ds S Q E ⟨w, rs, cs, rfl, hw, hw2, hc, q⟩
  simp only [d__law_fine_k45, N__law_fine_k45, dWkA, dTupK, dTupL, dTupIx, dDictP, dDc2, dFor, dWhile, dLc, dLc2, dDc, dNextG, iSeq, iR1, iR2, iEn, iZpA, iZ2, iZ3, dSortK, dSortKF, dSortSet, dSortSetF, dBreak, bSortT, bSortTF, bSum, bSumL, bSumLF, bMaxL, bMinL, dDicE, bSortD, bSortDF, dGet2, oInA, oNotInA, oIxA, gdSubA, dSeq, dSet, dIf, dIfS, dTst, dOp, dUn, dVar, dCB, aCons, aNil, aStar, dRet, dRetN, dNext, dDrop, dLst, dTup, dC, dAnd, dOr, dNot, dAndV, dOrV, dNotV, dPar, dAsg, gdName, gdSub, gdTup, gdCons, gdNil, gdSlot, dIsi, dIsi2, dSlot, dSetSlot, dMethSl, dMakeSl, dCall, dCallP, dBM, dFrz, dLstF, dLcF, dLc2F, dDcF, dSlF, dListVF, bListF, bListDF, bSortSF, oAddLF, oRepLF, dSl, dNoP, dPart, dListV, dTru, dOrT, EndsD, startD, oLtI, oLeI, oGtI, oGeI, oIx, oMulI, oPowI, oAddI, oSubI, oModI, oDivI, oI, oI0, oEqD, oNeD, oInD, oNotInD, oAddL, oAddT, oAddS, oRepL, bLen, bAbs, bInt, bMin2, bMax2, bAll, bAny, bTuple, bList, bListD, bSortS, mAppend, mPop, mPopAt, mExtend, mIndex, dFld, dSetFld, dAddFld, gdFld, dMeth, dMake, dPar3, dRevT, oAddTK, dSortSetT, dSortSetTF, gdLst, gdAll, dRevL, dRevLF, dYes, dFrzA, oNegI, bSortG, bSortGF, dSlK, oIsB, oNotB, bSortTS, bSortTSF, bSortI, bSortIF, iDi, dDisp, iEnS, dEi, oTimes, oEqO, oNeO, mClear, mReverse, dMethP, dMethSlP, dMakeP, dMakeSlP, oGeD, oCmpD, dSortSetBF, dSortKDF, dDcT, tupOf_lst, tupOf_ref, tupOf_tup, List.map_cons, List.map_nil, List.length_cons, List.length_nil, List.cons_append, List.nil_append, List.append_nil, List.replicate, List.set_cons_zero, List.set_cons_succ, List.getElem?_cons_zero, List.getElem?_cons_succ, Option.some.injEq, exists_eq_left', exists_eq_left, exists_and_left, D.int.injEq, D.bl.injEq, D.str.injEq, D.tup.injEq, D.lst.injEq, D.ref.injEq, List.cons.injEq, and_true, true_and, reduceCtorEq, false_and, and_false, exists_false, or_false, false_or, exists_const, Bool.false_eq_true, if_true, if_false, decide_eq_true_eq, Ob.lst.injEq, Ob.slt.injEq, Ob.dic.injEq, seqD_ref, lstD_ref, seqD_tup, seqD_lst, lstD_lst, lstR_lst, Sto.set_same, Sto.set_set, atI_0, atI_1, atI_2, Nat.reduceAdd, ixN_30, ixN_32, lstD_tup, seqD_row, List.append_assoc, false_or, or_false, cut_d1, cut_t1, sz_0, sz_1, sz_2, sz_3, sz_4, sz_5, sz_6, sz_7, sz_8, sz_9, sz_10, sz_11, sz_12]
  refine ⟨_, rfl, _, atI_0 _ _, c__law_answers (w := w.rul rs) hw2 ?_⟩
  refine compW_fs copyD (fun c => some (optD ((w.rul rs).shownC c))) cs [] gs_tup (small_sz (by have := hc.len; simp; omega)) (fun c hcm S' Py Pn s hyy hno => ?_) ?_
  · simp only [turn, Tg.d, wipeD, copyD, dWkA, dTupK, dTupL, dTupIx, dDictP, dDc2, dFor, dWhile, dLc, dLc2, dDc, dNextG, iSeq, iR1, iR2, iEn, iZpA, iZ2, iZ3, dSortK, dSortKF, dSortSet, dSortSetF, dBreak, bSortT, bSortTF, bSum, bSumL, bSumLF, bMaxL, bMinL, dDicE, bSortD, bSortDF, dGet2, oInA, oNotInA, oIxA, gdSubA, dSeq, dSet, dIf, dIfS, dTst, dOp, dUn, dVar, dCB, aCons, aNil, aStar, dRet, dRetN, dNext, dDrop, dLst, dTup, dC, dAnd, dOr, dNot, dAndV, dOrV, dNotV, dPar, dAsg, gdName, gdSub, gdTup, gdCons, gdNil, gdSlot, dIsi, dIsi2, dSlot, dSetSlot, dMethSl, dMakeSl, dCall, dCallP, dBM, dFrz, dLstF, dLcF, dLc2F, dDcF, dSlF, dListVF, bListF, bListDF, bSortSF, oAddLF, oRepLF, dSl, dNoP, dPart, dListV, dTru, dOrT, EndsD, startD, oLtI, oLeI, oGtI, oGeI, oIx, oMulI, oPowI, oAddI, oSubI, oModI, oDivI, oI, oI0, oEqD, oNeD, oInD, oNotInD, oAddL, oAddT, oAddS, oRepL, bLen, bAbs, bInt, bMin2, bMax2, bAll, bAny, bTuple, bList, bListD, bSortS, mAppend, mPop, mPopAt, mExtend, mIndex, dFld, dSetFld, dAddFld, gdFld, dMeth, dMake, dPar3, dRevT, oAddTK, dSortSetT, dSortSetTF, gdLst, gdAll, dRevL, dRevLF, dYes, dFrzA, oNegI, bSortG, bSortGF, dSlK, oIsB, oNotB, bSortTS, bSortTSF, bSortI, bSortIF, iDi, dDisp, iEnS, dEi, oTimes, oEqO, oNeO, mClear, mReverse, dMethP, dMethSlP, dMakeP, dMakeSlP, oGeD, oCmpD, dSortSetBF, dSortKDF, dDcT, tupOf_lst, tupOf_ref, tupOf_tup, List.map_cons, List.map_nil, List.length_cons, List.length_nil, List.cons_append, List.nil_append, List.append_nil, List.replicate, List.set_cons_zero, List.set_cons_succ, List.getElem?_cons_zero, List.getElem?_cons_succ, Option.some.injEq, exists_eq_left', exists_eq_left, exists_and_left, D.int.injEq, D.bl.injEq, D.str.injEq, D.tup.injEq, D.lst.injEq, D.ref.injEq, List.cons.injEq, and_true, true_and, reduceCtorEq, false_and, and_false, exists_false, or_false, false_or, exists_const, Bool.false_eq_true, if_true, if_false, decide_eq_true_eq, Ob.lst.injEq, Ob.slt.injEq, Ob.dic.injEq, seqD_ref, lstD_ref, seqD_tup, seqD_lst, lstD_lst, lstR_lst, Sto.set_same, Sto.set_set, atI_0, atI_1, atI_2, Nat.reduceAdd, ixN_30, ixN_32, lstD_tup, seqD_row, List.append_assoc, false_or, or_false, cut_d1, cut_t1, sz_0, sz_1, sz_2, sz_3, sz_4, sz_5, sz_6, sz_7, sz_8, sz_9, sz_10, sz_11, sz_12]
    have h := hc.ok c hcm
    exact ⟨w, rs, c.1, c.2.1, c.2.2, rfl, hw, hw2, h.row, h.ns, h.so, hyy _ _ rfl (Sto.sub_refl _)⟩
  rw [List.nil_append, fm_some]
  exact drp_of q
def pyRuleT (r : Rule) : PyData := .tuple [.tuple (r.1.map fun t => .tuple [.str t.1, .str t.2]), .str r.2]
theorem py_ruleT (r : Rule) : pyD (ruleD r) = some (pyRuleT r) := pyD_tup (pyDs_cons (pyD_tup (pyDs_map (f := testD) (g := fun t => .tuple [.str t.1, .str t.2]) (fun t => rfl) _)) (pyDs_cons rfl rfl))
structure RulOk (w : Wd) (r : Rule) : Prop where
  tl : r.1.length ≤ 100
  tn : ∀ t ∈ r.1, t.1 ∈ w.names
  so : PyData.strOk r.2 = true
  to : ∀ t ∈ r.1, PyData.strOk t.1 = true ∧ PyData.strOk t.2 = true
theorem rul_old {w : Wd} (hw : WOk w) {r : Rule} (h : r ∈ w.rs) : RulOk w r := ⟨hw.tl r h, hw.tn r h, (hw.ro r h).1, (hw.ro r h).2⟩
theorem wok_rul {w : Wd} (hw : WOk w) {rs : List Rule} (hl : rs.length ≤ 100) (h : ∀ r ∈ rs, RulOk w r) : WOk (w.rul rs) where
  nd := hw.nd
  hl := hw.hl
  vl := hw.vl
  rl := hl
  tl := fun r hr => (h r hr).tl
  tn := fun r hr => (h r hr).tn
  so := hw.so
  ro := fun r hr => ⟨(h r hr).so, (h r hr).to⟩
theorem shp_rulesT {w : Wd} {rs : List Rule} (h : ∀ r ∈ rs, RulOk w r) : Shp (.list (rs.map pyRuleT)) 4 :=
  shp_list (n := 3) (shp_map fun r hr => shp_tup (n := 2) fun p hp => by
    simp only [List.mem_cons, List.not_mem_nil, or_false] at hp
    rcases hp with rfl | rfl
    · exact shp_tup (n := 1) (shp_map fun t ht => shp_tup (n := 0) fun p hp => by
        simp only [List.mem_cons, List.not_mem_nil, or_false] at hp
        rcases hp with rfl | rfl
        · exact shp_str ((h r hr).to t ht).1
        · exact shp_str ((h r hr).to t ht).2)
    · exact (shp_str (h r hr).so).mono (by decide))
theorem py_refT {S : Sto} {m : Nat} {rs : List Rule} (h : S m = some (.lst (rs.map ruleD))) : pyR S (.ref m) = some (.list (rs.map pyRuleT)) := by
  show (match S m with | some (.lst ds) => (pyDs ds).map PyData.list | _ => none) = _
  rw [h]
  show (pyDs _).map PyData.list = _
  rw [pyDs_map py_ruleT]
  rfl
theorem erase_map {α β : Type} (f : α → β) : ∀ (xs : List α) (k : Nat), (xs.map f).eraseIdx k = (xs.eraseIdx k).map f
  | [], _ => rfl
  | x :: xs, 0 => rfl
  | x :: xs, k + 1 => congrArg (f x :: ·) (erase_map f xs k)
theorem tail_rules {w : Wd} {S : Sto} {l m : Nat} {c i : Int} {b4 b5 b6 : Option D} {E : DEnds} (hw : WS w) (hne : w.hs ≠ []) (hm : S m = some (.lst (w.rs.map ruleD))) (hml : m ≠ l) (hB : Bx S l c) (hc : c ≤ 2 ^ 39)
    (q : ∀ (x : Rule) b5 b6 S3, RulOk w x → Fr l S S3 → Bx S3 l (c + 3) → (∀ k, S3 k = none → S k = none) → E.nx [some (.ref l), some w.d, some (.lst ((x :: w.rs.take 5).map ruleD)), some (.int i), b4, b5, b6] S3) :
    t__law_rules_k45 E [some (.ref l), some w.d, some (.ref m), some (.int i), b4, b5, b6] S := by
  have hw0 := hw.toWOk
  have hhl := hw0.hl
  have h9 := hw.r9
  simp only [t__law_rules_k45, dWkA, dTupK, dTupL, dTupIx, dDictP, dDc2, dFor, dWhile, dLc, dLc2, dDc, dNextG, iSeq, iR1, iR2, iEn, iZpA, iZ2, iZ3, dSortK, dSortKF, dSortSet, dSortSetF, dBreak, bSortT, bSortTF, bSum, bSumL, bSumLF, bMaxL, bMinL, dDicE, bSortD, bSortDF, dGet2, oInA, oNotInA, oIxA, gdSubA, dSeq, dSet, dIf, dIfS, dTst, dOp, dUn, dVar, dCB, aCons, aNil, aStar, dRet, dRetN, dNext, dDrop, dLst, dTup, dC, dAnd, dOr, dNot, dAndV, dOrV, dNotV, dPar, dAsg, gdName, gdSub, gdTup, gdCons, gdNil, gdSlot, dIsi, dIsi2, dSlot, dSetSlot, dMethSl, dMakeSl, dCall, dCallP, dBM, dFrz, dLstF, dLcF, dLc2F, dDcF, dSlF, dListVF, bListF, bListDF, bSortSF, oAddLF, oRepLF, dSl, dNoP, dPart, dListV, dTru, dOrT, EndsD, startD, oLtI, oLeI, oGtI, oGeI, oIx, oMulI, oPowI, oAddI, oSubI, oModI, oDivI, oI, oI0, oEqD, oNeD, oInD, oNotInD, oAddL, oAddT, oAddS, oRepL, bLen, bAbs, bInt, bMin2, bMax2, bAll, bAny, bTuple, bList, bListD, bSortS, mAppend, mPop, mPopAt, mExtend, mIndex, dFld, dSetFld, dAddFld, gdFld, dMeth, dMake, dPar3, dRevT, oAddTK, dSortSetT, dSortSetTF, gdLst, gdAll, dRevL, dRevLF, dYes, dFrzA, oNegI, bSortG, bSortGF, dSlK, oIsB, oNotB, bSortTS, bSortTSF, bSortI, bSortIF, iDi, dDisp, iEnS, dEi, oTimes, oEqO, oNeO, mClear, mReverse, dMethP, dMethSlP, dMakeP, dMakeSlP, oGeD, oCmpD, dSortSetBF, dSortKDF, dDcT, tupOf_lst, tupOf_ref, tupOf_tup, List.map_cons, List.map_nil, List.length_cons, List.length_nil, List.cons_append, List.nil_append, List.append_nil, List.replicate, List.set_cons_zero, List.set_cons_succ, List.getElem?_cons_zero, List.getElem?_cons_succ, Option.some.injEq, exists_eq_left', exists_eq_left, exists_and_left, D.int.injEq, D.bl.injEq, D.str.injEq, D.tup.injEq, D.lst.injEq, D.ref.injEq, List.cons.injEq, and_true, true_and, reduceCtorEq, false_and, and_false, exists_false, or_false, false_or, exists_const, Bool.false_eq_true, if_true, if_false, decide_eq_true_eq, Ob.lst.injEq, Ob.slt.injEq, Ob.dic.injEq, seqD_ref, lstD_ref, seqD_tup, seqD_lst, lstD_lst, lstR_lst, Sto.set_same, Sto.set_set, atI_0, atI_1, atI_2, Nat.reduceAdd, ixN_30, ixN_32, lstD_tup, seqD_row, List.append_assoc, false_or, or_false, cut_d1, cut_t1, sz_0, sz_1, sz_2, sz_3, sz_4, sz_5, sz_6, sz_7, sz_8, sz_9, sz_10, sz_11, sz_12]
  refine ⟨_, rfl, _, atI_0 _ _, _, rfl, c__law_of_lst (by simpa using hne) (by rw [List.length_map]; omega) hB (by omega) fun e S1 he hf1 hB1 hn1 => ?_⟩
  obtain ⟨h, hh, rfl⟩ := List.mem_map.mp he
  have hvl := hw0.vl h hh
  refine ⟨_, rfl, rfl, _, _, rfl, _, _, rfl, rfl, _, rfl, small_sz (by rw [List.length_map]; omega), ?_⟩
  refine c__law_of_tup (by simp) (by rw [List.length_cons, List.length_map]; omega) hB1 (by omega) fun e2 S2 he2 hf2 hB2 hn2 => ?_
  obtain ⟨v, hv, rfl⟩ : ∃ v, PyData.strOk v = true ∧ e2 = .str v := by
    rcases List.mem_cons.mp he2 with rfl | he2
    · exact ⟨_, by decide +kernel, rfl⟩
    · obtain ⟨v, hv, rfl⟩ := List.mem_map.mp he2
      exact ⟨v, (hw0.so h hh).2 v hv, rfl⟩
  refine c__law_of_lst (by simp) (by simp) hB2 (by omega) fun e3 S3 he3 hf3 hB3 hn3 => ?_
  obtain ⟨a, ha, rfl⟩ : ∃ a, PyData.strOk a = true ∧ e3 = .str a := by
    simp only [List.mem_cons, List.not_mem_nil, or_false] at he3
    rcases he3 with rfl | rfl
    · exact ⟨_, by decide +kernel, rfl⟩
    · exact ⟨_, by decide +kernel, rfl⟩
  have hm3 := hf3 _ _ hml (hf2 _ _ hml (hf1 _ _ hml hm))
  rw [hm3]
  have ec : L3.cutD (w.rs.map ruleD) none (some 5) = (w.rs.take 5).map ruleD := by
    rw [show (5 : Int) = ((5 : Nat) : Int) from rfl, cut_take, List.map_take]
  refine ⟨_, rfl, ?_⟩
  rw [ec]
  refine ⟨small_sz (by rw [List.length_map, List.length_take]; omega), ?_⟩
  have ex : D.tup [D.tup [D.tup [.str h.1, .str v]], .str a] :: (w.rs.take 5).map ruleD = (([(h.1, v)], a) :: w.rs.take 5).map ruleD := rfl
  rw [ex]
  refine q _ _ _ S3 ⟨by simp, fun t ht => ?_, ha, fun t ht => ?_⟩ ((hf1.trans hf2).trans hf3) (by rwa [show c + 3 = c + 1 + 1 + 1 by omega]) fun k hk => hn1 k (hn2 k (hn3 k hk))
  · rw [List.mem_singleton.mp ht]
    exact List.mem_map_of_mem hh
  · rw [List.mem_singleton.mp ht]
    exact ⟨(hw0.so h hh).1, hv⟩
theorem v__law_rules_k45 : ∀ ds S Q E, sp__law_rules_k45 ds S Q E → d__law_rules_k45 (EndsD Q) (startD N__law_rules_k45 ds) S := by
  rintro ds S Q E ⟨l, w, c, rfl, hw, hne, hB, hc, q⟩
  have hw0 := hw.toWOk
  have h9 := hw.r9
  simp only [d__law_rules_k45, N__law_rules_k45, dWkA, dTupK, dTupL, dTupIx, dDictP, dDc2, dFor, dWhile, dLc, dLc2, dDc, dNextG, iSeq, iR1, iR2, iEn, iZpA, iZ2, iZ3, dSortK, dSortKF, dSortSet, dSortSetF, dBreak, bSortT, bSortTF, bSum, bSumL, bSumLF, bMaxL, bMinL, dDicE, bSortD, bSortDF, dGet2, oInA, oNotInA, oIxA, gdSubA, dSeq, dSet, dIf, dIfS, dTst, dOp, dUn, dVar, dCB, aCons, aNil, aStar, dRet, dRetN, dNext, dDrop, dLst, dTup, dC, dAnd, dOr, dNot, dAndV, dOrV, dNotV, dPar, dAsg, gdName, gdSub, gdTup, gdCons, gdNil, gdSlot, dIsi, dIsi2, dSlot, dSetSlot, dMethSl, dMakeSl, dCall, dCallP, dBM, dFrz, dLstF, dLcF, dLc2F, dDcF, dSlF, dListVF, bListF, bListDF, bSortSF, oAddLF, oRepLF, dSl, dNoP, dPart, dListV, dTru, dOrT, EndsD, startD, oLtI, oLeI, oGtI, oGeI, oIx, oMulI, oPowI, oAddI, oSubI, oModI, oDivI, oI, oI0, oEqD, oNeD, oInD, oNotInD, oAddL, oAddT, oAddS, oRepL, bLen, bAbs, bInt, bMin2, bMax2, bAll, bAny, bTuple, bList, bListD, bSortS, mAppend, mPop, mPopAt, mExtend, mIndex, dFld, dSetFld, dAddFld, gdFld, dMeth, dMake, dPar3, dRevT, oAddTK, dSortSetT, dSortSetTF, gdLst, gdAll, dRevL, dRevLF, dYes, dFrzA, oNegI, bSortG, bSortGF, dSlK, oIsB, oNotB, bSortTS, bSortTSF, bSortI, bSortIF, iDi, dDisp, iEnS, dEi, oTimes, oEqO, oNeO, mClear, mReverse, dMethP, dMethSlP, dMakeP, dMakeSlP, oGeD, oCmpD, dSortSetBF, dSortKDF, dDcT, tupOf_lst, tupOf_ref, tupOf_tup, List.map_cons, List.map_nil, List.length_cons, List.length_nil, List.cons_append, List.nil_append, List.append_nil, List.replicate, List.set_cons_zero, List.set_cons_succ, List.getElem?_cons_zero, List.getElem?_cons_succ, Option.some.injEq, exists_eq_left', exists_eq_left, exists_and_left, D.int.injEq, D.bl.injEq, D.str.injEq, D.tup.injEq, D.lst.injEq, D.ref.injEq, List.cons.injEq, and_true, true_and, reduceCtorEq, false_and, and_false, exists_false, or_false, false_or, exists_const, Bool.false_eq_true, if_true, if_false, decide_eq_true_eq, Ob.lst.injEq, Ob.slt.injEq, Ob.dic.injEq, seqD_ref, lstD_ref, seqD_tup, seqD_lst, lstD_lst, lstR_lst, Sto.set_same, Sto.set_set, atI_0, atI_1, atI_2, Nat.reduceAdd, ixN_30, ixN_32, lstD_tup, seqD_row, List.append_assoc, false_or, or_false, cut_d1, cut_t1, sz_0, sz_1, sz_2, sz_3, sz_4, sz_5, sz_6, sz_7, sz_8, sz_9, sz_10, sz_11, sz_12]
  refine ⟨_, rfl, _, atI_1 _ _ _, _, rfl, fun m hm => ?_⟩
  have s1 : S.sub (S.set m (.lst (w.rs.map ruleD))) := Sto.sub_set hm
  have hm1 : (S.set m (.lst (w.rs.map ruleD))) m = some (.lst (w.rs.map ruleD)) := Sto.set_same
  have hml : m ≠ l := fun e => by
    obtain ⟨o, ho, _⟩ := hB
    rw [e, ho] at hm; cases hm
  have hB1 := hB.sub s1
  have hf1 : Fr l S (S.set m (.lst (w.rs.map ruleD))) := Fr.of s1
  have hn1 : ∀ k, (S.set m (.lst (w.rs.map ruleD))) k = none → S k = none := fun k hk => none_of_sub s1 hk
  generalize S.set m (.lst (w.rs.map ruleD)) = S1 at s1 hm1 hB1 hf1 hn1 ⊢
  refine c__law_take (by decide) (by decide) hB1 (by omega) fun i S2 hi0 hi4 hf2 hB2 hn2 => ?_
  have hm2 := hf2 _ _ hml hm1
  have hf12 : Fr l S S2 := hf1.trans hf2
  have hn12 : ∀ k, S2 k = none → S k = none := fun k hk => hn1 k (hn2 k hk)
  have hro : ∀ r ∈ w.rs, RulOk w r := fun r hr => rul_old hw0 hr
  have hsh := (shp_rulesT hro).ok
  have ee : PyData.eqv (.list (w.rs.map pyRuleT)) (.list (List.map PyData.str [])) = w.rs.isEmpty := by
    show PyData.eqv (.list (w.rs.map pyRuleT)) (.list []) = _
    rw [eqv_nil, List.isEmpty_map]
  have ei : ∀ k : Int, PyData.eqv (.int i) (.int k) = decide (i = k) := fun k => eqv_int i k
  have hfin : ∀ (rs : List Rule) S3, (∀ r ∈ rs, RulOk w r) → rs.length ≤ 20 → Fr l S S3 → Bx S3 l (c + 4) → (∀ k, S3 k = none → S k = none) → drp (Q (.tup (rs.map ruleD))) S3 := fun rs S3 h1 h2 h3 h4 h5 => drp_of (q rs S3 (wok_rul hw0 (by omega) h1) h2 h3 h4 h5)
  have htail : ∀ {b4 b5 b6 : Option D} {E : DEnds}, (∀ (rs : List Rule) b5 b6 S3, drp (Q (.tup (rs.map ruleD))) S3 → E.nx [some (.ref l), some w.d, some (.lst (rs.map ruleD)), some (.int i), b4, b5, b6] S3) → t__law_rules_k45 E [some (.ref l), some w.d, some (.ref m), some (.int i), b4, b5, b6] S2 := fun h => by
    refine tail_rules hw hne hm2 hml hB2 (by omega) fun x b5 b6 S3 hx hf3 hB3 hn3 => h _ b5 b6 S3 (hfin _ S3 (fun r hr => ?_) ?_ (hf12.trans hf3) ?_ fun k hk => hn12 k (hn3 k hk))
    · rcases List.mem_cons.mp hr with rfl | hr
      · exact hx
      · exact hro r (List.mem_of_mem_take hr)
    · rw [List.length_cons, List.length_take]; omega
    · obtain ⟨o, ho, hb⟩ := hB3
      exact ⟨o, ho, hb.mono (by omega)⟩
  refine ⟨_, _, ⟨rfl, rfl⟩, _, py_refT hm2, _, pyR_of (pyD_lst (pyDs_strs [])), hsh, (shp_nil (n := 0)).ok, ?_⟩
  rw [ee]
  have hz1 : ∀ k : Int, SeqAt.shaped (.int k) = true := fun k => shp_int k
  -- the list turned
  have rev : ∀ (P : Prop), (∃ ds, lstD S2 (.ref m) = some ds ∧ drp (Q (.tup ds.reverse)) S2) := fun P => by
    refine ⟨_, by rw [lstD_ref, hm2], ?_⟩
    rw [← List.map_reverse]
    refine hfin _ S2 (fun r hr => hro r (List.mem_reverse.mp hr)) (by rw [List.length_reverse]; omega) hf12 ?_ hn12
    obtain ⟨o, ho, hb⟩ := hB2
    exact ⟨o, ho, hb.mono (by omega)⟩
  by_cases hrs : w.rs.isEmpty = true
  · rw [hrs, if_neg (by decide)]
    refine ⟨_, rfl, _, rfl, hz1 _, hz1 _, ?_⟩
    rw [ei]
    by_cases e1 : i = 1
    · rw [decide_eq_true e1, if_pos rfl]
      exact rev True
    · rw [decide_eq_false e1, if_neg (by decide)]
      refine ⟨_, py_refT hm2, _, pyR_of (pyD_lst (pyDs_strs [])), hsh, (shp_nil (n := 0)).ok, ?_⟩
      rw [ee, hrs, if_neg (by decide)]
      exact htail fun rs b5 b6 S3 h => ⟨_, rfl, _, rfl, h⟩
  · have hrf : w.rs.isEmpty = false := Bool.not_eq_true _ |>.mp hrs
    have hlen : 0 < w.rs.length := by
      rcases Nat.eq_zero_or_pos w.rs.length with h | h
      · exact absurd (List.isEmpty_iff.mpr (List.length_eq_zero_iff.mp h)) hrs
      · exact h
    rw [hrf, if_pos (by decide)]
    refine ⟨_, rfl, _, rfl, hz1 _, hz1 _, ?_⟩
    rw [ei]
    by_cases e0 : i = 0
    · rw [decide_eq_true e0, if_pos rfl]
      refine ⟨tyB_at hm2, .inl ⟨_, by rw [seqD_ref, hm2], c__law_take (by rw [List.length_map]; omega) (by rw [List.length_map]; omega) hB2 (by omega) fun k S3 hk0 hk1 hf3 hB3 hn3 => ⟨m, rfl, _, _, rfl, hf3 _ _ hml hm2, ?_⟩⟩⟩
      obtain ⟨k, rfl⟩ := Int.eq_ofNat_of_zero_le hk0
      rw [List.length_map] at hk1
      have hk : k < w.rs.length := by omega
      refine ⟨k, by rw [List.length_map]; exact ixN_in (by omega) (by omega), _, by rw [List.getElem?_map, List.getElem?_eq_getElem hk]; rfl, _, by rw [seqD_ref, Sto.set_same], ?_⟩
      rw [erase_map, tupOf_ref]
      have hm0 : S m = none := hm
      refine hfin _ _ (fun r hr => hro r (List.mem_of_mem_eraseIdx hr)) (by have := List.length_eraseIdx_le w.rs k; omega) ((hf12.trans hf3).put hm0) ?_ fun j hj => ?_
      · obtain ⟨o, ho, hb⟩ := hB3
        exact ⟨o, by rw [Sto.set_ne (Ne.symm hml)]; exact ho, hb.mono (by omega)⟩
      · by_cases ej : j = m
        · rw [ej]; exact hm0
        · rw [Sto.set_ne ej] at hj
          exact hn12 j (hn3 j hj)
    · rw [decide_eq_false e0, if_neg (by decide)]
      refine ⟨_, rfl, _, rfl, hz1 _, hz1 _, ?_⟩
      rw [ei]
      by_cases e1 : i = 1
      · rw [decide_eq_true e1, if_pos rfl]
        exact rev True
      · rw [decide_eq_false e1, if_neg (by decide)]
        refine ⟨_, py_refT hm2, _, pyR_of (pyD_lst (pyDs_strs [])), hsh, (shp_nil (n := 0)).ok, ?_⟩
        rw [ee, hrf, if_pos (by decide)]
        refine ⟨_, rfl, _, rfl, hz1 _, hz1 _, ?_⟩
        rw [ei]
        by_cases e2 : i = 2
        · rw [decide_eq_true e2, if_pos rfl]
          refine .inl ⟨_, by rw [seqD_ref, hm2], c__law_take (by rw [List.length_map]; omega) (by rw [List.length_map]; omega) hB2 (by omega) fun k S3 hk0 hk1 hf3 hB3 hn3 => ?_⟩
          obtain ⟨k, rfl⟩ := Int.eq_ofNat_of_zero_le hk0
          rw [List.length_map] at hk1
          have hk : k < w.rs.length := by omega
          have hm3 := hf3 _ _ hml hm2
          have hk2 : ∀ {xs : List D}, xs.length = w.rs.length → ixN xs.length (k : Int) = some k := fun h => by rw [h]; exact ixN_in (by omega) (by omega)
          refine ⟨_, by rw [seqD_ref, hm3], _, rfl, ruleD w.rs[k], ?_, _, rfl, _, atI_0 _ _, ?_⟩
          · exact atI_nat (by rw [List.getElem?_map, List.getElem?_eq_getElem hk]; rfl)
          refine c__law_of_lst (by simp) (by simp) hB3 (by omega) fun e3 S4 he3 hf4 hB4 hn4 => ?_
          obtain ⟨a, ha, rfl⟩ : ∃ a, PyData.strOk a = true ∧ e3 = .str a := by
            simp only [List.mem_cons, List.not_mem_nil, or_false] at he3
            rcases he3 with rfl | rfl
            · exact ⟨_, by decide +kernel, rfl⟩
            · exact ⟨_, by decide +kernel, rfl⟩
          have hm4 := hf4 _ _ hml hm3
          refine ⟨m, rfl, _, _, rfl, hm4, k, hk2 (List.length_map _), _, by rw [seqD_ref, Sto.set_same], ?_⟩
          rw [tupOf_ref]
          have es : (w.rs.map ruleD).set k (D.tup [.tup (w.rs[k].1.map testD), .str a]) = (w.rs.set k (w.rs[k].1, a)).map ruleD := by rw [List.map_set]; rfl
          have hko := hro w.rs[k] (List.getElem_mem hk)
          rw [es]
          refine hfin _ _ (fun r hr => ?_) (by rw [List.length_set]; omega) (((hf12.trans hf3).trans hf4).put hm) ?_ fun j hj => ?_
          · rcases List.mem_or_eq_of_mem_set hr with hr | rfl
            · exact hro r hr
            · exact ⟨hko.tl, hko.tn, ha, hko.to⟩
          · obtain ⟨o, ho, hb⟩ := hB4
            exact ⟨o, by rw [Sto.set_ne (Ne.symm hml)]; exact ho, hb.mono (by omega)⟩
          · by_cases ej : j = m
            · rw [ej]; exact hm
            · rw [Sto.set_ne ej] at hj
              exact hn12 j (hn3 j (hn4 j hj))
        · rw [decide_eq_false e2, if_neg (by decide)]
          exact htail fun rs b5 b6 S3 h => ⟨_, rfl, _, rfl, h⟩
theorem fr_none {l : Nat} {S S' : Sto} {c : Int} (f : Fr l S S') (h : Bx S' l c) : ∀ k, S' k = none → S k = none := fun k hk => f.fresh (fun e => by
  obtain ⟨o, ho, _⟩ := h
  rw [e, ho] at hk
  cases hk) hk
theorem tail_copies {w : Wd} {S : Sto} {l a : Nat} {c m : Int} {cs : List Cp} {r : Row} {ns : List Str} {b3 : Option D} {E : DEnds} {es : List D} (hw : WOk w) (ha : S a = some (.lst (cs.map copyD))) (hal : a ≠ l) (hl : cs.length < 100) (hr : r ∈ w.rows) (hns : NsOk w ns) (hnl : ns.length ≤ 63) (hB : Bx S l c) (hc : c ≤ 2 ^ 39)
    (q : ∀ (x : Cp) S2, CpOk w x → x.1 ∈ w.rows → Fr l S S2 → Bx S2 l (c + 1) → S2 a = some (.lst (cs.map copyD)) → (∀ k, S2 k = none → S k = none) → E.nx [some (.ref l), some w.d, some (.int m), b3, some (.lst es), some (.ref a), some (rowD ns), some (rowD r), some (.str (w.ans r))] (S2.set a (.lst ((cs ++ [x]).map copyD)))) :
    t__law_copies_k45 E [some (.ref l), some w.d, some (.int m), b3, some (.lst es), some (.ref a), some (rowD ns), some (rowD r), some (.str (w.ans r))] S := by
  simp only [t__law_copies_k45, dWkA, dTupK, dTupL, dTupIx, dDictP, dDc2, dFor, dWhile, dLc, dLc2, dDc, dNextG, iSeq, iR1, iR2, iEn, iZpA, iZ2, iZ3, dSortK, dSortKF, dSortSet, dSortSetF, dBreak, bSortT, bSortTF, bSum, bSumL, bSumLF, bMaxL, bMinL, dDicE, bSortD, bSortDF, dGet2, oInA, oNotInA, oIxA, gdSubA, dSeq, dSet, dIf, dIfS, dTst, dOp, dUn, dVar, dCB, aCons, aNil, aStar, dRet, dRetN, dNext, dDrop, dLst, dTup, dC, dAnd, dOr, dNot, dAndV, dOrV, dNotV, dPar, dAsg, gdName, gdSub, gdTup, gdCons, gdNil, gdSlot, dIsi, dIsi2, dSlot, dSetSlot, dMethSl, dMakeSl, dCall, dCallP, dBM, dFrz, dLstF, dLcF, dLc2F, dDcF, dSlF, dListVF, bListF, bListDF, bSortSF, oAddLF, oRepLF, dSl, dNoP, dPart, dListV, dTru, dOrT, EndsD, startD, oLtI, oLeI, oGtI, oGeI, oIx, oMulI, oPowI, oAddI, oSubI, oModI, oDivI, oI, oI0, oEqD, oNeD, oInD, oNotInD, oAddL, oAddT, oAddS, oRepL, bLen, bAbs, bInt, bMin2, bMax2, bAll, bAny, bTuple, bList, bListD, bSortS, mAppend, mPop, mPopAt, mExtend, mIndex, dFld, dSetFld, dAddFld, gdFld, dMeth, dMake, dPar3, dRevT, oAddTK, dSortSetT, dSortSetTF, gdLst, gdAll, dRevL, dRevLF, dYes, dFrzA, oNegI, bSortG, bSortGF, dSlK, oIsB, oNotB, bSortTS, bSortTSF, bSortI, bSortIF, iDi, dDisp, iEnS, dEi, oTimes, oEqO, oNeO, mClear, mReverse, dMethP, dMethSlP, dMakeP, dMakeSlP, oGeD, oCmpD, dSortSetBF, dSortKDF, dDcT, tupOf_lst, tupOf_ref, tupOf_tup, List.map_cons, List.map_nil, List.length_cons, List.length_nil, List.cons_append, List.nil_append, List.append_nil, List.replicate, List.set_cons_zero, List.set_cons_succ, List.getElem?_cons_zero, List.getElem?_cons_succ, Option.some.injEq, exists_eq_left', exists_eq_left, exists_and_left, D.int.injEq, D.bl.injEq, D.str.injEq, D.tup.injEq, D.lst.injEq, D.ref.injEq, List.cons.injEq, and_true, true_and, reduceCtorEq, false_and, and_false, exists_false, or_false, false_or, exists_const, Bool.false_eq_true, if_true, if_false, decide_eq_true_eq, Ob.lst.injEq, Ob.slt.injEq, Ob.dic.injEq, seqD_ref, lstD_ref, seqD_tup, seqD_lst, lstD_lst, lstR_lst, Sto.set_same, Sto.set_set, atI_0, atI_1, atI_2, Nat.reduceAdd, ixN_30, ixN_32, lstD_tup, seqD_row, List.append_assoc, false_or, or_false, cut_d1, cut_t1, sz_0, sz_1, sz_2, sz_3, sz_4, sz_5, sz_6, sz_7, sz_8, sz_9, sz_10, sz_11, sz_12]
  refine ⟨tyB_at ha, c__law_of_lst (by simp) (by simp) hB (by omega) fun e S2 he hf2 hB2 hn2 => ?_⟩
  obtain ⟨v, hv, rfl⟩ : ∃ v, PyData.strOk v = true ∧ e = .str v := by
    simp only [List.mem_cons, List.not_mem_nil, or_false] at he
    rcases he with rfl | rfl | rfl | rfl
    · exact ⟨_, ans_ok hw, rfl⟩
    · exact ⟨_, ans_ok hw, rfl⟩
    · exact ⟨_, ans_ok hw, rfl⟩
    · exact ⟨_, by decide +kernel, rfl⟩
  have ha2 := hf2 _ _ hal ha
  refine ⟨_, ha2, by rw [List.length_map, sizeLine_eq]; omega, ?_⟩
  have e : cs.map copyD ++ [D.tup [rowD r, rowD ns, .str v]] = (cs ++ [((r, ns, v) : Cp)]).map copyD := by rw [List.map_append]; rfl
  rw [e]
  exact q (r, ns, v) S2 ⟨rows_ok hw hr, hns, hnl, hv⟩ hr hf2 hB2 ha2 hn2
theorem v__law_copies_k45 : ∀ ds S Q E, sp__law_copies_k45 ds S Q E → d__law_copies_k45 (EndsD Q) (startD N__law_copies_k45 ds) S := by
  rintro ds S Q E ⟨l, w, c, m, rfl, hw, hB, hc, hm0, hm50, q⟩
  simp only [d__law_copies_k45, N__law_copies_k45, dWkA, dTupK, dTupL, dTupIx, dDictP, dDc2, dFor, dWhile, dLc, dLc2, dDc, dNextG, iSeq, iR1, iR2, iEn, iZpA, iZ2, iZ3, dSortK, dSortKF, dSortSet, dSortSetF, dBreak, bSortT, bSortTF, bSum, bSumL, bSumLF, bMaxL, bMinL, dDicE, bSortD, bSortDF, dGet2, oInA, oNotInA, oIxA, gdSubA, dSeq, dSet, dIf, dIfS, dTst, dOp, dUn, dVar, dCB, aCons, aNil, aStar, dRet, dRetN, dNext, dDrop, dLst, dTup, dC, dAnd, dOr, dNot, dAndV, dOrV, dNotV, dPar, dAsg, gdName, gdSub, gdTup, gdCons, gdNil, gdSlot, dIsi, dIsi2, dSlot, dSetSlot, dMethSl, dMakeSl, dCall, dCallP, dBM, dFrz, dLstF, dLcF, dLc2F, dDcF, dSlF, dListVF, bListF, bListDF, bSortSF, oAddLF, oRepLF, dSl, dNoP, dPart, dListV, dTru, dOrT, EndsD, startD, oLtI, oLeI, oGtI, oGeI, oIx, oMulI, oPowI, oAddI, oSubI, oModI, oDivI, oI, oI0, oEqD, oNeD, oInD, oNotInD, oAddL, oAddT, oAddS, oRepL, bLen, bAbs, bInt, bMin2, bMax2, bAll, bAny, bTuple, bList, bListD, bSortS, mAppend, mPop, mPopAt, mExtend, mIndex, dFld, dSetFld, dAddFld, gdFld, dMeth, dMake, dPar3, dRevT, oAddTK, dSortSetT, dSortSetTF, gdLst, gdAll, dRevL, dRevLF, dYes, dFrzA, oNegI, bSortG, bSortGF, dSlK, oIsB, oNotB, bSortTS, bSortTSF, bSortI, bSortIF, iDi, dDisp, iEnS, dEi, oTimes, oEqO, oNeO, mClear, mReverse, dMethP, dMethSlP, dMakeP, dMakeSlP, oGeD, oCmpD, dSortSetBF, dSortKDF, dDcT, tupOf_lst, tupOf_ref, tupOf_tup, List.map_cons, List.map_nil, List.length_cons, List.length_nil, List.cons_append, List.nil_append, List.append_nil, List.replicate, List.set_cons_zero, List.set_cons_succ, List.getElem?_cons_zero, List.getElem?_cons_succ, Option.some.injEq, exists_eq_left', exists_eq_left, exists_and_left, D.int.injEq, D.bl.injEq, D.str.injEq, D.tup.injEq, D.lst.injEq, D.ref.injEq, List.cons.injEq, and_true, true_and, reduceCtorEq, false_and, and_false, exists_false, or_false, false_or, exists_const, Bool.false_eq_true, if_true, if_false, decide_eq_true_eq, Ob.lst.injEq, Ob.slt.injEq, Ob.dic.injEq, seqD_ref, lstD_ref, seqD_tup, seqD_lst, lstD_lst, lstR_lst, Sto.set_same, Sto.set_set, atI_0, atI_1, atI_2, Nat.reduceAdd, ixN_30, ixN_32, lstD_tup, seqD_row, List.append_assoc, false_or, or_false, cut_d1, cut_t1, sz_0, sz_1, sz_2, sz_3, sz_4, sz_5, sz_6, sz_7, sz_8, sz_9, sz_10, sz_11, sz_12]
  have hw0 := hw.toWOk
  have h256 := rows_256 hw
  have hnl := names_len hw0
  refine c__law_answers hw0 fun a ha => ?_
  have hal : a ≠ l := fun e => by
    obtain ⟨o, ho, _⟩ := hB
    rw [e, ho] at ha; cases ha
  have s1 : S.sub (S.set a (.lst [])) := Sto.sub_set ha
  have ha1 : (S.set a (.lst [])) a = some (.lst (List.map copyD [])) := Sto.set_same
  have hB1 := hB.sub s1
  have hn1 : ∀ k, (S.set a (.lst [])) k = none → S k = none := fun k hk => none_of_sub s1 hk
  have hf1 : Fr l S (S.set a (.lst [])) := Fr.of s1
  generalize S.set a (.lst []) = S1 at s1 ha1 hB1 hn1 hf1 ⊢
  refine ⟨_, _, ⟨rfl, rfl⟩, ⟨by omega, by omega⟩, ?_⟩
  refine forW_all (α := Nat) (fun i : Nat => D.int i) (fun n ρ S' => ∃ b3 b6 b7 b8 cs, ρ = [some (.ref l), some w.d, some (.int m), b3, some (.lst (w.rows.map (ansD w))), some (.ref a), b6, b7, b8] ∧ cs.length = n ∧ (∀ x ∈ cs, CpOk w x ∧ x.1 ∈ w.rows) ∧ S' a = some (.lst (cs.map copyD)) ∧ Fr l S S' ∧ Bx S' l (c + 1004 * n) ∧ ∀ k, S' k = none → S k = none) (List.range m.toNat) 0 ⟨_, _, _, _, [], rfl, rfl, fun x h => (by cases h), ha1, hf1, by simpa using hB1, hn1⟩ ?_ ?_
  · rintro i iv ρ S2 E' hiv ⟨b3, b6, b7, b8, cs, rfl, hcl, hco, ha2, hf2, hB2, hn2⟩ hrt hbk hnx
    clear hrt hbk
    rw [Nat.zero_add] at hnx hcl hB2
    have him : i < m.toNat := by
      have := (List.getElem?_eq_some_iff.mp hiv).1
      simpa using this
    refine ⟨Gs.ok_nil, ?_⟩
    simp only [Tg.d, dWkA, dTupK, dTupL, dTupIx, dDictP, dDc2, dFor, dWhile, dLc, dLc2, dDc, dNextG, iSeq, iR1, iR2, iEn, iZpA, iZ2, iZ3, dSortK, dSortKF, dSortSet, dSortSetF, dBreak, bSortT, bSortTF, bSum, bSumL, bSumLF, bMaxL, bMinL, dDicE, bSortD, bSortDF, dGet2, oInA, oNotInA, oIxA, gdSubA, dSeq, dSet, dIf, dIfS, dTst, dOp, dUn, dVar, dCB, aCons, aNil, aStar, dRet, dRetN, dNext, dDrop, dLst, dTup, dC, dAnd, dOr, dNot, dAndV, dOrV, dNotV, dPar, dAsg, gdName, gdSub, gdTup, gdCons, gdNil, gdSlot, dIsi, dIsi2, dSlot, dSetSlot, dMethSl, dMakeSl, dCall, dCallP, dBM, dFrz, dLstF, dLcF, dLc2F, dDcF, dSlF, dListVF, bListF, bListDF, bSortSF, oAddLF, oRepLF, dSl, dNoP, dPart, dListV, dTru, dOrT, EndsD, startD, oLtI, oLeI, oGtI, oGeI, oIx, oMulI, oPowI, oAddI, oSubI, oModI, oDivI, oI, oI0, oEqD, oNeD, oInD, oNotInD, oAddL, oAddT, oAddS, oRepL, bLen, bAbs, bInt, bMin2, bMax2, bAll, bAny, bTuple, bList, bListD, bSortS, mAppend, mPop, mPopAt, mExtend, mIndex, dFld, dSetFld, dAddFld, gdFld, dMeth, dMake, dPar3, dRevT, oAddTK, dSortSetT, dSortSetTF, gdLst, gdAll, dRevL, dRevLF, dYes, dFrzA, oNegI, bSortG, bSortGF, dSlK, oIsB, oNotB, bSortTS, bSortTSF, bSortI, bSortIF, iDi, dDisp, iEnS, dEi, oTimes, oEqO, oNeO, mClear, mReverse, dMethP, dMethSlP, dMakeP, dMakeSlP, oGeD, oCmpD, dSortSetBF, dSortKDF, dDcT, tupOf_lst, tupOf_ref, tupOf_tup, List.map_cons, List.map_nil, List.length_cons, List.length_nil, List.cons_append, List.nil_append, List.append_nil, List.replicate, List.set_cons_zero, List.set_cons_succ, List.getElem?_cons_zero, List.getElem?_cons_succ, Option.some.injEq, exists_eq_left', exists_eq_left, exists_and_left, D.int.injEq, D.bl.injEq, D.str.injEq, D.tup.injEq, D.lst.injEq, D.ref.injEq, List.cons.injEq, and_true, true_and, reduceCtorEq, false_and, and_false, exists_false, or_false, false_or, exists_const, Bool.false_eq_true, if_true, if_false, decide_eq_true_eq, Ob.lst.injEq, Ob.slt.injEq, Ob.dic.injEq, seqD_ref, lstD_ref, seqD_tup, seqD_lst, lstD_lst, lstR_lst, Sto.set_same, Sto.set_set, atI_0, atI_1, atI_2, Nat.reduceAdd, ixN_30, ixN_32, lstD_tup, seqD_row, List.append_assoc, false_or, or_false, cut_d1, cut_t1, sz_0, sz_1, sz_2, sz_3, sz_4, sz_5, sz_6, sz_7, sz_8, sz_9, sz_10, sz_11, sz_12]
    refine c__law_of_lst (by simpa using rows_ne) (by rw [List.length_map]; omega) hB2 (by omega) fun e S3 he hf3 hB3 hn3 => ?_
    obtain ⟨r, hr, rfl⟩ := List.mem_map.mp he
    have hro := rows_ok hw0 hr
    have ha3 := hf3 _ _ hal ha2
    have hlk := looked_ns hw0 r
    have hlk6 : (w.looked r).length ≤ 6 := by have := (looked_sub w r).length_le; omega
    -- behind the LIST
    have fin : ∀ (ns : List Str) S4 (c4 : Int), NsOk w ns → ns.length ≤ 63 → Fr l S S4 → S4 a = some (.lst (cs.map copyD)) → Bx S4 l c4 → c4 ≤ c + 1004 * i + 1003 → c ≤ 2 ^ 38 → (∀ k, S4 k = none → S k = none) →
        t__law_copies_k45 E' [some (.ref l), some w.d, some (.int m), some (.int (i : Nat)), some (.lst (w.rows.map (ansD w))), some (.ref a), some (rowD ns), some (rowD r), some (.str (w.ans r))] S4 := fun ns S4 c4 h1 h2 h3 h4 h5 h6 h7 h8 => by
      refine tail_copies hw0 h4 hal (by omega) hr h1 h2 h5 (by omega) fun x S5 hx hxr hf5 hB5 ha5 hn5 => ?_
      refine (hnx _ _ _ _ (Wk.refl _) (Sto.sub_refl _) ⟨_, _, _, _, cs ++ [x], rfl, by rw [List.length_append, hcl]; rfl, fun y hy => ?_, Sto.set_same, (h3.trans hf5).put ha, ?_, fun k hk => ?_⟩).1
      · rcases List.mem_append.mp hy with hy | hy
        · exact hco y hy
        · rw [List.mem_singleton.mp hy]; exact ⟨hx, hxr⟩
      · obtain ⟨o, ho, hb⟩ := hB5
        exact ⟨o, by rw [Sto.set_ne (Ne.symm hal)]; exact ho, hb.mono (by omega)⟩
      · by_cases ek : k = a
        · rw [ek]; exact ha
        · rw [Sto.set_ne ek] at hk
          exact h8 k (hn5 k hk)
    have hiv2 : iv = i := by
      have := (List.getElem?_eq_some_iff.mp hiv).2
      simpa using this.symm
    subst hiv2
    refine ⟨_, rfl, rfl, _, _, rfl, _, _, rfl, rfl, w, r, rfl, ws_up hw, hro, ?_⟩
    refine c__law_take (by decide) (by decide) hB3 (by omega) fun k S4 hk0 hk3 hf4 hB4 hn4 => ⟨_, rfl, _, rfl, shp_int _, shp_int _, ?_⟩
    have ha4 := hf4 _ _ hal ha3
    rw [eqvI]
    by_cases ek : k = 0
    · rw [decide_eq_true ek, if_pos rfl]
      refine c__law_names hw0 (c__law_take (by decide) (by decide) hB4 (by omega) fun j S5 hj0 hj4 hf5 hB5 hn5 => c_pick_strs (xs := w.names) rfl (by omega) ⟨hj0, by omega⟩ hB5 (by omega) fun qs zs m3 S6 hp hf6 hB6 hm6 hml6 hmn6 => ?_)
      have hqs : ∀ n ∈ qs, n ∈ w.names := fun n hn => hp.mem_iff.mp (List.mem_append_left _ hn)
      have hql : qs.length ≤ 6 := by
        have := hp.length_eq
        rw [List.length_append] at this
        omega
      refine ⟨qs, by rw [lstD_ref, hm6], by omega, fun us hus hsr => ?_⟩
      have hul : us.length ≤ 6 := by rw [hus.length_eq]; exact hql
      exact fin us S6 _ ⟨fun n hn => hqs n (hus.mem_iff.mp hn), by omega⟩ (by omega) ((((hf2.trans hf3).trans hf4).trans hf5).trans hf6) (hf6 _ _ hal (hf5 _ _ hal ha4)) hB6 (by omega) hc (fr_none ((((hf2.trans hf3).trans hf4).trans hf5).trans hf6) hB6)
    · rw [decide_eq_false ek, if_neg (by decide)]
      exact fin (w.looked r) S4 _ hlk (by omega) ((hf2.trans hf3).trans hf4) ha4 hB4 (by omega) hc fun k hk => hn2 k (hn3 k (hn4 k hk))
  · rintro ρ S2 ⟨b3, b6, b7, b8, cs, rfl, hcl, hco, ha2, hf2, hB2, hn2⟩
    rw [Nat.zero_add, List.length_range] at hcl hB2
    refine ⟨Gs.ok_nil, _, rfl, _, by rw [seqD_ref, ha2], ?_⟩
    rw [tupOf_ref]
    have hcm : (cs.length : Int) = m := by omega
    refine drp_of (q cs S2 ⟨by omega, fun x hx => (hco x hx).2, fun x hx => (hco x hx).1⟩ hcm hf2 ?_ hn2)
    obtain ⟨o, ho, hb⟩ := hB2
    exact ⟨o, ho, hb.mono (by omega)⟩
abbrev copyL (c : Cp) : D := .lst [.lst (c.1.map .str), .lst (c.2.1.map .str), .str c.2.2]
theorem three_O {h : D → Option D} {a b c a' b' c' : D} (h1 : h a = some a') (h2 : h b = some b') (h3 : h c = some c') : mapO h [a, b, c] = some [a', b', c'] := by
  simp only [mapO, h1, h2, h3]
theorem three_sz {a b c : D} : [a, b, c].length ≤ sizeLine := small_sz (show 3 ≤ 16777216 by decide)
theorem CpOk.sz {w : Wd} (hw : WOk w) {c : Cp} (h : CpOk w c) : c.1.length ≤ 6 ∧ c.2.1.length ≤ 63 := ⟨by rw [h.row.len]; exact hw.hl, h.len⟩
theorem cop_lis {w : Wd} (hw : WOk w) {n : Nat} {c : Cp} (h : CpOk w c) : lisO (n + 3) (copyD c) = some (copyL c) := by
  obtain ⟨h1, h2⟩ := h.sz hw
  exact lisO_tup (three_O (lisO_tup (lisO_strs _) (small_sz (by rw [List.length_map]; omega))) (lisO_tup (lisO_strs _) (small_sz (by rw [List.length_map]; omega))) rfl) three_sz
theorem cop_tup {w : Wd} (hw : WOk w) {n : Nat} {c : Cp} (h : CpOk w c) : tupO (n + 3) (copyD c) = some (copyD c) := by
  obtain ⟨h1, h2⟩ := h.sz hw
  exact tupO_tup (three_O (tupO_tup (tupO_strs _) (small_sz (by rw [List.length_map]; omega))) (tupO_tup (tupO_strs _) (small_sz (by rw [List.length_map]; omega))) rfl) three_sz
theorem cop_tupL {w : Wd} (hw : WOk w) {n : Nat} {c : Cp} (h : CpOk w c) : tupO (n + 3) (copyL c) = some (copyD c) := by
  obtain ⟨h1, h2⟩ := h.sz hw
  exact tupO_lst (three_O (tupO_lst (tupO_strs _) (small_sz (by rw [List.length_map]; omega))) (tupO_lst (tupO_strs _) (small_sz (by rw [List.length_map]; omega))) rfl) three_sz
theorem cops_lis {w : Wd} (hw : WOk w) {n : Nat} {cs : List Cp} (h : CsOk w cs) : lisO (n + 4) (.tup (cs.map copyD)) = some (.lst (cs.map copyL)) :=
  lisO_tup (mapO_map (h := copyL) fun c hc => cop_lis hw (h.ok c hc)) (small_sz (by rw [List.length_map]; have := h.len; omega))
theorem cops_tup {w : Wd} (hw : WOk w) {n : Nat} {cs : List Cp} (h : CsOk w cs) : tupO (n + 4) (.tup (cs.map copyD)) = some (.tup (cs.map copyD)) :=
  tupO_tup (mapO_map (h := copyD) fun c hc => cop_tup hw (h.ok c hc)) (small_sz (by rw [List.length_map]; have := h.len; omega))
theorem cops_tupL {w : Wd} (hw : WOk w) {n : Nat} {cs : List Cp} (h : CsOk w cs) : tupO (n + 4) (.lst (cs.map copyL)) = some (.tup (cs.map copyD)) :=
  tupO_lst (mapO_map (h := copyD) fun c hc => cop_tupL hw (h.ok c hc)) (small_sz (by rw [List.length_map]; have := h.len; omega))
theorem rightC_range (w : Wd) (cs : List Cp) (z : Cp) : ((List.range cs.length).filter fun i => (w.shownC (cs.getD i z)).isNone).map (fun i => cs.getD i z) = w.rightC cs := by
  conv => rhs; rw [list_range cs z]
  unfold Wd.rightC
  rw [List.filter_map]
  rfl
theorem rules_topT7 {w : Wd} {rs : List Rule} (hw : WOk (w.rul rs)) (S : Sto) : topO S 7 (.tup (rs.map ruleD)) = some (.tup (rs.map ruleD)) := by
  refine tupO_top (tupO_tup (mapO_map (h := ruleD) fun r hr => tupO_tup (two_O (tupO_tup (mapO_map (h := testD) fun t ht => tupO_tup (two_O rfl rfl) two_sz) (small_sz (by rw [List.length_map]; have := hw.tl r hr; omega))) rfl) two_sz) (small_sz (by rw [List.length_map]; have := hw.rl; have h : rs.length ≤ 100 := this; omega)))
def zC : Cp := ([], [], "")
def pyCp (c : Cp) : PyData := .list [.list (c.1.map .str), .list (c.2.1.map .str), .str c.2.2]
theorem shp_rulesL {w : Wd} (hw : WOk w) : Shp (.list (w.rs.map pyRule)) 4 :=
  shp_list (n := 3) (shp_map fun r hr => shp_list (n := 2) fun p hp => by
    simp only [List.mem_cons, List.not_mem_nil, or_false] at hp
    rcases hp with rfl | rfl
    · exact shp_list (n := 1) (shp_map fun t ht => shp_list (n := 0) fun p hp => by
        simp only [List.mem_cons, List.not_mem_nil, or_false] at hp
        rcases hp with rfl | rfl
        · exact shp_str ((hw.ro r hr).2 t ht).1
        · exact shp_str ((hw.ro r hr).2 t ht).2)
    · exact (shp_str (hw.ro r hr).1).mono (by decide))
theorem shp_cps {w : Wd} (hw0 : WOk w) {cs : List Cp} (h : CsOk w cs) : Shp (.list (cs.map pyCp)) 3 :=
  shp_list (n := 2) (shp_map fun c hc => shp_list (n := 1) fun p hp => by
    have hw := h.ok c hc
    simp only [List.mem_cons, List.not_mem_nil, or_false] at hp
    rcases hp with rfl | rfl | rfl
    · exact shp_list (n := 0) (shp_map fun v hv => shp_str (hw.row.so v hv))
    · exact shp_list (n := 0) (shp_map fun v hv => shp_str (names_so hw0 (hw.ns.mem v hv)))
    · exact (shp_str hw.so).mono (by decide))
structure N45 (l a1 a2 a3 : Nat) : Prop where
  n1 : a1 ≠ l
  n2 : a2 ≠ l
  n3 : a3 ≠ l
  n12 : a1 ≠ a2
  n13 : a1 ≠ a3
  n23 : a2 ≠ a3
structure T45 (S S' : Sto) (l a1 a2 a3 : Nat) (z1 z2 z3 : List D) (c : Int) : Prop where
  e1 : S' a1 = some (.lst z1)
  e2 : S' a2 = some (.lst z2)
  e3 : S' a3 = some (.lst z3)
  bx : Bx S' l c
  fr : ∀ m o, m ≠ l → m ≠ a1 → m ≠ a2 → m ≠ a3 → S m = some o → S' m = some o
section
variable {S S' : Sto} {l a1 a2 a3 : Nat} {z1 z2 z3 z : List D} {c : Int}
theorem T45.sub {S2 : Sto} (t : T45 S S' l a1 a2 a3 z1 z2 z3 c) (s : S'.sub S2) : T45 S S2 l a1 a2 a3 z1 z2 z3 c := ⟨s _ _ t.e1, s _ _ t.e2, s _ _ t.e3, t.bx.sub s, fun m o h1 h2 h3 h4 e => s _ _ (t.fr m o h1 h2 h3 h4 e)⟩
theorem Bx.other {m : Nat} {o : Ob} (b : Bx S' l c) (h : m ≠ l) : Bx (S'.set m o) l c := by
  obtain ⟨x, hx, hb⟩ := b
  exact ⟨x, by rw [Sto.set_ne (Ne.symm h)]; exact hx, hb⟩
theorem T45.set1 (t : T45 S S' l a1 a2 a3 z1 z2 z3 c) (N : N45 l a1 a2 a3) : T45 S (S'.set a1 (.lst z)) l a1 a2 a3 z z2 z3 c :=
  ⟨Sto.set_same, by rw [Sto.set_ne (Ne.symm N.n12)]; exact t.e2, by rw [Sto.set_ne (Ne.symm N.n13)]; exact t.e3, t.bx.other N.n1, fun m o h1 h2 h3 h4 e => by rw [Sto.set_ne h2]; exact t.fr m o h1 h2 h3 h4 e⟩
theorem T45.set2 (t : T45 S S' l a1 a2 a3 z1 z2 z3 c) (N : N45 l a1 a2 a3) : T45 S (S'.set a2 (.lst z)) l a1 a2 a3 z1 z z3 c :=
  ⟨by rw [Sto.set_ne N.n12]; exact t.e1, Sto.set_same, by rw [Sto.set_ne (Ne.symm N.n23)]; exact t.e3, t.bx.other N.n2, fun m o h1 h2 h3 h4 e => by rw [Sto.set_ne h3]; exact t.fr m o h1 h2 h3 h4 e⟩
theorem T45.set3 (t : T45 S S' l a1 a2 a3 z1 z2 z3 c) (N : N45 l a1 a2 a3) : T45 S (S'.set a3 (.lst z)) l a1 a2 a3 z1 z2 z c :=
  ⟨by rw [Sto.set_ne N.n13]; exact t.e1, by rw [Sto.set_ne N.n23]; exact t.e2, Sto.set_same, t.bx.other N.n3, fun m o h1 h2 h3 h4 e => by rw [Sto.set_ne h4]; exact t.fr m o h1 h2 h3 h4 e⟩
theorem T45.new {m : Nat} (t : T45 S S' l a1 a2 a3 z1 z2 z3 c) (h : S' m = none) : m ≠ l ∧ m ≠ a1 ∧ m ≠ a2 ∧ m ≠ a3 :=
  ⟨fun e => (by obtain ⟨o, ho, _⟩ := t.bx; rw [e, ho] at h; cases h), fun e => (by rw [e, t.e1] at h; cases h), fun e => (by rw [e, t.e2] at h; cases h), fun e => (by rw [e, t.e3] at h; cases h)⟩
theorem T45.put {m : Nat} {o : Ob} (t : T45 S S' l a1 a2 a3 z1 z2 z3 c) (h : m ≠ l ∧ m ≠ a1 ∧ m ≠ a2 ∧ m ≠ a3) (h0 : S m = none) : T45 S (S'.set m o) l a1 a2 a3 z1 z2 z3 c :=
  ⟨by rw [Sto.set_ne (Ne.symm h.2.1)]; exact t.e1, by rw [Sto.set_ne (Ne.symm h.2.2.1)]; exact t.e2, by rw [Sto.set_ne (Ne.symm h.2.2.2)]; exact t.e3, t.bx.other h.1, fun k x h1 h2 h3 h4 e => by
    have hk : k ≠ m := fun z => by rw [z, h0] at e; cases e
    rw [Sto.set_ne hk]
    exact t.fr k x h1 h2 h3 h4 e⟩
theorem T45.gone {m : Nat} (t : T45 S S' l a1 a2 a3 z1 z2 z3 c) (h : S' m = none) : S m = none := by
  obtain ⟨h1, h2, h3, h4⟩ := t.new h
  cases e : S m with
  | none => rfl
  | some o => rw [t.fr m o h1 h2 h3 h4 e] at h; cases h
end
theorem turn45 {S : Sto} {l a1 a2 a3 : Nat} {c : Int} {b2 b3 b4 b5 b6 b7 b8 b9 b10 b11 b12 b13 : Option D} {E : DEnds} {z1 z2 z3 : List D} (hB : Bx S l c) (hc : c ≤ 2 ^ 36) (n1 : a1 ≠ l) (n2 : a2 ≠ l) (n3 : a3 ≠ l) (n12 : a1 ≠ a2) (n13 : a1 ≠ a3) (n23 : a2 ≠ a3)
    (h1 : S a1 = some (.lst z1)) (h2 : S a2 = some (.lst z2)) (h3 : S a3 = some (.lst z3)) (y1 : z1.length ≤ 100) (y2 : z2.length ≤ 100) (y3 : z3.length ≤ 100)
    (q : ∀ b2 b3 b4 b5 b6 b7 b8 b9 b10 b12 b13 S' (z1 z2 z3 : List D), S' a1 = some (.lst z1) → S' a2 = some (.lst z2) → S' a3 = some (.lst z3) → z1.length ≤ 100 → z2.length ≤ 100 → z3.length ≤ 100 → Bx S' l (c + 1100000) →
      (∀ m o, m ≠ l → m ≠ a1 → m ≠ a2 → m ≠ a3 → S m = some o → S' m = some o) → E.nx [some (.ref l), some (.lst [.ref a1, .ref a2, .ref a3]), b2, b3, b4, b5, b6, b7, b8, b9, b10, b11, b12, b13] S') :
    t__law_right_k45 E [some (.ref l), some (.lst [.ref a1, .ref a2, .ref a3]), b2, b3, b4, b5, b6, b7, b8, b9, b10, b11, b12, b13] S := by
  simp only [t__law_right_k45, dWkA, dTupK, dTupL, dTupIx, dDictP, dDc2, dFor, dWhile, dLc, dLc2, dDc, dNextG, iSeq, iR1, iR2, iEn, iZpA, iZ2, iZ3, dSortK, dSortKF, dSortSet, dSortSetF, dBreak, bSortT, bSortTF, bSum, bSumL, bSumLF, bMaxL, bMinL, dDicE, bSortD, bSortDF, dGet2, oInA, oNotInA, oIxA, gdSubA, dSeq, dSet, dIf, dIfS, dTst, dOp, dUn, dVar, dCB, aCons, aNil, aStar, dRet, dRetN, dNext, dDrop, dLst, dTup, dC, dAnd, dOr, dNot, dAndV, dOrV, dNotV, dPar, dAsg, gdName, gdSub, gdTup, gdCons, gdNil, gdSlot, dIsi, dIsi2, dSlot, dSetSlot, dMethSl, dMakeSl, dCall, dCallP, dBM, dFrz, dLstF, dLcF, dLc2F, dDcF, dSlF, dListVF, bListF, bListDF, bSortSF, oAddLF, oRepLF, dSl, dNoP, dPart, dListV, dTru, dOrT, EndsD, startD, oLtI, oLeI, oGtI, oGeI, oIx, oMulI, oPowI, oAddI, oSubI, oModI, oDivI, oI, oI0, oEqD, oNeD, oInD, oNotInD, oAddL, oAddT, oAddS, oRepL, bLen, bAbs, bInt, bMin2, bMax2, bAll, bAny, bTuple, bList, bListD, bSortS, mAppend, mPop, mPopAt, mExtend, mIndex, dFld, dSetFld, dAddFld, gdFld, dMeth, dMake, dPar3, dRevT, oAddTK, dSortSetT, dSortSetTF, gdLst, gdAll, dRevL, dRevLF, dYes, dFrzA, oNegI, bSortG, bSortGF, dSlK, oIsB, oNotB, bSortTS, bSortTSF, bSortI, bSortIF, iDi, dDisp, iEnS, dEi, oTimes, oEqO, oNeO, mClear, mReverse, dMethP, dMethSlP, dMakeP, dMakeSlP, oGeD, oCmpD, dSortSetBF, dSortKDF, dDcT, tupOf_lst, tupOf_ref, tupOf_tup, List.map_cons, List.map_nil, List.length_cons, List.length_nil, List.cons_append, List.nil_append, List.append_nil, List.replicate, List.set_cons_zero, List.set_cons_succ, List.getElem?_cons_zero, List.getElem?_cons_succ, Option.some.injEq, exists_eq_left', exists_eq_left, exists_and_left, D.int.injEq, D.bl.injEq, D.str.injEq, D.tup.injEq, D.lst.injEq, D.ref.injEq, List.cons.injEq, and_true, true_and, reduceCtorEq, false_and, and_false, exists_false, or_false, false_or, exists_const, Bool.false_eq_true, if_true, if_false, decide_eq_true_eq, Ob.lst.injEq, Ob.slt.injEq, Ob.dic.injEq, seqD_ref, lstD_ref, seqD_tup, seqD_lst, lstD_lst, lstR_lst, Sto.set_same, Sto.set_set, atI_0, atI_1, atI_2, Nat.reduceAdd, ixN_30, ixN_32, lstD_tup, seqD_row, List.append_assoc, false_or, or_false, cut_d1, cut_t1, sz_0, sz_1, sz_2, sz_3, sz_4, sz_5, sz_6, sz_7, sz_8, sz_9, sz_10, sz_11, sz_12]
  refine c_world_of (sizes := [[2, 2, 1], [1, 2, 2], [3, 3, 3], [3, 2], [1, 1, 1, 1]]) (by decide) (by simp) (by simp) hB (by omega) fun w S1 hw hf1 hB1 hn1 => ?_
  have hw0 := hw.toWOk
  have hws := hw.toWS
  refine c__law_take (by decide) (by decide) hB1 (by omega) fun k S2 hk0 hk11 hf2 hB2 hn2 => ⟨_, rfl, ?_⟩
  refine ⟨l, w, _, _, rfl, hws, hB2, by omega, by omega, by omega, fun cs S3 hcs hcl hf3 hB3 hn3 => ?_⟩
  have hne : w.hs ≠ [] := fun e => by have := hw.h2; rw [e] at this; simp at this
  refine ⟨l, w, _, rfl, hws, hne, hB3, by omega, fun rs S4 hw2 hrl hf4 hB4 hn4 => ?_⟩
  have hcs2 : CsOk (w.rul rs) cs := hcs.rul
  have hcl100 := hcs.len
  refine ⟨_, _, ⟨rfl, rfl⟩, _, _, rfl, rfl, w, rs, cs, rfl, hw0, hw2, hcs, .inl ⟨_, rfl, by rw [List.length_map]; omega, ?_⟩⟩
  rw [List.length_map, show ((cs.length : Int)).toNat = cs.length from rfl]
  refine compW_fs (α := Nat) (fun i : Nat => D.int i) (fun i => if ((w.rul rs).shownC (cs.getD i zC)).isNone = true then some (copyD (cs.getD i zC)) else none) (List.range cs.length) [] Gs.ok_nil (small_sz (by simp; omega)) (fun i hi S' Py Pn s hyy hno => ?_) ?_
  · have hil : i < cs.length := List.mem_range.mp hi
    have eg : cs[i]? = some (cs.getD i zC) := by rw [List.getD_eq_getElem?_getD, List.getElem?_eq_getElem hil]; rfl
    simp only [turn, Tg.d, wipeD, dWkA, dTupK, dTupL, dTupIx, dDictP, dDc2, dFor, dWhile, dLc, dLc2, dDc, dNextG, iSeq, iR1, iR2, iEn, iZpA, iZ2, iZ3, dSortK, dSortKF, dSortSet, dSortSetF, dBreak, bSortT, bSortTF, bSum, bSumL, bSumLF, bMaxL, bMinL, dDicE, bSortD, bSortDF, dGet2, oInA, oNotInA, oIxA, gdSubA, dSeq, dSet, dIf, dIfS, dTst, dOp, dUn, dVar, dCB, aCons, aNil, aStar, dRet, dRetN, dNext, dDrop, dLst, dTup, dC, dAnd, dOr, dNot, dAndV, dOrV, dNotV, dPar, dAsg, gdName, gdSub, gdTup, gdCons, gdNil, gdSlot, dIsi, dIsi2, dSlot, dSetSlot, dMethSl, dMakeSl, dCall, dCallP, dBM, dFrz, dLstF, dLcF, dLc2F, dDcF, dSlF, dListVF, bListF, bListDF, bSortSF, oAddLF, oRepLF, dSl, dNoP, dPart, dListV, dTru, dOrT, EndsD, startD, oLtI, oLeI, oGtI, oGeI, oIx, oMulI, oPowI, oAddI, oSubI, oModI, oDivI, oI, oI0, oEqD, oNeD, oInD, oNotInD, oAddL, oAddT, oAddS, oRepL, bLen, bAbs, bInt, bMin2, bMax2, bAll, bAny, bTuple, bList, bListD, bSortS, mAppend, mPop, mPopAt, mExtend, mIndex, dFld, dSetFld, dAddFld, gdFld, dMeth, dMake, dPar3, dRevT, oAddTK, dSortSetT, dSortSetTF, gdLst, gdAll, dRevL, dRevLF, dYes, dFrzA, oNegI, bSortG, bSortGF, dSlK, oIsB, oNotB, bSortTS, bSortTSF, bSortI, bSortIF, iDi, dDisp, iEnS, dEi, oTimes, oEqO, oNeO, mClear, mReverse, dMethP, dMethSlP, dMakeP, dMakeSlP, oGeD, oCmpD, dSortSetBF, dSortKDF, dDcT, tupOf_lst, tupOf_ref, tupOf_tup, List.map_cons, List.map_nil, List.length_cons, List.length_nil, List.cons_append, List.nil_append, List.append_nil, List.replicate, List.set_cons_zero, List.set_cons_succ, List.getElem?_cons_zero, List.getElem?_cons_succ, Option.some.injEq, exists_eq_left', exists_eq_left, exists_and_left, D.int.injEq, D.bl.injEq, D.str.injEq, D.tup.injEq, D.lst.injEq, D.ref.injEq, List.cons.injEq, and_true, true_and, reduceCtorEq, false_and, and_false, exists_false, or_false, false_or, exists_const, Bool.false_eq_true, if_true, if_false, decide_eq_true_eq, Ob.lst.injEq, Ob.slt.injEq, Ob.dic.injEq, seqD_ref, lstD_ref, seqD_tup, seqD_lst, lstD_lst, lstR_lst, Sto.set_same, Sto.set_set, atI_0, atI_1, atI_2, Nat.reduceAdd, ixN_30, ixN_32, lstD_tup, seqD_row, List.append_assoc, false_or, or_false, cut_d1, cut_t1, sz_0, sz_1, sz_2, sz_3, sz_4, sz_5, sz_6, sz_7, sz_8, sz_9, sz_10, sz_11, sz_12]
    refine ⟨_, atI_nat (by rw [List.getElem?_map, eg]; rfl), isN_o ⟨_, rfl, ?_⟩⟩
    by_cases e : ((w.rul rs).shownC (cs.getD i zC)).isNone = true
    · rw [if_pos e] at hyy ⊢
      exact ⟨_, atI_nat (by rw [List.getElem?_map, eg]; rfl), hyy _ _ rfl (Sto.sub_refl _)⟩
    · rw [if_neg e] at hno ⊢
      exact hno _ rfl (Sto.sub_refl _)
  rw [List.nil_append, fm_if]
  have ed : ((List.range cs.length).filter fun i => ((w.rul rs).shownC (cs.getD i zC)).isNone).map (fun i => copyD (cs.getD i zC)) = ((w.rul rs).rightC cs).map copyD := by
    rw [← rightC_range (w.rul rs) cs zC, List.map_map]; rfl
  rw [ed]
  have hf04 : Fr l S S4 := ((hf1.trans hf2).trans hf3).trans hf4
  have hdl : ((w.rul rs).rightC cs).length ≤ 100 := Nat.le_trans (List.length_filter_le _ _) hcl100
  have hdo : ∀ x ∈ (w.rul rs).rightC cs, CpOk (w.rul rs) x := fun x hx => hcs2.ok x (List.mem_filter.mp hx).1
  have tu : ∀ S, topO S 7 (.tup (rs.map ruleD)) = some (.tup (rs.map ruleD)) := fun S => rules_topT7 hw2 S
  have tc : ∀ S, topO S 8 (.tup (cs.map copyD)) = some (.tup (cs.map copyD)) := fun S => tupO_top (cops_tup (n := 4) hw0 hcs)
  refine ⟨_, _, _, w, rs, cs, rfl, top_world hw0, tu _, tc _, hw0, hw2, hcs, fun m4 hm4 => ?_⟩
  have en : ∀ a b c : D, numD [a, b, c] = [.tup [.int 0, a], .tup [.int 1, b], .tup [.int 2, c]] := fun _ _ _ => rfl
  have s5 : S4.sub (S4.set m4 (.lst (((w.rul rs).rightC cs).map copyD))) := Sto.sub_set hm4
  have g4 : (S4.set m4 (.lst (((w.rul rs).rightC cs).map copyD))) m4 = some (.lst (((w.rul rs).rightC cs).map copyD)) := Sto.set_same
  have hT : T45 S S4 l a1 a2 a3 z1 z2 z3 (c + 1070000) := ⟨hf04 _ _ n1 h1, hf04 _ _ n2 h2, hf04 _ _ n3 h3, by
    obtain ⟨o, ho, hb⟩ := hB4
    exact ⟨o, ho, hb.mono (by omega)⟩, fun m o k _ _ _ e => hf04 m o k e⟩
  have nm : m4 ≠ l ∧ m4 ≠ a1 ∧ m4 ≠ a2 ∧ m4 ≠ a3 := hT.new hm4
  have hT5 := hT.sub s5
  have N : N45 l a1 a2 a3 := ⟨n1, n2, n3, n12, n13, n23⟩
  have yw : w.l.length ≤ 100 := by show 2 ≤ 100; decide
  have yr : (rs.map ruleL).length ≤ 100 := by rw [List.length_map]; omega
  have yc : (cs.map copyL).length ≤ 100 := by rw [List.length_map]; exact hcl100
  have lw : lisO 8 w.d = some (.lst w.l) := lis_world hw0
  have lr : lisO 8 (.tup (rs.map ruleD)) = some (.lst (rs.map ruleL)) := rules_lis (m := 3) hw2 (fun r hr => hr) (by omega)
  have lc : lisO 8 (.tup (cs.map copyD)) = some (.lst (cs.map copyL)) := cops_lis (n := 4) hw0 hcs
  generalize S4.set m4 (.lst (((w.rul rs).rightC cs).map copyD)) = S5 at g4 hT5 ⊢
  rw [en]
  refine ⟨gs_tup, ?_⟩
  simp only [Tg.d, setsE, dWkA, dTupK, dTupL, dTupIx, dDictP, dDc2, dFor, dWhile, dLc, dLc2, dDc, dNextG, iSeq, iR1, iR2, iEn, iZpA, iZ2, iZ3, dSortK, dSortKF, dSortSet, dSortSetF, dBreak, bSortT, bSortTF, bSum, bSumL, bSumLF, bMaxL, bMinL, dDicE, bSortD, bSortDF, dGet2, oInA, oNotInA, oIxA, gdSubA, dSeq, dSet, dIf, dIfS, dTst, dOp, dUn, dVar, dCB, aCons, aNil, aStar, dRet, dRetN, dNext, dDrop, dLst, dTup, dC, dAnd, dOr, dNot, dAndV, dOrV, dNotV, dPar, dAsg, gdName, gdSub, gdTup, gdCons, gdNil, gdSlot, dIsi, dIsi2, dSlot, dSetSlot, dMethSl, dMakeSl, dCall, dCallP, dBM, dFrz, dLstF, dLcF, dLc2F, dDcF, dSlF, dListVF, bListF, bListDF, bSortSF, oAddLF, oRepLF, dSl, dNoP, dPart, dListV, dTru, dOrT, EndsD, startD, oLtI, oLeI, oGtI, oGeI, oIx, oMulI, oPowI, oAddI, oSubI, oModI, oDivI, oI, oI0, oEqD, oNeD, oInD, oNotInD, oAddL, oAddT, oAddS, oRepL, bLen, bAbs, bInt, bMin2, bMax2, bAll, bAny, bTuple, bList, bListD, bSortS, mAppend, mPop, mPopAt, mExtend, mIndex, dFld, dSetFld, dAddFld, gdFld, dMeth, dMake, dPar3, dRevT, oAddTK, dSortSetT, dSortSetTF, gdLst, gdAll, dRevL, dRevLF, dYes, dFrzA, oNegI, bSortG, bSortGF, dSlK, oIsB, oNotB, bSortTS, bSortTSF, bSortI, bSortIF, iDi, dDisp, iEnS, dEi, oTimes, oEqO, oNeO, mClear, mReverse, dMethP, dMethSlP, dMakeP, dMakeSlP, oGeD, oCmpD, dSortSetBF, dSortKDF, dDcT, tupOf_lst, tupOf_ref, tupOf_tup, List.map_cons, List.map_nil, List.length_cons, List.length_nil, List.cons_append, List.nil_append, List.append_nil, List.replicate, List.set_cons_zero, List.set_cons_succ, List.getElem?_cons_zero, List.getElem?_cons_succ, Option.some.injEq, exists_eq_left', exists_eq_left, exists_and_left, D.int.injEq, D.bl.injEq, D.str.injEq, D.tup.injEq, D.lst.injEq, D.ref.injEq, List.cons.injEq, and_true, true_and, reduceCtorEq, false_and, and_false, exists_false, or_false, false_or, exists_const, Bool.false_eq_true, if_true, if_false, decide_eq_true_eq, Ob.lst.injEq, Ob.slt.injEq, Ob.dic.injEq, seqD_ref, lstD_ref, seqD_tup, seqD_lst, lstD_lst, lstR_lst, Sto.set_same, Sto.set_set, atI_0, atI_1, atI_2, Nat.reduceAdd, ixN_30, ixN_32, lstD_tup, seqD_row, List.append_assoc, false_or, or_false, cut_d1, cut_t1, sz_0, sz_1, sz_2, sz_3, sz_4, sz_5, sz_6, sz_7, sz_8, sz_9, sz_10, sz_11, sz_12]
  refine ⟨_, _, rfl, lw, .inl ⟨_, rfl, fun m hm => ⟨m, rfl, _, Sto.set_same, _, rfl, 0, _, by rw [Sto.del_set hm]; exact hT5.e1, _, .inr rfl, small_sz (by omega), _, Wk.refl _, _, Sto.sub_refl _, ?_⟩⟩⟩
  rw [Sto.del_set hm]
  have g6 : (S5.set a1 (.lst w.l)) m4 = some (.lst (((w.rul rs).rightC cs).map copyD)) := by rw [Sto.set_ne nm.2.1]; exact g4
  have hT6 := hT5.set1 N (z := w.l)
  generalize S5.set a1 (.lst w.l) = S6 at g6 hT6 ⊢
  refine ⟨gs_tup, ?_⟩
  simp only [Tg.d, setsE, dWkA, dTupK, dTupL, dTupIx, dDictP, dDc2, dFor, dWhile, dLc, dLc2, dDc, dNextG, iSeq, iR1, iR2, iEn, iZpA, iZ2, iZ3, dSortK, dSortKF, dSortSet, dSortSetF, dBreak, bSortT, bSortTF, bSum, bSumL, bSumLF, bMaxL, bMinL, dDicE, bSortD, bSortDF, dGet2, oInA, oNotInA, oIxA, gdSubA, dSeq, dSet, dIf, dIfS, dTst, dOp, dUn, dVar, dCB, aCons, aNil, aStar, dRet, dRetN, dNext, dDrop, dLst, dTup, dC, dAnd, dOr, dNot, dAndV, dOrV, dNotV, dPar, dAsg, gdName, gdSub, gdTup, gdCons, gdNil, gdSlot, dIsi, dIsi2, dSlot, dSetSlot, dMethSl, dMakeSl, dCall, dCallP, dBM, dFrz, dLstF, dLcF, dLc2F, dDcF, dSlF, dListVF, bListF, bListDF, bSortSF, oAddLF, oRepLF, dSl, dNoP, dPart, dListV, dTru, dOrT, EndsD, startD, oLtI, oLeI, oGtI, oGeI, oIx, oMulI, oPowI, oAddI, oSubI, oModI, oDivI, oI, oI0, oEqD, oNeD, oInD, oNotInD, oAddL, oAddT, oAddS, oRepL, bLen, bAbs, bInt, bMin2, bMax2, bAll, bAny, bTuple, bList, bListD, bSortS, mAppend, mPop, mPopAt, mExtend, mIndex, dFld, dSetFld, dAddFld, gdFld, dMeth, dMake, dPar3, dRevT, oAddTK, dSortSetT, dSortSetTF, gdLst, gdAll, dRevL, dRevLF, dYes, dFrzA, oNegI, bSortG, bSortGF, dSlK, oIsB, oNotB, bSortTS, bSortTSF, bSortI, bSortIF, iDi, dDisp, iEnS, dEi, oTimes, oEqO, oNeO, mClear, mReverse, dMethP, dMethSlP, dMakeP, dMakeSlP, oGeD, oCmpD, dSortSetBF, dSortKDF, dDcT, tupOf_lst, tupOf_ref, tupOf_tup, List.map_cons, List.map_nil, List.length_cons, List.length_nil, List.cons_append, List.nil_append, List.append_nil, List.replicate, List.set_cons_zero, List.set_cons_succ, List.getElem?_cons_zero, List.getElem?_cons_succ, Option.some.injEq, exists_eq_left', exists_eq_left, exists_and_left, D.int.injEq, D.bl.injEq, D.str.injEq, D.tup.injEq, D.lst.injEq, D.ref.injEq, List.cons.injEq, and_true, true_and, reduceCtorEq, false_and, and_false, exists_false, or_false, false_or, exists_const, Bool.false_eq_true, if_true, if_false, decide_eq_true_eq, Ob.lst.injEq, Ob.slt.injEq, Ob.dic.injEq, seqD_ref, lstD_ref, seqD_tup, seqD_lst, lstD_lst, lstR_lst, Sto.set_same, Sto.set_set, atI_0, atI_1, atI_2, Nat.reduceAdd, ixN_30, ixN_32, lstD_tup, seqD_row, List.append_assoc, false_or, or_false, cut_d1, cut_t1, sz_0, sz_1, sz_2, sz_3, sz_4, sz_5, sz_6, sz_7, sz_8, sz_9, sz_10, sz_11, sz_12]
  refine ⟨_, _, rfl, lr, .inl ⟨_, rfl, fun m hm => ⟨m, rfl, _, Sto.set_same, _, rfl, 0, _, by rw [Sto.del_set hm]; exact hT6.e2, _, .inr rfl, small_sz (by omega), _, Wk.refl _, _, Sto.sub_refl _, ?_⟩⟩⟩
  rw [Sto.del_set hm]
  have g7 : (S6.set a2 (.lst (rs.map ruleL))) m4 = some (.lst (((w.rul rs).rightC cs).map copyD)) := by rw [Sto.set_ne nm.2.2.1]; exact g6
  have hT7 := hT6.set2 N (z := rs.map ruleL)
  generalize S6.set a2 (.lst (rs.map ruleL)) = S7 at g7 hT7 ⊢
  refine ⟨gs_tup, ?_⟩
  simp only [Tg.d, setsE, dWkA, dTupK, dTupL, dTupIx, dDictP, dDc2, dFor, dWhile, dLc, dLc2, dDc, dNextG, iSeq, iR1, iR2, iEn, iZpA, iZ2, iZ3, dSortK, dSortKF, dSortSet, dSortSetF, dBreak, bSortT, bSortTF, bSum, bSumL, bSumLF, bMaxL, bMinL, dDicE, bSortD, bSortDF, dGet2, oInA, oNotInA, oIxA, gdSubA, dSeq, dSet, dIf, dIfS, dTst, dOp, dUn, dVar, dCB, aCons, aNil, aStar, dRet, dRetN, dNext, dDrop, dLst, dTup, dC, dAnd, dOr, dNot, dAndV, dOrV, dNotV, dPar, dAsg, gdName, gdSub, gdTup, gdCons, gdNil, gdSlot, dIsi, dIsi2, dSlot, dSetSlot, dMethSl, dMakeSl, dCall, dCallP, dBM, dFrz, dLstF, dLcF, dLc2F, dDcF, dSlF, dListVF, bListF, bListDF, bSortSF, oAddLF, oRepLF, dSl, dNoP, dPart, dListV, dTru, dOrT, EndsD, startD, oLtI, oLeI, oGtI, oGeI, oIx, oMulI, oPowI, oAddI, oSubI, oModI, oDivI, oI, oI0, oEqD, oNeD, oInD, oNotInD, oAddL, oAddT, oAddS, oRepL, bLen, bAbs, bInt, bMin2, bMax2, bAll, bAny, bTuple, bList, bListD, bSortS, mAppend, mPop, mPopAt, mExtend, mIndex, dFld, dSetFld, dAddFld, gdFld, dMeth, dMake, dPar3, dRevT, oAddTK, dSortSetT, dSortSetTF, gdLst, gdAll, dRevL, dRevLF, dYes, dFrzA, oNegI, bSortG, bSortGF, dSlK, oIsB, oNotB, bSortTS, bSortTSF, bSortI, bSortIF, iDi, dDisp, iEnS, dEi, oTimes, oEqO, oNeO, mClear, mReverse, dMethP, dMethSlP, dMakeP, dMakeSlP, oGeD, oCmpD, dSortSetBF, dSortKDF, dDcT, tupOf_lst, tupOf_ref, tupOf_tup, List.map_cons, List.map_nil, List.length_cons, List.length_nil, List.cons_append, List.nil_append, List.append_nil, List.replicate, List.set_cons_zero, List.set_cons_succ, List.getElem?_cons_zero, List.getElem?_cons_succ, Option.some.injEq, exists_eq_left', exists_eq_left, exists_and_left, D.int.injEq, D.bl.injEq, D.str.injEq, D.tup.injEq, D.lst.injEq, D.ref.injEq, List.cons.injEq, and_true, true_and, reduceCtorEq, false_and, and_false, exists_false, or_false, false_or, exists_const, Bool.false_eq_true, if_true, if_false, decide_eq_true_eq, Ob.lst.injEq, Ob.slt.injEq, Ob.dic.injEq, seqD_ref, lstD_ref, seqD_tup, seqD_lst, lstD_lst, lstR_lst, Sto.set_same, Sto.set_set, atI_0, atI_1, atI_2, Nat.reduceAdd, ixN_30, ixN_32, lstD_tup, seqD_row, List.append_assoc, false_or, or_false, cut_d1, cut_t1, sz_0, sz_1, sz_2, sz_3, sz_4, sz_5, sz_6, sz_7, sz_8, sz_9, sz_10, sz_11, sz_12]
  refine ⟨_, _, rfl, lc, .inl ⟨_, rfl, fun m hm => ⟨m, rfl, _, Sto.set_same, _, rfl, 0, _, by rw [Sto.del_set hm]; exact hT7.e3, _, .inr rfl, small_sz (by omega), _, Wk.refl _, _, Sto.sub_refl _, ?_⟩⟩⟩
  rw [Sto.del_set hm]
  have g8 : (S7.set a3 (.lst (cs.map copyL))) m4 = some (.lst (((w.rul rs).rightC cs).map copyD)) := by rw [Sto.set_ne nm.2.2.2]; exact g7
  have hT8 := hT7.set3 N (z := cs.map copyL)
  generalize S7.set a3 (.lst (cs.map copyL)) = S8 at g8 hT8 ⊢
  refine ⟨gs_tup, ?_⟩
  simp only [dWkA, dTupK, dTupL, dTupIx, dDictP, dDc2, dFor, dWhile, dLc, dLc2, dDc, dNextG, iSeq, iR1, iR2, iEn, iZpA, iZ2, iZ3, dSortK, dSortKF, dSortSet, dSortSetF, dBreak, bSortT, bSortTF, bSum, bSumL, bSumLF, bMaxL, bMinL, dDicE, bSortD, bSortDF, dGet2, oInA, oNotInA, oIxA, gdSubA, dSeq, dSet, dIf, dIfS, dTst, dOp, dUn, dVar, dCB, aCons, aNil, aStar, dRet, dRetN, dNext, dDrop, dLst, dTup, dC, dAnd, dOr, dNot, dAndV, dOrV, dNotV, dPar, dAsg, gdName, gdSub, gdTup, gdCons, gdNil, gdSlot, dIsi, dIsi2, dSlot, dSetSlot, dMethSl, dMakeSl, dCall, dCallP, dBM, dFrz, dLstF, dLcF, dLc2F, dDcF, dSlF, dListVF, bListF, bListDF, bSortSF, oAddLF, oRepLF, dSl, dNoP, dPart, dListV, dTru, dOrT, EndsD, startD, oLtI, oLeI, oGtI, oGeI, oIx, oMulI, oPowI, oAddI, oSubI, oModI, oDivI, oI, oI0, oEqD, oNeD, oInD, oNotInD, oAddL, oAddT, oAddS, oRepL, bLen, bAbs, bInt, bMin2, bMax2, bAll, bAny, bTuple, bList, bListD, bSortS, mAppend, mPop, mPopAt, mExtend, mIndex, dFld, dSetFld, dAddFld, gdFld, dMeth, dMake, dPar3, dRevT, oAddTK, dSortSetT, dSortSetTF, gdLst, gdAll, dRevL, dRevLF, dYes, dFrzA, oNegI, bSortG, bSortGF, dSlK, oIsB, oNotB, bSortTS, bSortTSF, bSortI, bSortIF, iDi, dDisp, iEnS, dEi, oTimes, oEqO, oNeO, mClear, mReverse, dMethP, dMethSlP, dMakeP, dMakeSlP, oGeD, oCmpD, dSortSetBF, dSortKDF, dDcT, tupOf_lst, tupOf_ref, tupOf_tup, List.map_cons, List.map_nil, List.length_cons, List.length_nil, List.cons_append, List.nil_append, List.append_nil, List.replicate, List.set_cons_zero, List.set_cons_succ, List.getElem?_cons_zero, List.getElem?_cons_succ, Option.some.injEq, exists_eq_left', exists_eq_left, exists_and_left, D.int.injEq, D.bl.injEq, D.str.injEq, D.tup.injEq, D.lst.injEq, D.ref.injEq, List.cons.injEq, and_true, true_and, reduceCtorEq, false_and, and_false, exists_false, or_false, false_or, exists_const, Bool.false_eq_true, if_true, if_false, decide_eq_true_eq, Ob.lst.injEq, Ob.slt.injEq, Ob.dic.injEq, seqD_ref, lstD_ref, seqD_tup, seqD_lst, lstD_lst, lstR_lst, Sto.set_same, Sto.set_set, atI_0, atI_1, atI_2, Nat.reduceAdd, ixN_30, ixN_32, lstD_tup, seqD_row, List.append_assoc, false_or, or_false, cut_d1, cut_t1, sz_0, sz_1, sz_2, sz_3, sz_4, sz_5, sz_6, sz_7, sz_8, sz_9, sz_10, sz_11, sz_12]
  refine ⟨_, _, rfl, lr, .inl ⟨_, rfl, fun m hm => ⟨m, rfl, _, Sto.set_same, _, rfl, ?_⟩⟩⟩
  rw [Sto.del_set hm]
  refine ⟨_, _, rfl, lc, .inl ⟨_, rfl, fun m hm => ⟨m, rfl, _, Sto.set_same, _, rfl, ?_⟩⟩⟩
  rw [Sto.del_set hm]
  have t2 : ∀ {S2 : Sto} {c' : Int}, T45 S S2 l a1 a2 a3 w.l (rs.map ruleL) (cs.map copyL) c' → topO S2 7 (.ref a2) = some (.tup (rs.map ruleD)) := fun h => topO_ref (n := 6) h.e2 (rules_tupL (m := 2) hw2 (fun r hr => hr) (by omega))
  have t3 : ∀ {S2 : Sto} {c' : Int}, T45 S S2 l a1 a2 a3 w.l (rs.map ruleL) (cs.map copyL) c' → topO S2 8 (.ref a3) = some (.tup (cs.map copyD)) := fun h => topO_ref (n := 7) h.e3 (cops_tupL (n := 4) hw0 hcs)
  have hsd : ∀ {S2 : Sto} {m n : Nat}, S2 m = some (.lst (((w.rul rs).rightC cs).map copyD)) → sameP (n + 4) S2 (.ref m) (.lst (((w.rul rs).rightC cs).map copyD)) := fun h => same_lref h (by omega) fun x hx => same_cp hw2 (hdo x hx)
  show sp_right_k45 [.ref a1, .ref a2, .ref a3] _ _ noX
  refine ⟨_, _, _, w, rs, cs, rfl, top_ref hw0 hT8.e1, t2 hT8, t3 hT8, hw0, hw2, hcs, fun m9 hm9 => ?_⟩
  have s9 : S8.sub (S8.set m9 (.lst (((w.rul rs).rightC cs).map copyD))) := Sto.sub_set hm9
  have g9 := s9 _ _ g8
  have k9 : (S8.set m9 (.lst (((w.rul rs).rightC cs).map copyD))) m9 = some (.lst (((w.rul rs).rightC cs).map copyD)) := Sto.set_same
  have hT9 := hT8.sub s9
  generalize S8.set m9 (.lst (((w.rul rs).rightC cs).map copyD)) = S9 at g9 k9 hT9 ⊢
  refine c__law_same (n := 8) (same_zip (n := 7) (by show 2 ≤ 1000; decide) rfl fun p hp => ?_) ⟨_, rfl, ?_⟩
  · simp only [List.zip_cons_cons, List.zip_nil_right, List.mem_cons, List.not_mem_nil, or_false] at hp
    rcases hp with rfl | rfl
    · exact hsd (n := 3) g9
    · exact hsd (n := 3) k9
  rw [if_neg (by decide)]
  refine ⟨tyB_at g9, _, g9, small_sz (by rw [List.length_map]; omega), ?_⟩
  have hT10 := hT9.put (o := .lst (((w.rul rs).rightC cs).map copyD ++ [D.str (Str.ofString "more")])) nm (hT.gone hm4)
  generalize S9.set m4 (.lst (((w.rul rs).rightC cs).map copyD ++ [D.str (Str.ofString "more")])) = S10 at hT10 ⊢
  refine ⟨_, _, _, w, rs, cs, rfl, top_world hw0, tu _, tc _, hw0, hw2, hcs, fun m11 hm11 => ?_⟩
  refine c__law_same (n := 8) (hsd (n := 4) Sto.set_same) ⟨_, rfl, ?_⟩
  rw [if_neg (by decide)]
  have hT11 := hT10.sub (Sto.sub_set (o := .lst (((w.rul rs).rightC cs).map copyD)) hm11)
  generalize S10.set m11 (.lst (((w.rul rs).rightC cs).map copyD)) = S11 at hT11 ⊢
  rw [List.length_map, show ((cs.length : Int)).toNat = cs.length from rfl]
  refine ⟨by omega, ?_⟩
  refine forW_all (α := Nat) (fun i : Nat => D.int i) (fun n ρ S' => ∃ b4 b10, ρ = [some (.ref l), some (.lst [.ref a1, .ref a2, .ref a3]), b2, some (.tup (cs.map copyD)), b4, some w.d, some (.lst (cs.map fun c => optD ((w.rul rs).shownC c))), some (.lst (((w.rul rs).rightC cs).map copyD)), some (.lst [.lst (rs.map ruleL), .lst (cs.map copyL)]), some (.ref m9), b10, b11, some (.tup (rs.map ruleD)), some (.tup (cs.map copyD))] ∧ T45 S S' l a1 a2 a3 w.l (rs.map ruleL) (cs.map copyL) (c + 1070000)) (List.range cs.length) 0 ⟨_, _, rfl, hT11⟩ ?_ ?_
  · rintro i iv ρ S12 E' hiv ⟨b4, b10, rfl, hT12⟩ hrt hbk hnx
    clear hrt hbk
    have hil : i < cs.length := by
      have := (List.getElem?_eq_some_iff.mp hiv).1
      simpa using this
    have hiv2 : iv = i := by
      have := (List.getElem?_eq_some_iff.mp hiv).2
      simpa using this.symm
    subst hiv2
    have eg : cs[iv]? = some (cs.getD iv zC) := by rw [List.getD_eq_getElem?_getD, List.getElem?_eq_getElem hil]; rfl
    have hcm : cs.getD iv zC ∈ cs := List.mem_of_getElem? eg
    generalize cs.getD iv zC = x at eg hcm
    have hxo := hcs.ok x hcm
    have hx1 : CsOk w [x] := hcs.one hcm
    refine ⟨Gs.ok_nil, ?_⟩
    simp only [Tg.d, dWkA, dTupK, dTupL, dTupIx, dDictP, dDc2, dFor, dWhile, dLc, dLc2, dDc, dNextG, iSeq, iR1, iR2, iEn, iZpA, iZ2, iZ3, dSortK, dSortKF, dSortSet, dSortSetF, dBreak, bSortT, bSortTF, bSum, bSumL, bSumLF, bMaxL, bMinL, dDicE, bSortD, bSortDF, dGet2, oInA, oNotInA, oIxA, gdSubA, dSeq, dSet, dIf, dIfS, dTst, dOp, dUn, dVar, dCB, aCons, aNil, aStar, dRet, dRetN, dNext, dDrop, dLst, dTup, dC, dAnd, dOr, dNot, dAndV, dOrV, dNotV, dPar, dAsg, gdName, gdSub, gdTup, gdCons, gdNil, gdSlot, dIsi, dIsi2, dSlot, dSetSlot, dMethSl, dMakeSl, dCall, dCallP, dBM, dFrz, dLstF, dLcF, dLc2F, dDcF, dSlF, dListVF, bListF, bListDF, bSortSF, oAddLF, oRepLF, dSl, dNoP, dPart, dListV, dTru, dOrT, EndsD, startD, oLtI, oLeI, oGtI, oGeI, oIx, oMulI, oPowI, oAddI, oSubI, oModI, oDivI, oI, oI0, oEqD, oNeD, oInD, oNotInD, oAddL, oAddT, oAddS, oRepL, bLen, bAbs, bInt, bMin2, bMax2, bAll, bAny, bTuple, bList, bListD, bSortS, mAppend, mPop, mPopAt, mExtend, mIndex, dFld, dSetFld, dAddFld, gdFld, dMeth, dMake, dPar3, dRevT, oAddTK, dSortSetT, dSortSetTF, gdLst, gdAll, dRevL, dRevLF, dYes, dFrzA, oNegI, bSortG, bSortGF, dSlK, oIsB, oNotB, bSortTS, bSortTSF, bSortI, bSortIF, iDi, dDisp, iEnS, dEi, oTimes, oEqO, oNeO, mClear, mReverse, dMethP, dMethSlP, dMakeP, dMakeSlP, oGeD, oCmpD, dSortSetBF, dSortKDF, dDcT, tupOf_lst, tupOf_ref, tupOf_tup, List.map_cons, List.map_nil, List.length_cons, List.length_nil, List.cons_append, List.nil_append, List.append_nil, List.replicate, List.set_cons_zero, List.set_cons_succ, List.getElem?_cons_zero, List.getElem?_cons_succ, Option.some.injEq, exists_eq_left', exists_eq_left, exists_and_left, D.int.injEq, D.bl.injEq, D.str.injEq, D.tup.injEq, D.lst.injEq, D.ref.injEq, List.cons.injEq, and_true, true_and, reduceCtorEq, false_and, and_false, exists_false, or_false, false_or, exists_const, Bool.false_eq_true, if_true, if_false, decide_eq_true_eq, Ob.lst.injEq, Ob.slt.injEq, Ob.dic.injEq, seqD_ref, lstD_ref, seqD_tup, seqD_lst, lstD_lst, lstR_lst, Sto.set_same, Sto.set_set, atI_0, atI_1, atI_2, Nat.reduceAdd, ixN_30, ixN_32, lstD_tup, seqD_row, List.append_assoc, false_or, or_false, cut_d1, cut_t1, sz_0, sz_1, sz_2, sz_3, sz_4, sz_5, sz_6, sz_7, sz_8, sz_9, sz_10, sz_11, sz_12]
    refine ⟨_, atI_nat (by rw [List.getElem?_map, eg]; rfl), _, _, _, w, rs, x, rfl, top_world hw0, tu _, tupO_top (cop_tup (n := 4) hw0 hxo), hw0, hw2, hx1, fun m1 hm1 => ⟨tyB_new, _, atI_nat (by rw [List.getElem?_map, eg]; rfl), ?_⟩⟩
    have hT13 := hT12.sub (Sto.sub_set (o := .lst [optD ((w.rul rs).shownC x)]) hm1)
    have g13 : (S12.set m1 (.lst [optD ((w.rul rs).shownC x)])) m1 = some (.lst [optD ((w.rul rs).shownC x)]) := Sto.set_same
    have nm1 := hT12.new hm1
    generalize S12.set m1 (.lst [optD ((w.rul rs).shownC x)]) = S13 at hT13 g13 ⊢
    show sp_shows_wrong_k45 [.ref a1, .ref a2, copyL x] _ _ noX
    refine ⟨_, _, _, w, rs, x, rfl, top_ref hw0 hT13.e1, t2 hT13, tupO_top (cop_tupL (n := 4) hw0 hxo), hw0, hw2, hx1, _, g13, by show 1 < sizeLine; rw [sizeLine_eq]; decide, _, atI_nat (by rw [List.getElem?_map, eg]; rfl), by decide, by decide, by show 2 ≤ sizeLine; rw [sizeLine_eq]; decide, ?_⟩
    have hT14 := hT13.put (o := .lst [optD ((w.rul rs).shownC x), optD ((w.rul rs).shownC x)]) nm1 (hT12.gone hm1)
    have g14 : (S13.set m1 (.lst [optD ((w.rul rs).shownC x), optD ((w.rul rs).shownC x)])) m1 = some (.lst (List.map optD [(w.rul rs).shownC x, (w.rul rs).shownC x])) := Sto.set_same
    show sp__law_same 8 [.ref m1, .lst (List.map optD [(w.rul rs).shownC x, (w.rul rs).shownC x])] (S13.set m1 (.lst [optD ((w.rul rs).shownC x), optD ((w.rul rs).shownC x)])) _ noX
    generalize S13.set m1 (.lst [optD ((w.rul rs).shownC x), optD ((w.rul rs).shownC x)]) = S14 at hT14 g14 ⊢
    refine c__law_same (n := 8) (same_lref g14 (by simp) fun o ho => same_opt hw2 fun r hr => ?_) ⟨_, rfl, ?_⟩
    · have ho2 : o = (w.rul rs).shownC x := by
        simp only [List.mem_cons, List.not_mem_nil, or_false, or_self] at ho
        exact ho
      rw [ho2] at hr
      exact rows_ok hw2 (List.mem_of_find?_eq_some hr)
    rw [if_neg (by decide)]
    exact (hnx _ _ _ _ (Wk.refl _) (Sto.sub_refl _) ⟨_, _, rfl, hT14⟩).1
  · rintro ρ S12 ⟨b4, b10, rfl, hT12⟩
    refine ⟨Gs.ok_nil, ?_⟩
    simp only [dWkA, dTupK, dTupL, dTupIx, dDictP, dDc2, dFor, dWhile, dLc, dLc2, dDc, dNextG, iSeq, iR1, iR2, iEn, iZpA, iZ2, iZ3, dSortK, dSortKF, dSortSet, dSortSetF, dBreak, bSortT, bSortTF, bSum, bSumL, bSumLF, bMaxL, bMinL, dDicE, bSortD, bSortDF, dGet2, oInA, oNotInA, oIxA, gdSubA, dSeq, dSet, dIf, dIfS, dTst, dOp, dUn, dVar, dCB, aCons, aNil, aStar, dRet, dRetN, dNext, dDrop, dLst, dTup, dC, dAnd, dOr, dNot, dAndV, dOrV, dNotV, dPar, dAsg, gdName, gdSub, gdTup, gdCons, gdNil, gdSlot, dIsi, dIsi2, dSlot, dSetSlot, dMethSl, dMakeSl, dCall, dCallP, dBM, dFrz, dLstF, dLcF, dLc2F, dDcF, dSlF, dListVF, bListF, bListDF, bSortSF, oAddLF, oRepLF, dSl, dNoP, dPart, dListV, dTru, dOrT, EndsD, startD, oLtI, oLeI, oGtI, oGeI, oIx, oMulI, oPowI, oAddI, oSubI, oModI, oDivI, oI, oI0, oEqD, oNeD, oInD, oNotInD, oAddL, oAddT, oAddS, oRepL, bLen, bAbs, bInt, bMin2, bMax2, bAll, bAny, bTuple, bList, bListD, bSortS, mAppend, mPop, mPopAt, mExtend, mIndex, dFld, dSetFld, dAddFld, gdFld, dMeth, dMake, dPar3, dRevT, oAddTK, dSortSetT, dSortSetTF, gdLst, gdAll, dRevL, dRevLF, dYes, dFrzA, oNegI, bSortG, bSortGF, dSlK, oIsB, oNotB, bSortTS, bSortTSF, bSortI, bSortIF, iDi, dDisp, iEnS, dEi, oTimes, oEqO, oNeO, mClear, mReverse, dMethP, dMethSlP, dMakeP, dMakeSlP, oGeD, oCmpD, dSortSetBF, dSortKDF, dDcT, tupOf_lst, tupOf_ref, tupOf_tup, List.map_cons, List.map_nil, List.length_cons, List.length_nil, List.cons_append, List.nil_append, List.append_nil, List.replicate, List.set_cons_zero, List.set_cons_succ, List.getElem?_cons_zero, List.getElem?_cons_succ, Option.some.injEq, exists_eq_left', exists_eq_left, exists_and_left, D.int.injEq, D.bl.injEq, D.str.injEq, D.tup.injEq, D.lst.injEq, D.ref.injEq, List.cons.injEq, and_true, true_and, reduceCtorEq, false_and, and_false, exists_false, or_false, false_or, exists_const, Bool.false_eq_true, if_true, if_false, decide_eq_true_eq, Ob.lst.injEq, Ob.slt.injEq, Ob.dic.injEq, seqD_ref, lstD_ref, seqD_tup, seqD_lst, lstD_lst, lstR_lst, Sto.set_same, Sto.set_set, atI_0, atI_1, atI_2, Nat.reduceAdd, ixN_30, ixN_32, lstD_tup, seqD_row, List.append_assoc, false_or, or_false, cut_d1, cut_t1, sz_0, sz_1, sz_2, sz_3, sz_4, sz_5, sz_6, sz_7, sz_8, sz_9, sz_10, sz_11, sz_12]
    refine ⟨_, _, rfl, lw, .inl ⟨_, rfl, fun m hm => ⟨m, rfl, _, Sto.set_same, _, rfl, ?_⟩⟩⟩
    rw [Sto.del_set hm]
    have p1 : pyOs S12 14 w.l = some [.list (w.hs.map pyHead), .list (w.rs.map pyRule)] := pyO_w (n := 9) w
    have p2 : pyOs S12 14 (rs.map ruleL) = some (rs.map pyRule) := pyOs_map fun r _ => pyO_two (n := 13) (pyO_lst (n := 12) (pyOs_map fun t _ => pyO_two (n := 11) pyO_str pyO_str)) pyO_str
    have p3 : pyOs S12 14 (cs.map copyL) = some (cs.map pyCp) := pyOs_map fun c _ => pyO_lst (n := 13) (pyOs_cons (pyO_lst (n := 12) (pyOs_map fun x _ => pyO_str)) (pyOs_cons (pyO_lst (n := 12) (pyOs_map fun x _ => pyO_str)) (pyOs_cons pyO_str pyOs_nil)))
    have hsh : Shp (.list [.list [.list (w.hs.map pyHead), .list (w.rs.map pyRule)], .list (rs.map pyRule), .list (cs.map pyCp)]) 60 := shp_list (n := 59) fun p hp => by
      simp only [List.mem_cons, List.not_mem_nil, or_false] at hp
      rcases hp with rfl | rfl | rfl
      · exact (shp_world hw0).mono (by decide)
      · exact (shp_rulesL hw2).mono (by decide)
      · exact (shp_cps hw0 hcs).mono (by decide)
    refine ⟨_, pyO_lst (n := 15) (pyOs_cons (pyO_ref (n := 14) hT12.e1 p1) (pyOs_cons (pyO_ref (n := 14) hT12.e2 p2) (pyOs_cons (pyO_ref (n := 14) hT12.e3 p3) pyOs_nil))), _, pyO_lst (n := 15) (pyOs_cons (pyO_lst (n := 14) p1) (pyOs_cons (pyO_lst (n := 14) p2) (pyOs_cons (pyO_lst (n := 14) p3) pyOs_nil))), hsh.ok, hsh.ok, ?_⟩
    rw [PySem.SeqAt.eqv_refl _ hsh.lay, if_neg (by decide)]
    have t0 : topO S12 8 (.tup []) = some (.tup (List.map copyD [])) := tupO_top (tupO_tup (n := 7) (ds := []) (es := []) rfl (by rw [sizeLine_eq]; decide))
    refine ⟨_, _, _, w, rs, [], rfl, top_world hw0, tu _, t0, hw0, hw2, ⟨by simp, fun c h => (by cases h), fun c h => (by cases h)⟩, fun m0 hm0 => ?_⟩
    have hT13 := hT12.sub (Sto.sub_set (o := .lst (((w.rul rs).rightC []).map copyD)) hm0)
    have g13 : (S12.set m0 (.lst (((w.rul rs).rightC []).map copyD))) m0 = some (.lst []) := Sto.set_same
    generalize S12.set m0 (.lst (((w.rul rs).rightC []).map copyD)) = S13 at hT13 g13 ⊢
    refine ⟨.list [], ?_, .list [], pyR_of (pyD_lst (pyDs_strs [])), (shp_nil (n := 0)).ok, (shp_nil (n := 0)).ok, ?_⟩
    · show (match S13 m0 with | some (.lst ds) => (pyDs ds).map PyData.list | _ => none) = _
      rw [g13]; rfl
    rw [eqv_nil, if_neg (by decide)]
    refine q _ _ _ _ _ _ _ _ _ _ _ S13 _ _ _ hT13.e1 hT13.e2 hT13.e3 yw yr yc ?_ hT13.fr
    obtain ⟨o, ho, hb⟩ := hT13.bx
    exact ⟨o, ho, hb.mono (by omega)⟩
def w3 : Wd := ⟨[(Str.ofString "a", [Str.ofString "x", Str.ofString "y"])], []⟩
def rs3 : List Rule := [([(Str.ofString "a", Str.ofString "y")], Str.ofString "k")]
def c30 : Cp := ([Str.ofString ""], [], Str.ofString "")
def cs3 : List Cp := [c30, ([Str.ofString "x"], [Str.ofString "a"], Str.ofString ""), ([Str.ofString "y"], [Str.ofString "a"], Str.ofString "k")]
theorem w3_ok : WOk w3 where
  nd := by decide +kernel
  hl := by decide
  vl := by decide +kernel
  rl := by decide
  tl := by decide +kernel
  tn := by decide +kernel
  so := by decide +kernel
  ro := by decide +kernel
theorem w3r_ok : WOk (w3.rul rs3) where
  nd := by decide +kernel
  hl := by decide
  vl := by decide +kernel
  rl := by decide
  tl := by decide +kernel
  tn := by decide +kernel
  so := by decide +kernel
  ro := by decide +kernel
theorem cs3_ok : CsOk w3 cs3 where
  len := by decide
  row := by decide +kernel
  ok := fun c hc => by
    simp only [cs3, c30, List.mem_cons, List.not_mem_nil, or_false] at hc
    rcases hc with rfl | rfl | rfl
    · exact ⟨⟨by decide, by decide +kernel⟩, ⟨by decide +kernel, by decide⟩, by decide, by decide +kernel⟩
    · exact ⟨⟨by decide, by decide +kernel⟩, ⟨by decide +kernel, by decide⟩, by decide, by decide +kernel⟩
    · exact ⟨⟨by decide, by decide +kernel⟩, ⟨by decide +kernel, by decide⟩, by decide, by decide +kernel⟩
theorem right3 : (w3.rul rs3).rightC cs3 = cs3.drop 1 := by decide +kernel
theorem shown3 : (w3.rul rs3).shownC c30 = some [Str.ofString "y"] := by decide +kernel
theorem v__law_right_k45 : ∀ ds S Q E, sp__law_right_k45 ds S Q E → d__law_right_k45 (EndsD Q) (startD N__law_right_k45 ds) S := by
  rintro ds S Q E ⟨l, c, rfl, hB, hc, q⟩
  simp only [d__law_right_k45, N__law_right_k45, dWkA, dTupK, dTupL, dTupIx, dDictP, dDc2, dFor, dWhile, dLc, dLc2, dDc, dNextG, iSeq, iR1, iR2, iEn, iZpA, iZ2, iZ3, dSortK, dSortKF, dSortSet, dSortSetF, dBreak, bSortT, bSortTF, bSum, bSumL, bSumLF, bMaxL, bMinL, dDicE, bSortD, bSortDF, dGet2, oInA, oNotInA, oIxA, gdSubA, dSeq, dSet, dIf, dIfS, dTst, dOp, dUn, dVar, dCB, aCons, aNil, aStar, dRet, dRetN, dNext, dDrop, dLst, dTup, dC, dAnd, dOr, dNot, dAndV, dOrV, dNotV, dPar, dAsg, gdName, gdSub, gdTup, gdCons, gdNil, gdSlot, dIsi, dIsi2, dSlot, dSetSlot, dMethSl, dMakeSl, dCall, dCallP, dBM, dFrz, dLstF, dLcF, dLc2F, dDcF, dSlF, dListVF, bListF, bListDF, bSortSF, oAddLF, oRepLF, dSl, dNoP, dPart, dListV, dTru, dOrT, EndsD, startD, oLtI, oLeI, oGtI, oGeI, oIx, oMulI, oPowI, oAddI, oSubI, oModI, oDivI, oI, oI0, oEqD, oNeD, oInD, oNotInD, oAddL, oAddT, oAddS, oRepL, bLen, bAbs, bInt, bMin2, bMax2, bAll, bAny, bTuple, bList, bListD, bSortS, mAppend, mPop, mPopAt, mExtend, mIndex, dFld, dSetFld, dAddFld, gdFld, dMeth, dMake, dPar3, dRevT, oAddTK, dSortSetT, dSortSetTF, gdLst, gdAll, dRevL, dRevLF, dYes, dFrzA, oNegI, bSortG, bSortGF, dSlK, oIsB, oNotB, bSortTS, bSortTSF, bSortI, bSortIF, iDi, dDisp, iEnS, dEi, oTimes, oEqO, oNeO, mClear, mReverse, dMethP, dMethSlP, dMakeP, dMakeSlP, oGeD, oCmpD, dSortSetBF, dSortKDF, dDcT, tupOf_lst, tupOf_ref, tupOf_tup, List.map_cons, List.map_nil, List.length_cons, List.length_nil, List.cons_append, List.nil_append, List.append_nil, List.replicate, List.set_cons_zero, List.set_cons_succ, List.getElem?_cons_zero, List.getElem?_cons_succ, Option.some.injEq, exists_eq_left', exists_eq_left, exists_and_left, D.int.injEq, D.bl.injEq, D.str.injEq, D.tup.injEq, D.lst.injEq, D.ref.injEq, List.cons.injEq, and_true, true_and, reduceCtorEq, false_and, and_false, exists_false, or_false, false_or, exists_const, Bool.false_eq_true, if_true, if_false, decide_eq_true_eq, Ob.lst.injEq, Ob.slt.injEq, Ob.dic.injEq, seqD_ref, lstD_ref, seqD_tup, seqD_lst, lstD_lst, lstR_lst, Sto.set_same, Sto.set_set, atI_0, atI_1, atI_2, Nat.reduceAdd, ixN_30, ixN_32, lstD_tup, seqD_row, List.append_assoc, false_or, or_false, cut_d1, cut_t1, sz_0, sz_1, sz_2, sz_3, sz_4, sz_5, sz_6, sz_7, sz_8, sz_9, sz_10, sz_11, sz_12]
  intro a1 ha1 a2 ha2 a3 ha3
  have n1 : a1 ≠ l := fun e => by obtain ⟨o, ho, _⟩ := hB; rw [e, ho] at ha1; cases ha1
  have n12 : a1 ≠ a2 := fun e => by rw [← e, Sto.set_same] at ha2; cases ha2
  have h2 : S a2 = none := by rw [Sto.set_ne (Ne.symm n12)] at ha2; exact ha2
  have n2 : a2 ≠ l := fun e => by obtain ⟨o, ho, _⟩ := hB; rw [e, ho] at h2; cases h2
  have n23 : a2 ≠ a3 := fun e => by rw [← e, Sto.set_same] at ha3; cases ha3
  have h3' : S.set a1 (.lst []) a3 = none := by rw [Sto.set_ne (Ne.symm n23)] at ha3; exact ha3
  have n13 : a1 ≠ a3 := fun e => by rw [← e, Sto.set_same] at h3'; cases h3'
  have h3 : S a3 = none := by rw [Sto.set_ne (Ne.symm n13)] at h3'; exact h3'
  have n3 : a3 ≠ l := fun e => by obtain ⟨o, ho, _⟩ := hB; rw [e, ho] at h3; cases h3
  have s1 : S.sub (((S.set a1 (.lst [])).set a2 (.lst [])).set a3 (.lst [])) := Sto.sub_trans (Sto.sub_trans (Sto.sub_set ha1) (Sto.sub_set ha2)) (Sto.sub_set ha3)
  have e1 : (((S.set a1 (.lst [])).set a2 (.lst [])).set a3 (.lst [])) a1 = some (.lst []) := by rw [Sto.set_ne n13, Sto.set_ne n12, Sto.set_same]
  have e2 : (((S.set a1 (.lst [])).set a2 (.lst [])).set a3 (.lst [])) a2 = some (.lst []) := by rw [Sto.set_ne n23, Sto.set_same]
  have e3 : (((S.set a1 (.lst [])).set a2 (.lst [])).set a3 (.lst [])) a3 = some (.lst []) := Sto.set_same
  have hB1 := hB.sub s1
  generalize ((S.set a1 (.lst [])).set a2 (.lst [])).set a3 (.lst []) = S1 at s1 e1 e2 e3 hB1 ⊢
  refine ⟨by decide, ?_⟩
  refine forW_all (α := Nat) (fun i : Nat => D.int i) (fun n ρ S' => ∃ b2 b3 b4 b5 b6 b7 b8 b9 b10 b11 b12 b13 z1 z2 z3, ρ = [some (.ref l), some (.lst [.ref a1, .ref a2, .ref a3]), b2, b3, b4, b5, b6, b7, b8, b9, b10, b11, b12, b13] ∧ z1.length ≤ 100 ∧ z2.length ≤ 100 ∧ z3.length ≤ 100 ∧ T45 S S' l a1 a2 a3 z1 z2 z3 (c + 1100000 * n)) (List.range (Int.toNat 3)) 0
    ⟨_, _, _, _, _, _, _, _, _, _, _, _, [], [], [], rfl, by simp, by simp, by simp, e1, e2, e3, by simpa using hB1, fun m o _ _ _ _ e => s1 _ _ e⟩ ?_ ?_
  · rintro i iv ρ S2 E' hiv ⟨b2, b3, b4, b5, b6, b7, b8, b9, b10, b11, b12, b13, z1, z2, z3, rfl, y1, y2, y3, hT⟩ hrt hbk hnx
    clear hrt hbk
    rw [Nat.zero_add] at hT hnx
    have hi3 : i < 3 := by
      have := (List.getElem?_eq_some_iff.mp hiv).1
      simpa using this
    refine ⟨Gs.ok_nil, ?_⟩
    refine turn45 hT.bx (by omega) n1 n2 n3 n12 n13 n23 hT.e1 hT.e2 hT.e3 y1 y2 y3 fun b2 b3 b4 b5 b6 b7 b8 b9 b10 b12 b13 S3 z1 z2 z3 f1 f2 f3 y1 y2 y3 hb fr => ?_
    refine (hnx _ _ _ _ (Wk.refl _) (Sto.sub_refl _) ⟨_, _, _, _, _, _, _, _, _, _, _, _, z1, z2, z3, rfl, y1, y2, y3, f1, f2, f3, ?_, fun m o k1 k2 k3 k4 e => fr m o k1 k2 k3 k4 (hT.fr m o k1 k2 k3 k4 e)⟩).1
    rwa [show c + 1100000 * ((i + 1 : Nat) : Int) = c + 1100000 * i + 1100000 by omega]
  · rintro ρ S2 ⟨b2, b3, b4, b5, b6, b7, b8, b9, b10, b11, b12, b13, z1, z2, z3, rfl, y1, y2, y3, hT⟩
    have e4 : (List.range (Int.toNat 3)).length = 3 := rfl
    rw [Nat.zero_add, e4] at hT
    refine ⟨Gs.ok_nil, ?_⟩
    simp only [dWkA, dTupK, dTupL, dTupIx, dDictP, dDc2, dFor, dWhile, dLc, dLc2, dDc, dNextG, iSeq, iR1, iR2, iEn, iZpA, iZ2, iZ3, dSortK, dSortKF, dSortSet, dSortSetF, dBreak, bSortT, bSortTF, bSum, bSumL, bSumLF, bMaxL, bMinL, dDicE, bSortD, bSortDF, dGet2, oInA, oNotInA, oIxA, gdSubA, dSeq, dSet, dIf, dIfS, dTst, dOp, dUn, dVar, dCB, aCons, aNil, aStar, dRet, dRetN, dNext, dDrop, dLst, dTup, dC, dAnd, dOr, dNot, dAndV, dOrV, dNotV, dPar, dAsg, gdName, gdSub, gdTup, gdCons, gdNil, gdSlot, dIsi, dIsi2, dSlot, dSetSlot, dMethSl, dMakeSl, dCall, dCallP, dBM, dFrz, dLstF, dLcF, dLc2F, dDcF, dSlF, dListVF, bListF, bListDF, bSortSF, oAddLF, oRepLF, dSl, dNoP, dPart, dListV, dTru, dOrT, EndsD, startD, oLtI, oLeI, oGtI, oGeI, oIx, oMulI, oPowI, oAddI, oSubI, oModI, oDivI, oI, oI0, oEqD, oNeD, oInD, oNotInD, oAddL, oAddT, oAddS, oRepL, bLen, bAbs, bInt, bMin2, bMax2, bAll, bAny, bTuple, bList, bListD, bSortS, mAppend, mPop, mPopAt, mExtend, mIndex, dFld, dSetFld, dAddFld, gdFld, dMeth, dMake, dPar3, dRevT, oAddTK, dSortSetT, dSortSetTF, gdLst, gdAll, dRevL, dRevLF, dYes, dFrzA, oNegI, bSortG, bSortGF, dSlK, oIsB, oNotB, bSortTS, bSortTSF, bSortI, bSortIF, iDi, dDisp, iEnS, dEi, oTimes, oEqO, oNeO, mClear, mReverse, dMethP, dMethSlP, dMakeP, dMakeSlP, oGeD, oCmpD, dSortSetBF, dSortKDF, dDcT, tupOf_lst, tupOf_ref, tupOf_tup, List.map_cons, List.map_nil, List.length_cons, List.length_nil, List.cons_append, List.nil_append, List.append_nil, List.replicate, List.set_cons_zero, List.set_cons_succ, List.getElem?_cons_zero, List.getElem?_cons_succ, Option.some.injEq, exists_eq_left', exists_eq_left, exists_and_left, D.int.injEq, D.bl.injEq, D.str.injEq, D.tup.injEq, D.lst.injEq, D.ref.injEq, List.cons.injEq, and_true, true_and, reduceCtorEq, false_and, and_false, exists_false, or_false, false_or, exists_const, Bool.false_eq_true, if_true, if_false, decide_eq_true_eq, Ob.lst.injEq, Ob.slt.injEq, Ob.dic.injEq, seqD_ref, lstD_ref, seqD_tup, seqD_lst, lstD_lst, lstR_lst, Sto.set_same, Sto.set_set, atI_0, atI_1, atI_2, Nat.reduceAdd, ixN_30, ixN_32, lstD_tup, seqD_row, List.append_assoc, false_or, or_false, cut_d1, cut_t1, sz_0, sz_1, sz_2, sz_3, sz_4, sz_5, sz_6, sz_7, sz_8, sz_9, sz_10, sz_11, sz_12]
    refine ⟨_, _, ⟨rfl, rfl⟩, _, _, rfl, rfl, ?_⟩
    show sp_right_k45 [w3.d, .tup (rs3.map ruleD), .tup (cs3.map copyD)] S2 _ noX
    have tu : ∀ S, topO S 7 (.tup (rs3.map ruleD)) = some (.tup (rs3.map ruleD)) := fun S => rules_topT7 w3r_ok S
    refine ⟨_, _, _, w3, rs3, cs3, rfl, top_world w3_ok, tu _, tupO_top (cops_tup (n := 4) w3_ok cs3_ok), w3_ok, w3r_ok, cs3_ok, fun m hm => ?_⟩
    have hT3 := hT.sub (Sto.sub_set (o := .lst (((w3.rul rs3).rightC cs3).map copyD)) hm)
    have g3 : (S2.set m (.lst (((w3.rul rs3).rightC cs3).map copyD))) m = some (.lst (((w3.rul rs3).rightC cs3).map copyD)) := Sto.set_same
    generalize S2.set m (.lst (((w3.rul rs3).rightC cs3).map copyD)) = S3 at hT3 g3 ⊢
    show sp_shows_wrong_k45 [w3.d, .tup (rs3.map ruleD), copyD c30] S3 _ noX
    have h30 : c30 ∈ cs3 := List.mem_cons_self
    refine ⟨_, _, _, w3, rs3, c30, rfl, top_world w3_ok, tu _, tupO_top (cop_tup (n := 4) w3_ok (cs3_ok.ok c30 h30)), w3_ok, w3r_ok, cs3_ok.one h30, ?_⟩
    rw [right3] at g3
    rw [shown3]
    refine c__law_same (n := 8) (same_zip (n := 7) (by show 2 ≤ 1000; decide) rfl fun p hp => ?_) ?_
    · simp only [List.zip_cons_cons, List.zip_nil_right, List.mem_cons, List.not_mem_nil, or_false] at hp
      rcases hp with rfl | rfl
      · exact same_lref (n := 6) (f := copyD) g3 (by decide) fun x hx => same_cp (n := 3) w3_ok (cs3_ok.ok x (List.mem_of_mem_drop hx))
      · exact same_row (n := 5) (r := [Str.ofString "y"]) (by decide) (by decide +kernel)
    obtain ⟨ob, hob, hbo⟩ := hT3.bx
    have hf : Fr l S S3 := fun k o hk e => hT3.fr k o hk (fun z => by rw [z, ha1] at e; cases e) (fun z => by rw [z, h2] at e; cases e) (fun z => by rw [z, h3] at e; cases e) e
    exact ⟨S.set l ob, hf.fin hob, q ob (hbo.mono (by omega))⟩
theorem v_law_k45 : ∀ ds S Q E, sp_law_k45 ds S Q E → d_law_k45 (EndsD Q) (startD N_law_k45 ds) S := v_lawC (m := 3) (t := 1) (by decide) (by decide) rightG (by decide) rfl
end
end LK
end
section
set_option Elab.async false
set_option linter.all false
set_option maxRecDepth 100000
set_option maxHeartbeats 2000000
namespace LK
open PySem PySem.Spec PyProof.Rows L2 L3
abbrev R : PySem.W.OpenRow := PySem.W.OpenLaw.row PySem.Challenge.rw_variesby_k45_copies_that_stay_right
def top (i : Nat) : Stmt := PySem.Challenge.pw_variesby_k45_copies_that_stay_right.main.body.getD i (.Pass ⟨0, 0, 0, 0⟩)
def meth (i j : Nat) : Stmt := (C8.clsBody (top i)).getD j (.Pass ⟨0, 0, 0, 0⟩)
abbrev FILE : Str := PySem.Challenge.pw_variesby_k45_copies_that_stay_right.main.file
abbrev s__law_box : Stmt := top 13
abbrev s__law_cells : Stmt := top 15
abbrev s__law_names : Stmt := top 22
abbrev s__law_value : Stmt := top 23
abbrev s__law_fits : Stmt := top 24
abbrev s__law_answer : Stmt := top 25
abbrev s__law_requests : Stmt := top 21
abbrev s__law_answers : Stmt := top 27
abbrev s__law_looked : Stmt := top 26
abbrev s__law_take : Stmt := top 14
abbrev s__law_of : Stmt := top 16
abbrev s__law_pick : Stmt := top 19
abbrev s__law_copies : Stmt := top 30
abbrev s__law_shown : Stmt := top 28
abbrev s__law_fine : Stmt := top 31
abbrev s__law_lists : Stmt := top 17
abbrev s__law_rules : Stmt := top 29
abbrev s__law_same : Stmt := top 18
abbrev s__law_world : Stmt := top 20
abbrev s_tupled : Stmt := top 4
abbrev s_World_init : Stmt := meth 7 1
abbrev s_World_check : Stmt := meth 7 8
abbrev s_World_header_pairs : Stmt := meth 7 3
abbrev s_World_with_rules : Stmt := meth 7 2
abbrev s_Later_init : Stmt := meth 9 1
abbrev s_Later_copies : Stmt := meth 9 2
abbrev s_World_headers : Stmt := meth 7 4
abbrev s_World_value : Stmt := meth 7 9
abbrev s_World_alike : Stmt := meth 7 14
abbrev s_World_fits : Stmt := meth 7 10
abbrev s_World_answer : Stmt := meth 7 11
abbrev s_World_requests : Stmt := meth 7 7
abbrev s_Later_shown : Stmt := meth 9 3
abbrev s_Later_right : Stmt := meth 9 4
abbrev s_right : Stmt := top 10
abbrev s_shows_wrong : Stmt := top 11
abbrev s__law_right : Stmt := top 32
abbrev s_law : Stmt := top 33
abbrev N1__law_box : List Str := ["_law_script", "_law_k", "_law_cell"]
abbrev p1__law_box : List Str := ["_law_script", "_law_k"]
abbrev N1__law_cells : List Str := ["_law_script", "_law_most", "_law_cells_here", "_law_k", "_law_cell", "_law_at_so"]
abbrev p1__law_cells : List Str := ["_law_script", "_law_most"]
abbrev N1__law_names : List Str := ["_law_world_so", "_law_row_so"]
abbrev p1__law_names : List Str := ["_law_world_so"]
abbrev N1__law_value : List Str := ["_law_world_so", "_law_request_so", "_law_name_so"]
abbrev p1__law_value : List Str := ["_law_world_so", "_law_request_so", "_law_name_so"]
abbrev N1__law_fits : List Str := ["_law_world_so", "_law_request_so", "_law_rule", "_law_own"]
abbrev p1__law_fits : List Str := ["_law_world_so", "_law_request_so", "_law_rule"]
abbrev N1__law_answer : List Str := ["_law_world_so", "_law_request_so", "_law_rule"]
abbrev p1__law_answer : List Str := ["_law_world_so", "_law_request_so"]
abbrev N1__law_requests : List Str := ["_law_world_so", "_law_rows_so", "_law_name_so", "_law_values_so", "_law_longer", "_law_row_so", "_law_own"]
abbrev p1__law_requests : List Str := ["_law_world_so"]
abbrev N1__law_answers : List Str := ["_law_world_so", "_law_own"]
abbrev p1__law_answers : List Str := ["_law_world_so"]
abbrev N1__law_looked : List Str := ["_law_world_so", "_law_request_so", "_law_rule", "_law_seen", "_law_goes", "_law_holds", "_law_name_so", "_law_value_so"]
abbrev p1__law_looked : List Str := ["_law_world_so", "_law_request_so"]
abbrev N1__law_take : List Str := ["_law_box_here", "_law_below", "_law_once", "_law_far", "_law_twice", "_law_drawn"]
abbrev p1__law_take : List Str := ["_law_box_here", "_law_below"]
abbrev N1__law_of : List Str := ["_law_box_here", "_law_some"]
abbrev p1__law_of : List Str := ["_law_box_here", "_law_some"]
abbrev N1__law_pick : List Str := ["_law_box_here", "_law_names_so", "_law_many_so", "_law_turn", "_law_rest", "_law_some"]
abbrev p1__law_pick : List Str := ["_law_box_here", "_law_names_so", "_law_many_so"]
abbrev N1__law_copies : List Str := ["_law_box_here", "_law_world_so", "_law_many_so", "_law_turn", "_law_told_so", "_law_some", "_law_names_so", "_law_request_so", "_law_due"]
abbrev p1__law_copies : List Str := ["_law_box_here", "_law_world_so", "_law_many_so"]
abbrev N1__law_shown : List Str := ["_law_world_so", "_law_told_so", "_law_request_so", "_law_names_so", "_law_due", "_law_spots", "_law_own", "_law_its", "_law_k"]
abbrev p1__law_shown : List Str := ["_law_world_so", "_law_told_so", "_law_request_so", "_law_names_so", "_law_due"]
abbrev N1__law_fine : List Str := ["_law_world_so", "_law_rules_so", "_law_copies_so", "_law_told_so", "_law_own"]
abbrev p1__law_fine : List Str := ["_law_world_so", "_law_rules_so", "_law_copies_so"]
abbrev N1__law_lists : List Str := ["_law_matter_so", "_law_bit"]
abbrev p1__law_lists : List Str := ["_law_matter_so"]
abbrev N1__law_rules : List Str := ["_law_box_here", "_law_world_so", "_law_rules_so", "_law_way", "_law_spot", "_law_name_so", "_law_values_so"]
abbrev p1__law_rules : List Str := ["_law_box_here", "_law_world_so"]
abbrev N1__law_same : List Str := ["_law_got", "_law_due", "_law_own", "_law_mine", "_law_its"]
abbrev p1__law_same : List Str := ["_law_got", "_law_due"]
abbrev N1__law_world : List Str := ["_law_box_here", "_law_sizes", "_law_names_so", "_law_heads", "_law_k", "_law_rules_so", "_law_turn", "_law_some", "_law_tests", "_law_name_so", "_law_values_so"]
abbrev p1__law_world : List Str := ["_law_box_here", "_law_sizes"]
abbrev N1_tupled : List Str := ["thing", "part"]
abbrev p1_tupled : List Str := ["thing"]
abbrev N1_World_init : List Str := ["self", "world", "values", "headers", "name", "request", "value"]
abbrev p1_World_init : List Str := ["self", "world"]
abbrev N1_World_check : List Str := ["self", "request", "found"]
abbrev p1_World_check : List Str := ["self", "request"]
abbrev N1_World_header_pairs : List Str := ["self", "name", "values"]
abbrev p1_World_header_pairs : List Str := ["self"]
abbrev N1_World_with_rules : List Str := ["self", "rules"]
abbrev p1_World_with_rules : List Str := ["self", "rules"]
abbrev N1_Later_init : List Str := ["self", "world", "rules", "copies", "request", "names", "told"]
abbrev p1_Later_init : List Str := ["self", "world", "rules", "copies"]
abbrev N1_Later_copies : List Str := ["self"]
abbrev p1_Later_copies : List Str := ["self"]
abbrev N1_World_headers : List Str := ["self"]
abbrev p1_World_headers : List Str := ["self"]
abbrev N1_World_value : List Str := ["self", "request", "name"]
abbrev p1_World_value : List Str := ["self", "request", "name"]
abbrev N1_World_alike : List Str := ["self", "one", "other", "names", "name"]
abbrev p1_World_alike : List Str := ["self", "one", "other", "names"]
abbrev N1_World_fits : List Str := ["self", "request", "tests", "name", "value"]
abbrev p1_World_fits : List Str := ["self", "request", "tests"]
abbrev N1_World_answer : List Str := ["self", "request", "tests", "told"]
abbrev p1_World_answer : List Str := ["self", "request"]
abbrev N1_World_requests : List Str := ["self"]
abbrev p1_World_requests : List Str := ["self"]
abbrev N1_Later_shown : List Str := ["self", "copy", "some", "request", "names", "told", "other"]
abbrev p1_Later_shown : List Str := ["self", "copy"]
abbrev N1_Later_right : List Str := ["self", "copy"]
abbrev p1_Later_right : List Str := ["self"]
abbrev N1_right : List Str := ["world", "rules", "copies"]
abbrev p1_right : List Str := ["world", "rules", "copies"]
abbrev N1_shows_wrong : List Str := ["world", "rules", "copy", "later"]
abbrev p1_shows_wrong : List Str := ["world", "rules", "copy"]
abbrev N1__law_right : List Str := ["_law_box_here", "_law_shelf_so", "_law_turn", "_law_copies_so", "_law_said", "_law_world_so", "_law_odd", "_law_due", "_law_hard", "_law_told_so", "_law_k", "_law_three", "_law_rules_so", "_law_own"]
abbrev p1__law_right : List Str := ["_law_box_here"]
abbrev N1_law : List Str := ["_law_script", "_law_cells_here", "_law_k", "_law_box_here", "_law_turn"]
abbrev p1_law : List Str := ["_law_script"]
def df__law_box : He.DefD := ⟨("_law_box", none), "_law_box", "_law_box", defArgs s__law_box, defBody s__law_box, defScope s__law_box, [], []⟩
def df__law_cells : He.DefD := ⟨("_law_cells", none), "_law_cells", "_law_cells", defArgs s__law_cells, defBody s__law_cells, defScope s__law_cells, [], []⟩
def df__law_names : He.DefD := ⟨("_law_names", none), "_law_names", "_law_names", defArgs s__law_names, defBody s__law_names, defScope s__law_names, [], []⟩
def df__law_value : He.DefD := ⟨("_law_value", none), "_law_value", "_law_value", defArgs s__law_value, defBody s__law_value, defScope s__law_value, [], []⟩
def df__law_fits : He.DefD := ⟨("_law_fits", none), "_law_fits", "_law_fits", defArgs s__law_fits, defBody s__law_fits, defScope s__law_fits, [], []⟩
def df__law_answer : He.DefD := ⟨("_law_answer", none), "_law_answer", "_law_answer", defArgs s__law_answer, defBody s__law_answer, defScope s__law_answer, [], []⟩
def df__law_requests : He.DefD := ⟨("_law_requests", none), "_law_requests", "_law_requests", defArgs s__law_requests, defBody s__law_requests, defScope s__law_requests, [], []⟩
def df__law_answers : He.DefD := ⟨("_law_answers", none), "_law_answers", "_law_answers", defArgs s__law_answers, defBody s__law_answers, defScope s__law_answers, [], []⟩
def df__law_looked : He.DefD := ⟨("_law_looked", none), "_law_looked", "_law_looked", defArgs s__law_looked, defBody s__law_looked, defScope s__law_looked, [], []⟩
def df__law_take : He.DefD := ⟨("_law_take", none), "_law_take", "_law_take", defArgs s__law_take, defBody s__law_take, defScope s__law_take, [], []⟩
def df__law_of : He.DefD := ⟨("_law_of", none), "_law_of", "_law_of", defArgs s__law_of, defBody s__law_of, defScope s__law_of, [], []⟩
def df__law_pick : He.DefD := ⟨("_law_pick", none), "_law_pick", "_law_pick", defArgs s__law_pick, defBody s__law_pick, defScope s__law_pick, [], []⟩
def df__law_copies : He.DefD := ⟨("_law_copies", none), "_law_copies", "_law_copies", defArgs s__law_copies, defBody s__law_copies, defScope s__law_copies, [], []⟩
def df__law_shown : He.DefD := ⟨("_law_shown", none), "_law_shown", "_law_shown", defArgs s__law_shown, defBody s__law_shown, defScope s__law_shown, [], []⟩
def df__law_fine : He.DefD := ⟨("_law_fine", none), "_law_fine", "_law_fine", defArgs s__law_fine, defBody s__law_fine, defScope s__law_fine, [], []⟩
def df__law_lists : He.DefD := ⟨("_law_lists", none), "_law_lists", "_law_lists", defArgs s__law_lists, defBody s__law_lists, defScope s__law_lists, [], []⟩
def df__law_rules : He.DefD := ⟨("_law_rules", none), "_law_rules", "_law_rules", defArgs s__law_rules, defBody s__law_rules, defScope s__law_rules, [], []⟩
def df__law_same : He.DefD := ⟨("_law_same", none), "_law_same", "_law_same", defArgs s__law_same, defBody s__law_same, defScope s__law_same, [], []⟩
def df__law_world : He.DefD := ⟨("_law_world", none), "_law_world", "_law_world", defArgs s__law_world, defBody s__law_world, defScope s__law_world, [], []⟩
def df_tupled : He.DefD := ⟨("tupled", none), "tupled", "tupled", defArgs s_tupled, defBody s_tupled, defScope s_tupled, [], []⟩
def df_World_init : He.DefD := ⟨("World", some "__init__"), "__init__", "World.__init__", defArgs s_World_init, defBody s_World_init, defScope s_World_init, [], []⟩
def df_World_check : He.DefD := ⟨("World", some "check"), "check", "World.check", defArgs s_World_check, defBody s_World_check, defScope s_World_check, [], []⟩
def df_World_header_pairs : He.DefD := ⟨("World", some "header_pairs"), "header_pairs", "World.header_pairs", defArgs s_World_header_pairs, defBody s_World_header_pairs, defScope s_World_header_pairs, [], []⟩
def df_World_with_rules : He.DefD := ⟨("World", some "with_rules"), "with_rules", "World.with_rules", defArgs s_World_with_rules, defBody s_World_with_rules, defScope s_World_with_rules, [], []⟩
def df_Later_init : He.DefD := ⟨("Later", some "__init__"), "__init__", "Later.__init__", defArgs s_Later_init, defBody s_Later_init, defScope s_Later_init, [], []⟩
def df_Later_copies : He.DefD := ⟨("Later", some "copies"), "copies", "Later.copies", defArgs s_Later_copies, defBody s_Later_copies, defScope s_Later_copies, [], []⟩
def df_World_headers : He.DefD := ⟨("World", some "headers"), "headers", "World.headers", defArgs s_World_headers, defBody s_World_headers, defScope s_World_headers, [], []⟩
def df_World_value : He.DefD := ⟨("World", some "value"), "value", "World.value", defArgs s_World_value, defBody s_World_value, defScope s_World_value, [], []⟩
def df_World_alike : He.DefD := ⟨("World", some "alike"), "alike", "World.alike", defArgs s_World_alike, defBody s_World_alike, defScope s_World_alike, [], []⟩
def df_World_fits : He.DefD := ⟨("World", some "fits"), "fits", "World.fits", defArgs s_World_fits, defBody s_World_fits, defScope s_World_fits, [], []⟩
def df_World_answer : He.DefD := ⟨("World", some "answer"), "answer", "World.answer", defArgs s_World_answer, defBody s_World_answer, defScope s_World_answer, [], []⟩
def df_World_requests : He.DefD := ⟨("World", some "requests"), "requests", "World.requests", defArgs s_World_requests, defBody s_World_requests, defScope s_World_requests, [], []⟩
def df_Later_shown : He.DefD := ⟨("Later", some "shown"), "shown", "Later.shown", defArgs s_Later_shown, defBody s_Later_shown, defScope s_Later_shown, [], []⟩
def df_Later_right : He.DefD := ⟨("Later", some "right"), "right", "Later.right", defArgs s_Later_right, defBody s_Later_right, defScope s_Later_right, [], []⟩
def df_right : He.DefD := ⟨("right", none), "right", "right", defArgs s_right, defBody s_right, defScope s_right, [], []⟩
def df_shows_wrong : He.DefD := ⟨("shows_wrong", none), "shows_wrong", "shows_wrong", defArgs s_shows_wrong, defBody s_shows_wrong, defScope s_shows_wrong, [], []⟩
def df__law_right : He.DefD := ⟨("_law_right", none), "_law_right", "_law_right", defArgs s__law_right, defBody s__law_right, defScope s__law_right, [], []⟩
def df_law : He.DefD := ⟨("law", none), "law", "law", defArgs s_law, defBody s_law, defScope s_law, [], []⟩
def fn : List He.DefD := [df__law_box, df__law_cells, df__law_names, df__law_value, df__law_fits, df__law_answer, df__law_requests, df__law_answers, df__law_looked, df__law_take, df__law_of, df__law_pick, df__law_copies, df__law_shown, df__law_fine, df__law_lists, df__law_rules, df__law_same, df__law_world, df_tupled, df_World_init, df_World_check, df_World_header_pairs, df_World_with_rules, df_Later_init, df_Later_copies, df_World_headers, df_World_value, df_World_alike, df_World_fits, df_World_answer, df_World_requests, df_Later_shown, df_Later_right, df_right, df_shows_wrong, df__law_right, df_law]
def fa : List He.Fa := [.glo "_law_cells", .free "range", .free "len", .glo "_law_box", .glo "_law_right", .free "all", .free "int", .free "abs", .free "list", .free "enumerate", .glo "_law_of", .glo "_law_world", .glo "_law_rules", .glo "_law_take", .glo "_law_copies", .glo "_law_fine", .glo "right", .glo "_law_lists", .glo "_law_same", .glo "shows_wrong", .glo "_law_answers", .glo "_law_looked", .glo "_law_names", .glo "_law_pick", .free "sorted", .free "tuple", .glo "_law_requests", .glo "_law_answer", .glo "_law_fits", .glo "_law_value", .free "set", .free "min", .glo "_law_shown", .free "isinstance", .free "zip", .free "dict", .free "bool", .free "str", .mkr "Later", .glo "Later", .meth "Later" "right", .mkr "World", .glo "World", .meth "World" "with_rules", .glo "tupled", .meth "World" "check", .str "NOTHING" "", .meth "World" "header_pairs", .meth "Later" "copies", .meth "Later" "shown", .meth "World" "requests", .meth "World" "alike", .meth "World" "answer", .free "next", .meth "World" "value", .meth "World" "headers", .meth "World" "fits", .glo "law"]
def tf : List He.Defn := [("Later", some "shown"), ("World", some "answer")]
def tn : List Str := ["", ""]
abbrev tabs (K : PySem.W.Frag) : List (Addr × Str) := (tf.zip tn).map fun p => ((He.cT K p.1).2, p.2)
def exs (K : PySem.W.Frag) : List Bool := [sclsB K (He.ga K "Later"), sclsB K (He.ga K "World"), slotB K (He.ga K "Later") "own_world" 1, slotB K (He.ga K "Later") "own_copies" 0, slotB K (He.ga K "World") "own_rules" 1, slotB K (He.ga K "World") "own_values" 2, slotB K (He.ga K "World") "own_requests" 0, oneTB (tabs K)]
def ex (K : PySem.W.Frag) : Bool := (exs K).all id
abbrev Gx (w : World) (K : PySem.W.Frag) (mg : Str → Option Value) (base : Heap) : Prop := GFx fa fn tf exs w K mg base
def names : List Str := (["_wall", "NoRequest", "tupled", "NOTHING", "World", "Later", "right", "shows_wrong", "_law_box", "_law_take", "_law_cells", "_law_of", "_law_lists", "_law_same", "_law_pick", "_law_world", "_law_requests", "_law_names", "_law_value", "_law_fits"] : List Str) ++ (["_law_answer", "_law_looked", "_law_answers", "_law_shown", "_law_rules", "_law_copies", "_law_fine", "_law_right"] : List Str)
theorem sc__law_box : FnScope N1__law_box p1__law_box (defScope s__law_box) := C8.fnScope_by (by decide +kernel)
theorem len__law_box : ∀ ds S Q E, sp__law_box ds S Q E → ds.length = p1__law_box.length := fun _ _ _ _ h => by
  unfold sp__law_box at h; repeat' (first | refine Or.elim h (fun h => ?_) (fun h => ?_) | obtain ⟨_, h⟩ := h)
  all_goals (subst_vars; rfl)
theorem fn__law_box {P : Program} {w : World} {K : PySem.W.Frag} {mg : Str → Option Value} {base : Heap} (G : Gx w K mg base) : FN P w K mg base C8.CX0 (tabs K) 1 (He.fAd K ("_law_box", none)) (defArgs s__law_box) p1__law_box (sp__law_box) := by
    obtain ⟨fd, FD⟩ := G.def_ 0 (d := df__law_box) rfl
    have m_len : mg "len" = none := G.free 2
    have m_int : mg "int" = none := G.free 6
    have m_abs : mg "abs" = none := G.free 7
    refine fn_def0 (p := ("_law_box", none)) (k := 0) FD sc__law_box (fun _ _ _ _ _ _ us hl => match us, hl with | [_, _], _ => rfl) len__law_box fun A outer s H E io hr => ⟨d__law_box, ?_, v__law_box⟩
    have sc := sc__law_box
    exact ss_cons (sset 2 sc.nd (q_ifE (q_cmpT op_lt (simI0 fun _ _ _ _ _ => rfl) (qv 1) (q_callB (sim_len rfl) call_len rfl m_len (by decide +kernel) (a_cons (qv 0) (a_nil))) rfl) (q_ix rfl (qv 0) (qv 1)) (q_int)))
          (ss_one (s_ret (q_lst (a_cons (q_op op_mul (simI fun _ _ _ _ _ => rfl) (q_callB sim_abs call_abs rfl m_abs (by decide +kernel) (a_cons (qv 2) (a_nil))) (q_callTy sim_int call_int1 rfl m_int (by decide +kernel) (a_cons (q_cmp op_ge (simI0 fun _ _ _ _ _ => rfl) (q_callB sim_abs call_abs rfl m_abs (by decide +kernel) (a_cons (qv 2) (a_nil))) (q_op op_pow (simI fun _ _ _ _ _ => rfl) (q_int) (q_int)) rfl) (a_nil)))) (a_cons (q_op op_add (simI0 fun _ _ _ _ _ => rfl) (q_op op_add (simI0 fun _ _ _ _ _ => rfl) (q_op op_mod (simI fun _ _ _ _ _ => rfl) (q_callTy sim_int call_int1 rfl m_int (by decide +kernel) (a_cons (qv 2) (a_nil))) (q_int)) (q_op op_mul (simI fun _ _ _ _ _ => rfl) (q_int) (qv 1))) (q_int)) (a_cons (q_int) (a_nil)))))))

theorem sc__law_cells : FnScope N1__law_cells p1__law_cells (defScope s__law_cells) := C8.fnScope_by (by decide +kernel)
theorem len__law_cells : ∀ ds S Q E, sp__law_cells ds S Q E → ds.length = p1__law_cells.length := fun _ _ _ _ h => by
  unfold sp__law_cells at h; repeat' (first | refine Or.elim h (fun h => ?_) (fun h => ?_) | obtain ⟨_, h⟩ := h)
  all_goals (subst_vars; rfl)
theorem fn__law_cells {P : Program} {w : World} {K : PySem.W.Frag} {mg : Str → Option Value} {base : Heap} (G : Gx w K mg base) : FN P w K mg base C8.CX0 (tabs K) 1 (He.fAd K ("_law_cells", none)) (defArgs s__law_cells) p1__law_cells (sp__law_cells) := by
    obtain ⟨fd, FD⟩ := G.def_ 1 (d := df__law_cells) rfl
    have m_list : mg "list" = none := G.free 8
    have m_enumerate : mg "enumerate" = none := G.free 9
    have m_int : mg "int" = none := G.free 6
    refine fn_def0 (p := ("_law_cells", none)) (k := 0) FD sc__law_cells (fun _ _ _ _ _ _ us hl => match us, hl with | [_, _], _ => rfl) len__law_cells fun A outer s H E io hr => ⟨d__law_cells, ?_, v__law_cells⟩
    have sc := sc__law_cells
    exact ss_cons (sset 2 sc.nd (q_orT rfl (q_callTy (sim_list rfl) call_list_of rfl m_list (by decide +kernel) (a_cons (q_slice rfl (qv 0) (o_none) (o_some (qv 1))) (a_nil))) (q_one (q_lst (a_cons (q_int) (a_nil))))))
          (ss_cons (q_for rfl PassesOwn.never rfl (q_enum rfl rfl m_enumerate (a_cons (q_slice rfl (qv 0) (o_some (qv 1)) (o_some (q_int))) (a_nil))) (pg_tup rfl (pgs_cons (gnm 3 sc.nd) (pgs_cons (gnm 4 sc.nd) (pgs_nil)))) (ss_cons (sset 5 sc.nd (q_op op_mod (simI fun _ _ _ _ _ => rfl) (q_callTy sim_int call_int1 rfl m_int (by decide +kernel) (a_cons (qv 3) (a_nil))) (qv 1)))
          (ss_one (s_asg (q_op op_add (simI0 fun _ _ _ _ _ => rfl) (q_ix rfl (qv 2) (qv 5)) (q_op op_mul (simI fun _ _ _ _ _ => rfl) (qv 4) (q_op op_add (simI0 fun _ _ _ _ _ => rfl) (qv 3) (q_int)))) (g_sub (qv 2) (qv 5))))))
          (ss_one (s_ret (qv 2))))

theorem sc__law_names : FnScope N1__law_names p1__law_names (defScope s__law_names) := C8.fnScope_by (by decide +kernel)
theorem len__law_names : ∀ ds S Q E, sp__law_names ds S Q E → ds.length = p1__law_names.length := fun _ _ _ _ h => by
  unfold sp__law_names at h; repeat' (first | refine Or.elim h (fun h => ?_) (fun h => ?_) | obtain ⟨_, h⟩ := h)
  all_goals (subst_vars; rfl)
theorem fn__law_names {P : Program} {w : World} {K : PySem.W.Frag} {mg : Str → Option Value} {base : Heap} (G : Gx w K mg base) : FN P w K mg base C8.CX0 (tabs K) 1 (He.fAd K ("_law_names", none)) (defArgs s__law_names) p1__law_names (sp__law_names) := by
    obtain ⟨fd, FD⟩ := G.def_ 2 (d := df__law_names) rfl
    refine fn_def0 (p := ("_law_names", none)) (k := 0) FD sc__law_names (fun _ _ _ _ _ _ us hl => match us, hl with | [_], _ => rfl) len__law_names fun A outer s H E io hr => ⟨d__law_names, ?_, v__law_names⟩
    have sc := sc__law_names
    exact ss_one (s_ret (q_frz (q_lc (own := [("_law_row_so", 1)]) rfl rfl sc.nd (q_iSeq rfl (q_ix rfl (qv 0) (q_int))) (blkOk_by (by kernel_rfl)) (by simp [Tg.in_]) (fun _ _ _ _ _ => gnm 1 sc.nd) (fun _ _ _ _ _ => q_noif) (fun _ _ _ _ _ => q_ix rfl (qv 1) (q_int)))))

theorem sc__law_value : FnScope N1__law_value p1__law_value (defScope s__law_value) := C8.fnScope_by (by decide +kernel)
theorem len__law_value : ∀ ds S Q E, sp__law_value ds S Q E → ds.length = p1__law_value.length := fun _ _ _ _ h => by
  unfold sp__law_value at h; repeat' (first | refine Or.elim h (fun h => ?_) (fun h => ?_) | obtain ⟨_, h⟩ := h)
  all_goals (subst_vars; rfl)
theorem fn__law_value {P : Program} {w : World} {K : PySem.W.Frag} {mg : Str → Option Value} {base : Heap} (G : Gx w K mg base) : FN P w K mg base C8.CX0 (tabs K) 2 (He.fAd K ("_law_value", none)) (defArgs s__law_value) p1__law_value (sp__law_value) := by
    obtain ⟨fd, FD⟩ := G.def_ 3 (d := df__law_value) rfl
    have m__law_names : mg "_law_names" = some (.ref (He.ga K "_law_names")) := G.glo 22
    refine fn_def0 (p := ("_law_value", none)) (k := 1) FD sc__law_value (fun _ _ _ _ _ _ us hl => match us, hl with | [_, _, _], _ => rfl) len__law_value fun A outer s H E io hr => ⟨d__law_value, ?_, v__law_value⟩
    have sc := sc__law_value
    exact ss_one (s_ret (q_ix rfl (qv 1) (q_bm rfl (sim_index rfl) PySem.F.plainAttrs_list PySem.F.slot_list_index PySem.F.type_list_index (mt_indexD (units65 hr)) (q_call (E := C8.E0) rfl ((fn__law_names G).mono (by omega)) hr rfl m__law_names C8.pass0 (exOk_no _ _) (a_cons (qv 0) (a_nil))) (a_cons (qv 2) (a_nil)))))

theorem sc__law_fits : FnScope N1__law_fits p1__law_fits (defScope s__law_fits) := C8.fnScope_by (by decide +kernel)
theorem len__law_fits : ∀ ds S Q E, sp__law_fits ds S Q E → ds.length = p1__law_fits.length := fun _ _ _ _ h => by
  unfold sp__law_fits at h; repeat' (first | refine Or.elim h (fun h => ?_) (fun h => ?_) | obtain ⟨_, h⟩ := h)
  all_goals (subst_vars; rfl)
theorem fn__law_fits {P : Program} {w : World} {K : PySem.W.Frag} {mg : Str → Option Value} {base : Heap} (G : Gx w K mg base) : FN P w K mg base C8.CX0 (tabs K) 3 (He.fAd K ("_law_fits", none)) (defArgs s__law_fits) p1__law_fits (sp__law_fits) := by
    obtain ⟨fd, FD⟩ := G.def_ 4 (d := df__law_fits) rfl
    have m__law_value : mg "_law_value" = some (.ref (He.ga K "_law_value")) := G.glo 29
    refine fn_def0 (p := ("_law_fits", none)) (k := 2) FD sc__law_fits (fun _ _ _ _ _ _ us hl => match us, hl with | [_, _, _], _ => rfl) len__law_fits fun A outer s H E io hr => ⟨d__law_fits, ?_, v__law_fits⟩
    have sc := sc__law_fits
    exact ss_one (s_ret (q_cmp (op_eqD hr.units) (sim_eqD rfl) (q_frz (q_lc (own := [("_law_own", 3)]) rfl rfl sc.nd (q_iSeq rfl (q_ix rfl (qv 2) (q_int))) (blkOk_by (by kernel_rfl)) (by simp [Tg.in_]) (fun _ _ _ _ _ => gnm 3 sc.nd) (fun _ _ _ _ _ => q_if1 (q_cmpT (op_neD hr.units) (sim_neD rfl) (q_call (E := C8.E0) rfl ((fn__law_value G).mono (by omega)) hr rfl m__law_value C8.pass0 (exOk_no _ _) (a_cons (qv 0) (a_cons (qv 1) (a_cons (q_ix rfl (qv 3) (q_int)) (a_nil))))) (q_ix rfl (qv 3) (q_int)) rfl)) (fun _ _ _ _ _ => qv 3))) (q_frz (q_lst (a_nil))) rfl))

theorem sc__law_answer : FnScope N1__law_answer p1__law_answer (defScope s__law_answer) := C8.fnScope_by (by decide +kernel)
theorem len__law_answer : ∀ ds S Q E, sp__law_answer ds S Q E → ds.length = p1__law_answer.length := fun _ _ _ _ h => by
  unfold sp__law_answer at h; repeat' (first | refine Or.elim h (fun h => ?_) (fun h => ?_) | obtain ⟨_, h⟩ := h)
  all_goals (subst_vars; rfl)
theorem fn__law_answer {P : Program} {w : World} {K : PySem.W.Frag} {mg : Str → Option Value} {base : Heap} (G : Gx w K mg base) : FN P w K mg base C8.CX0 (tabs K) 4 (He.fAd K ("_law_answer", none)) (defArgs s__law_answer) p1__law_answer (sp__law_answer) := by
    obtain ⟨fd, FD⟩ := G.def_ 5 (d := df__law_answer) rfl
    have m__law_fits : mg "_law_fits" = some (.ref (He.ga K "_law_fits")) := G.glo 28
    refine fn_def0 (p := ("_law_answer", none)) (k := 3) FD sc__law_answer (fun _ _ _ _ _ _ us hl => match us, hl with | [_, _], _ => rfl) len__law_answer fun A outer s H E io hr => ⟨d__law_answer, ?_, v__law_answer⟩
    have sc := sc__law_answer
    exact ss_one (s_ret (q_ix rfl (q_frz (q_op op_catR sim_addL (q_frz (q_lc (own := [("_law_rule", 2)]) rfl rfl sc.nd (q_iSeq rfl (q_ix rfl (qv 0) (q_int))) (blkOk_by (by kernel_rfl)) (by simp [Tg.in_]) (fun _ _ _ _ _ => gnm 2 sc.nd) (fun _ _ _ _ _ => q_if1 (q_val (q_call (E := C8.E0) rfl ((fn__law_fits G).mono (by omega)) hr rfl m__law_fits C8.pass0 (exOk_no _ _) (a_cons (qv 0) (a_cons (qv 1) (a_cons (qv 2) (a_nil))))))) (fun _ _ _ _ _ => q_ix rfl (qv 2) (q_int)))) (q_frz (q_lst (a_cons (q_str) (a_nil)))))) (q_int)))

theorem sc__law_requests : FnScope N1__law_requests p1__law_requests (defScope s__law_requests) := C8.fnScope_by (by decide +kernel)
theorem len__law_requests : ∀ ds S Q E, sp__law_requests ds S Q E → ds.length = p1__law_requests.length := fun _ _ _ _ h => by
  unfold sp__law_requests at h; repeat' (first | refine Or.elim h (fun h => ?_) (fun h => ?_) | obtain ⟨_, h⟩ := h)
  all_goals (subst_vars; rfl)
theorem fn__law_requests {P : Program} {w : World} {K : PySem.W.Frag} {mg : Str → Option Value} {base : Heap} (G : Gx w K mg base) : FN P w K mg base C8.CX0 (tabs K) 1 (He.fAd K ("_law_requests", none)) (defArgs s__law_requests) p1__law_requests (sp__law_requests) := by
    obtain ⟨fd, FD⟩ := G.def_ 6 (d := df__law_requests) rfl
    have m_list : mg "list" = none := G.free 8
    refine fn_def0 (p := ("_law_requests", none)) (k := 0) FD sc__law_requests (fun _ _ _ _ _ _ us hl => match us, hl with | [_], _ => rfl) len__law_requests fun A outer s H E io hr => ⟨d__law_requests, ?_, v__law_requests⟩
    have sc := sc__law_requests
    exact ss_cons (sset 1 sc.nd (q_frz (q_lst (a_cons (q_tup (a_nil)) (a_nil)))))
          (ss_cons (q_for rfl PassesOwn.never rfl (q_iSeq rfl (q_ix rfl (qv 0) (q_int))) (pg_tup rfl (pgs_cons (gnm 2 sc.nd) (pgs_cons (gnm 3 sc.nd) (pgs_nil)))) (ss_cons (sset 4 sc.nd (q_frz (q_lst (a_nil))))
          (ss_cons (q_for rfl PassesOwn.never rfl (q_iSeq rfl (qv 1)) (gnm 5 sc.nd) (ss_one (sset 4 sc.nd (q_frz (q_op op_catR sim_addL (qv 4) (q_frz (q_lc (own := [("_law_own", 6)]) rfl rfl sc.nd (q_iSeq rfl (q_op op_catA (sim_addT rfl) (q_tup (a_cons (q_str) (a_nil))) (qv 3))) (blkOk_by (by kernel_rfl)) (by simp [Tg.in_]) (fun _ _ _ _ _ => gnm 6 sc.nd) (fun _ _ _ _ _ => q_noif) (fun _ _ _ _ _ => q_op op_catA (sim_addT rfl) (qv 5) (q_tup (a_cons (qv 6) (a_nil)))))))))))
          (ss_one (sset 1 sc.nd (q_frz (q_callTy (sim_list rfl) call_list_of rfl m_list (by decide +kernel) (a_cons (qv 4) (a_nil)))))))))
          (ss_one (s_ret (qv 1))))

theorem sc__law_answers : FnScope N1__law_answers p1__law_answers (defScope s__law_answers) := C8.fnScope_by (by decide +kernel)
theorem len__law_answers : ∀ ds S Q E, sp__law_answers ds S Q E → ds.length = p1__law_answers.length := fun _ _ _ _ h => by
  unfold sp__law_answers at h; repeat' (first | refine Or.elim h (fun h => ?_) (fun h => ?_) | obtain ⟨_, h⟩ := h)
  all_goals (subst_vars; rfl)
theorem fn__law_answers {P : Program} {w : World} {K : PySem.W.Frag} {mg : Str → Option Value} {base : Heap} (G : Gx w K mg base) : FN P w K mg base C8.CX0 (tabs K) 5 (He.fAd K ("_law_answers", none)) (defArgs s__law_answers) p1__law_answers (sp__law_answers) := by
    obtain ⟨fd, FD⟩ := G.def_ 7 (d := df__law_answers) rfl
    have m__law_requests : mg "_law_requests" = some (.ref (He.ga K "_law_requests")) := G.glo 26
    have m__law_answer : mg "_law_answer" = some (.ref (He.ga K "_law_answer")) := G.glo 27
    refine fn_def0 (p := ("_law_answers", none)) (k := 4) FD sc__law_answers (fun _ _ _ _ _ _ us hl => match us, hl with | [_], _ => rfl) len__law_answers fun A outer s H E io hr => ⟨d__law_answers, ?_, v__law_answers⟩
    have sc := sc__law_answers
    exact ss_one (s_ret (q_fzL (q_lc (own := [("_law_own", 1)]) rfl rfl sc.nd (QI.mc (q_iSeq rfl (q_call (E := C8.E0) rfl ((fn__law_requests G).mono (by omega)) hr rfl m__law_requests C8.pass0 (exOk_no _ _) (a_cons (qv 0) (a_nil))))) (blkOk_by (by kernel_rfl)) (by simp [Tg.in_]) (fun _ _ _ _ _ => gnm 1 sc.nd) (fun _ _ _ _ _ => QTs.mc (q_noif)) (fun _ _ _ _ _ => QE.mc (q_tup (a_cons (qv 1) (a_cons (q_call (E := C8.E0) rfl ((fn__law_answer G).mono (by omega)) hr rfl m__law_answer C8.pass0 (exOk_no _ _) (a_cons (qv 0) (a_cons (qv 1) (a_nil)))) (a_nil))))))))

theorem sc__law_looked : FnScope N1__law_looked p1__law_looked (defScope s__law_looked) := C8.fnScope_by (by decide +kernel)
theorem len__law_looked : ∀ ds S Q E, sp__law_looked ds S Q E → ds.length = p1__law_looked.length := fun _ _ _ _ h => by
  unfold sp__law_looked at h; repeat' (first | refine Or.elim h (fun h => ?_) (fun h => ?_) | obtain ⟨_, h⟩ := h)
  all_goals (subst_vars; rfl)
theorem fn__law_looked {P : Program} {w : World} {K : PySem.W.Frag} {mg : Str → Option Value} {base : Heap} (G : Gx w K mg base) : FN P w K mg base C8.CX0 (tabs K) 3 (He.fAd K ("_law_looked", none)) (defArgs s__law_looked) p1__law_looked (sp__law_looked) := by
    obtain ⟨fd, FD⟩ := G.def_ 8 (d := df__law_looked) rfl
    have m__law_value : mg "_law_value" = some (.ref (He.ga K "_law_value")) := G.glo 29
    have m_sorted : mg "sorted" = none := G.free 24
    have m_set : mg "set" = none := G.free 30
    have m_tuple : mg "tuple" = none := G.free 25
    refine fn_def0 (p := ("_law_looked", none)) (k := 2) FD sc__law_looked (fun _ _ _ _ _ _ us hl => match us, hl with | [_, _], _ => rfl) len__law_looked fun A outer s H E io hr => ⟨d__law_looked, ?_, v__law_looked⟩
    have sc := sc__law_looked
    exact ss_cons (s_par (i := 3) (j := 4) rfl sc.nd rfl rfl (by decide) rfl rfl (a_cons (q_lst (a_nil)) (a_cons (q_bl) (a_nil))) (by kernel_rfl))
          (ss_cons (q_for rfl PassesOwn.never rfl (q_iSeq rfl (q_ix rfl (qv 0) (q_int))) (gnm 2 sc.nd) (ss_cons (sset 5 sc.nd (qv 4))
          (ss_cons (q_for rfl PassesOwn.never rfl (q_iSeq rfl (q_ix rfl (qv 2) (q_int))) (pg_tup rfl (pgs_cons (gnm 6 sc.nd) (pgs_cons (gnm 7 sc.nd) (pgs_nil)))) (ss_one (s_if (q_truth rfl (qv 5)) (ss_cons (s_expr (q_bm rfl sim_append PySem.F.plainAttrs_list PySem.F.slot_list_append PySem.F.type_list_append mt_append (qv 3) (a_cons (qv 6) (a_nil))))
          (ss_one (sset 5 sc.nd (q_cmp (op_eqD hr.units) (sim_eqD rfl) (q_call (E := C8.E0) rfl ((fn__law_value G).mono (by omega)) hr rfl m__law_value C8.pass0 (exOk_no _ _) (a_cons (qv 0) (a_cons (qv 1) (a_cons (qv 6) (a_nil))))) (qv 7) rfl)))) (ss_nil))))
          (ss_one (sset 4 sc.nd (q_and (qv 4) (q_one (q_notV (qv 5)))))))))
          (ss_one (s_ret (q_callTy (sim_tuple rfl) call_tuple_of rfl m_tuple (by decide +kernel) (a_cons (q_frzSet (q_sortSet rfl rfl rfl m_sorted rfl m_set (QE.mc (qv 3)))) (a_nil))))))

theorem sc__law_take : FnScope N1__law_take p1__law_take (defScope s__law_take) := C8.fnScope_by (by decide +kernel)
theorem len__law_take : ∀ ds S Q E, sp__law_take ds S Q E → ds.length = p1__law_take.length := fun _ _ _ _ h => by
  unfold sp__law_take at h; repeat' (first | refine Or.elim h (fun h => ?_) (fun h => ?_) | obtain ⟨_, h⟩ := h)
  all_goals (subst_vars; rfl)
theorem fn__law_take {P : Program} {w : World} {K : PySem.W.Frag} {mg : Str → Option Value} {base : Heap} (G : Gx w K mg base) : FN P w K mg base C8.CX0 (tabs K) 1 (He.fAd K ("_law_take", none)) (defArgs s__law_take) p1__law_take (sp__law_take) := by
    obtain ⟨fd, FD⟩ := G.def_ 9 (d := df__law_take) rfl
    have m_int : mg "int" = none := G.free 6
    refine fn_def0 (p := ("_law_take", none)) (k := 0) FD sc__law_take (fun _ _ _ _ _ _ us hl => match us, hl with | [_, _], _ => rfl) len__law_take fun A outer s H E io hr => ⟨d__law_take, ?_, v__law_take⟩
    have sc := sc__law_take
    exact ss_cons (s_if (q_cmpT op_gt (simI0 fun _ _ _ _ _ => rfl) (q_ix rfl (qv 0) (q_int)) (q_int) rfl) (ss_cons (sset 5 sc.nd (q_op op_mod (simI fun _ _ _ _ _ => rfl) (q_callTy sim_int call_int1 rfl m_int (by decide +kernel) (a_cons (q_ix rfl (qv 0) (q_int)) (a_nil))) (qv 1)))
          (ss_cons (s_asg (q_op op_fdiv (simI fun _ _ _ _ _ => rfl) (q_ix rfl (qv 0) (q_int)) (qv 1)) (g_sub (qv 0) (q_int)))
          (ss_one (s_ret (qv 5))))) (ss_nil))
          (ss_cons (s_asg (q_op op_add (simI0 fun _ _ _ _ _ => rfl) (q_ix rfl (qv 0) (q_int)) (q_int)) (g_sub (qv 0) (q_int)))
          (ss_cons (sset 2 sc.nd (q_op op_mod (simI fun _ _ _ _ _ => rfl) (q_callTy sim_int call_int1 rfl m_int (by decide +kernel) (a_cons (q_op op_mul (simI fun _ _ _ _ _ => rfl) (q_op op_add (simI0 fun _ _ _ _ _ => rfl) (q_ix rfl (qv 0) (q_int)) (q_op op_mul (simI fun _ _ _ _ _ => rfl) (q_int) (q_ix rfl (qv 0) (q_int)))) (q_op op_add (simI0 fun _ _ _ _ _ => rfl) (q_int) (q_ix rfl (qv 0) (q_int)))) (a_nil))) (q_int)))
          (ss_cons (sset 3 sc.nd (q_op op_add (simI0 fun _ _ _ _ _ => rfl) (q_op op_mod (simI fun _ _ _ _ _ => rfl) (q_callTy sim_int call_int1 rfl m_int (by decide +kernel) (a_cons (qv 2) (a_nil))) (q_int)) (q_int)))
          (ss_cons (sset 4 sc.nd (q_op op_mod (simI fun _ _ _ _ _ => rfl) (q_callTy sim_int call_int1 rfl m_int (by decide +kernel) (a_cons (q_op op_mul (simI fun _ _ _ _ _ => rfl) (q_op op_add (simI0 fun _ _ _ _ _ => rfl) (q_op op_add (simI0 fun _ _ _ _ _ => rfl) (qv 2) (q_ix rfl (qv 0) (q_int))) (q_op op_fdiv (simI fun _ _ _ _ _ => rfl) (q_ix rfl (qv 0) (q_int)) (q_int))) (qv 3)) (a_nil))) (q_int)))
          (ss_one (s_ret (q_op op_mod (simI fun _ _ _ _ _ => rfl) (q_callTy sim_int call_int1 rfl m_int (by decide +kernel) (a_cons (q_op op_fdiv (simI fun _ _ _ _ _ => rfl) (q_op op_mod (simI fun _ _ _ _ _ => rfl) (q_callTy sim_int call_int1 rfl m_int (by decide +kernel) (a_cons (q_op op_add (simI0 fun _ _ _ _ _ => rfl) (q_op op_mul (simI fun _ _ _ _ _ => rfl) (qv 4) (q_int)) (qv 2)) (a_nil))) (q_int)) (q_int)) (a_nil))) (qv 1))))))))

theorem sc__law_of : FnScope N1__law_of p1__law_of (defScope s__law_of) := C8.fnScope_by (by decide +kernel)
theorem len__law_of : ∀ ds S Q E, sp__law_of ds S Q E → ds.length = p1__law_of.length := fun _ _ _ _ h => by
  unfold sp__law_of at h; repeat' (first | refine Or.elim h (fun h => ?_) (fun h => ?_) | obtain ⟨_, h⟩ := h)
  all_goals (subst_vars; rfl)
theorem fn__law_of {P : Program} {w : World} {K : PySem.W.Frag} {mg : Str → Option Value} {base : Heap} (G : Gx w K mg base) : FN P w K mg base C8.CX0 (tabs K) 2 (He.fAd K ("_law_of", none)) (defArgs s__law_of) p1__law_of (sp__law_of) := by
    obtain ⟨fd, FD⟩ := G.def_ 10 (d := df__law_of) rfl
    have m_len : mg "len" = none := G.free 2
    have m__law_take : mg "_law_take" = some (.ref (He.ga K "_law_take")) := G.glo 13
    refine fn_def0 (p := ("_law_of", none)) (k := 1) FD sc__law_of (fun _ _ _ _ _ _ us hl => match us, hl with | [_, _], _ => rfl) len__law_of fun A outer s H E io hr => ⟨d__law_of, ?_, v__law_of⟩
    have sc := sc__law_of
    exact ss_one (s_ret (q_ix rfl (qv 1) (q_call (E := C8.E0) rfl ((fn__law_take G).mono (by omega)) hr rfl m__law_take C8.pass0 (exOk_no _ _) (a_cons (qv 0) (a_cons (q_callB (sim_len rfl) call_len rfl m_len (by decide +kernel) (a_cons (qv 1) (a_nil))) (a_nil))))))

theorem sc__law_pick : FnScope N1__law_pick p1__law_pick (defScope s__law_pick) := C8.fnScope_by (by decide +kernel)
theorem len__law_pick : ∀ ds S Q E, sp__law_pick ds S Q E → ds.length = p1__law_pick.length := fun _ _ _ _ h => by
  unfold sp__law_pick at h; repeat' (first | refine Or.elim h (fun h => ?_) (fun h => ?_) | obtain ⟨_, h⟩ := h)
  all_goals (subst_vars; rfl)
theorem fn__law_pick {P : Program} {w : World} {K : PySem.W.Frag} {mg : Str → Option Value} {base : Heap} (G : Gx w K mg base) : FN P w K mg base C8.CX0 (tabs K) 2 (He.fAd K ("_law_pick", none)) (defArgs s__law_pick) p1__law_pick (sp__law_pick) := by
    obtain ⟨fd, FD⟩ := G.def_ 11 (d := df__law_pick) rfl
    have m_list : mg "list" = none := G.free 8
    have m_range : mg "range" = none := G.free 1
    have m_len : mg "len" = none := G.free 2
    have m_min : mg "min" = none := G.free 31
    have m__law_take : mg "_law_take" = some (.ref (He.ga K "_law_take")) := G.glo 13
    refine fn_def0 (p := ("_law_pick", none)) (k := 1) FD sc__law_pick (fun _ _ _ _ _ _ us hl => match us, hl with | [_, _, _], _ => rfl) len__law_pick fun A outer s H E io hr => ⟨d__law_pick, ?_, v__law_pick⟩
    have sc := sc__law_pick
    exact ss_cons (s_par (i := 4) (j := 5) rfl sc.nd rfl rfl (by decide) rfl rfl (a_cons (q_callTy (sim_list rfl) call_list_of rfl m_list (by decide +kernel) (a_cons (qv 1) (a_nil))) (a_cons (q_lst (a_nil)) (a_nil))) (by kernel_rfl))
          (ss_cons (q_for rfl PassesOwn.never rfl (q_range1 rfl m_range (a_cons (q_callB sim_min2 (call_min2 rfl) rfl m_min (by decide +kernel) (a_cons (qv 2) (a_cons (q_callB (sim_len rfl) call_len rfl m_len (by decide +kernel) (a_cons (qv 4) (a_nil))) (a_nil)))) (a_nil))) (gnm 3 sc.nd) (ss_one (s_expr (q_bm rfl sim_append PySem.F.plainAttrs_list PySem.F.slot_list_append PySem.F.type_list_append mt_append (qv 5) (a_cons (q_bm rfl sim_popAt PySem.F.plainAttrs_list PySem.F.slot_list_pop PySem.F.type_list_pop mt_popAt (qv 4) (a_cons (q_call (E := C8.E0) rfl ((fn__law_take G).mono (by omega)) hr rfl m__law_take C8.pass0 (exOk_no _ _) (a_cons (qv 0) (a_cons (q_callB (sim_len rfl) call_len rfl m_len (by decide +kernel) (a_cons (qv 4) (a_nil))) (a_nil)))) (a_nil))) (a_nil))))))
          (ss_one (s_ret (qv 5))))

theorem sc__law_copies : FnScope N1__law_copies p1__law_copies (defScope s__law_copies) := C8.fnScope_by (by decide +kernel)
theorem len__law_copies : ∀ ds S Q E, sp__law_copies_k45 ds S Q E → ds.length = p1__law_copies.length := fun _ _ _ _ h => by
  unfold sp__law_copies_k45 at h; repeat' (first | refine Or.elim h (fun h => ?_) (fun h => ?_) | obtain ⟨_, h⟩ := h)
  all_goals (subst_vars; rfl)
theorem fn__law_copies {P : Program} {w : World} {K : PySem.W.Frag} {mg : Str → Option Value} {base : Heap} (G : Gx w K mg base) : FN P w K mg base C8.CX0 (tabs K) 6 (He.fAd K ("_law_copies", none)) (defArgs s__law_copies) p1__law_copies (sp__law_copies_k45) := by
    obtain ⟨fd, FD⟩ := G.def_ 12 (d := df__law_copies) rfl
    have m__law_answers : mg "_law_answers" = some (.ref (He.ga K "_law_answers")) := G.glo 20
    have m_range : mg "range" = none := G.free 1
    have m__law_of : mg "_law_of" = some (.ref (He.ga K "_law_of")) := G.glo 10
    have m__law_looked : mg "_law_looked" = some (.ref (He.ga K "_law_looked")) := G.glo 21
    have m__law_take : mg "_law_take" = some (.ref (He.ga K "_law_take")) := G.glo 13
    have m__law_names : mg "_law_names" = some (.ref (He.ga K "_law_names")) := G.glo 22
    have m__law_pick : mg "_law_pick" = some (.ref (He.ga K "_law_pick")) := G.glo 23
    have m_sorted : mg "sorted" = none := G.free 24
    have m_tuple : mg "tuple" = none := G.free 25
    refine fn_def0 (p := ("_law_copies", none)) (k := 5) FD sc__law_copies (fun _ _ _ _ _ _ us hl => match us, hl with | [_, _, _], _ => rfl) len__law_copies fun A outer s H E io hr => ⟨d__law_copies_k45, ?_, v__law_copies_k45⟩
    have sc := sc__law_copies
    exact ss_cons (s_par (i := 4) (j := 5) rfl sc.nd rfl rfl (by decide) rfl rfl (a_cons (q_call (E := C8.E0) rfl ((fn__law_answers G).mono (by omega)) hr rfl m__law_answers C8.pass0 (exOk_no _ _) (a_cons (qv 1) (a_nil))) (a_cons (q_lst (a_nil)) (a_nil))) (by kernel_rfl))
          (ss_cons (q_for rfl PassesOwn.never rfl (q_range1 rfl m_range (a_cons (qv 2) (a_nil))) (gnm 3 sc.nd) (ss_cons (s_asg (q_call (E := C8.E0) rfl ((fn__law_of G).mono (by omega)) hr rfl m__law_of C8.pass0 (exOk_no _ _) (a_cons (qv 0) (a_cons (qv 4) (a_nil)))) (g_tup rfl rfl (gs_cons (gdnm 7 sc.nd) (gs_cons (gdnm 8 sc.nd) (gs_nil)))))
          (ss_cons (sset 6 sc.nd (q_call (E := C8.E0) rfl ((fn__law_looked G).mono (by omega)) hr rfl m__law_looked C8.pass0 (exOk_no _ _) (a_cons (qv 1) (a_cons (qv 7) (a_nil)))))
          (ss_cons (s_if (q_cmpT (op_eqD hr.units) (sim_eqD rfl) (q_call (E := C8.E0) rfl ((fn__law_take G).mono (by omega)) hr rfl m__law_take C8.pass0 (exOk_no _ _) (a_cons (qv 0) (a_cons (q_int) (a_nil)))) (q_int) rfl) (ss_one (sset 6 sc.nd (q_callTy (sim_tuple rfl) call_tuple_of rfl m_tuple (by decide +kernel) (a_cons (q_fzB fz_sortS (q_callB (sim_sortS rfl) cr_sortedS rfl m_sorted (by decide +kernel) (QA.mc (a_cons (q_call (E := C8.E0) rfl ((fn__law_pick G).mono (by omega)) hr rfl m__law_pick C8.pass0 (exOk_no _ _) (a_cons (qv 0) (a_cons (q_call (E := C8.E0) rfl ((fn__law_names G).mono (by omega)) hr rfl m__law_names C8.pass0 (exOk_no _ _) (a_cons (qv 1) (a_nil))) (a_cons (q_call (E := C8.E0) rfl ((fn__law_take G).mono (by omega)) hr rfl m__law_take C8.pass0 (exOk_no _ _) (a_cons (qv 0) (a_cons (q_int) (a_nil)))) (a_nil))))) (a_nil))))) (a_nil))))) (ss_nil))
          (ss_one (s_expr (q_bm rfl sim_append PySem.F.plainAttrs_list PySem.F.slot_list_append PySem.F.type_list_append mt_append (qv 5) (a_cons (q_tup (a_cons (qv 7) (a_cons (qv 6) (a_cons (q_call (E := C8.E0) rfl ((fn__law_of G).mono (by omega)) hr rfl m__law_of C8.pass0 (exOk_no _ _) (a_cons (qv 0) (a_cons (q_lstF (a_cons (qv 8) (a_cons (qv 8) (a_cons (qv 8) (a_cons (q_str) (a_nil)))))) (a_nil)))) (a_nil))))) (a_nil)))))))))
          (ss_one (s_ret (q_callTy (sim_tuple rfl) call_tuple_of rfl m_tuple (by decide +kernel) (a_cons (qv 5) (a_nil))))))

theorem sc__law_shown : FnScope N1__law_shown p1__law_shown (defScope s__law_shown) := C8.fnScope_by (by decide +kernel)
theorem len__law_shown : ∀ ds S Q E, sp__law_shown_k45 ds S Q E → ds.length = p1__law_shown.length := fun _ _ _ _ h => by
  unfold sp__law_shown_k45 at h; repeat' (first | refine Or.elim h (fun h => ?_) (fun h => ?_) | obtain ⟨_, h⟩ := h)
  all_goals (subst_vars; rfl)
theorem fn__law_shown {P : Program} {w : World} {K : PySem.W.Frag} {mg : Str → Option Value} {base : Heap} (G : Gx w K mg base) : FN P w K mg base C8.CX0 (tabs K) 2 (He.fAd K ("_law_shown", none)) (defArgs s__law_shown) p1__law_shown (sp__law_shown_k45) := by
    obtain ⟨fd, FD⟩ := G.def_ 13 (d := df__law_shown) rfl
    have m__law_names : mg "_law_names" = some (.ref (He.ga K "_law_names")) := G.glo 22
    refine fn_def0 (p := ("_law_shown", none)) (k := 1) FD sc__law_shown (fun _ _ _ _ _ _ us hl => match us, hl with | [_, _, _, _, _], _ => rfl) len__law_shown fun A outer s H E io hr => ⟨d__law_shown_k45, ?_, v__law_shown_k45⟩
    have sc := sc__law_shown
    exact ss_cons (s_fzL 5 (s_setLc (own := [("_law_own", 6)]) rfl rfl sc.nd rfl rfl (by kernel_rfl) (QI.mc (q_iSeq rfl (qv 3))) (blkOk_by (by kernel_rfl)) (by simp [Tg.in_]) (fun _ _ _ _ _ => gnm 6 sc.nd) (fun _ _ _ _ _ => QTs.mc (q_noif)) (fun _ _ _ _ _ => QE.mc (q_bm rfl (sim_index rfl) PySem.F.plainAttrs_list PySem.F.slot_list_index PySem.F.type_list_index (mt_indexD (units65 hr)) (q_call (E := C8.E0) rfl ((fn__law_names G).mono (by omega)) hr rfl m__law_names C8.pass0 (exOk_no _ _) (a_cons (qv 0) (a_nil))) (a_cons (qv 6) (a_nil))))))
          (ss_cons (q_for rfl PassesOwn.never rfl (q_iSeq rfl (qv 1)) (pg_tup rfl (pgs_cons (gnm 6 sc.nd) (pgs_cons (gnm 7 sc.nd) (pgs_nil)))) (ss_one (s_if (q_w (w_and (q_cmpT (op_neD hr.units) (sim_neD rfl) (qv 7) (qv 4) rfl) (w_and1 (q_cmpT (op_eqD hr.units) (sim_eqD rfl) (q_fzL (q_lc (own := [("_law_k", 8)]) rfl rfl sc.nd (QI.mc (q_iSeq rfl (qv 5))) (blkOk_by (by kernel_rfl)) (by simp [Tg.in_]) (fun _ _ _ _ _ => gnm 8 sc.nd) (fun _ _ _ _ _ => QTs.mc (q_if1 (q_cmpT (op_neD hr.units) (sim_neD rfl) (q_ix rfl (qv 6) (qv 8)) (q_ix rfl (qv 2) (qv 8)) rfl))) (fun _ _ _ _ _ => QE.mc (qv 8)))) (q_lstF (a_nil)) rfl)))) (ss_one (s_ret (qv 6))) (ss_nil))))
          (ss_one (s_ret (q_non))))

theorem sc__law_fine : FnScope N1__law_fine p1__law_fine (defScope s__law_fine) := C8.fnScope_by (by decide +kernel)
theorem len__law_fine : ∀ ds S Q E, sp__law_fine_k45 ds S Q E → ds.length = p1__law_fine.length := fun _ _ _ _ h => by
  unfold sp__law_fine_k45 at h; repeat' (first | refine Or.elim h (fun h => ?_) (fun h => ?_) | obtain ⟨_, h⟩ := h)
  all_goals (subst_vars; rfl)
theorem fn__law_fine {P : Program} {w : World} {K : PySem.W.Frag} {mg : Str → Option Value} {base : Heap} (G : Gx w K mg base) : FN P w K mg base C8.CX0 (tabs K) 6 (He.fAd K ("_law_fine", none)) (defArgs s__law_fine) p1__law_fine (sp__law_fine_k45) := by
    obtain ⟨fd, FD⟩ := G.def_ 14 (d := df__law_fine) rfl
    have m__law_answers : mg "_law_answers" = some (.ref (He.ga K "_law_answers")) := G.glo 20
    have m__law_shown : mg "_law_shown" = some (.ref (He.ga K "_law_shown")) := G.glo 32
    refine fn_def0 (p := ("_law_fine", none)) (k := 5) FD sc__law_fine (fun _ _ _ _ _ _ us hl => match us, hl with | [_, _, _], _ => rfl) len__law_fine fun A outer s H E io hr => ⟨d__law_fine_k45, ?_, v__law_fine_k45⟩
    have sc := sc__law_fine
    exact ss_cons (sset 3 sc.nd (q_call (E := C8.E0) rfl ((fn__law_answers G).mono (by omega)) hr rfl m__law_answers C8.pass0 (exOk_no _ _) (a_cons (q_tup (a_cons (q_ix rfl (qv 0) (q_int)) (a_cons (qv 1) (a_nil)))) (a_nil))))
          (ss_one (s_ret (q_fzL (q_lc (own := [("_law_own", 4)]) rfl rfl sc.nd (QI.mc (q_iSeq rfl (qv 2))) (blkOk_by (by kernel_rfl)) (by simp [Tg.in_]) (fun _ _ _ _ _ => gnm 4 sc.nd) (fun _ _ _ _ _ => QTs.mc (q_noif)) (fun _ _ _ _ _ => QE.mc (q_call (E := C8.E0) rfl ((fn__law_shown G).mono (by omega)) hr rfl m__law_shown C8.pass0 (exOk_no _ _) (a_cons (qv 0) (a_cons (qv 3) (a_cons (q_ix rfl (qv 4) (q_int)) (a_cons (q_ix rfl (qv 4) (q_int)) (a_cons (q_ix rfl (qv 4) (q_int)) (a_nil))))))))))))

theorem sc__law_lists : FnScope N1__law_lists p1__law_lists (defScope s__law_lists) := C8.fnScope_by (by decide +kernel)
theorem len__law_lists {n : Nat} : ∀ ds S Q E, sp__law_lists_b n ds S Q E → ds.length = p1__law_lists.length := fun _ _ _ _ h => by
  unfold sp__law_lists_b at h; repeat' (first | refine Or.elim h (fun h => ?_) (fun h => ?_) | obtain ⟨_, h⟩ := h)
  all_goals (subst_vars; rfl)
theorem fn__law_lists {P : Program} {w : World} {K : PySem.W.Frag} {mg : Str → Option Value} {base : Heap} (n : Nat) (G : Gx w K mg base) : FN P w K mg base C8.CX0 (tabs K) (1 + n) (He.fAd K ("_law_lists", none)) (defArgs s__law_lists) p1__law_lists (sp__law_lists_b n) := by
    obtain ⟨fd, FD⟩ := G.def_ 15 (d := df__law_lists) rfl
    have m_isinstance : mg "isinstance" = none := G.free 33
    have m_list : mg "list" = none := G.free 8
    have m_tuple : mg "tuple" = none := G.free 25
    have m__law_lists : mg "_law_lists" = some (.ref (He.ga K "_law_lists")) := G.glo 17
    induction n with
    | zero =>
      refine fn_def0 (p := ("_law_lists", none)) (k := 0) FD sc__law_lists (fun _ _ _ _ _ _ us hl => match us, hl with | [_], _ => rfl) len__law_lists fun A outer s H E io hr => ⟨fun _ _ _ => False, ss_never, v0__law_lists_b⟩
    | succ n ih =>
      refine fn_def0 (p := ("_law_lists", none)) (k := 1 + n) FD sc__law_lists (fun _ _ _ _ _ _ us hl => match us, hl with | [_], _ => rfl) len__law_lists fun A outer s H E io hr => ⟨d__law_lists_b n, ?_, v__law_lists_b⟩
      have sc := sc__law_lists
      exact ss_one (s_ret (q_ifE (q_val (q_isi2 rfl rfl m_isinstance (qv 0) rfl m_list (by decide +kernel) (by decide) rfl m_tuple (by decide +kernel) (by decide))) (q_lc (own := [("_law_bit", 1)]) rfl rfl sc.nd (q_iSeq rfl (qv 0)) (blkOk_by (by kernel_rfl)) (by simp [Tg.in_]) (fun _ _ _ _ _ => gnm 1 sc.nd) (fun _ _ _ _ _ => q_noif) (fun _ _ _ _ _ => q_frzA (q_call (E := C8.E0) rfl ((ih).mono (by omega)) hr rfl m__law_lists C8.pass0 (exOk_no _ _) (a_cons (qv 1) (a_nil))))) (qv 0)))

theorem sc__law_rules : FnScope N1__law_rules p1__law_rules (defScope s__law_rules) := C8.fnScope_by (by decide +kernel)
theorem len__law_rules : ∀ ds S Q E, sp__law_rules_k45 ds S Q E → ds.length = p1__law_rules.length := fun _ _ _ _ h => by
  unfold sp__law_rules_k45 at h; repeat' (first | refine Or.elim h (fun h => ?_) (fun h => ?_) | obtain ⟨_, h⟩ := h)
  all_goals (subst_vars; rfl)
theorem fn__law_rules {P : Program} {w : World} {K : PySem.W.Frag} {mg : Str → Option Value} {base : Heap} (G : Gx w K mg base) : FN P w K mg base C8.CX0 (tabs K) 3 (He.fAd K ("_law_rules", none)) (defArgs s__law_rules) p1__law_rules (sp__law_rules_k45) := by
    obtain ⟨fd, FD⟩ := G.def_ 16 (d := df__law_rules) rfl
    have m__law_take : mg "_law_take" = some (.ref (He.ga K "_law_take")) := G.glo 13
    have m_list : mg "list" = none := G.free 8
    have m_len : mg "len" = none := G.free 2
    have m__law_of : mg "_law_of" = some (.ref (He.ga K "_law_of")) := G.glo 10
    have m_tuple : mg "tuple" = none := G.free 25
    refine fn_def0 (p := ("_law_rules", none)) (k := 2) FD sc__law_rules (fun _ _ _ _ _ _ us hl => match us, hl with | [_, _], _ => rfl) len__law_rules fun A outer s H E io hr => ⟨d__law_rules_k45, ?_, v__law_rules_k45⟩
    have sc := sc__law_rules
    exact ss_cons (s_par (i := 2) (j := 3) rfl sc.nd rfl rfl (by decide) rfl rfl (a_cons (q_callTy (sim_list rfl) call_list_of rfl m_list (by decide +kernel) (a_cons (q_ix rfl (qv 1) (q_int)) (a_nil))) (a_cons (q_call (E := C8.E0) rfl ((fn__law_take G).mono (by omega)) hr rfl m__law_take C8.pass0 (exOk_no _ _) (a_cons (qv 0) (a_cons (q_int) (a_nil)))) (a_nil))) (by kernel_rfl))
          (ss_cons (s_if (q_w (w_and (q_cmpT (op_neD hr.units) (sim_neD rfl) (qv 2) (q_lstF (a_nil)) rfl) (w_and1 (q_cmpT (op_eqD hr.units) (sim_eqD rfl) (qv 3) (q_int) rfl)))) (ss_one (s_expr (q_bm rfl sim_popAt PySem.F.plainAttrs_list PySem.F.slot_list_pop PySem.F.type_list_pop mt_popAt (qv 2) (a_cons (q_call (E := C8.E0) rfl ((fn__law_take G).mono (by omega)) hr rfl m__law_take C8.pass0 (exOk_no _ _) (a_cons (qv 0) (a_cons (q_callB (sim_len rfl) call_len rfl m_len (by decide +kernel) (a_cons (qv 2) (a_nil))) (a_nil)))) (a_nil))))) (ss_one (s_if (q_cmpT (op_eqD hr.units) (sim_eqD rfl) (qv 3) (q_int) rfl) (ss_one (sset 2 sc.nd (q_frzRev (q_revL rfl (QE.mc (qv 2)))))) (ss_one (s_if (q_w (w_and (q_cmpT (op_neD hr.units) (sim_neD rfl) (qv 2) (q_lstF (a_nil)) rfl) (w_and1 (q_cmpT (op_eqD hr.units) (sim_eqD rfl) (qv 3) (q_int) rfl)))) (ss_cons (sset 4 sc.nd (q_call (E := C8.E0) rfl ((fn__law_take G).mono (by omega)) hr rfl m__law_take C8.pass0 (exOk_no _ _) (a_cons (qv 0) (a_cons (q_callB (sim_len rfl) call_len rfl m_len (by decide +kernel) (a_cons (qv 2) (a_nil))) (a_nil)))))
          (ss_one (s_asg (q_tup (a_cons (q_ix rfl (q_ix rfl (qv 2) (qv 4)) (q_int)) (a_cons (q_call (E := C8.E0) rfl ((fn__law_of G).mono (by omega)) hr rfl m__law_of C8.pass0 (exOk_no _ _) (a_cons (qv 0) (a_cons (q_lstF (a_cons (q_str) (a_cons (q_str) (a_nil)))) (a_nil)))) (a_nil)))) (g_sub (qv 2) (qv 4))))) (ss_cons (s_asg (q_call (E := C8.E0) rfl ((fn__law_of G).mono (by omega)) hr rfl m__law_of C8.pass0 (exOk_no _ _) (a_cons (qv 0) (a_cons (q_fzB fz_list (q_callTy (sim_list rfl) call_list_of rfl m_list (by decide +kernel) (QA.mc (a_cons (q_ix rfl (qv 1) (q_int)) (a_nil))))) (a_nil)))) (g_tup rfl rfl (gs_cons (gdnm 5 sc.nd) (gs_cons (gdnm 6 sc.nd) (gs_nil)))))
          (ss_one (sset 2 sc.nd (q_fzO fz_addL (q_op op_catR sim_addL (QE.mc (q_lstF (a_cons (q_tup (a_cons (q_tup (a_cons (q_tup (a_cons (qv 5) (a_cons (q_call (E := C8.E0) rfl ((fn__law_of G).mono (by omega)) hr rfl m__law_of C8.pass0 (exOk_no _ _) (a_cons (qv 0) (a_cons (q_op op_catA (sim_addT rfl) (q_tup (a_cons (q_str) (a_nil))) (qv 6)) (a_nil)))) (a_nil)))) (a_nil))) (a_cons (q_call (E := C8.E0) rfl ((fn__law_of G).mono (by omega)) hr rfl m__law_of C8.pass0 (exOk_no _ _) (a_cons (qv 0) (a_cons (q_lstF (a_cons (q_str) (a_cons (q_str) (a_nil)))) (a_nil)))) (a_nil)))) (a_nil)))) (QE.mc (q_sliceF rfl (qv 2) (o_none) (o_some (q_int))))))))))))))
          (ss_one (s_ret (q_callTy (sim_tuple rfl) call_tuple_of rfl m_tuple (by decide +kernel) (a_cons (qv 2) (a_nil))))))

theorem sc__law_same : FnScope N1__law_same p1__law_same (defScope s__law_same) := C8.fnScope_by (by decide +kernel)
theorem len__law_same {n : Nat} : ∀ ds S Q E, sp__law_same n ds S Q E → ds.length = p1__law_same.length := fun _ _ _ _ h => by
  unfold sp__law_same at h; repeat' (first | refine Or.elim h (fun h => ?_) (fun h => ?_) | obtain ⟨_, h⟩ := h)
  all_goals (subst_vars; rfl)
theorem fn__law_same {P : Program} {w : World} {K : PySem.W.Frag} {mg : Str → Option Value} {base : Heap} (n : Nat) (G : Gx w K mg base) : FN P w K mg base C8.CX0 (tabs K) (1 + n) (He.fAd K ("_law_same", none)) (defArgs s__law_same) p1__law_same (sp__law_same n) := by
    obtain ⟨fd, FD⟩ := G.def_ 17 (d := df__law_same) rfl
    have m_isinstance : mg "isinstance" = none := G.free 33
    have m_list : mg "list" = none := G.free 8
    have m_tuple : mg "tuple" = none := G.free 25
    have m_len : mg "len" = none := G.free 2
    have m_zip : mg "zip" = none := G.free 34
    have m__law_same : mg "_law_same" = some (.ref (He.ga K "_law_same")) := G.glo 18
    have m_all : mg "all" = none := G.free 5
    have m_dict : mg "dict" = none := G.free 35
    have m_bool : mg "bool" = none := G.free 36
    have m_str : mg "str" = none := G.free 37
    have m_int : mg "int" = none := G.free 6
    induction n with
    | zero =>
      refine fn_def0 (p := ("_law_same", none)) (k := 0) FD sc__law_same (fun _ _ _ _ _ _ us hl => match us, hl with | [_, _], _ => rfl) len__law_same fun A outer s H E io hr => ⟨fun _ _ _ => False, ss_never, v0__law_same⟩
    | succ n ih =>
      refine fn_def0 (p := ("_law_same", none)) (k := 1 + n) FD sc__law_same (fun _ _ _ _ _ _ us hl => match us, hl with | [_, _], _ => rfl) len__law_same fun A outer s H E io hr => ⟨d__law_same n, ?_, v__law_same⟩
      have sc := sc__law_same
      exact ss_cons (s_if (q_val (q_isi2 rfl rfl m_isinstance (qv 1) rfl m_list (by decide +kernel) (by decide) rfl m_tuple (by decide +kernel) (by decide))) (ss_cons (s_if (q_w (w_or (q_cmpT (op_neD hr.units) (sim_neD rfl) (q_isi rfl rfl m_isinstance (qv 0) rfl m_list (by decide +kernel) (by decide)) (q_isi rfl rfl m_isinstance (qv 1) rfl m_list (by decide +kernel) (by decide)) rfl) (w_or1 (q_cmpT (op_neD hr.units) (sim_neD rfl) (q_isi rfl rfl m_isinstance (qv 0) rfl m_tuple (by decide +kernel) (by decide)) (q_isi rfl rfl m_isinstance (qv 1) rfl m_tuple (by decide +kernel) (by decide)) rfl)))) (ss_one (s_ret (q_bl))) (ss_nil))
          (ss_one (s_ret (q_and (q_cmp (op_eqD hr.units) (sim_eqD rfl) (q_callB (sim_len rfl) call_len rfl m_len (by decide +kernel) (a_cons (qv 0) (a_nil))) (q_callB (sim_len rfl) call_len rfl m_len (by decide +kernel) (a_cons (qv 1) (a_nil))) rfl) (q_one (q_callB (sim_all rfl) (cr_all rfl) rfl m_all (by decide +kernel) (a_cons (q_lc (own := [("_law_mine", 3), ("_law_its", 4)]) rfl rfl sc.nd (q_zipA rfl rfl m_zip (a_cons (qv 0) (a_cons (qv 1) (a_nil)))) (blkOk_by (by kernel_rfl)) (by simp [Tg.in_]) (fun _ _ _ _ _ => pg_tup rfl (pgs_cons (gnm 3 sc.nd) (pgs_cons (gnm 4 sc.nd) (pgs_nil)))) (fun _ _ _ _ _ => q_noif) (fun _ _ _ _ _ => q_call (E := C8.E0) rfl ((ih).mono (by omega)) hr rfl m__law_same C8.pass0 (exOk_no _ _) (a_cons (qv 3) (a_cons (qv 4) (a_nil))))) (a_nil)))))))) (ss_nil))
          (ss_cons (s_if (q_val (q_isi rfl rfl m_isinstance (qv 1) rfl m_dict (by decide +kernel) (by decide))) (ss_cons (s_if (q_w (w_or (q_not (q_val (q_isi rfl rfl m_isinstance (qv 0) rfl m_dict (by decide +kernel) (by decide)))) (w_or (q_cmpT (op_neD hr.units) (sim_neD rfl) (q_callB (sim_len rfl) call_len rfl m_len (by decide +kernel) (a_cons (qv 0) (a_nil))) (q_callB (sim_len rfl) call_len rfl m_len (by decide +kernel) (a_cons (qv 1) (a_nil))) rfl) (w_or1 (q_cmpT (op_neD hr.units) (sim_neD rfl) (q_frz (q_lc (own := [("_law_own", 2)]) rfl rfl sc.nd (q_iSeq rfl (qv 1)) (blkOk_by (by kernel_rfl)) (by simp [Tg.in_]) (fun _ _ _ _ _ => gnm 2 sc.nd) (fun _ _ _ _ _ => q_if1 (q_cmpT (op_notInD (units65 hr)) (sim_notInD rfl) (qv 2) (qv 0) rfl)) (fun _ _ _ _ _ => qv 2))) (q_frz (q_lst (a_nil))) rfl))))) (ss_one (s_ret (q_bl))) (ss_nil))
          (ss_one (s_ret (q_callB (sim_all rfl) (cr_all rfl) rfl m_all (by decide +kernel) (a_cons (q_lc (own := [("_law_own", 2)]) rfl rfl sc.nd (q_iSeq rfl (qv 1)) (blkOk_by (by kernel_rfl)) (by simp [Tg.in_]) (fun _ _ _ _ _ => gnm 2 sc.nd) (fun _ _ _ _ _ => q_noif) (fun _ _ _ _ _ => q_call (E := C8.E0) rfl ((ih).mono (by omega)) hr rfl m__law_same C8.pass0 (exOk_no _ _) (a_cons (q_ix rfl (qv 0) (qv 2)) (a_cons (q_ix rfl (qv 1) (qv 2)) (a_nil))))) (a_nil)))))) (ss_nil))
          (ss_cons (s_if (q_w (w_or (q_cmpT op_isN sim_isN (qv 1) (q_non) rfl) (w_or1 (q_val (q_isi2 rfl rfl m_isinstance (qv 1) rfl m_bool (by decide +kernel) (by decide) rfl m_str (by decide +kernel) (by decide)))))) (ss_one (s_ret (q_and (q_cmp (op_eqD hr.units) (sim_eqD rfl) (qv 0) (qv 1) rfl) (q_and (q_cmp (op_eqD hr.units) (sim_eqD rfl) (q_isi rfl rfl m_isinstance (qv 0) rfl m_bool (by decide +kernel) (by decide)) (q_isi rfl rfl m_isinstance (qv 1) rfl m_bool (by decide +kernel) (by decide)) rfl) (q_one (q_cmp (op_eqD hr.units) (sim_eqD rfl) (q_cmp op_isN sim_isN (qv 0) (q_non) rfl) (q_cmp op_isN sim_isN (qv 1) (q_non) rfl) rfl)))))) (ss_nil))
          (ss_one (s_ret (q_and (q_isi rfl rfl m_isinstance (qv 0) rfl m_int (by decide +kernel) (by decide)) (q_and (q_notV (q_isi rfl rfl m_isinstance (qv 0) rfl m_bool (by decide +kernel) (by decide))) (q_one (q_cmp (op_eqD hr.units) (sim_eqD rfl) (qv 0) (qv 1) rfl))))))))

theorem sc__law_world : FnScope N1__law_world p1__law_world (defScope s__law_world) := C8.fnScope_by (by decide +kernel)
theorem len__law_world : ∀ ds S Q E, sp__law_world ds S Q E → ds.length = p1__law_world.length := fun _ _ _ _ h => by
  unfold sp__law_world at h; repeat' (first | refine Or.elim h (fun h => ?_) (fun h => ?_) | obtain ⟨_, h⟩ := h)
  all_goals (subst_vars; rfl)
theorem fn__law_world {P : Program} {w : World} {K : PySem.W.Frag} {mg : Str → Option Value} {base : Heap} (G : Gx w K mg base) : FN P w K mg base C8.CX0 (tabs K) 3 (He.fAd K ("_law_world", none)) (defArgs s__law_world) p1__law_world (sp__law_world) := by
    obtain ⟨fd, FD⟩ := G.def_ 18 (d := df__law_world) rfl
    have m_len : mg "len" = none := G.free 2
    have m__law_pick : mg "_law_pick" = some (.ref (He.ga K "_law_pick")) := G.glo 23
    have m_sorted : mg "sorted" = none := G.free 24
    have m_range : mg "range" = none := G.free 1
    have m__law_take : mg "_law_take" = some (.ref (He.ga K "_law_take")) := G.glo 13
    have m_tuple : mg "tuple" = none := G.free 25
    have m__law_of : mg "_law_of" = some (.ref (He.ga K "_law_of")) := G.glo 10
    have m_list : mg "list" = none := G.free 8
    refine fn_def0 (p := ("_law_world", none)) (k := 2) FD sc__law_world (fun _ _ _ _ _ _ us hl => match us, hl with | [_, _], _ => rfl) len__law_world fun A outer s H E io hr => ⟨d__law_world, ?_, v__law_world⟩
    have sc := sc__law_world
    exact ss_cons (sset 2 sc.nd (q_frz (q_callB (sim_sortS rfl) cr_sortedS rfl m_sorted (by decide +kernel) (a_cons (q_call (E := C8.E0) rfl ((fn__law_pick G).mono (by omega)) hr rfl m__law_pick C8.pass0 (exOk_no _ _) (a_cons (qv 0) (a_cons (q_frz (q_lst (a_cons (q_str) (a_cons (q_str) (a_cons (q_str) (a_cons (q_str) (a_cons (q_str) (a_cons (q_str) (a_nil))))))))) (a_cons (q_callB (sim_len rfl) call_len rfl m_len (by decide +kernel) (a_cons (qv 1) (a_nil))) (a_nil))))) (a_nil)))))
          (ss_cons (sset 3 sc.nd (q_lst (a_nil)))
          (ss_cons (q_for rfl PassesOwn.never rfl (q_range1 rfl m_range (a_cons (q_callB (sim_len rfl) call_len rfl m_len (by decide +kernel) (a_cons (qv 1) (a_nil))) (a_nil))) (gnm 4 sc.nd) (ss_cons (sset 7 sc.nd (q_call (E := C8.E0) rfl ((fn__law_pick G).mono (by omega)) hr rfl m__law_pick C8.pass0 (exOk_no _ _) (a_cons (qv 0) (a_cons (q_frz (q_lst (a_cons (q_str) (a_cons (q_str) (a_cons (q_str) (a_cons (q_str) (a_cons (q_str) (a_nil)))))))) (a_cons (q_op op_add (simI0 fun _ _ _ _ _ => rfl) (q_int) (q_call (E := C8.E0) rfl ((fn__law_take G).mono (by omega)) hr rfl m__law_take C8.pass0 (exOk_no _ _) (a_cons (qv 0) (a_cons (q_ix rfl (qv 1) (qv 4)) (a_nil))))) (a_nil))))))
          (ss_one (s_expr (q_bm rfl sim_append PySem.F.plainAttrs_list PySem.F.slot_list_append PySem.F.type_list_append mt_append (qv 3) (a_cons (q_tup (a_cons (q_ix rfl (qv 2) (qv 4)) (a_cons (q_callTy (sim_tuple rfl) call_tuple_of rfl m_tuple (by decide +kernel) (a_cons (q_frz (q_callB (sim_sortS rfl) cr_sortedS rfl m_sorted (by decide +kernel) (a_cons (qv 7) (a_nil)))) (a_nil))) (a_nil)))) (a_nil)))))))
          (ss_cons (sset 5 sc.nd (q_lst (a_nil)))
          (ss_cons (q_for rfl PassesOwn.never rfl (q_range1 rfl m_range (a_cons (q_op op_add (simI0 fun _ _ _ _ _ => rfl) (q_int) (q_call (E := C8.E0) rfl ((fn__law_take G).mono (by omega)) hr rfl m__law_take C8.pass0 (exOk_no _ _) (a_cons (qv 0) (a_cons (q_int) (a_nil))))) (a_nil))) (gnm 6 sc.nd) (ss_cons (sset 8 sc.nd (q_lst (a_nil)))
          (ss_cons (q_for rfl PassesOwn.never rfl (q_iSeq rfl (q_call (E := C8.E0) rfl ((fn__law_pick G).mono (by omega)) hr rfl m__law_pick C8.pass0 (exOk_no _ _) (a_cons (qv 0) (a_cons (qv 3) (a_cons (q_call (E := C8.E0) rfl ((fn__law_of G).mono (by omega)) hr rfl m__law_of C8.pass0 (exOk_no _ _) (a_cons (qv 0) (a_cons (q_frz (q_lst (a_cons (q_int) (a_cons (q_int) (a_cons (q_int) (a_cons (q_int) (a_cons (q_int) (a_nil)))))))) (a_nil)))) (a_nil)))))) (pg_tup rfl (pgs_cons (gnm 9 sc.nd) (pgs_cons (gnm 10 sc.nd) (pgs_nil)))) (ss_one (s_expr (q_bm rfl sim_append PySem.F.plainAttrs_list PySem.F.slot_list_append PySem.F.type_list_append mt_append (qv 8) (a_cons (q_tup (a_cons (qv 9) (a_cons (q_call (E := C8.E0) rfl ((fn__law_of G).mono (by omega)) hr rfl m__law_of C8.pass0 (exOk_no _ _) (a_cons (qv 0) (a_cons (q_frz (q_op op_catR sim_addL (q_frz (q_op op_repR sim_repL (q_frz (q_callTy (sim_list rfl) call_list_of rfl m_list (by decide +kernel) (a_cons (qv 10) (a_nil)))) (q_int))) (q_frz (q_lst (a_cons (q_str) (a_cons (q_str) (a_nil))))))) (a_nil)))) (a_nil)))) (a_nil))))))
          (ss_one (s_expr (q_bm rfl sim_append PySem.F.plainAttrs_list PySem.F.slot_list_append PySem.F.type_list_append mt_append (qv 5) (a_cons (q_tup (a_cons (q_callTy (sim_tuple rfl) call_tuple_of rfl m_tuple (by decide +kernel) (a_cons (qv 8) (a_nil))) (a_cons (q_call (E := C8.E0) rfl ((fn__law_of G).mono (by omega)) hr rfl m__law_of C8.pass0 (exOk_no _ _) (a_cons (qv 0) (a_cons (q_frz (q_lst (a_cons (q_str) (a_cons (q_str) (a_cons (q_str) (a_nil)))))) (a_nil)))) (a_nil)))) (a_nil))))))))
          (ss_cons (s_if (q_cmpT op_gt (simI0 fun _ _ _ _ _ => rfl) (q_call (E := C8.E0) rfl ((fn__law_take G).mono (by omega)) hr rfl m__law_take C8.pass0 (exOk_no _ _) (a_cons (qv 0) (a_cons (q_int) (a_nil)))) (q_int) rfl) (ss_one (s_expr (q_bm rfl sim_append PySem.F.plainAttrs_list PySem.F.slot_list_append PySem.F.type_list_append mt_append (qv 5) (a_cons (q_tup (a_cons (q_tup (a_nil)) (a_cons (q_call (E := C8.E0) rfl ((fn__law_of G).mono (by omega)) hr rfl m__law_of C8.pass0 (exOk_no _ _) (a_cons (qv 0) (a_cons (q_frz (q_lst (a_cons (q_str) (a_cons (q_str) (a_cons (q_str) (a_cons (q_str) (a_nil))))))) (a_nil)))) (a_nil)))) (a_nil))))) (ss_nil))
          (ss_one (s_ret (q_tup (a_cons (q_callTy (sim_tuple rfl) call_tuple_of rfl m_tuple (by decide +kernel) (a_cons (qv 3) (a_nil))) (a_cons (q_callTy (sim_tuple rfl) call_tuple_of rfl m_tuple (by decide +kernel) (a_cons (qv 5) (a_nil))) (a_nil)))))))))))

theorem sc_tupled : FnScope N1_tupled p1_tupled (defScope s_tupled) := C8.fnScope_by (by decide +kernel)
theorem len_tupled {n : Nat} : ∀ ds S Q E, sp_tupled n ds S Q E → ds.length = p1_tupled.length := fun _ _ _ _ h => by
  unfold sp_tupled at h; repeat' (first | refine Or.elim h (fun h => ?_) (fun h => ?_) | obtain ⟨_, h⟩ := h)
  all_goals (subst_vars; rfl)
theorem fn_tupled {P : Program} {w : World} {K : PySem.W.Frag} {mg : Str → Option Value} {base : Heap} (n : Nat) (G : Gx w K mg base) : FN P w K mg base C8.CX0 (tabs K) (1 + n) (He.fAd K ("tupled", none)) (defArgs s_tupled) p1_tupled (sp_tupled n) := by
    obtain ⟨fd, FD⟩ := G.def_ 19 (d := df_tupled) rfl
    have m_isinstance : mg "isinstance" = none := G.free 33
    have m_list : mg "list" = none := G.free 8
    have m_tuple : mg "tuple" = none := G.free 25
    have m_tupled : mg "tupled" = some (.ref (He.ga K "tupled")) := G.glo 44
    induction n with
    | zero =>
      refine fn_def0 (p := ("tupled", none)) (k := 0) FD sc_tupled (fun _ _ _ _ _ _ us hl => match us, hl with | [_], _ => rfl) len_tupled fun A outer s H E io hr => ⟨fun _ _ _ => False, ss_never, v0_tupled⟩
    | succ n ih =>
      refine fn_def0 (p := ("tupled", none)) (k := 1 + n) FD sc_tupled (fun _ _ _ _ _ _ us hl => match us, hl with | [_], _ => rfl) len_tupled fun A outer s H E io hr => ⟨d_tupled n, ?_, v_tupled⟩
      have sc := sc_tupled
      exact ss_one (s_ret (q_wkA (q_ifE (q_val (q_isi2 rfl rfl m_isinstance (qv 0) rfl m_list (by decide +kernel) (by decide) rfl m_tuple (by decide +kernel) (by decide))) (q_tupL (x := "") rfl rfl m_tuple (q_lc (own := [("part", 1)]) rfl rfl sc.nd (q_iSeq rfl (qv 0)) (blkOk_by (by kernel_rfl)) (by simp [Tg.in_]) (fun _ _ _ _ _ => gnm 1 sc.nd) (fun _ _ _ _ _ => q_noif) (fun _ _ _ _ _ => q_call (E := C8.E0) rfl ((ih).mono (by omega)) hr rfl m_tupled C8.pass0 (exOk_no _ _) (a_cons (qv 1) (a_nil))))) (qv 0))))

theorem sc_World_init : FnScope N1_World_init p1_World_init (defScope s_World_init) := C8.fnScope_by (by decide +kernel)
theorem len_World_init {K : PySem.W.Frag} : ∀ ds S Q E, sp_World_init K ds S Q E → ds.length = p1_World_init.length := fun _ _ _ _ h => by
  unfold sp_World_init at h; repeat' (first | refine Or.elim h (fun h => ?_) (fun h => ?_) | obtain ⟨_, h⟩ := h)
  all_goals (subst_vars; rfl)
theorem fn_World_init {P : Program} {w : World} {K : PySem.W.Frag} {mg : Str → Option Value} {base : Heap} (G : Gx w K mg base) : FN P w K mg base C8.CX0 (tabs K) 10 (He.fAd K ("World", some "__init__")) (defArgs s_World_init) p1_World_init (sp_World_init K) := by
    obtain ⟨fd, FD⟩ := G.def_ 20 (d := df_World_init) rfl
    have m_tupled : mg "tupled" = some (.ref (He.ga K "tupled")) := G.glo 44
    have c_World : SlX.SCls K (He.ga K "World") := scls_ok (G.ex 1)
    have s_World_own_rules : SlX.Slot1 K (He.ga K "World") "own_rules" (He.ma K (He.ga K "World") "own_rules") 1 := slot_ok (G.ex 4)
    obtain ⟨t_m_NOTHING, h_m_NOTHING⟩ : ∃ t, mg "NOTHING" = some (.str "" t) := G.str 46
    have s_World_own_values : SlX.Slot1 K (He.ga K "World") "own_values" (He.ma K (He.ga K "World") "own_values") 2 := slot_ok (G.ex 5)
    have s_World_own_requests : SlX.Slot1 K (He.ga K "World") "own_requests" (He.ma K (He.ga K "World") "own_requests") 0 := slot_ok (G.ex 6)
    have m_list : mg "list" = none := G.free 8
    refine fn_def0 (p := ("World", some "__init__")) (k := 9) FD sc_World_init (fun _ _ _ _ _ _ us hl => match us, hl with | [_, _], _ => rfl) len_World_init fun A outer s H E io hr => ⟨d_World_init K, ?_, v_World_init⟩
    have sc := sc_World_init
    exact ss_cons (s_asg (q_call (E := C8.E0) rfl ((fn_tupled 8 G).mono (by omega)) hr rfl m_tupled C8.pass0 (exOk_no _ _) (a_cons (qv 1) (a_nil))) (g_tup rfl rfl (gs_cons (gdnm 3 sc.nd) (gs_cons (g_slot c_World s_World_own_rules (qv 0)) (gs_nil)))))
          (ss_cons (s_slot c_World s_World_own_values (qv 0) (q_frz (q_dc (own := [("name", 4), ("values", 2)]) rfl rfl sc.nd (q_iSeq rfl (qv 3)) (blkOk_by (by kernel_rfl)) (by simp [Tg.in_]) (fun _ _ _ _ _ => pg_tup rfl (pgs_cons (gnm 4 sc.nd) (pgs_cons (gnm 2 sc.nd) (pgs_nil)))) (fun _ _ _ _ _ => q_noif) (fun _ _ _ _ _ => qv 4) (fun _ _ _ _ _ => q_tupK (a_cons (q_globS rfl h_m_NOTHING) (a_star rfl (qv 2) (a_nil)))))))
          (ss_cons (s_slot c_World s_World_own_requests (qv 0) (q_frz (q_lst (a_cons (q_tup (a_nil)) (a_nil)))))
          (ss_one (q_for rfl PassesOwn.never rfl (q_iSeq rfl (q_frz (q_listV rfl rfl m_list (q_slot c_World s_World_own_values (qv 0))))) (gnm 2 sc.nd) (ss_one (s_slot c_World s_World_own_requests (qv 0) (q_frz (q_lc2 (own := [("request", 5), ("value", 6)]) (vs1 := [6]) rfl rfl sc.nd (q_iSeq rfl (q_slot c_World s_World_own_requests (qv 0))) (blkOk_by (by kernel_rfl)) (by decide) (by simp [Tg.in_]) (by simp [Tg.in_]) (fun _ _ _ _ _ => gnm 5 sc.nd) (fun _ _ _ _ _ => q_noif) (fun _ _ _ _ _ => q_iSeq rfl (qv 2)) (fun _ _ _ _ _ => gnm 6 sc.nd) (fun _ _ _ _ _ => q_noif) (fun _ _ _ _ _ => q_tup (a_star rfl (qv 5) (a_cons (qv 6) (a_nil))))))))))))

theorem sc_World_check : FnScope N1_World_check p1_World_check (defScope s_World_check) := C8.fnScope_by (by decide +kernel)
theorem len_World_check {K : PySem.W.Frag} : ∀ ds S Q E, sp_World_check K ds S Q E → ds.length = p1_World_check.length := fun _ _ _ _ h => by
  unfold sp_World_check at h; repeat' (first | refine Or.elim h (fun h => ?_) (fun h => ?_) | obtain ⟨_, h⟩ := h)
  all_goals (subst_vars; rfl)
theorem fn_World_check {P : Program} {w : World} {K : PySem.W.Frag} {mg : Str → Option Value} {base : Heap} (G : Gx w K mg base) : FN P w K mg base C8.CX0 (tabs K) 10 (He.fAd K ("World", some "check")) (defArgs s_World_check) p1_World_check (sp_World_check K) := by
    obtain ⟨fd, FD⟩ := G.def_ 21 (d := df_World_check) rfl
    have m_tupled : mg "tupled" = some (.ref (He.ga K "tupled")) := G.glo 44
    have c_World : SlX.SCls K (He.ga K "World") := scls_ok (G.ex 1)
    have s_World_own_requests : SlX.Slot1 K (He.ga K "World") "own_requests" (He.ma K (He.ga K "World") "own_requests") 0 := slot_ok (G.ex 6)
    refine fn_def0 (p := ("World", some "check")) (k := 9) FD sc_World_check (fun _ _ _ _ _ _ us hl => match us, hl with | [_, _], _ => rfl) len_World_check fun A outer s H E io hr => ⟨d_World_check K, ?_, v_World_check⟩
    have sc := sc_World_check
    exact ss_cons (sset 2 sc.nd (q_call (E := C8.E0) rfl ((fn_tupled 8 G).mono (by omega)) hr rfl m_tupled C8.pass0 (exOk_no _ _) (a_cons (qv 1) (a_nil))))
          (ss_cons (s_if (q_cmpT (op_notInD (units65 hr)) (sim_notInD rfl) (qv 2) (q_slot c_World s_World_own_requests (qv 0)) rfl) (ss_one (s_never)) (ss_nil))
          (ss_one (s_ret (qv 2))))

theorem sc_World_header_pairs : FnScope N1_World_header_pairs p1_World_header_pairs (defScope s_World_header_pairs) := C8.fnScope_by (by decide +kernel)
theorem len_World_header_pairs {K : PySem.W.Frag} : ∀ ds S Q E, sp_World_header_pairs K ds S Q E → ds.length = p1_World_header_pairs.length := fun _ _ _ _ h => by
  unfold sp_World_header_pairs at h; repeat' (first | refine Or.elim h (fun h => ?_) (fun h => ?_) | obtain ⟨_, h⟩ := h)
  all_goals (subst_vars; rfl)
theorem fn_World_header_pairs {P : Program} {w : World} {K : PySem.W.Frag} {mg : Str → Option Value} {base : Heap} (G : Gx w K mg base) : FN P w K mg base C8.CX0 (tabs K) 1 (He.fAd K ("World", some "header_pairs")) (defArgs s_World_header_pairs) p1_World_header_pairs (sp_World_header_pairs K) := by
    obtain ⟨fd, FD⟩ := G.def_ 22 (d := df_World_header_pairs) rfl
    have c_World : SlX.SCls K (He.ga K "World") := scls_ok (G.ex 1)
    have s_World_own_values : SlX.Slot1 K (He.ga K "World") "own_values" (He.ma K (He.ga K "World") "own_values") 2 := slot_ok (G.ex 5)
    have m_tuple : mg "tuple" = none := G.free 25
    refine fn_def0 (p := ("World", some "header_pairs")) (k := 0) FD sc_World_header_pairs (fun _ _ _ _ _ _ us hl => match us, hl with | [_], _ => rfl) len_World_header_pairs fun A outer s H E io hr => ⟨d_World_header_pairs K, ?_, v_World_header_pairs⟩
    have sc := sc_World_header_pairs
    exact ss_one (s_ret (q_callTy (sim_tuple rfl) call_tuple_of rfl m_tuple (by decide +kernel) (a_cons (q_fzL (q_lc (own := [("name", 1), ("values", 2)]) rfl rfl sc.nd (QI.mc (q_items rfl (q_slot c_World s_World_own_values (qv 0)))) (blkOk_by (by kernel_rfl)) (by simp [Tg.in_]) (fun _ _ _ _ _ => pg_tup rfl (pgs_cons (gnm 1 sc.nd) (pgs_cons (gnm 2 sc.nd) (pgs_nil)))) (fun _ _ _ _ _ => QTs.mc (q_noif)) (fun _ _ _ _ _ => QE.mc (q_tup (a_cons (qv 1) (a_cons (q_slK rfl (qv 2) (o_some (q_int)) (o_none)) (a_nil))))))) (a_nil))))

theorem sc_World_with_rules : FnScope N1_World_with_rules p1_World_with_rules (defScope s_World_with_rules) := C8.fnScope_by (by decide +kernel)
theorem len_World_with_rules {K : PySem.W.Frag} : ∀ ds S Q E, sp_World_with_rules_k45 K ds S Q E → ds.length = p1_World_with_rules.length := fun _ _ _ _ h => by
  unfold sp_World_with_rules_k45 at h; repeat' (first | refine Or.elim h (fun h => ?_) (fun h => ?_) | obtain ⟨_, h⟩ := h)
  all_goals (subst_vars; rfl)
theorem fn_World_with_rules {P : Program} {w : World} {K : PySem.W.Frag} {mg : Str → Option Value} {base : Heap} (G : Gx w K mg base) : FN P w K mg base C8.CX0 (tabs K) 12 (He.fAd K ("World", some "with_rules")) (defArgs s_World_with_rules) p1_World_with_rules (sp_World_with_rules_k45 K) := by
    obtain ⟨fd, FD⟩ := G.def_ 23 (d := df_World_with_rules) rfl
    have c_World : SlX.SCls K (He.ga K "World") := scls_ok (G.ex 1)
    have me_World_header_pairs : Meth K (He.ga K "World") "header_pairs" (He.ma K (He.ga K "World") "header_pairs") := G.meth 47
    have mk_World : Mk K (He.ga K "World") (He.ma K (He.ga K "World") "__init__") := G.mkr 41
    have m_World : mg "World" = some (.ref (He.ga K "World")) := G.glo 42
    refine fn_def0 (p := ("World", some "with_rules")) (k := 11) FD sc_World_with_rules (fun _ _ _ _ _ _ us hl => match us, hl with | [_, _], _ => rfl) len_World_with_rules fun A outer s H E io hr => ⟨d_World_with_rules_k45 K, ?_, v_World_with_rules_k45⟩
    have sc := sc_World_with_rules
    exact ss_one (s_ret (q_makeSl (k := 10) (E := C8.E0) rfl mk_World ((fn_World_init G).mono (by omega)) hr rfl m_World C8.pass0 (exOk_no _ _) (a_cons (q_tup (a_cons (q_methSl0 (E := C8.E0) rfl (qv 0) c_World me_World_header_pairs ((fn_World_header_pairs G).mono (by omega)) hr C8.pass0 (exOk_no _ _)) (a_cons (qv 1) (a_nil)))) (a_nil))))

theorem sc_Later_init : FnScope N1_Later_init p1_Later_init (defScope s_Later_init) := C8.fnScope_by (by decide +kernel)
theorem len_Later_init {K : PySem.W.Frag} : ∀ ds S Q E, sp_Later_init_k45 K ds S Q E → ds.length = p1_Later_init.length := fun _ _ _ _ h => by
  unfold sp_Later_init_k45 at h; repeat' (first | refine Or.elim h (fun h => ?_) (fun h => ?_) | obtain ⟨_, h⟩ := h)
  all_goals (subst_vars; rfl)
theorem fn_Later_init {P : Program} {w : World} {K : PySem.W.Frag} {mg : Str → Option Value} {base : Heap} (G : Gx w K mg base) : FN P w K mg base C8.CX0 (tabs K) 13 (He.fAd K ("Later", some "__init__")) (defArgs s_Later_init) p1_Later_init (sp_Later_init_k45 K) := by
    obtain ⟨fd, FD⟩ := G.def_ 24 (d := df_Later_init) rfl
    have mk_World : Mk K (He.ga K "World") (He.ma K (He.ga K "World") "__init__") := G.mkr 41
    have m_World : mg "World" = some (.ref (He.ga K "World")) := G.glo 42
    have c_World : SlX.SCls K (He.ga K "World") := scls_ok (G.ex 1)
    have me_World_with_rules : Meth K (He.ga K "World") "with_rules" (He.ma K (He.ga K "World") "with_rules") := G.meth 43
    have c_Later : SlX.SCls K (He.ga K "Later") := scls_ok (G.ex 0)
    have s_Later_own_world : SlX.Slot1 K (He.ga K "Later") "own_world" (He.ma K (He.ga K "Later") "own_world") 1 := slot_ok (G.ex 2)
    have s_Later_own_copies : SlX.Slot1 K (He.ga K "Later") "own_copies" (He.ma K (He.ga K "Later") "own_copies") 0 := slot_ok (G.ex 3)
    have m_tupled : mg "tupled" = some (.ref (He.ga K "tupled")) := G.glo 44
    have me_World_check : Meth K (He.ga K "World") "check" (He.ma K (He.ga K "World") "check") := G.meth 45
    refine fn_def0 (p := ("Later", some "__init__")) (k := 12) FD sc_Later_init (fun _ _ _ _ _ _ us hl => match us, hl with | [_, _, _, _], _ => rfl) len_Later_init fun A outer s H E io hr => ⟨d_Later_init_k45 K, ?_, v_Later_init_k45⟩
    have sc := sc_Later_init
    exact ss_cons (s_slot c_Later s_Later_own_world (qv 0) (q_methSl (E := C8.E0) rfl (q_makeSl (k := 11) (E := C8.E0) rfl mk_World ((fn_World_init G).mono (by omega)) hr rfl m_World C8.pass0 (exOk_no _ _) (a_cons (qv 1) (a_nil))) c_World me_World_with_rules ((fn_World_with_rules G).mono (by omega)) hr C8.pass0 (exOk_no _ _) (a_cons (qv 2) (a_nil))))
          (ss_cons (s_slot c_Later s_Later_own_copies (qv 0) (q_lst (a_nil)))
          (ss_one (q_for rfl PassesOwn.never rfl (q_iSeq rfl (q_call (E := C8.E0) rfl ((fn_tupled 8 G).mono (by omega)) hr rfl m_tupled C8.pass0 (exOk_no _ _) (a_cons (qv 3) (a_nil)))) (pg_tup rfl (pgs_cons (gnm 4 sc.nd) (pgs_cons (gnm 5 sc.nd) (pgs_cons (gnm 6 sc.nd) (pgs_nil))))) (ss_one (s_expr (q_bm rfl sim_append PySem.F.plainAttrs_list PySem.F.slot_list_append PySem.F.type_list_append mt_append (q_slot c_Later s_Later_own_copies (qv 0)) (a_cons (q_tup (a_cons (q_methSl (E := C8.E0) rfl (q_slot c_Later s_Later_own_world (qv 0)) c_World me_World_check ((fn_World_check G).mono (by omega)) hr C8.pass0 (exOk_no _ _) (a_cons (qv 4) (a_nil))) (a_cons (qv 5) (a_cons (qv 6) (a_nil))))) (a_nil))))))))

theorem sc_Later_copies : FnScope N1_Later_copies p1_Later_copies (defScope s_Later_copies) := C8.fnScope_by (by decide +kernel)
theorem len_Later_copies {K : PySem.W.Frag} : ∀ ds S Q E, sp_Later_copies_k45 K ds S Q E → ds.length = p1_Later_copies.length := fun _ _ _ _ h => by
  unfold sp_Later_copies_k45 at h; repeat' (first | refine Or.elim h (fun h => ?_) (fun h => ?_) | obtain ⟨_, h⟩ := h)
  all_goals (subst_vars; rfl)
theorem fn_Later_copies {P : Program} {w : World} {K : PySem.W.Frag} {mg : Str → Option Value} {base : Heap} (G : Gx w K mg base) : FN P w K mg base C8.CX0 (tabs K) 1 (He.fAd K ("Later", some "copies")) (defArgs s_Later_copies) p1_Later_copies (sp_Later_copies_k45 K) := by
    obtain ⟨fd, FD⟩ := G.def_ 25 (d := df_Later_copies) rfl
    have c_Later : SlX.SCls K (He.ga K "Later") := scls_ok (G.ex 0)
    have s_Later_own_copies : SlX.Slot1 K (He.ga K "Later") "own_copies" (He.ma K (He.ga K "Later") "own_copies") 0 := slot_ok (G.ex 3)
    have m_list : mg "list" = none := G.free 8
    refine fn_def0 (p := ("Later", some "copies")) (k := 0) FD sc_Later_copies (fun _ _ _ _ _ _ us hl => match us, hl with | [_], _ => rfl) len_Later_copies fun A outer s H E io hr => ⟨d_Later_copies_k45 K, ?_, v_Later_copies_k45⟩
    have sc := sc_Later_copies
    exact ss_one (s_ret (q_fzB fz_list (q_callTy (sim_list rfl) call_list_of rfl m_list (by decide +kernel) (QA.mc (a_cons (q_slot c_Later s_Later_own_copies (qv 0)) (a_nil))))))

theorem sc_World_headers : FnScope N1_World_headers p1_World_headers (defScope s_World_headers) := C8.fnScope_by (by decide +kernel)
theorem len_World_headers {K : PySem.W.Frag} : ∀ ds S Q E, sp_World_headers K ds S Q E → ds.length = p1_World_headers.length := fun _ _ _ _ h => by
  unfold sp_World_headers at h; repeat' (first | refine Or.elim h (fun h => ?_) (fun h => ?_) | obtain ⟨_, h⟩ := h)
  all_goals (subst_vars; rfl)
theorem fn_World_headers {P : Program} {w : World} {K : PySem.W.Frag} {mg : Str → Option Value} {base : Heap} (G : Gx w K mg base) : FN P w K mg base C8.CX0 (tabs K) 1 (He.fAd K ("World", some "headers")) (defArgs s_World_headers) p1_World_headers (sp_World_headers K) := by
    obtain ⟨fd, FD⟩ := G.def_ 26 (d := df_World_headers) rfl
    have c_World : SlX.SCls K (He.ga K "World") := scls_ok (G.ex 1)
    have s_World_own_values : SlX.Slot1 K (He.ga K "World") "own_values" (He.ma K (He.ga K "World") "own_values") 2 := slot_ok (G.ex 5)
    have m_list : mg "list" = none := G.free 8
    refine fn_def0 (p := ("World", some "headers")) (k := 0) FD sc_World_headers (fun _ _ _ _ _ _ us hl => match us, hl with | [_], _ => rfl) len_World_headers fun A outer s H E io hr => ⟨d_World_headers K, ?_, v_World_headers⟩
    have sc := sc_World_headers
    exact ss_one (s_ret (q_frz (q_callTy sim_listD (call_listD rfl) rfl m_list (by decide +kernel) (a_cons (q_slot c_World s_World_own_values (qv 0)) (a_nil)))))

theorem sc_World_value : FnScope N1_World_value p1_World_value (defScope s_World_value) := C8.fnScope_by (by decide +kernel)
theorem len_World_value {K : PySem.W.Frag} : ∀ ds S Q E, sp_World_value K ds S Q E → ds.length = p1_World_value.length := fun _ _ _ _ h => by
  unfold sp_World_value at h; repeat' (first | refine Or.elim h (fun h => ?_) (fun h => ?_) | obtain ⟨_, h⟩ := h)
  all_goals (subst_vars; rfl)
theorem fn_World_value {P : Program} {w : World} {K : PySem.W.Frag} {mg : Str → Option Value} {base : Heap} (G : Gx w K mg base) : FN P w K mg base C8.CX0 (tabs K) 2 (He.fAd K ("World", some "value")) (defArgs s_World_value) p1_World_value (sp_World_value K) := by
    obtain ⟨fd, FD⟩ := G.def_ 27 (d := df_World_value) rfl
    have c_World : SlX.SCls K (He.ga K "World") := scls_ok (G.ex 1)
    have me_World_headers : Meth K (He.ga K "World") "headers" (He.ma K (He.ga K "World") "headers") := G.meth 55
    refine fn_def0 (p := ("World", some "value")) (k := 1) FD sc_World_value (fun _ _ _ _ _ _ us hl => match us, hl with | [_, _, _], _ => rfl) len_World_value fun A outer s H E io hr => ⟨d_World_value K, ?_, v_World_value⟩
    have sc := sc_World_value
    exact ss_one (s_ret (q_ix rfl (qv 1) (q_bm rfl (sim_index rfl) PySem.F.plainAttrs_list PySem.F.slot_list_index PySem.F.type_list_index (mt_indexD (units65 hr)) (q_methSl0 (E := C8.E0) rfl (qv 0) c_World me_World_headers ((fn_World_headers G).mono (by omega)) hr C8.pass0 (exOk_no _ _)) (a_cons (qv 2) (a_nil)))))

theorem sc_World_alike : FnScope N1_World_alike p1_World_alike (defScope s_World_alike) := C8.fnScope_by (by decide +kernel)
theorem len_World_alike {K : PySem.W.Frag} : ∀ ds S Q E, sp_World_alike K ds S Q E → ds.length = p1_World_alike.length := fun _ _ _ _ h => by
  unfold sp_World_alike at h; repeat' (first | refine Or.elim h (fun h => ?_) (fun h => ?_) | obtain ⟨_, h⟩ := h)
  all_goals (subst_vars; rfl)
theorem fn_World_alike {P : Program} {w : World} {K : PySem.W.Frag} {mg : Str → Option Value} {base : Heap} (G : Gx w K mg base) : FN P w K mg base C8.CX0 (tabs K) 3 (He.fAd K ("World", some "alike")) (defArgs s_World_alike) p1_World_alike (sp_World_alike K) := by
    obtain ⟨fd, FD⟩ := G.def_ 28 (d := df_World_alike) rfl
    have c_World : SlX.SCls K (He.ga K "World") := scls_ok (G.ex 1)
    have me_World_value : Meth K (He.ga K "World") "value" (He.ma K (He.ga K "World") "value") := G.meth 54
    have m_all : mg "all" = none := G.free 5
    refine fn_def0 (p := ("World", some "alike")) (k := 2) FD sc_World_alike (fun _ _ _ _ _ _ us hl => match us, hl with | [_, _, _, _], _ => rfl) len_World_alike fun A outer s H E io hr => ⟨d_World_alike K, ?_, v_World_alike⟩
    have sc := sc_World_alike
    exact ss_one (s_ret (q_callB (sim_all rfl) (cr_all rfl) rfl m_all (by decide +kernel) (a_cons (q_fzL (q_lc (own := [("name", 4)]) rfl rfl sc.nd (QI.mc (q_iSeq rfl (qv 3))) (blkOk_by (by kernel_rfl)) (by simp [Tg.in_]) (fun _ _ _ _ _ => gnm 4 sc.nd) (fun _ _ _ _ _ => QTs.mc (q_noif)) (fun _ _ _ _ _ => QE.mc (q_cmp (op_eqD hr.units) (sim_eqD rfl) (q_methSl (E := C8.E0) rfl (qv 0) c_World me_World_value ((fn_World_value G).mono (by omega)) hr C8.pass0 (exOk_no _ _) (a_cons (qv 1) (a_cons (qv 4) (a_nil)))) (q_methSl (E := C8.E0) rfl (qv 0) c_World me_World_value ((fn_World_value G).mono (by omega)) hr C8.pass0 (exOk_no _ _) (a_cons (qv 2) (a_cons (qv 4) (a_nil)))) rfl)))) (a_nil))))

theorem sc_World_fits : FnScope N1_World_fits p1_World_fits (defScope s_World_fits) := C8.fnScope_by (by decide +kernel)
theorem len_World_fits {K : PySem.W.Frag} : ∀ ds S Q E, sp_World_fits K ds S Q E → ds.length = p1_World_fits.length := fun _ _ _ _ h => by
  unfold sp_World_fits at h; repeat' (first | refine Or.elim h (fun h => ?_) (fun h => ?_) | obtain ⟨_, h⟩ := h)
  all_goals (subst_vars; rfl)
theorem fn_World_fits {P : Program} {w : World} {K : PySem.W.Frag} {mg : Str → Option Value} {base : Heap} (G : Gx w K mg base) : FN P w K mg base C8.CX0 (tabs K) 3 (He.fAd K ("World", some "fits")) (defArgs s_World_fits) p1_World_fits (sp_World_fits K) := by
    obtain ⟨fd, FD⟩ := G.def_ 29 (d := df_World_fits) rfl
    have c_World : SlX.SCls K (He.ga K "World") := scls_ok (G.ex 1)
    have me_World_value : Meth K (He.ga K "World") "value" (He.ma K (He.ga K "World") "value") := G.meth 54
    have m_all : mg "all" = none := G.free 5
    refine fn_def0 (p := ("World", some "fits")) (k := 2) FD sc_World_fits (fun _ _ _ _ _ _ us hl => match us, hl with | [_, _, _], _ => rfl) len_World_fits fun A outer s H E io hr => ⟨d_World_fits K, ?_, v_World_fits⟩
    have sc := sc_World_fits
    exact ss_one (s_ret (q_callB (sim_all rfl) (cr_all rfl) rfl m_all (by decide +kernel) (a_cons (q_lc (own := [("name", 3), ("value", 4)]) rfl rfl sc.nd (q_iSeq rfl (qv 2)) (blkOk_by (by kernel_rfl)) (by simp [Tg.in_]) (fun _ _ _ _ _ => pg_tup rfl (pgs_cons (gnm 3 sc.nd) (pgs_cons (gnm 4 sc.nd) (pgs_nil)))) (fun _ _ _ _ _ => q_noif) (fun _ _ _ _ _ => q_cmp (op_eqD hr.units) (sim_eqD rfl) (q_methSl (E := C8.E0) rfl (qv 0) c_World me_World_value ((fn_World_value G).mono (by omega)) hr C8.pass0 (exOk_no _ _) (a_cons (qv 1) (a_cons (qv 3) (a_nil)))) (qv 4) rfl)) (a_nil))))

theorem sc_World_answer : FnScope N1_World_answer p1_World_answer (defScope s_World_answer) := C8.fnScope_by (by decide +kernel)
theorem len_World_answer {K : PySem.W.Frag} : ∀ ds S Q E, sp_World_answer K ds S Q E → ds.length = p1_World_answer.length := fun _ _ _ _ h => by
  unfold sp_World_answer at h; repeat' (first | refine Or.elim h (fun h => ?_) (fun h => ?_) | obtain ⟨_, h⟩ := h)
  all_goals (subst_vars; rfl)
theorem fn_World_answer {P : Program} {w : World} {K : PySem.W.Frag} {mg : Str → Option Value} {base : Heap} (G : Gx w K mg base) : FN P w K mg base C8.CX0 (tabs K) 5 (He.fAd K ("World", some "answer")) (defArgs s_World_answer) p1_World_answer (sp_World_answer K) := by
    obtain ⟨fd, FD⟩ := G.def_ 30 (d := df_World_answer) rfl
    have c_World : SlX.SCls K (He.ga K "World") := scls_ok (G.ex 1)
    have s_World_own_rules : SlX.Slot1 K (He.ga K "World") "own_rules" (He.ma K (He.ga K "World") "own_rules") 1 := slot_ok (G.ex 4)
    have me_World_fits : Meth K (He.ga K "World") "fits" (He.ma K (He.ga K "World") "fits") := G.meth 56
    have ot : OneT (tabs K) := oneT_ok (G.ex 7)
    obtain ⟨t_m_NOTHING, h_m_NOTHING⟩ : ∃ t, mg "NOTHING" = some (.str "" t) := G.str 46
    have m_next : mg "next" = none := G.free 53
    refine fn_def0 (p := ("World", some "answer")) (k := 4) FD sc_World_answer (fun _ _ _ _ _ _ us hl => match us, hl with | [_, _], _ => rfl) len_World_answer fun A outer s H E io hr => ⟨d_World_answer K, ?_, v_World_answer⟩
    have sc := sc_World_answer
    exact ss_one (s_ret (q_nextG (k := 3) (own := [("tests", 2), ("told", 3)]) rfl (List.mem_map.mpr ⟨(("World", some "answer"), ""), List.mem_of_getElem? (i := 1) rfl, rfl⟩) ot rfl sc.nd hr rfl m_next rfl h_m_NOTHING (G.tb 1) rfl (q_iSeq rfl (q_slot c_World s_World_own_rules (qv 0))) (blkOk_by (by kernel_rfl)) (by decide +kernel) rfl rfl (by simp [Tg.in_]) (fun _ _ _ _ _ _ hg => pg_tup rfl (pgs_cons (gnm 2 sc.nd) (pgs_cons (gnm 3 sc.nd) (pgs_nil)))) (fun _ _ _ _ _ _ hg => q_if1 (q_val (q_methSl (E := C8.E0) rfl (qv 0) c_World me_World_fits ((fn_World_fits G).mono (by omega)) hg C8.pass0 (exOk_no _ _) (a_cons (qv 1) (a_cons (qv 2) (a_nil)))))) (fun _ _ _ _ _ _ hg => qv 3) (by intro _; rfl)))

theorem sc_World_requests : FnScope N1_World_requests p1_World_requests (defScope s_World_requests) := C8.fnScope_by (by decide +kernel)
theorem len_World_requests {K : PySem.W.Frag} : ∀ ds S Q E, sp_World_requests K ds S Q E → ds.length = p1_World_requests.length := fun _ _ _ _ h => by
  unfold sp_World_requests at h; repeat' (first | refine Or.elim h (fun h => ?_) (fun h => ?_) | obtain ⟨_, h⟩ := h)
  all_goals (subst_vars; rfl)
theorem fn_World_requests {P : Program} {w : World} {K : PySem.W.Frag} {mg : Str → Option Value} {base : Heap} (G : Gx w K mg base) : FN P w K mg base C8.CX0 (tabs K) 1 (He.fAd K ("World", some "requests")) (defArgs s_World_requests) p1_World_requests (sp_World_requests K) := by
    obtain ⟨fd, FD⟩ := G.def_ 31 (d := df_World_requests) rfl
    have c_World : SlX.SCls K (He.ga K "World") := scls_ok (G.ex 1)
    have s_World_own_requests : SlX.Slot1 K (He.ga K "World") "own_requests" (He.ma K (He.ga K "World") "own_requests") 0 := slot_ok (G.ex 6)
    have m_list : mg "list" = none := G.free 8
    refine fn_def0 (p := ("World", some "requests")) (k := 0) FD sc_World_requests (fun _ _ _ _ _ _ us hl => match us, hl with | [_], _ => rfl) len_World_requests fun A outer s H E io hr => ⟨d_World_requests K, ?_, v_World_requests⟩
    have sc := sc_World_requests
    exact ss_one (s_ret (q_callTy (sim_list rfl) call_list_of rfl m_list (by decide +kernel) (a_cons (q_slot c_World s_World_own_requests (qv 0)) (a_nil))))

theorem sc_Later_shown : FnScope N1_Later_shown p1_Later_shown (defScope s_Later_shown) := C8.fnScope_by (by decide +kernel)
theorem len_Later_shown {K : PySem.W.Frag} : ∀ ds S Q E, sp_Later_shown_k45 K ds S Q E → ds.length = p1_Later_shown.length := fun _ _ _ _ h => by
  unfold sp_Later_shown_k45 at h; repeat' (first | refine Or.elim h (fun h => ?_) (fun h => ?_) | obtain ⟨_, h⟩ := h)
  all_goals (subst_vars; rfl)
theorem fn_Later_shown {P : Program} {w : World} {K : PySem.W.Frag} {mg : Str → Option Value} {base : Heap} (G : Gx w K mg base) : FN P w K mg base C8.CX0 (tabs K) 7 (He.fAd K ("Later", some "shown")) (defArgs s_Later_shown) p1_Later_shown (sp_Later_shown_k45 K) := by
    obtain ⟨fd, FD⟩ := G.def_ 32 (d := df_Later_shown) rfl
    have c_Later : SlX.SCls K (He.ga K "Later") := scls_ok (G.ex 0)
    have s_Later_own_world : SlX.Slot1 K (He.ga K "Later") "own_world" (He.ma K (He.ga K "Later") "own_world") 1 := slot_ok (G.ex 2)
    have c_World : SlX.SCls K (He.ga K "World") := scls_ok (G.ex 1)
    have me_World_requests : Meth K (He.ga K "World") "requests" (He.ma K (He.ga K "World") "requests") := G.meth 50
    have me_World_alike : Meth K (He.ga K "World") "alike" (He.ma K (He.ga K "World") "alike") := G.meth 51
    have me_World_answer : Meth K (He.ga K "World") "answer" (He.ma K (He.ga K "World") "answer") := G.meth 52
    have ot : OneT (tabs K) := oneT_ok (G.ex 7)
    have m_next : mg "next" = none := G.free 53
    refine fn_def0 (p := ("Later", some "shown")) (k := 6) FD sc_Later_shown (fun _ _ _ _ _ _ us hl => match us, hl with | [_, _], _ => rfl) len_Later_shown fun A outer s H E io hr => ⟨d_Later_shown_k45 K, ?_, v_Later_shown_k45⟩
    have sc := sc_Later_shown
    exact ss_cons (s_asg (qv 1) (g_tup rfl rfl (gs_cons (gdnm 3 sc.nd) (gs_cons (gdnm 4 sc.nd) (gs_cons (gdnm 5 sc.nd) (gs_nil))))))
          (ss_cons (s_fzL 2 (s_setLc (own := [("other", 6)]) rfl rfl sc.nd rfl rfl (by kernel_rfl) (QI.mc (q_iSeq rfl (q_methSl0 (E := C8.E0) rfl (q_slot c_Later s_Later_own_world (qv 0)) c_World me_World_requests ((fn_World_requests G).mono (by omega)) hr C8.pass0 (exOk_no _ _)))) (blkOk_by (by kernel_rfl)) (by simp [Tg.in_]) (fun _ _ _ _ _ => gnm 6 sc.nd) (fun _ _ _ _ _ => QTs.mc (q_if1 (q_val (q_methSl (E := C8.E0) rfl (q_slot c_Later s_Later_own_world (qv 0)) c_World me_World_alike ((fn_World_alike G).mono (by omega)) hr C8.pass0 (exOk_no _ _) (a_cons (qv 3) (a_cons (qv 6) (a_cons (qv 4) (a_nil)))))))) (fun _ _ _ _ _ => QE.mc (qv 6))))
          (ss_one (s_ret (q_nextN (k := 5) (own := [("other", 6)]) rfl (List.mem_map.mpr ⟨(("Later", some "shown"), ""), List.mem_of_getElem? (i := 0) rfl, rfl⟩) ot rfl sc.nd hr rfl m_next (G.tb 0) rfl (q_iSeq rfl (qv 2)) (blkOk_by (by kernel_rfl)) (by decide +kernel) rfl rfl (by simp [Tg.in_]) (fun _ _ _ _ _ _ hg => gnm 6 sc.nd) (fun _ _ _ _ _ _ hg => q_if1 (q_cmpT (op_neD hg.units) (sim_neD rfl) (q_methSl (E := C8.E0) rfl (q_slot c_Later s_Later_own_world (qv 0)) c_World me_World_answer ((fn_World_answer G).mono (by omega)) hg C8.pass0 (exOk_no _ _) (a_cons (qv 6) (a_nil))) (qv 5) rfl)) (fun _ _ _ _ _ _ hg => qv 6) (by intro _; rfl)))))

theorem sc_Later_right : FnScope N1_Later_right p1_Later_right (defScope s_Later_right) := C8.fnScope_by (by decide +kernel)
theorem len_Later_right {K : PySem.W.Frag} : ∀ ds S Q E, sp_Later_right_k45 K ds S Q E → ds.length = p1_Later_right.length := fun _ _ _ _ h => by
  unfold sp_Later_right_k45 at h; repeat' (first | refine Or.elim h (fun h => ?_) (fun h => ?_) | obtain ⟨_, h⟩ := h)
  all_goals (subst_vars; rfl)
theorem fn_Later_right {P : Program} {w : World} {K : PySem.W.Frag} {mg : Str → Option Value} {base : Heap} (G : Gx w K mg base) : FN P w K mg base C8.CX0 (tabs K) 8 (He.fAd K ("Later", some "right")) (defArgs s_Later_right) p1_Later_right (sp_Later_right_k45 K) := by
    obtain ⟨fd, FD⟩ := G.def_ 33 (d := df_Later_right) rfl
    have c_Later : SlX.SCls K (He.ga K "Later") := scls_ok (G.ex 0)
    have me_Later_copies : Meth K (He.ga K "Later") "copies" (He.ma K (He.ga K "Later") "copies") := G.meth 48
    have me_Later_shown : Meth K (He.ga K "Later") "shown" (He.ma K (He.ga K "Later") "shown") := G.meth 49
    refine fn_def0 (p := ("Later", some "right")) (k := 7) FD sc_Later_right (fun _ _ _ _ _ _ us hl => match us, hl with | [_], _ => rfl) len_Later_right fun A outer s H E io hr => ⟨d_Later_right_k45 K, ?_, v_Later_right_k45⟩
    have sc := sc_Later_right
    exact ss_one (s_ret (q_lc (own := [("copy", 1)]) rfl rfl sc.nd (q_iSeq rfl (q_methSl0 (E := C8.E0) rfl (qv 0) c_Later me_Later_copies ((fn_Later_copies G).mono (by omega)) hr C8.pass0 (exOk_no _ _))) (blkOk_by (by kernel_rfl)) (by simp [Tg.in_]) (fun _ _ _ _ _ => gnm 1 sc.nd) (fun _ _ _ _ _ => q_if1 (q_cmpT op_isN sim_isN (q_methSl (E := C8.E0) rfl (qv 0) c_Later me_Later_shown ((fn_Later_shown G).mono (by omega)) hr C8.pass0 (exOk_no _ _) (a_cons (qv 1) (a_nil))) (q_non) rfl)) (fun _ _ _ _ _ => qv 1)))

theorem sc_right : FnScope N1_right p1_right (defScope s_right) := C8.fnScope_by (by decide +kernel)
theorem len_right : ∀ ds S Q E, sp_right_k45 ds S Q E → ds.length = p1_right.length := fun _ _ _ _ h => by
  unfold sp_right_k45 at h; repeat' (first | refine Or.elim h (fun h => ?_) (fun h => ?_) | obtain ⟨_, h⟩ := h)
  all_goals (subst_vars; rfl)
theorem fn_right {P : Program} {w : World} {K : PySem.W.Frag} {mg : Str → Option Value} {base : Heap} (G : Gx w K mg base) : FN P w K mg base C8.CX0 (tabs K) 15 (He.fAd K ("right", none)) (defArgs s_right) p1_right (sp_right_k45) := by
    obtain ⟨fd, FD⟩ := G.def_ 34 (d := df_right) rfl
    have mk_Later : Mk K (He.ga K "Later") (He.ma K (He.ga K "Later") "__init__") := G.mkr 38
    have m_Later : mg "Later" = some (.ref (He.ga K "Later")) := G.glo 39
    have c_Later : SlX.SCls K (He.ga K "Later") := scls_ok (G.ex 0)
    have me_Later_right : Meth K (He.ga K "Later") "right" (He.ma K (He.ga K "Later") "right") := G.meth 40
    refine fn_def0 (p := ("right", none)) (k := 14) FD sc_right (fun _ _ _ _ _ _ us hl => match us, hl with | [_, _, _], _ => rfl) len_right fun A outer s H E io hr => ⟨d_right_k45 K, ?_, v_right_k45⟩
    have sc := sc_right
    exact ss_one (s_ret (q_methSl0 (E := C8.E0) rfl (q_makeSl (k := 13) (E := C8.E0) rfl mk_Later ((fn_Later_init G).mono (by omega)) hr rfl m_Later C8.pass0 (exOk_no _ _) (a_cons (qv 0) (a_cons (qv 1) (a_cons (qv 2) (a_nil))))) c_Later me_Later_right ((fn_Later_right G).mono (by omega)) hr C8.pass0 (exOk_no _ _)))

theorem sc_shows_wrong : FnScope N1_shows_wrong p1_shows_wrong (defScope s_shows_wrong) := C8.fnScope_by (by decide +kernel)
theorem len_shows_wrong : ∀ ds S Q E, sp_shows_wrong_k45 ds S Q E → ds.length = p1_shows_wrong.length := fun _ _ _ _ h => by
  unfold sp_shows_wrong_k45 at h; repeat' (first | refine Or.elim h (fun h => ?_) (fun h => ?_) | obtain ⟨_, h⟩ := h)
  all_goals (subst_vars; rfl)
theorem fn_shows_wrong {P : Program} {w : World} {K : PySem.W.Frag} {mg : Str → Option Value} {base : Heap} (G : Gx w K mg base) : FN P w K mg base C8.CX0 (tabs K) 15 (He.fAd K ("shows_wrong", none)) (defArgs s_shows_wrong) p1_shows_wrong (sp_shows_wrong_k45) := by
    obtain ⟨fd, FD⟩ := G.def_ 35 (d := df_shows_wrong) rfl
    have mk_Later : Mk K (He.ga K "Later") (He.ma K (He.ga K "Later") "__init__") := G.mkr 38
    have m_Later : mg "Later" = some (.ref (He.ga K "Later")) := G.glo 39
    have c_Later : SlX.SCls K (He.ga K "Later") := scls_ok (G.ex 0)
    have me_Later_shown : Meth K (He.ga K "Later") "shown" (He.ma K (He.ga K "Later") "shown") := G.meth 49
    have me_Later_copies : Meth K (He.ga K "Later") "copies" (He.ma K (He.ga K "Later") "copies") := G.meth 48
    refine fn_def0 (p := ("shows_wrong", none)) (k := 14) FD sc_shows_wrong (fun _ _ _ _ _ _ us hl => match us, hl with | [_, _, _], _ => rfl) len_shows_wrong fun A outer s H E io hr => ⟨d_shows_wrong_k45 K, ?_, v_shows_wrong_k45⟩
    have sc := sc_shows_wrong
    exact ss_cons (sset 3 sc.nd (q_makeSl (k := 13) (E := C8.E0) rfl mk_Later ((fn_Later_init G).mono (by omega)) hr rfl m_Later C8.pass0 (exOk_no _ _) (a_cons (qv 0) (a_cons (qv 1) (a_cons (q_lstF (a_cons (qv 2) (a_nil))) (a_nil))))))
          (ss_one (s_ret (q_methSl (E := C8.E0) rfl (qv 3) c_Later me_Later_shown ((fn_Later_shown G).mono (by omega)) hr C8.pass0 (exOk_no _ _) (a_cons (q_ix rfl (q_methSl0 (E := C8.E0) rfl (qv 3) c_Later me_Later_copies ((fn_Later_copies G).mono (by omega)) hr C8.pass0 (exOk_no _ _)) (q_int)) (a_nil)))))

theorem sc__law_right : FnScope N1__law_right p1__law_right (defScope s__law_right) := C8.fnScope_by (by decide +kernel)
theorem len__law_right : ∀ ds S Q E, sp__law_right_k45 ds S Q E → ds.length = p1__law_right.length := fun _ _ _ _ h => by
  unfold sp__law_right_k45 at h; repeat' (first | refine Or.elim h (fun h => ?_) (fun h => ?_) | obtain ⟨_, h⟩ := h)
  all_goals (subst_vars; rfl)
theorem fn__law_right {P : Program} {w : World} {K : PySem.W.Frag} {mg : Str → Option Value} {base : Heap} (G : Gx w K mg base) : FN P w K mg base C8.CX0 (tabs K) 16 (He.fAd K ("_law_right", none)) (defArgs s__law_right) p1__law_right (sp__law_right_k45) := by
    obtain ⟨fd, FD⟩ := G.def_ 36 (d := df__law_right) rfl
    have m_range : mg "range" = none := G.free 1
    have m__law_of : mg "_law_of" = some (.ref (He.ga K "_law_of")) := G.glo 10
    have m__law_world : mg "_law_world" = some (.ref (He.ga K "_law_world")) := G.glo 11
    have m__law_rules : mg "_law_rules" = some (.ref (He.ga K "_law_rules")) := G.glo 12
    have m__law_take : mg "_law_take" = some (.ref (He.ga K "_law_take")) := G.glo 13
    have m__law_copies : mg "_law_copies" = some (.ref (He.ga K "_law_copies")) := G.glo 14
    have m__law_fine : mg "_law_fine" = some (.ref (He.ga K "_law_fine")) := G.glo 15
    have m_len : mg "len" = none := G.free 2
    have m_right : mg "right" = some (.ref (He.ga K "right")) := G.glo 16
    have m_enumerate : mg "enumerate" = none := G.free 9
    have m__law_lists : mg "_law_lists" = some (.ref (He.ga K "_law_lists")) := G.glo 17
    have m__law_same : mg "_law_same" = some (.ref (He.ga K "_law_same")) := G.glo 18
    have m_shows_wrong : mg "shows_wrong" = some (.ref (He.ga K "shows_wrong")) := G.glo 19
    have m_list : mg "list" = none := G.free 8
    refine fn_def0 (p := ("_law_right", none)) (k := 15) FD sc__law_right (fun _ _ _ _ _ _ us hl => match us, hl with | [_], _ => rfl) len__law_right fun A outer s H E io hr => ⟨d__law_right_k45, ?_, v__law_right_k45⟩
    have sc := sc__law_right
    exact ss_cons (sset 1 sc.nd (q_lstF (a_cons (q_lst (a_nil)) (a_cons (q_lst (a_nil)) (a_cons (q_lst (a_nil)) (a_nil))))))
          (ss_cons (q_for rfl PassesOwn.never rfl (q_range1 rfl m_range (a_cons (q_int) (a_nil))) (gnm 2 sc.nd) (ss_cons (sset 5 sc.nd (q_call (E := C8.E0) rfl ((fn__law_world G).mono (by omega)) hr rfl m__law_world C8.pass0 (exOk_no _ _) (a_cons (qv 0) (a_cons (q_call (E := C8.E0) rfl ((fn__law_of G).mono (by omega)) hr rfl m__law_of C8.pass0 (exOk_no _ _) (a_cons (qv 0) (a_cons (q_lstF (a_cons (q_lstF (a_cons (q_int) (a_cons (q_int) (a_cons (q_int) (a_nil))))) (a_cons (q_lstF (a_cons (q_int) (a_cons (q_int) (a_cons (q_int) (a_nil))))) (a_cons (q_lstF (a_cons (q_int) (a_cons (q_int) (a_cons (q_int) (a_nil))))) (a_cons (q_lstF (a_cons (q_int) (a_cons (q_int) (a_nil)))) (a_cons (q_lstF (a_cons (q_int) (a_cons (q_int) (a_cons (q_int) (a_cons (q_int) (a_nil)))))) (a_nil))))))) (a_nil)))) (a_nil)))))
          (ss_cons (s_asg (q_tup (a_cons (q_call (E := C8.E0) rfl ((fn__law_copies G).mono (by omega)) hr rfl m__law_copies C8.pass0 (exOk_no _ _) (a_cons (qv 0) (a_cons (qv 5) (a_cons (q_op op_add (simI0 fun _ _ _ _ _ => rfl) (q_int) (q_call (E := C8.E0) rfl ((fn__law_take G).mono (by omega)) hr rfl m__law_take C8.pass0 (exOk_no _ _) (a_cons (qv 0) (a_cons (q_int) (a_nil))))) (a_nil))))) (a_cons (q_call (E := C8.E0) rfl ((fn__law_rules G).mono (by omega)) hr rfl m__law_rules C8.pass0 (exOk_no _ _) (a_cons (qv 0) (a_cons (qv 5) (a_nil)))) (a_nil)))) (g_tup rfl rfl (gs_cons (gdnm 3 sc.nd) (gs_cons (gdnm 12 sc.nd) (gs_nil)))))
          (ss_cons (sset 6 sc.nd (q_call (E := C8.E0) rfl ((fn__law_fine G).mono (by omega)) hr rfl m__law_fine C8.pass0 (exOk_no _ _) (a_cons (qv 5) (a_cons (qv 12) (a_cons (qv 3) (a_nil))))))
          (ss_cons (s_fzL 7 (s_setLc (own := [("_law_k", 10)]) rfl rfl sc.nd rfl rfl (by kernel_rfl) (QI.mc (q_range1 rfl m_range (a_cons (q_callB (sim_len rfl) call_len rfl m_len (by decide +kernel) (a_cons (qv 3) (a_nil))) (a_nil)))) (blkOk_by (by kernel_rfl)) (by simp [Tg.in_]) (fun _ _ _ _ _ => gnm 10 sc.nd) (fun _ _ _ _ _ => QTs.mc (q_if1 (q_cmpT op_isN sim_isN (q_ix rfl (qv 6) (qv 10)) (q_non) rfl))) (fun _ _ _ _ _ => QE.mc (q_ix rfl (qv 3) (qv 10)))))
          (ss_cons (sset 4 sc.nd (q_call (E := C8.E0) rfl ((fn_right G).mono (by omega)) hr rfl m_right C8.pass0 (exOk_no _ _) (a_cons (qv 5) (a_cons (qv 12) (a_cons (qv 3) (a_nil))))))
          (ss_cons (q_for rfl PassesOwn.never rfl (q_enumS rfl rfl m_enumerate (a_cons (q_tup (a_cons (qv 5) (a_cons (qv 12) (a_cons (qv 3) (a_nil))))) (a_nil))) (pg_tup rfl (pgs_cons (gnm 10 sc.nd) (pgs_cons (gnm 13 sc.nd) (pgs_nil)))) (ss_one (s_asg (q_frz (q_call (E := C8.E0) rfl ((fn__law_lists 8 G).mono (by omega)) hr rfl m__law_lists C8.pass0 (exOk_no _ _) (a_cons (qv 13) (a_nil)))) (g_all rfl (q_ix rfl (qv 1) (qv 10))))))
          (ss_cons (sset 8 sc.nd (q_lstF (a_cons (q_frz (q_call (E := C8.E0) rfl ((fn__law_lists 8 G).mono (by omega)) hr rfl m__law_lists C8.pass0 (exOk_no _ _) (a_cons (qv 12) (a_nil)))) (a_cons (q_frz (q_call (E := C8.E0) rfl ((fn__law_lists 8 G).mono (by omega)) hr rfl m__law_lists C8.pass0 (exOk_no _ _) (a_cons (qv 3) (a_nil)))) (a_nil)))))
          (ss_cons (sset 9 sc.nd (q_callK0 (E := C8.E0) (ks := ["copies", "rules", "world"]) (is := [2, 1, 0]) rfl ((fn_right G).mono (by omega)) hr rfl m_right C8.pass0 (exOk_no _ _) (fun _ _ _ _ _ _ _ _ _ _ us hl => match us, hl with | [_, _, _], _ => rfl) (k_cons (q_ix rfl (qv 1) (q_int)) (k_cons (q_ix rfl (qv 1) (q_int)) (k_cons (q_ix rfl (qv 1) (q_int)) (k_nil))))))
          (ss_cons (s_if (q_not (q_val (q_call (E := C8.E0) rfl ((fn__law_same 8 G).mono (by omega)) hr rfl m__law_same C8.pass0 (exOk_no _ _) (a_cons (q_lstF (a_cons (qv 4) (a_cons (qv 9) (a_nil)))) (a_cons (q_lstF (a_cons (qv 7) (a_cons (qv 7) (a_nil)))) (a_nil)))))) (ss_one (s_ret (q_bl))) (ss_nil))
          (ss_cons (s_expr (q_bm rfl sim_append PySem.F.plainAttrs_list PySem.F.slot_list_append PySem.F.type_list_append mt_append (qv 4) (a_cons (q_str) (a_nil))))
          (ss_cons (s_if (q_not (q_val (q_call (E := C8.E0) rfl ((fn__law_same 8 G).mono (by omega)) hr rfl m__law_same C8.pass0 (exOk_no _ _) (a_cons (q_call (E := C8.E0) rfl ((fn_right G).mono (by omega)) hr rfl m_right C8.pass0 (exOk_no _ _) (a_cons (qv 5) (a_cons (qv 12) (a_cons (qv 3) (a_nil))))) (a_cons (qv 7) (a_nil)))))) (ss_one (s_ret (q_bl))) (ss_nil))
          (ss_cons (q_for rfl PassesOwn.never rfl (q_range1 rfl m_range (a_cons (q_callB (sim_len rfl) call_len rfl m_len (by decide +kernel) (a_cons (qv 3) (a_nil))) (a_nil))) (gnm 10 sc.nd) (ss_cons (sset 4 sc.nd (q_lst (a_cons (q_call (E := C8.E0) rfl ((fn_shows_wrong G).mono (by omega)) hr rfl m_shows_wrong C8.pass0 (exOk_no _ _) (a_cons (qv 5) (a_cons (qv 12) (a_cons (q_ix rfl (qv 3) (qv 10)) (a_nil))))) (a_nil))))
          (ss_cons (s_expr (q_bm rfl sim_append PySem.F.plainAttrs_list PySem.F.slot_list_append PySem.F.type_list_append mt_append (qv 4) (a_cons (q_callK0 (E := C8.E0) (ks := ["copy", "rules", "world"]) (is := [2, 1, 0]) rfl ((fn_shows_wrong G).mono (by omega)) hr rfl m_shows_wrong C8.pass0 (exOk_no _ _) (fun _ _ _ _ _ _ _ _ _ _ us hl => match us, hl with | [_, _, _], _ => rfl) (k_cons (q_ix rfl (q_ix rfl (qv 8) (q_int)) (qv 10)) (k_cons (q_ix rfl (qv 1) (q_int)) (k_cons (q_ix rfl (qv 1) (q_int)) (k_nil))))) (a_nil))))
          (ss_one (s_if (q_not (q_val (q_call (E := C8.E0) rfl ((fn__law_same 8 G).mono (by omega)) hr rfl m__law_same C8.pass0 (exOk_no _ _) (a_cons (qv 4) (a_cons (q_fzO fz_repL (q_op op_repR sim_repL (QE.mc (q_lstF (a_cons (q_ix rfl (qv 6) (qv 10)) (a_nil)))) (QE.mc (q_int)))) (a_nil)))))) (ss_one (s_ret (q_bl))) (ss_nil))))))
          (ss_one (s_if (q_w (w_or (q_cmpT (op_neD hr.units) (sim_neO rfl) (qv 1) (q_fzO fz_addL (q_op op_catR sim_addL (QE.mc (q_lstF (a_cons (q_frz (q_call (E := C8.E0) rfl ((fn__law_lists 8 G).mono (by omega)) hr rfl m__law_lists C8.pass0 (exOk_no _ _) (a_cons (qv 5) (a_nil)))) (a_nil)))) (QE.mc (qv 8)))) rfl) (w_or1 (q_cmpT (op_neD hr.units) (sim_neD rfl) (q_call (E := C8.E0) rfl ((fn_right G).mono (by omega)) hr rfl m_right C8.pass0 (exOk_no _ _) (a_cons (qv 5) (a_cons (qv 12) (a_cons (q_tup (a_nil)) (a_nil))))) (q_lstF (a_nil)) rfl)))) (ss_one (s_ret (q_bl))) (ss_nil))))))))))))))))
          (ss_cons (s_asg (q_tup (a_cons (q_tup (a_cons (q_tup (a_cons (q_tup (a_cons (q_str) (a_cons (q_tup (a_cons (q_str) (a_cons (q_str) (a_nil)))) (a_nil)))) (a_nil))) (a_cons (q_tup (a_nil)) (a_nil)))) (a_cons (q_tup (a_cons (q_tup (a_cons (q_tup (a_cons (q_tup (a_cons (q_str) (a_cons (q_str) (a_nil)))) (a_nil))) (a_cons (q_str) (a_nil)))) (a_nil))) (a_nil)))) (g_tup rfl rfl (gs_cons (gdnm 11 sc.nd) (gs_cons (gdnm 12 sc.nd) (gs_nil)))))
          (ss_cons (sset 3 sc.nd (q_tup (a_cons (q_tup (a_cons (q_tup (a_cons (q_str) (a_nil))) (a_cons (q_tup (a_nil)) (a_cons (q_str) (a_nil))))) (a_cons (q_tup (a_cons (q_tup (a_cons (q_str) (a_nil))) (a_cons (q_tup (a_cons (q_str) (a_nil))) (a_cons (q_str) (a_nil))))) (a_cons (q_tup (a_cons (q_tup (a_cons (q_str) (a_nil))) (a_cons (q_tup (a_cons (q_str) (a_nil))) (a_cons (q_str) (a_nil))))) (a_nil))))))
          (ss_cons (sset 4 sc.nd (q_lstF (a_cons (q_call (E := C8.E0) rfl ((fn_right G).mono (by omega)) hr rfl m_right C8.pass0 (exOk_no _ _) (a_cons (qv 11) (a_cons (qv 12) (a_cons (qv 3) (a_nil))))) (a_cons (q_call (E := C8.E0) rfl ((fn_shows_wrong G).mono (by omega)) hr rfl m_shows_wrong C8.pass0 (exOk_no _ _) (a_cons (qv 11) (a_cons (qv 12) (a_cons (q_ix rfl (qv 3) (q_int)) (a_nil))))) (a_nil)))))
          (ss_one (s_ret (q_call (E := C8.E0) rfl ((fn__law_same 8 G).mono (by omega)) hr rfl m__law_same C8.pass0 (exOk_no _ _) (a_cons (qv 4) (a_cons (q_lstF (a_cons (q_fzB fz_list (q_callTy (sim_list rfl) call_list_of rfl m_list (by decide +kernel) (QA.mc (a_cons (q_sliceF rfl (qv 3) (o_some (q_int)) (o_none)) (a_nil))))) (a_cons (q_tup (a_cons (q_str) (a_nil))) (a_nil)))) (a_nil))))))))))

theorem sc_law : FnScope N1_law p1_law (defScope s_law) := C8.fnScope_by (by decide +kernel)
theorem len_law : ∀ ds S Q E, sp_law_k45 ds S Q E → ds.length = p1_law.length := fun _ _ _ _ h => by
  unfold sp_law_k45 at h; repeat' (first | refine Or.elim h (fun h => ?_) (fun h => ?_) | obtain ⟨_, h⟩ := h)
  all_goals (subst_vars; rfl)

theorem ok_law {P : Program} {w : World} {K : PySem.W.Frag} {mg : Str → Option Value} {base : Heap} {fd : FuncData} (FD : FunD K df_law.name df_law.qual df_law.params df_law.body df_law.scope [] [] (He.fAd K ("law", none)) fd) (G : Gx w K mg base) : FnOk P w K mg base C8.CX0 17 (He.fAd K ("law", none)) fd p1_law (liftSp K (tabs K) sp_law_k45) := by
    have m__law_cells : mg "_law_cells" = some (.ref (He.ga K "_law_cells")) := G.glo 0
    have m_range : mg "range" = none := G.free 1
    have m_len : mg "len" = none := G.free 2
    have m__law_box : mg "_law_box" = some (.ref (He.ga K "_law_box")) := G.glo 3
    have m__law_right : mg "_law_right" = some (.ref (He.ga K "_law_right")) := G.glo 4
    have m_all : mg "all" = none := G.free 5
    refine fn_ok0 (p := ("law", none)) (k := 16) FD sc_law len_law fun A outer s H E io hr => ⟨d_law_k45, ?_, v_law_k45⟩
    have sc := sc_law
    exact ss_cons (sset 1 sc.nd (q_call (E := C8.E0) rfl ((fn__law_cells G).mono (by omega)) hr rfl m__law_cells C8.pass0 (exOk_no _ _) (a_cons (qv 0) (a_cons (q_int) (a_nil)))))
          (ss_cons (q_for rfl PassesOwn.never rfl (q_range1 rfl m_range (a_cons (q_callB (sim_len rfl) call_len rfl m_len (by decide +kernel) (a_cons (qv 1) (a_nil))) (a_nil))) (gnm 2 sc.nd) (ss_cons (sset 3 sc.nd (q_call (E := C8.E0) rfl ((fn__law_box G).mono (by omega)) hr rfl m__law_box C8.pass0 (exOk_no _ _) (a_cons (qv 1) (a_cons (qv 2) (a_nil)))))
          (ss_one (s_if (q_not (q_val (q_callB (sim_all rfl) (cr_all rfl) rfl m_all (by decide +kernel) (a_cons (q_fzL (q_lc (own := [("_law_turn", 4)]) rfl rfl sc.nd (QI.mc (q_range1 rfl m_range (a_cons (q_int) (a_nil)))) (blkOk_by (by kernel_rfl)) (by simp [Tg.in_]) (fun _ _ _ _ _ => gnm 4 sc.nd) (fun _ _ _ _ _ => QTs.mc (q_noif)) (fun _ _ _ _ _ => QE.mc (q_call (E := C8.E0) rfl ((fn__law_right G).mono (by omega)) hr rfl m__law_right C8.pass0 (exOk_no _ _) (a_cons (qv 3) (a_nil)))))) (a_nil))))) (ss_one (s_ret (q_bl))) (ss_nil)))))
          (ss_one (s_ret (q_bl))))
theorem hsp_law : ∀ (S : Sto) (v : D) (ns : List Int), ns.length ≤ 63 → (∀ z ∈ ns, Builtin.Int.intBits z ≤ 1048576) → lstD S v = some (ns.map .int) → sp_law_k45 [v] S (fun r _ => r = .bl true) noX :=
  fun S v ns h1 h2 h3 => ⟨v, ns, rfl, h3, h1, rfl⟩
abbrev hk : PySem.W.Hook := He.hookX 4 fa fn [] tf ex
def ob (s : PySem.W.SharedT) : He.AlX := He.obsX 4 fa fn [] tf ex (HandSHeadRun.getT s)
theorem ob_eq (s : PySem.W.SharedT) : ob s = hk.obs s.abs := He.obsX_eq (HandSHeadRun.getT_eq s)
theorem run (w : World) : HandSHeadRun.RunEq R (PySem.W.view R.prog [33]) hk ob 4000 names w := by
  intro os
  kernel_rfl
theorem facts {w : World} {K : PySem.W.Frag} {h : Heap} {mg : Str → Option Value} {f : Addr} (X : K.In h) (G : h.Ns mainGlobals mg) (hfa : mg ("law" : Str) = some (.ref f)) (c : He.SaysX fa fn [] tf ex w h K) :
    LamX.LawAtS PySem.Challenge.rw_variesby_k45_copies_that_stay_right w K C8.CX0 17 63 "_law_script" mg f h := by
  obtain ⟨fd, FD⟩ := c.t.d.def_ 37 (d := df_law) rfl
  have e := hfa.symm.trans (He.glo_ok X G (c.t.d.fact 57 (f := .glo "law") rfl))
  cases e
  have b := FunD.bindsA (ps := ["_law_script"]) FD fun _ _ _ _ _ _ us hl => match us, hl with | [_], _ => rfl
  exact law_end X c (fun s u => b s [u] rfl) (fun base hK hG hT => ok_law FD ⟨⟨h, X, G⟩, c.t.d, c.more, hT⟩) hsp_law
end LK
open PySem PySem.W PySem.Calls PyProof.Rows
theorem PySem.Challenge.cw_variesby_k45_copies_that_stay_right_holds : PySem.Challenge.rw_variesby_k45_copies_that_stay_right.Holds := by
  w_on; o_law
  refine HandSHeadRun.head_any (r := OpenLaw.row PySem.Challenge.rw_variesby_k45_copies_that_stay_right) (q := view (OpenLaw.row PySem.Challenge.rw_variesby_k45_copies_that_stay_right).prog [33]) (H := LK.hk) (ob := LK.ob) (M := 4000) (loose := LK.names) (d := HandSHeadRun.topDef (OpenLaw.row PySem.Challenge.rw_variesby_k45_copies_that_stay_right).prog 33) (kwd := []) LK.ob_eq
    (by kernel_rfl) (fun s => by kernel_rfl) LK.run (by kernel_rfl) (by kernel_rfl) (by kernel_rfl) (by rfl) (by first | assumption | decide +kernel) (by decide +kernel) ⟨rfl, rfl, rfl, rfl, rfl, by decide +kernel⟩ ?hw ?hc
  case hw => w_witness2
  case hc =>
    refine LamX.walk_ofTsE (l := PySem.Challenge.rw_variesby_k45_copies_that_stay_right) (n := 63) (k := 17) (x := "_law_script") (CX := fun _ => C8.CX0) rfl (by decide) (by kernel_rfl) ⟨rfl, by decide, by decide⟩ ?F (fun _ _ _ _ _ z => z)
    intro w mg fa h Y G hmg0
    obtain ⟨K, KX, c⟩ := Y
    have hmg : mg ("law" : PySem.Str) = some (.ref fa) := by
      have e : (HandSHeadRun.topDef (OpenLaw.row PySem.Challenge.rw_variesby_k45_copies_that_stay_right).prog 33).name = ("law" : PySem.Str) := by kernel_rfl
      rw [← e]
      exact hmg0
    exact ⟨K, KX, LK.facts KX G hmg c⟩
end
