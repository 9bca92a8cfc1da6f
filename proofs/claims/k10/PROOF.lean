import PyProof.Rows.All
import Wide.All
import OpenK.AllK
import Wide.FinOn
import HandS.ForMost
import HandS.ForExc
import HandS.Defaults
import HandS.Slots
import HandS.SlotsVar
import HandS.Deep
import HandS.Lambda
import KE.KeyNested
import HandS.Iter
import HandS.Star
import HandS.Codes
import HandS.TupAny
import HandS.TupMul
import HandS.IsInst
import HandS.Conv
import HandS.More
import HandS.AnyAll
import HandS.GenList
import HandS.Flow
import HandS.Small
import KE.KDictList
import HandS.Zip
import HandS.Comp
import HandS.DictComp
import HandS.MakeKwOnly
import HandS.Head0
import HandS.Head1
import HandS.Head2
import HandS.HeadHook1
import HandS.HeadHook2
import HandS.HeadHook3
import HandS.HeadHook4
import HandS.HeadWalk
import HandS.Words
import HandS.Wide
import KE.SortUse
import HandS.SortKw
import KE.GoesMore
import PyProof.SumAny
import PyProof.Rows.SeqMore
import KE.SortData
import HandS.Set
import PyProof.Rows.SortShellAny
import KE.KUnpack
import HandS.Style
import KE.KDictPairs
import HandS.Strs
import PyProof.TupleIter
import KE.KRevSl
import HandS.TupLe
import PyProof.TupleOfSeq
import KE.GoesEnum
import HandS.MakeKw
import KE.KExcSuper
import HandS.ExcSuper
import KE.KTryMore
import HandS.ExcOwn
import HandS.ExcValue
import KE.KExcIs
import KE.DataMinMax
import HandS.Steps
import HandS.List
import HandS.Text
import HandS.RevTup
import PyProof.DictWalks
import PyProof.FString5
import HandS.DictTup
import KE.KDictSum
import HandS.TupSets
import PyProof.ReprRoads
import PyProof.ReprBulk
import PyProof.CallFns
import HandS.TryMany
import PySem.Challenge.RW_variesby_k10_worlds_or_none
import KE.DataCmp
import KE.KDictKeyed
import KE.KDictWalk
section
set_option Elab.async false
set_option linter.all false
set_option maxRecDepth 100000
set_option maxHeartbeats 2000000
namespace L3
open PySem PySem.Spec PyProof.Rows L2

inductive D where
  | non
  | bl (b : Bool)
  | int (i : Int)
  | str (x : Str)
  | tup (ds : List D)
  | lst (ds : List D)
  | kl (ds : List D)
  | kt (ds : List D)
  | dic (ks : List Key) (ds : List D)
  | ref (l : Nat)
  | raw (v : V)

inductive Ob where
  | lst (ds : List D)
  | dic (ks : List Key) (ds : List D)
  /-- its keys are tuples -/
  | dit (ks : List (List Key)) (ds : List D)
  /-- its keys are tuples of texts, whole numbers, None and such tuples; its epoch -/
  | din (ep : Nat) (ks : List NestedKey) (ds : List D)
  | ins (C : Addr) (fs : List Str) (ds : List D)
  | slt (C : Addr) (ds : List (Option D))
  /-- an exception that was caught: its class, its fields -/
  | exc (c : Value) (fs : List Str) (ds : List D)
  /-- one that has no dict: its class -/
  | exn (c : Value)
abbrev Sto := Nat → Option Ob
def Sto.set (S : Sto) (l : Nat) (o : Ob) : Sto := fun m => if m = l then some o else S m
def Sto.del (S : Sto) (l : Nat) : Sto := fun m => if m = l then none else S m
def Sto.sub (S S' : Sto) : Prop := ∀ l o, S l = some o → S' l = some o
theorem Sto.sub_refl (S : Sto) : S.sub S := fun _ _ h => h
theorem Sto.sub_trans {S S' S'' : Sto} (h : S.sub S') (h' : S'.sub S'') : S.sub S'' := fun l o e => h' l o (h l o e)
theorem Sto.set_same {S : Sto} {l : Nat} {o : Ob} : S.set l o l = some o := by unfold Sto.set; rw [if_pos rfl]
theorem Sto.set_ne {S : Sto} {l m : Nat} {o : Ob} (h : m ≠ l) : S.set l o m = S m := by unfold Sto.set; rw [if_neg h]
theorem Sto.del_ne {S : Sto} {l m : Nat} (h : m ≠ l) : S.del l m = S m := by unfold Sto.del; rw [if_neg h]
theorem Sto.del_same {S : Sto} {l : Nat} : S.del l l = none := by unfold Sto.del; rw [if_pos rfl]
theorem Sto.set_set {S : Sto} {l : Nat} {o o' : Ob} : (S.set l o).set l o' = S.set l o' := by funext m; unfold Sto.set; split <;> rfl
theorem Sto.del_set {S : Sto} {l : Nat} {o : Ob} (h : S l = none) : (S.set l o).del l = S := by
  funext m; unfold Sto.set Sto.del; by_cases e : m = l
  · simp [e, h]
  · simp [e]
theorem Sto.sub_set {S : Sto} {l : Nat} {o : Ob} (h : S l = none) : S.sub (S.set l o) := fun m p e => by
  unfold Sto.set; by_cases q : m = l
  · subst q; rw [h] at e; cases e
  · rw [if_neg q]; exact e
abbrev Pl := List (Addr × Addr)
def FzL (H : Hp) (a : Addr) (xs : List V) : Prop := ∃ o, H a = some (.frz o (.lst xs))
theorem FzL.rd {H : Hp} {a : Addr} {xs : List V} (h : FzL H a xs) : Rd H a (.lst xs) := .inr h
theorem FzL.sq {K : PySem.W.Frag} {H : Hp} {a : Addr} {xs : List V} (h : FzL H a xs) : SqL K H a xs := .inl h.rd
def KLst (K : PySem.W.Frag) (a : Addr) (xs : List V) : Prop :=
  ∃ (o : Obj) (its : Array Value) (n : Nat), K.lookup a = some o ∧ o.cls = .type "list" ∧ o.dict = none ∧ o.data = .seq its n ∧ its.size ≤ sizeLine ∧ Vals xs its.toList
section
variable (K : PySem.W.Frag) (io : Pl) (H : Hp)
mutual
def RD : D → V → Prop
  | .non, v => v = .non
  | .bl b, v => v = .bl b
  | .int i, v => v = .int i
  | .str x, v => v = .str x
  | .tup ds, v => ∃ a xs, v = .ref a ∧ H a = some (.tup xs) ∧ RDs ds xs
  | .lst ds, v => ∃ a xs, v = .ref a ∧ FzL H a xs ∧ RDs ds xs
  | .kl ds, v => ∃ a xs, v = .ref a ∧ KLst K a xs ∧ RDs ds xs
  | .kt ds, v => ∃ a o xs, v = .ref a ∧ H a = some (.frz o (.tup xs)) ∧ o.dict = none ∧ RDs ds xs
  | .dic ks ds, v => ∃ a o kvs, v = .ref a ∧ H a = some (.frz o (.dK kvs)) ∧ kvs.map (·.1) = ks ∧ RDs ds (kvs.map (·.2))
  | .ref l, v => ∃ p, io[l]? = some p ∧ v = .ref p.1
  | .raw w, v => v = w
def RDs : List D → List V → Prop
  | [], xs => xs = []
  | d :: ds, xs => ∃ x r, xs = x :: r ∧ RD d x ∧ RDs ds r
end
def RDo : List (Option D) → List (Option V) → Prop
  | [], xs => xs = []
  | none :: ds, xs => ∃ x r, xs = x :: r ∧ RDo ds r
  | some d :: ds, xs => ∃ x r, xs = some x :: r ∧ RD K io H d x ∧ RDo ds r
end

structure Stp (io : Pl) (H : Hp) (io' : Pl) (H' : Hp) : Prop where
  pl : ∃ more, io' = io ++ more
  tup : ∀ a xs, H a = some (.tup xs) → H' a = some (.tup xs)
  frz : ∀ a o u, H a = some (.frz o u) → H' a = some (.frz o u)
theorem Stp.refl (io : Pl) (H : Hp) : Stp io H io H := ⟨⟨[], by simp⟩, fun _ _ h => h, fun _ _ _ h => h⟩
theorem Stp.trans {i1 i2 i3 : Pl} {H1 H2 H3 : Hp} (a : Stp i1 H1 i2 H2) (b : Stp i2 H2 i3 H3) : Stp i1 H1 i3 H3 := by
  obtain ⟨m, e⟩ := a.pl
  obtain ⟨m', e'⟩ := b.pl
  exact ⟨⟨m ++ m', by rw [e', e, List.append_assoc]⟩, fun x xs h => b.tup x xs (a.tup x xs h), fun x o u h => b.frz x o u (a.frz x o u h)⟩
theorem Stp.at_ {i1 i2 : Pl} {H1 H2 : Hp} (a : Stp i1 H1 i2 H2) {l : Nat} {p : Addr × Addr} (h : i1[l]? = some p) : i2[l]? = some p := by
  obtain ⟨m, e⟩ := a.pl
  have hl : l < i1.length := (List.getElem?_eq_some_iff.mp h).1
  rw [e, List.getElem?_append_left hl]; exact h
theorem Stp.sqT {K : PySem.W.Frag} {i1 i2 : Pl} {H1 H2 : Hp} (a : Stp i1 H1 i2 H2) {x : Addr} {xs : List V} (h : SqT K H1 x xs) : SqT K H2 x xs := by
  rcases h with (h | ⟨o, h⟩) | h
  · exact .inl (.inl (a.tup _ _ h))
  · exact .inl (.inr ⟨o, a.frz _ _ _ h⟩)
  · exact .inr h
theorem Stp.fzL {i1 i2 : Pl} {H1 H2 : Hp} (a : Stp i1 H1 i2 H2) {x : Addr} {xs : List V} (h : FzL H1 x xs) : FzL H2 x xs := by
  obtain ⟨o, h⟩ := h
  exact ⟨o, a.frz _ _ _ h⟩
section
variable {K : PySem.W.Frag} {i1 i2 : Pl} {H1 H2 : Hp}
mutual
theorem RD.mono (a : Stp i1 H1 i2 H2) : ∀ (d : D) {v : V}, RD K i1 H1 d v → RD K i2 H2 d v
  | .non, _, h => h
  | .bl _, _, h => h
  | .int _, _, h => h
  | .str _, _, h => h
  | .tup ds, _, h => by
    obtain ⟨x, xs, e, s, r⟩ := h
    exact ⟨x, xs, e, a.tup _ _ s, RDs.mono a ds r⟩
  | .lst ds, _, h => by
    obtain ⟨x, xs, e, s, r⟩ := h
    exact ⟨x, xs, e, a.fzL s, RDs.mono a ds r⟩
  | .kl ds, _, h => by
    obtain ⟨x, xs, e, s, r⟩ := h
    exact ⟨x, xs, e, s, RDs.mono a ds r⟩
  | .kt ds, _, h => by
    obtain ⟨x, o, xs, e, s, q, r⟩ := h
    exact ⟨x, o, xs, e, a.frz _ _ _ s, q, RDs.mono a ds r⟩
  | .dic ks ds, _, h => by
    obtain ⟨x, o, kvs, e, s, q, r⟩ := h
    exact ⟨x, o, kvs, e, a.frz _ _ _ s, q, RDs.mono a ds r⟩
  | .ref l, _, h => by
    obtain ⟨p, e, q⟩ := h
    exact ⟨p, a.at_ e, q⟩
  | .raw _, _, h => h
theorem RDs.mono (a : Stp i1 H1 i2 H2) : ∀ (ds : List D) {xs : List V}, RDs K i1 H1 ds xs → RDs K i2 H2 ds xs
  | [], _, h => h
  | d :: ds, _, h => by
    obtain ⟨x, r, e, h1, h2⟩ := h
    exact ⟨x, r, e, RD.mono a d h1, RDs.mono a ds h2⟩
end
theorem RDo.mono (a : Stp i1 H1 i2 H2) : ∀ (ds : List (Option D)) {xs : List (Option V)}, RDo K i1 H1 ds xs → RDo K i2 H2 ds xs
  | [], _, h => h
  | none :: ds, _, h => by
    obtain ⟨x, r, e, h2⟩ := h
    exact ⟨x, r, e, RDo.mono a ds h2⟩
  | some d :: ds, _, h => by
    obtain ⟨x, r, e, h1, h2⟩ := h
    exact ⟨x, r, e, RD.mono a d h1, RDo.mono a ds h2⟩
end
theorem RD.kt_sq {K : PySem.W.Frag} {io : Pl} {H : Hp} {ds : List D} {x : V} (h : RD K io H (.kt ds) x) : ∃ a xs, x = .ref a ∧ SqT K H a xs ∧ RDs K io H ds xs :=
  let ⟨a, o, xs, e, s, _, r⟩ := h
  ⟨a, xs, e, .inl (.inr ⟨o, s⟩), r⟩
theorem RD.tup_sq {K : PySem.W.Frag} {io : Pl} {H : Hp} {ds : List D} {x : V} (h : RD K io H (.tup ds) x) : ∃ a xs, x = .ref a ∧ SqT K H a xs ∧ RDs K io H ds xs :=
  let ⟨a, xs, e, s, r⟩ := h
  ⟨a, xs, e, SqT.of s, r⟩
section
variable {K : PySem.W.Frag} {io : Pl} {H : Hp}
theorem RDs.len : ∀ {ds : List D} {xs : List V}, RDs K io H ds xs → xs.length = ds.length
  | [], _, h => by rw [show _ = _ from h]; rfl
  | d :: ds, _, h => by
    obtain ⟨x, r, rfl, _, h2⟩ := h
    simp [RDs.len h2]
theorem RDs.get : ∀ {ds : List D} {xs : List V} {i : Nat} {d : D}, RDs K io H ds xs → ds[i]? = some d → ∃ x, xs[i]? = some x ∧ RD K io H d x
  | [], _, _, _, _, e => by simp at e
  | d :: ds, _, 0, d', h, e => by
    obtain ⟨x, r, rfl, h1, _⟩ := h
    simp at e; subst e
    exact ⟨x, rfl, h1⟩
  | d :: ds, _, i + 1, d', h, e => by
    obtain ⟨x, r, rfl, _, h2⟩ := h
    obtain ⟨y, e1, e2⟩ := RDs.get (i := i) h2 (by simpa using e)
    exact ⟨y, by simpa using e1, e2⟩
theorem RDs.app : ∀ {ds es : List D} {xs ys : List V}, RDs K io H ds xs → RDs K io H es ys → RDs K io H (ds ++ es) (xs ++ ys)
  | [], _, _, _, h, h' => by rw [show _ = _ from h]; exact h'
  | d :: ds, _, _, _, h, h' => by
    obtain ⟨x, r, rfl, h1, h2⟩ := h
    exact ⟨x, r ++ _, rfl, h1, RDs.app h2 h'⟩
theorem RDs.one {d : D} {x : V} (h : RD K io H d x) : RDs K io H [d] [x] := ⟨x, [], rfl, h, rfl⟩
theorem RDs.cons {d : D} {x : V} {ds : List D} {xs : List V} (h : RD K io H d x) (t : RDs K io H ds xs) : RDs K io H (d :: ds) (x :: xs) := ⟨x, xs, rfl, h, t⟩
theorem RDs.nil : RDs K io H [] [] := rfl
theorem RDs.take : ∀ {ds : List D} {xs : List V} (n : Nat), RDs K io H ds xs → RDs K io H (ds.take n) (xs.take n)
  | _, _, 0, _ => by simp; exact RDs.nil
  | [], _, n + 1, h => by rw [show _ = _ from h]; exact RDs.nil
  | d :: ds, _, n + 1, h => by
    obtain ⟨x, r, rfl, h1, h2⟩ := h
    exact ⟨x, _, rfl, h1, RDs.take n h2⟩
theorem RDs.drop : ∀ {ds : List D} {xs : List V} (n : Nat), RDs K io H ds xs → RDs K io H (ds.drop n) (xs.drop n)
  | _, _, 0, h => by simpa using h
  | [], _, n + 1, h => by rw [show _ = _ from h]; exact RDs.nil
  | d :: ds, _, n + 1, h => by
    obtain ⟨x, r, rfl, h1, h2⟩ := h
    exact RDs.drop n h2
theorem RDs.set : ∀ {ds : List D} {xs : List V} (i : Nat) {d : D} {x : V}, RDs K io H ds xs → RD K io H d x → RDs K io H (ds.set i d) (xs.set i x)
  | [], _, _, _, _, h, _ => by rw [show _ = _ from h]; exact RDs.nil
  | d :: ds, _, 0, _, _, h, h' => by
    obtain ⟨x, r, rfl, h1, h2⟩ := h
    exact ⟨_, r, rfl, h', h2⟩
  | d :: ds, _, i + 1, _, _, h, h' => by
    obtain ⟨x, r, rfl, h1, h2⟩ := h
    exact ⟨x, _, rfl, h1, RDs.set i h2 h'⟩
theorem RDs.era : ∀ {ds : List D} {xs : List V} (i : Nat), RDs K io H ds xs → RDs K io H (ds.eraseIdx i) (xs.eraseIdx i)
  | [], _, _, h => by rw [show _ = _ from h]; simp; exact RDs.nil
  | d :: ds, _, 0, h => by
    obtain ⟨x, r, rfl, h1, h2⟩ := h
    simpa using h2
  | d :: ds, _, i + 1, h => by
    obtain ⟨x, r, rfl, h1, h2⟩ := h
    exact ⟨x, _, rfl, h1, RDs.era i h2⟩
theorem RDs.rev {ds : List D} {xs : List V} (h : RDs K io H ds xs) : RDs K io H ds.reverse xs.reverse := by
  induction ds generalizing xs with
  | nil => rw [show _ = _ from h]; exact RDs.nil
  | cons d ds ih =>
    obtain ⟨x, r, rfl, h1, h2⟩ := h
    simp only [List.reverse_cons]
    exact (ih h2).app (RDs.one h1)
theorem RDs.ints : ∀ {is : List Int}, RDs K io H (is.map D.int) (is.map V.int)
  | [] => RDs.nil
  | _ :: _ => RDs.cons rfl RDs.ints
end
def ExD (c : Value) (d a : Addr) : HO := .ext fun h => ∃ (oe : Obj) (vs : Array Value), h.get? a = some oe ∧ L2.Zc c (some d) oe ∧ oe.data = .fields vs
def ExN (c : Value) (a : Addr) : HO := .ext fun h => ∃ (oe : Obj) (vs : Array Value), h.get? a = some oe ∧ L2.Zc c none oe ∧ oe.data = .fields vs
mutual
/-- a key as data -/
def nkD : NestedKey → D
  | .none => .non
  | .num i => .int i
  | .text x => .str x
  | .tup ks => .tup (nkDs ks)
def nkDs : List NestedKey → List D
  | [] => []
  | k :: ks => nkD k :: nkDs ks
end
def DnX (w : World) (a : Addr) (ep : Nat) (ys : List (NestedKey × Addr × V)) : HO := .ext fun h => (a == sysModules) = false ∧ ys.length ≤ sizeLine ∧ ∃ (o : Obj) (es : Array DictEntry) (xs : List (NestedKey × Addr × Value)),
  h.get? a = some o ∧ o.ExactDict ∧ o.data = .dict es ep ∧ es.toList = xs.map (fun x => (⟨x.1.hash w, .ref x.2.1, x.2.2⟩ : DictEntry)) ∧ (xs.map (·.1)).Nodup ∧ Paired (fun (p : NestedKey × Addr × V) (q : NestedKey × Addr × Value) => p.1 = q.1 ∧ p.2.1 = q.2.1 ∧ RelV p.2.2 q.2.2) ys xs
section
variable (K : PySem.W.Frag) (W : Option World) (io : Pl) (H : Hp)
def RO (p : Addr × Addr) : Ob → Prop
  | .lst ds => p.2 = p.1 ∧ ∃ xs, H p.1 = some (.lst xs) ∧ RDs K io H ds xs
  | .dic ks ds => p.2 = p.1 ∧ ∃ kvs, H p.1 = some (.dK kvs) ∧ kvs.map (·.1) = ks ∧ RDs K io H ds (kvs.map (·.2))
  | .dit ks ds => p.2 = p.1 ∧ ∃ kvs, H p.1 = some (.dT kvs) ∧ kvs.map (·.1) = ks ∧ RDs K io H ds (kvs.map (·.2))
  | .din ep ks ds => p.2 = p.1 ∧ ∃ w ys, W = some w ∧ H p.1 = some (DnX w p.1 ep ys) ∧ ys.map (·.1) = ks ∧ RDs K io H (nkDs ks) (ys.map fun y => V.ref y.2.1) ∧ (∀ k ∈ ks, k.depth ≤ 8) ∧ RDs K io H ds (ys.map (·.2.2))
  | .ins C fs ds => p.2 ≠ p.1 ∧ H p.2 = some (.own p.1) ∧ ∃ vs, H p.1 = some (.ins C p.2 (fs.zip vs)) ∧ vs.length = fs.length ∧ RDs K io H ds vs
  | .exc c fs ds => p.2 ≠ p.1 ∧ H p.1 = some (ExD c p.2 p.1) ∧ ∃ vs, H p.2 = some (.xd (fs.zip vs)) ∧ vs.length = fs.length ∧ RDs K io H ds vs
  | .exn c => p.2 = p.1 ∧ H p.1 = some (ExN c p.1)
  | .slt C ds => p.2 ≠ p.1 ∧ (H p.2 = some (.own p.1) ∨ H p.2 = some (.xd [])) ∧ ∃ vs, SlX.Slt H p.1 C p.2 vs ∧ RDo K io H ds vs
end
structure Md where
  K : PySem.W.Frag
  /-- tables of code objects; where lambdas are made, their name -/
  tabs : List (Addr × Str)
  io0 : Pl
  H0 : Hp
  w : Option World
def Md.kw (M : Md) : PySem.W.Frag × Option World := (M.K, M.w)
theorem kw_k {M : Md} {K : PySem.W.Frag} {w : Option World} (h : M.kw = (K, w)) : M.K = K := congrArg Prod.fst h
theorem kw_w {M : Md} {K : PySem.W.Frag} {w : Option World} (h : M.kw = (K, w)) : M.w = w := congrArg Prod.snd h
def TabOk (H : Hp) (P : Addr × Str) : Prop := ∃ ps : Array Value, H P.1 = some (.tbl ps) ∧ TriplesOk ps.toList ∧ (P.2 ≠ "" → ∀ (pos : Pos) (cv : Value), codeAmong pos ps.toList = some cv → ∃ c od, cv = .ref c ∧ H c = some (.frz od (LamX.CodeO c P.2)))
theorem TabOk.keep {H H' : Hp} {P : Addr × Str} (t : TabOk H P) (st : ∀ a o u, H a = some (.frz o u) → H' a = some (.frz o u)) (k : ∀ ps, H P.1 = some (.tbl ps) → H' P.1 = some (.tbl ps)) : TabOk H' P := by
  obtain ⟨ps, h, ht, hn⟩ := t
  exact ⟨ps, k ps h, ht, fun z p cv e => by
    obtain ⟨c, od, e1, e2⟩ := hn z p cv e
    exact ⟨c, od, e1, st _ _ _ e2⟩⟩
def SzO : HO → Prop
  | .lst xs => xs.length ≤ sizeLine
  | .tup xs => xs.length ≤ sizeLine
  | .dK kvs => kvs.length ≤ sizeLine
  | .frz _ u => SzO u
  | _ => True
structure RS (M : Md) (io : Pl) (H : Hp) (S : Sto) : Prop where
  ob : ∀ l o, S l = some o → ∃ p, io[l]? = some p ∧ RO M.K M.w io H p o
  sep : ∀ l m o o' p q, S l = some o → S m = some o' → l ≠ m → io[l]? = some p → io[m]? = some q → p.1 ≠ q.1 ∧ p.1 ≠ q.2 ∧ p.2 ≠ q.1 ∧ p.2 ≠ q.2
  tab : ∀ P ∈ M.tabs, TabOk H P
  sz : ∀ a u, H a = some u → SzO u
  bs : Stp M.io0 M.H0 io H
def Md.at_ (M : Md) (io : Pl) (H : Hp) : Md := ⟨M.K, M.tabs, io, H, M.w⟩
theorem RS.re {M : Md} {io : Pl} {H : Hp} {S : Sto} (r : RS M io H S) : RS (M.at_ io H) io H S := ⟨r.ob, r.sep, r.tab, r.sz, Stp.refl _ _⟩
theorem RS.back {M : Md} {io io' : Pl} {H H' : Hp} {S S' : Sto} (r : RS M io H S) (r' : RS (M.at_ io H) io' H' S') : RS M io' H' S' := ⟨r'.ob, r'.sep, r'.tab, r'.sz, r.bs.trans r'.bs⟩
theorem RS.sub {M : Md} {io : Pl} {H : Hp} {S S' : Sto} (r : RS M io H S) (h : S'.sub S) : RS M io H S' :=
  ⟨fun l o e => r.ob l o (h l o e), fun l m o o' p q e e' => r.sep l m o o' p q (h l o e) (h m o' e'), r.tab, r.sz, r.bs⟩
theorem RO.there {K : PySem.W.Frag} {W : Option World} {io : Pl} {H : Hp} {p : Addr × Addr} {o : Ob} (h : RO K W io H p o) :
    (∃ u, H p.1 = some u ∧ (∀ xs, u ≠ .tup xs) ∧ (∀ ob x, u ≠ .frz ob x) ∧ ∀ ps, u ≠ .tbl ps) ∧ ∃ u, H p.2 = some u ∧ (∀ xs, u ≠ .tup xs) ∧ (∀ ob x, u ≠ .frz ob x) ∧ ∀ ps, u ≠ .tbl ps := by
  cases o with
  | lst ds =>
    obtain ⟨e, xs, h, _⟩ := h
    rw [e]
    exact ⟨⟨_, h, by simp, by simp, by simp⟩, ⟨_, h, by simp, by simp, by simp⟩⟩
  | dic ks ds =>
    obtain ⟨e, xs, h, _⟩ := h
    rw [e]
    exact ⟨⟨_, h, by simp, by simp, by simp⟩, ⟨_, h, by simp, by simp, by simp⟩⟩
  | dit ks ds =>
    obtain ⟨e, xs, h, _⟩ := h
    rw [e]
    exact ⟨⟨_, h, by simp, by simp, by simp⟩, ⟨_, h, by simp, by simp, by simp⟩⟩
  | din ep ks ds =>
    obtain ⟨e, w, ys, _, h, _⟩ := h
    rw [e]
    exact ⟨⟨_, h, by simp [DnX], by simp [DnX], by simp [DnX]⟩, ⟨_, h, by simp [DnX], by simp [DnX], by simp [DnX]⟩⟩
  | ins C fs ds =>
    obtain ⟨e, h1, xs, h, _⟩ := h
    exact ⟨⟨_, h, by simp, by simp, by simp⟩, ⟨_, h1, by simp, by simp, by simp⟩⟩
  | exc c fs ds =>
    obtain ⟨e, h1, vs, h2, _⟩ := h
    exact ⟨⟨_, h1, by simp [ExD], by simp [ExD], by simp [ExD]⟩, ⟨_, h2, by simp, by simp, by simp⟩⟩
  | exn c =>
    obtain ⟨e, h1⟩ := h
    rw [e]
    exact ⟨⟨_, h1, by simp [ExN], by simp [ExN], by simp [ExN]⟩, ⟨_, h1, by simp [ExN], by simp [ExN], by simp [ExN]⟩⟩
  | slt C ds =>
    obtain ⟨e, h1, xs, h, _⟩ := h
    refine ⟨?_, ?_⟩
    · rcases h with ⟨h, _⟩ | ⟨h, _⟩
      · exact ⟨_, h, by simp, by simp, by simp⟩
      · exact ⟨_, h, by simp [SlX.SlO], by simp [SlX.SlO], by simp [SlX.SlO]⟩
    · rcases h1 with h1 | h1
      · exact ⟨_, h1, by simp, by simp, by simp⟩
      · exact ⟨_, h1, by simp, by simp, by simp⟩
theorem RO.keep {K : PySem.W.Frag} {W : Option World} {io io' : Pl} {H H' : Hp} {p : Addr × Addr} {o : Ob} (h : RO K W io H p o) (st : Stp io H io' H') (k1 : H' p.1 = H p.1) (k2 : H' p.2 = H p.2) : RO K W io' H' p o := by
  cases o with
  | lst ds =>
    obtain ⟨e, xs, h, r⟩ := h
    exact ⟨e, xs, by rw [k1]; exact h, r.mono st⟩
  | dic ks ds =>
    obtain ⟨e, xs, h, q, r⟩ := h
    exact ⟨e, xs, by rw [k1]; exact h, q, r.mono st⟩
  | dit ks ds =>
    obtain ⟨e, xs, h, q, r⟩ := h
    exact ⟨e, xs, by rw [k1]; exact h, q, r.mono st⟩
  | din ep ks ds =>
    obtain ⟨e, w, ys, ew, h, q, rk, rq, r⟩ := h
    exact ⟨e, w, ys, ew, by rw [k1]; exact h, q, rk.mono st, rq, r.mono st⟩
  | ins C fs ds =>
    obtain ⟨e, h1, xs, h, q, r⟩ := h
    exact ⟨e, by rw [k2]; exact h1, xs, by rw [k1]; exact h, q, r.mono st⟩
  | exc c fs ds =>
    obtain ⟨e, h1, vs, h2, h3, r⟩ := h
    exact ⟨e, by rw [k1]; exact h1, vs, by rw [k2]; exact h2, h3, r.mono st⟩
  | exn c =>
    obtain ⟨e, h1⟩ := h
    exact ⟨e, by rw [k1]; exact h1⟩
  | slt C ds =>
    obtain ⟨e, h1, xs, h, r⟩ := h
    refine ⟨e, by rw [k2]; exact h1, xs, ?_, r.mono st⟩
    rcases h with ⟨h, q⟩ | ⟨h, q⟩
    · exact .inl ⟨by rw [k1]; exact h, q⟩
    · exact .inr ⟨by rw [k1]; exact h, by rw [k2]; exact q⟩
theorem sz_upd {H : Hp} {q : Addr} {u : HO} (h : ∀ a u, H a = some u → SzO u) (hz : SzO u) : ∀ a x, upd H q u a = some x → SzO x := fun a x e => by
  by_cases ha : a = q
  · subst ha; rw [upd_same] at e; cases e; exact hz
  · rw [upd_ne ha] at e; exact h a x e
section
variable {M : Md} {io : Pl} {H H' : Hp} {S : Sto}
theorem RS.new (r : RS M io H S) {q : Addr} {u : HO} {o : Ob} (hq : H q = none) (hz : SzO u) (hu : RO M.K M.w (io ++ [(q, q)]) (upd H q u) (q, q) o) :
    RS M (io ++ [(q, q)]) (upd H q u) (S.set io.length o) ∧ Stp io H (io ++ [(q, q)]) (upd H q u) ∧ S io.length = none ∧ (io ++ [(q, q)])[io.length]? = some (q, q) := by
  have ne : ∀ {b : Addr} {x : HO}, H b = some x → b ≠ q := fun h => ne_of_none h hq
  have st : Stp io H (io ++ [(q, q)]) (upd H q u) := ⟨⟨_, rfl⟩, fun a xs h => by rw [upd_ne (ne h)]; exact h, fun a o x h => by rw [upd_ne (ne h)]; exact h⟩
  have hat : (io ++ [(q, q)])[io.length]? = some (q, q) := by simp
  have hS : S io.length = none := by
    cases e : S io.length with
    | none => rfl
    | some o =>
      obtain ⟨p, e1, _⟩ := r.ob _ _ e
      rw [List.getElem?_eq_none (Nat.le_refl _)] at e1; cases e1
  have old : ∀ l o', S l = some o' → l ≠ io.length ∧ ∃ p, io[l]? = some p ∧ (io ++ [(q, q)])[l]? = some p ∧ RO M.K M.w io H p o' ∧ p.1 ≠ q ∧ p.2 ≠ q := fun l o' e => by
    obtain ⟨p, e1, h1⟩ := r.ob l o' e
    obtain ⟨⟨_, a1, _⟩, ⟨_, a2, _⟩⟩ := h1.there
    exact ⟨fun z => (by subst z; rw [hS] at e; exact nomatch e), p, e1, st.at_ e1, h1, ne a1, ne a2⟩
  refine ⟨⟨fun l o' e => ?_, fun l m o1 o2 p1 p2 e1 e2 hn h1 h2 => ?_, fun P hP => ?_, sz_upd r.sz hz, r.bs.trans st⟩, st, hS, hat⟩
  · by_cases hl : l = io.length
    · subst hl; rw [Sto.set_same] at e; cases e
      exact ⟨_, hat, hu⟩
    · rw [Sto.set_ne hl] at e
      obtain ⟨_, p, e1, e2, h1, n1, n2⟩ := old l o' e
      exact ⟨p, e2, h1.keep st (upd_ne n1) (upd_ne n2)⟩
  · by_cases hl : l = io.length
    · subst hl
      rw [hat] at h1; cases h1
      have hm : m ≠ io.length := fun z => hn z.symm
      rw [Sto.set_ne hm] at e2
      obtain ⟨_, p, z1, z2, _, n1, n2⟩ := old m o2 e2
      rw [z2] at h2; cases h2
      exact ⟨n1.symm, n2.symm, n1.symm, n2.symm⟩
    · rw [Sto.set_ne hl] at e1
      obtain ⟨_, p, z1, z2, _, n1, n2⟩ := old l o1 e1
      rw [z2] at h1; cases h1
      by_cases hm : m = io.length
      · subst hm
        rw [hat] at h2; cases h2
        exact ⟨n1, n1, n2, n2⟩
      · rw [Sto.set_ne hm] at e2
        obtain ⟨_, p', z1', z2', _, _, _⟩ := old m o2 e2
        rw [z2'] at h2; cases h2
        exact r.sep l m o1 o2 _ _ e1 e2 hn z1 z1'
  · exact (r.tab P hP).keep st.frz fun ps h => by rw [upd_ne (ne h)]; exact h
theorem RS.keepNew (r : RS M io H S) {q : Addr} {u : HO} (hq : H q = none) (hz : SzO u) : RS M io (upd H q u) S ∧ Stp io H io (upd H q u) := by
  have ne : ∀ {b : Addr} {x : HO}, H b = some x → b ≠ q := fun h => ne_of_none h hq
  have st : Stp io H io (upd H q u) := ⟨⟨[], by simp⟩, fun a xs h => by rw [upd_ne (ne h)]; exact h, fun a o x h => by rw [upd_ne (ne h)]; exact h⟩
  refine ⟨⟨fun l o e => ?_, r.sep, fun P hP => ?_, sz_upd r.sz hz, r.bs.trans st⟩, st⟩
  · obtain ⟨p, e1, h1⟩ := r.ob l o e
    obtain ⟨⟨_, a1, _⟩, ⟨_, a2, _⟩⟩ := h1.there
    exact ⟨p, e1, h1.keep st (upd_ne (ne a1)) (upd_ne (ne a2))⟩
  · exact (r.tab P hP).keep st.frz fun ps h => by rw [upd_ne (ne h)]; exact h
theorem RS.put (r : RS M io H S) {l : Nat} {o o' : Ob} {p : Addr × Addr} (hl : S l = some o) (hp : io[l]? = some p) (k : ∀ b, b ≠ p.1 → b ≠ p.2 → H' b = H b) (hz : ∀ u, (H' p.1 = some u ∨ H' p.2 = some u) → SzO u) (hu : Stp io H io H' → RO M.K M.w io H' p o') :
    RS M io H' (S.set l o') ∧ Stp io H io H' := by
  obtain ⟨p', e, h⟩ := r.ob l o hl
  rw [hp] at e; cases e
  obtain ⟨⟨u1, a1, b1, c1, d1⟩, ⟨u2, a2, b2, c2, d2⟩⟩ := h.there
  have n : ∀ b x, H b = some x → (x ≠ u1) → (x ≠ u2) → H' b = H b := fun b x e z1 z2 => k b (fun z => by subst z; rw [a1] at e; exact z1 (Option.some.inj e).symm) (fun z => by subst z; rw [a2] at e; exact z2 (Option.some.inj e).symm)
  have st : Stp io H io H' := ⟨⟨[], by simp⟩, fun a xs e => by rw [n a _ e (b1 xs).symm (b2 xs).symm]; exact e, fun a ob x e => by rw [n a _ e (c1 ob x).symm (c2 ob x).symm]; exact e⟩
  refine ⟨⟨fun m o2 e => ?_, fun m m' o1 o2 p1 p2 e1 e2 hn h1 h2 => ?_, fun P hP => ?_, fun b x e => ?_, r.bs.trans st⟩, st⟩
  · by_cases hm : m = l
    · subst hm; rw [Sto.set_same] at e; cases e
      exact ⟨p, hp, hu st⟩
    · rw [Sto.set_ne hm] at e
      obtain ⟨q, e1, h1⟩ := r.ob m o2 e
      obtain ⟨s1, s2, s3, s4⟩ := r.sep m l o2 o q p e hl hm e1 hp
      exact ⟨q, e1, h1.keep st (k _ s1 s2) (k _ s3 s4)⟩
  · have a : ∃ o3, S m = some o3 := by
      by_cases z : m = l
      · subst z; exact ⟨_, hl⟩
      · rw [Sto.set_ne z] at e1; exact ⟨_, e1⟩
    have b : ∃ o3, S m' = some o3 := by
      by_cases z : m' = l
      · subst z; exact ⟨_, hl⟩
      · rw [Sto.set_ne z] at e2; exact ⟨_, e2⟩
    obtain ⟨o3, a⟩ := a
    obtain ⟨o4, b⟩ := b
    exact r.sep m m' o3 o4 p1 p2 a b hn h1 h2
  · exact (r.tab P hP).keep st.frz fun ps h => by rw [n P.1 _ h (d1 ps).symm (d2 ps).symm]; exact h
  · by_cases z1 : b = p.1
    · subst z1; exact hz _ (.inl e)
    · by_cases z2 : b = p.2
      · subst z2; exact hz _ (.inr e)
      · rw [k b z1 z2] at e; exact r.sz b x e
theorem RS.lenT (r : RS M io H S) {a : Addr} {xs : List V} (h : SqT M.K H a xs) : xs.length ≤ sizeLine := by
  rcases h with (h | ⟨o, h⟩) | ⟨o, its, n, _, _, _, hz, rv⟩
  · exact r.sz _ _ h
  · exact r.sz _ _ h
  · rw [rv.length]; simpa using hz
theorem RS.lenL (r : RS M io H S) {a : Addr} {xs : List V} (h : SqL M.K H a xs) : xs.length ≤ sizeLine := by
  rcases h with (h | ⟨o, h⟩) | ⟨o, its, n, _, _, _, _, hz, rv⟩
  · exact r.sz _ _ h
  · exact r.sz _ _ h
  · rw [rv.length]; simpa using hz
end
end L3
end
section
set_option Elab.async false
set_option linter.all false
set_option maxRecDepth 100000
set_option maxHeartbeats 2000000
namespace L3
open PySem PySem.Spec PyProof.Rows L2

abbrev En := List (Option D)
abbrev DK := D → Sto → Prop
abbrev DE := En → Sto → DK → Prop
abbrev DT := En → Sto → (Bool → Sto → Prop) → Prop
abbrev DA := En → Sto → (List D → Sto → Prop) → Prop
structure DEnds where
  nx : En → Sto → Prop
  rt : DK
  bk : En → Sto → Prop := fun _ _ => False
  ct : En → Sto → Prop := fun _ _ => False
abbrev DS := DEnds → En → Sto → Prop

def RE (K : PySem.W.Frag) (io : Pl) (H : Hp) (ρ : En) (σ : L2.St) : Prop := ρ.length = σ.length ∧ ∀ (i : Nat) (d : D), ρ[i]? = some (some d) → ∃ x, σ[i]? = some (some x) ∧ RD K io H d x
theorem RE.mono {K : PySem.W.Frag} {i1 i2 : Pl} {H1 H2 : Hp} {ρ : En} {σ : L2.St} (r : RE K i1 H1 ρ σ) (a : Stp i1 H1 i2 H2) : RE K i2 H2 ρ σ :=
  ⟨r.1, fun i d e => let ⟨x, e1, h⟩ := r.2 i d e; ⟨x, e1, h.mono a⟩⟩
theorem RE.set {K : PySem.W.Frag} {io : Pl} {H : Hp} {ρ : En} {σ : L2.St} {d : D} {x : V} (r : RE K io H ρ σ) (i : Nat) (h : RD K io H d x) : RE K io H (ρ.set i (some d)) (σ.set i (some x)) := by
  refine ⟨by simp [r.1], fun j e q => ?_⟩
  by_cases hj : j = i
  · subst hj
    have hl : j < ρ.length := by
      have := (List.getElem?_eq_some_iff.mp q).1
      simpa using this
    rw [List.getElem?_set_self hl] at q
    cases q
    exact ⟨x, List.getElem?_set_self (by rw [← r.1]; exact hl), h⟩
  · rw [List.getElem?_set_ne (Ne.symm hj)] at q
    obtain ⟨y, e1, h1⟩ := r.2 j e q
    exact ⟨y, by rw [List.getElem?_set_ne (Ne.symm hj)]; exact e1, h1⟩
def Wk (ρ' ρ : En) : Prop := ρ'.length = ρ.length ∧ ∀ (i : Nat) (d : D), ρ'[i]? = some (some d) → ρ[i]? = some (some d)
theorem Wk.refl (ρ : En) : Wk ρ ρ := ⟨rfl, fun _ _ h => h⟩
theorem RE.wk {K : PySem.W.Frag} {io : Pl} {H : Hp} {ρ ρ' : En} {σ : L2.St} (r : RE K io H ρ σ) (w : Wk ρ' ρ) : RE K io H ρ' σ := ⟨w.1.trans r.1, fun i d e => r.2 i d (w.2 i d e)⟩

section
variable (M : Md)
def Co (io : Pl) (H : Hp) (Qd : DK) (Q : VK) : Prop := ∀ (io' : Pl) (H' : Hp) (S' : Sto) (v : D) (x : V), Stp io H io' H' → RS M io' H' S' → RD M.K io' H' v x → Qd v S' → Q x H'
def CoT (io : Pl) (H : Hp) (Qd : Bool → Sto → Prop) (Q : Bool → Hp → Prop) : Prop := ∀ (io' : Pl) (H' : Hp) (S' : Sto) (b : Bool), Stp io H io' H' → RS M io' H' S' → Qd b S' → Q b H'
def CoA (io : Pl) (H : Hp) (Qd : List D → Sto → Prop) (Q : List V → Hp → Prop) : Prop := ∀ (io' : Pl) (H' : Hp) (S' : Sto) (ds : List D) (xs : List V), Stp io H io' H' → RS M io' H' S' → RDs M.K io' H' ds xs → Qd ds S' → Q xs H'
def CoS (io : Pl) (H : Hp) (σ : L2.St) (P : En → Sto → Prop) (R : L2.St → Hp → Prop) : Prop := ∀ (io' : Pl) (H' : Hp) (S' : Sto) (ρ' : En) (σ' : L2.St), Stp io H io' H' → RS M io' H' S' → RE M.K io' H' ρ' σ' → P ρ' S' → R σ' H'
def lift (d : DE) : TE := fun σ H Q => ∃ io S ρ Qd, RS M io H S ∧ RE M.K io H ρ σ ∧ d ρ S Qd ∧ Co M io H Qd Q
def liftT (d : DT) : TT := fun σ H Q => ∃ io S ρ Qd, RS M io H S ∧ RE M.K io H ρ σ ∧ d ρ S Qd ∧ CoT M io H Qd Q
def liftA (d : DA) : TA := fun σ H Q => ∃ io S ρ Qd, RS M io H S ∧ RE M.K io H ρ σ ∧ d ρ S Qd ∧ CoA M io H Qd Q
def liftS (d : DS) : TS := fun E σ H => ∃ io S ρ Ed, RS M io H S ∧ RE M.K io H ρ σ ∧ d Ed ρ S ∧ CoS M io H σ Ed.nx E.nx ∧ Co M io H Ed.rt E.rt ∧ CoS M io H σ Ed.bk E.bk ∧ CoS M io H σ Ed.ct E.ct
end
section
variable {M : Md} {io io' : Pl} {H H' : Hp} {Qd : DK} {Q : VK}
theorem Co.to (c : Co M io H Qd Q) (st : Stp io H io' H') : Co M io' H' Qd Q := fun i2 H2 S2 v x s r d q => c i2 H2 S2 v x (st.trans s) r d q
theorem Co.here (c : Co M io H Qd Q) {S : Sto} {v : D} {x : V} (r : RS M io H S) (d : RD M.K io H v x) (q : Qd v S) : Q x H := c io H S v x (Stp.refl _ _) r d q
theorem CoT.to {Qd : Bool → Sto → Prop} {Q : Bool → Hp → Prop} (c : CoT M io H Qd Q) (st : Stp io H io' H') : CoT M io' H' Qd Q := fun i2 H2 S2 b s r q => c i2 H2 S2 b (st.trans s) r q
theorem CoT.here {Qd : Bool → Sto → Prop} {Q : Bool → Hp → Prop} (c : CoT M io H Qd Q) {S : Sto} {b : Bool} (r : RS M io H S) (q : Qd b S) : Q b H := c io H S b (Stp.refl _ _) r q
theorem CoA.to {Qd : List D → Sto → Prop} {Q : List V → Hp → Prop} (c : CoA M io H Qd Q) (st : Stp io H io' H') : CoA M io' H' Qd Q := fun i2 H2 S2 v x s r d q => c i2 H2 S2 v x (st.trans s) r d q
theorem CoS.to {σ τ : L2.St} {P : En → Sto → Prop} {R : L2.St → Hp → Prop} (c : CoS M io H σ P R) (st : Stp io H io' H') : CoS M io' H' τ P R := fun i2 H2 S2 ρ σ s r d q => c i2 H2 S2 ρ σ (st.trans s) r d q
end
section
variable {X : Cx} {e a b : Expr} {pos : Pos}
theorem PE.imp {t t' : TE} (h : PE X e t) (k : ∀ σ H Q, t' σ H Q → t σ H Q) : PE X e t' := ⟨fun pins s σ H Q I q => h.run pins s σ H Q I (k σ H Q q)⟩
theorem PT.imp {t t' : TT} (h : PT X e t) (k : ∀ σ H Q, t' σ H Q → t σ H Q) : PT X e t' := ⟨fun pins s σ H Q I q => h.run pins s σ H Q I (k σ H Q q)⟩
theorem PW.imp {t t' : TT} (h : PW X e t) (k : ∀ σ H Q, t' σ H Q → t σ H Q) : PW X e t' := ⟨fun wh pins s σ H Q I q => h.run wh pins s σ H Q I (k σ H Q q)⟩
theorem PA.imp {es : List Expr} {t t' : TA} (h : PA X es t) (k : ∀ σ H Q, t' σ H Q → t σ H Q) : PA X es t' := ⟨fun p pins s σ H Q I q => h.run p pins s σ H Q I (k σ H Q q)⟩
theorem PS.imp {st : Stmt} {t t' : TS} (h : PS X st t) (k : ∀ E σ H, t' E σ H → t E σ H) : PS X st t' := ⟨fun pins s σ H E I q => h.run pins s σ H E I (k E σ H q)⟩
theorem PSs.imp {st : List Stmt} {t t' : TS} (h : PSs X st t) (k : ∀ E σ H, t' E σ H → t E σ H) : PSs X st t' := ⟨fun pins s σ H E I q => h.run pins s σ H E I (k E σ H q)⟩
end
abbrev QE (M : Md) (X : Cx) (e : Expr) (d : DE) : Prop := PE X e (lift M d)
abbrev QT (M : Md) (X : Cx) (e : Expr) (d : DT) : Prop := PT X e (liftT M d)
abbrev QW (M : Md) (X : Cx) (e : Expr) (d : DT) : Prop := PW X e (liftT M d)
abbrev QA (M : Md) (X : Cx) (es : List Expr) (d : DA) : Prop := PA X es (liftA M d)
abbrev QS (M : Md) (X : Cx) (st : Stmt) (d : DS) : Prop := PS X st (liftS M d)
abbrev QSs (M : Md) (X : Cx) (st : List Stmt) (d : DS) : Prop := PSs X st (liftS M d)

def dVar (i : Nat) : DE := fun ρ S Q => ∃ v, ρ[i]? = some (some v) ∧ Q v S
def dC (d : D) : DE := fun _ S Q => Q d S
section
variable {M : Md} {X : Cx} {pos : Pos}
theorem q_var {i : Nat} {x : Str} (hN : X.N[i]? = some x) (hv : Vis X.env.scope x) (hd : (x == ("__debug__" : Str)) = false := by decide) (hcd : (x == ("__classdict__" : Str)) = false := by decide) : QE M X (.Name x pos) (dVar i) :=
  PE.imp (pe_var hN hv hd hcd) fun σ H Q ⟨io, S, ρ, Qd, r, re, ⟨v, e, q⟩, c⟩ => let ⟨x, e1, h⟩ := re.2 i v e; ⟨x, e1, c.here r h q⟩
theorem q_tC {e : Expr} {v : V} {d : D} (h : PE X e (tC v)) (k : ∀ K io H, RD K io H d v) : QE M X e (dC d) :=
  PE.imp h fun σ H Q ⟨io, S, ρ, Qd, r, re, q, c⟩ => c.here r (k _ _ _) q
theorem q_int {i j} : QE M X (.Constant (.int i) j pos) (dC (.int i)) := q_tC pe_int fun _ _ _ => rfl
theorem q_bl {b j} : QE M X (.Constant (.bool b) j pos) (dC (.bl b)) := q_tC pe_bl fun _ _ _ => rfl
theorem q_non {j} : QE M X (.Constant .none j pos) (dC .non) := q_tC pe_non fun _ _ _ => rfl
theorem q_str {x j} : QE M X (.Constant (.str x) j pos) (dC (.str x)) := q_tC pe_str fun _ _ _ => rfl
theorem q_globS {x z : Str} {t : Tok} (hg : Gl X x) (hm : X.mg x = some (.str z t)) (hd : (x == ("__debug__" : Str)) = false := by decide) : QE M X (.Name x pos) (dC (.str z)) := q_tC (pe_glob (v := .str z) hg hm ⟨_, rfl⟩ hd) fun _ _ _ => rfl
theorem q_globI {x : Str} {z : Int} {t : Tok} (hg : Gl X x) (hm : X.mg x = some (.int z t)) (hd : (x == ("__debug__" : Str)) = false := by decide) : QE M X (.Name x pos) (dC (.int z)) := q_tC (pe_glob (v := .int z) hg hm ⟨_, rfl⟩ hd) fun _ _ _ => rfl
end
abbrev DR2 := D → D → Sto → DK → Prop
def Sim2 (M : Md) (r : R2) (dr : DR2) : Prop := ∀ (io : Pl) (H : Hp) (S : Sto) (x y : V) (v w : D) (Qd : DK) (Q : VK), RS M io H S → RD M.K io H v x → RD M.K io H w y → dr v w S Qd → Co M io H Qd Q → r x y H Q
abbrev DR1 := D → Sto → DK → Prop
def Sim1 (M : Md) (r : V → Hp → VK → Prop) (dr : DR1) : Prop := ∀ (io : Pl) (H : Hp) (S : Sto) (x : V) (v : D) (Qd : DK) (Q : VK), RS M io H S → RD M.K io H v x → dr v S Qd → Co M io H Qd Q → r x H Q
abbrev DRA := List D → Sto → DK → Prop
def SimA (M : Md) (r : List V → Hp → VK → Prop) (dr : DRA) : Prop := ∀ (io : Pl) (H : Hp) (S : Sto) (xs : List V) (ds : List D) (Qd : DK) (Q : VK), RS M io H S → RDs M.K io H ds xs → dr ds S Qd → Co M io H Qd Q → r xs H Q
def dOp (dr : DR2) (da db : DE) : DE := fun ρ S Q => da ρ S fun v S1 => db ρ S1 fun w S2 => dr v w S2 Q
def dUn (dr : DR1) (da : DE) : DE := fun ρ S Q => da ρ S fun v S1 => dr v S1 Q
def dCB (dr : DRA) (da : DA) : DE := fun ρ S Q => da ρ S fun ds S1 => dr ds S1 Q
section
variable {M : Md} {X : Cx} {pos : Pos} {a b : Expr} {da db : DE}
theorem seq2 {r : R2} {dr : DR2} (hs : Sim2 M r dr) : ∀ σ H Q, lift M (dOp dr da db) σ H Q → lift M da σ H fun x H1 => lift M db σ H1 fun y H2 => r x y H2 Q :=
  fun σ H Q ⟨io, S, ρ, Qd, r1, re, h, c⟩ => ⟨io, S, ρ, _, r1, re, h, fun i1 H1 S1 v x s1 r1 d1 h1 => ⟨i1, S1, ρ, _, r1, re.mono s1, h1, fun i2 H2 S2 w y s2 r2 d2 h2 =>
    hs i2 H2 S2 x y v w Qd Q r2 (d1.mono s2) d2 h2 (c.to (s1.trans s2))⟩⟩
theorem q_op {op : Operator} {r : R2} {dr : DR2} (ho : OpR X (binaryOp op) r) (hs : Sim2 M r dr) (ha : QE M X a da) (hb : QE M X b db) : QE M X (.BinOp a op b pos) (dOp dr da db) :=
  PE.imp (pe_op ho ha hb) (seq2 hs)
theorem q_cmp {op : CmpOp} {r : R2} {dr : DR2} (ho : OpR X (compareOp op) r) (hs : Sim2 M r dr) (ha : QE M X a da) (hb : QE M X b db) (hm : behindInMarks op b = false) : QE M X (.Compare a [op] [b] pos) (dOp dr da db) :=
  PE.imp (pe_cmpR ho ha hb hm) (seq2 hs)
def dTst (d : DE) : DT := fun ρ S Q => d ρ S fun v S' => ∃ k, v = .bl k ∧ Q k S'
theorem q_cmpT {op : CmpOp} {r : R2} {dr : DR2} (ho : OpR X (compareOp op) r) (hs : Sim2 M r dr) (ha : QE M X a da) (hb : QE M X b db) (hm : behindInMarks op b = false) : QT M X (.Compare a [op] [b] pos) (dTst (dOp dr da db)) :=
  PT.imp (pt_cmpR ho ha hb hm) fun σ H Q ⟨io, S, ρ, Qd, r1, re, h, c⟩ => seq2 hs σ H _ ⟨io, S, ρ, _, r1, re, h, fun i1 H1 S1 v x s1 r1 d1 ⟨k, e, q⟩ => by
    subst e
    exact ⟨k, d1, c i1 H1 S1 k s1 r1 q⟩⟩
theorem q_un {op : UnaryOp} {r : V → Hp → VK → Prop} {dr : DR1} (ho : UnR X (unaryOp op) r) (hs : Sim1 M r dr) (ha : QE M X a da) : QE M X (.UnaryOp op a pos) (dUn dr da) :=
  PE.imp (pe_un ho ha) fun σ H Q ⟨io, S, ρ, Qd, r1, re, h, c⟩ => ⟨io, S, ρ, _, r1, re, h, fun i1 H1 S1 v x s1 r1 d1 h1 => hs i1 H1 S1 x v Qd Q r1 d1 h1 (c.to s1)⟩
end
def oI (C : Int → Int → Prop) (g : Int → Int → D) : DR2 := fun v w S Q => ∃ i j, v = .int i ∧ w = .int j ∧ C i j ∧ Q (g i j) S
def oI0 (g : Int → Int → D) : DR2 := fun v w S Q => ∃ i j, v = .int i ∧ w = .int j ∧ Q (g i j) S
theorem simI {M : Md} {C : Int → Int → Prop} {g : Int → Int → V} {g' : Int → Int → D} (h : ∀ K io H i j, RD K io H (g' i j) (g i j)) : Sim2 M (rI C g) (oI C g') := fun io H S x y v w Qd Q r dv dw ⟨i, j, e1, e2, hc, q⟩ c => by
  subst e1 e2
  exact ⟨i, j, dv, dw, hc, c.here r (h _ _ _ i j) q⟩
theorem simI0 {M : Md} {g : Int → Int → V} {g' : Int → Int → D} (h : ∀ K io H i j, RD K io H (g' i j) (g i j)) : Sim2 M (rI0 g) (oI0 g') := fun io H S x y v w Qd Q r dv dw ⟨i, j, e1, e2, q⟩ c => by
  subst e1 e2
  exact ⟨i, j, dv, dw, c.here r (h _ _ _ i j) q⟩
def dNot (t : DT) : DT := fun ρ S Q => t ρ S fun b S' => Q (!b) S'
def dAnd (t u : DT) : DT := fun ρ S Q => t ρ S fun b S' => if b = true then u ρ S' Q else Q false S'
def dOr (t u : DT) : DT := fun ρ S Q => t ρ S fun b S' => if b = true then Q true S' else u ρ S' Q
def dIf (t : DT) (da db : DE) : DE := fun ρ S Q => t ρ S fun b S' => if b = true then da ρ S' Q else db ρ S' Q
section
variable {M : Md} {X : Cx} {pos : Pos} {a b c : Expr} {da db : DE} {ta tb : DT} {rest : List Expr}
theorem q_not (ha : QT M X a ta) : QT M X (.UnaryOp .Not a pos) (dNot ta) :=
  PT.imp (pt_not ha) fun σ H Q ⟨io, S, ρ, Qd, r1, re, h, c⟩ => ⟨io, S, ρ, _, r1, re, h, fun i1 H1 S1 b s1 r1 h1 => c i1 H1 S1 _ s1 r1 h1⟩
theorem w_and1 (ha : QT M X a ta) : QW M X (.BoolOp .And [a] pos) ta := pw_and1 ha
theorem w_or1 (ha : QT M X a ta) : QW M X (.BoolOp .Or [a] pos) ta := pw_or1 ha
theorem w_and (ha : QT M X a ta) (hb : QW M X (.BoolOp .And (b :: rest) pos) tb) : QW M X (.BoolOp .And (a :: b :: rest) pos) (dAnd ta tb) :=
  PW.imp (pw_and ha hb) fun σ H Q ⟨io, S, ρ, Qd, r1, re, h, c⟩ => ⟨io, S, ρ, _, r1, re, h, fun i1 H1 S1 b s1 r1 h1 => by
    cases b with
    | true => exact ⟨i1, S1, ρ, Qd, r1, re.mono s1, h1, c.to s1⟩
    | false => exact c i1 H1 S1 _ s1 r1 h1⟩
theorem w_or (ha : QT M X a ta) (hb : QW M X (.BoolOp .Or (b :: rest) pos) tb) : QW M X (.BoolOp .Or (a :: b :: rest) pos) (dOr ta tb) :=
  PW.imp (pw_or ha hb) fun σ H Q ⟨io, S, ρ, Qd, r1, re, h, c⟩ => ⟨io, S, ρ, _, r1, re, h, fun i1 H1 S1 b s1 r1 h1 => by
    cases b with
    | true => exact c i1 H1 S1 _ s1 r1 h1
    | false => exact ⟨i1, S1, ρ, Qd, r1, re.mono s1, h1, c.to s1⟩⟩
theorem q_w (h : QW M X a ta) : QT M X a ta := h.pt
theorem q_ifE (hc : QT M X c ta) (ha : QE M X a da) (hb : QE M X b db) : QE M X (.IfExp c a b pos) (dIf ta da db) :=
  PE.imp (pe_ifExp hc ha hb) fun σ H Q ⟨io, S, ρ, Qd, r1, re, h, c⟩ => ⟨io, S, ρ, _, r1, re, h, fun i1 H1 S1 b s1 r1 h1 => by
    cases b with
    | true => exact ⟨i1, S1, ρ, Qd, r1, re.mono s1, h1, c.to s1⟩
    | false => exact ⟨i1, S1, ρ, Qd, r1, re.mono s1, h1, c.to s1⟩⟩
theorem q_val (h : QE M X a da) (he : ∀ whole, isTrue a X.env whole = (do let v ← whole; standAt a.pos; holding [v] (truthy v)) := by intro _; rfl) : QT M X a (dTst da) :=
  PT.imp (pt_val h he) fun σ H Q ⟨io, S, ρ, Qd, r1, re, h, c⟩ => ⟨io, S, ρ, _, r1, re, h, fun i1 H1 S1 v x s1 r1 d1 ⟨k, e, q⟩ => by
    subst e
    exact ⟨k, d1, c i1 H1 S1 k s1 r1 q⟩⟩
def dAndV (da db : DE) : DE := fun ρ S Q => da ρ S fun v S' => ∃ b, v = .bl b ∧ if b = true then db ρ S' Q else Q (.bl false) S'
def dOrV (da db : DE) : DE := fun ρ S Q => da ρ S fun v S' => ∃ b, v = .bl b ∧ if b = true then Q (.bl true) S' else db ρ S' Q
def dNotV (da : DE) : DE := fun ρ S Q => da ρ S fun v S' => ∃ b, v = .bl b ∧ Q (.bl (!b)) S'
theorem q_one {op} (h : QE M X a da) : QE M X (.BoolOp op [a] pos) da := pe_one h
theorem q_and (ha : QE M X a da) (hb : QE M X (.BoolOp .And (b :: rest) pos) db) : QE M X (.BoolOp .And (a :: b :: rest) pos) (dAndV da db) :=
  PE.imp (pe_and ha hb) fun σ H Q ⟨io, S, ρ, Qd, r1, re, h, c⟩ => ⟨io, S, ρ, _, r1, re, h, fun i1 H1 S1 v x s1 r1 d1 ⟨k, e, q⟩ => by
    subst e
    refine ⟨k, d1, ?_⟩
    cases k with
    | true => exact ⟨i1, S1, ρ, Qd, r1, re.mono s1, q, c.to s1⟩
    | false => exact c i1 H1 S1 (.bl false) _ s1 r1 rfl q⟩
theorem q_or (ha : QE M X a da) (hb : QE M X (.BoolOp .Or (b :: rest) pos) db) : QE M X (.BoolOp .Or (a :: b :: rest) pos) (dOrV da db) :=
  PE.imp (pe_or ha hb) fun σ H Q ⟨io, S, ρ, Qd, r1, re, h, c⟩ => ⟨io, S, ρ, _, r1, re, h, fun i1 H1 S1 v x s1 r1 d1 ⟨k, e, q⟩ => by
    subst e
    refine ⟨k, d1, ?_⟩
    cases k with
    | true => exact c i1 H1 S1 (.bl true) _ s1 r1 rfl q
    | false => exact ⟨i1, S1, ρ, Qd, r1, re.mono s1, q, c.to s1⟩⟩
theorem q_notV (ha : QE M X a da) : QE M X (.UnaryOp .Not a pos) (dNotV da) :=
  PE.imp (pe_not ha) fun σ H Q ⟨io, S, ρ, Qd, r1, re, h, c⟩ => ⟨io, S, ρ, _, r1, re, h, fun i1 H1 S1 v x s1 r1 d1 ⟨k, e, q⟩ => by
    subst e
    exact ⟨k, d1, c i1 H1 S1 (.bl (!k)) _ s1 r1 rfl q⟩⟩
end
end L3
end
section
set_option Elab.async false
set_option linter.all false
set_option maxRecDepth 100000
set_option maxHeartbeats 2000000
namespace L3
open PySem PySem.Spec PyProof.Rows L2

section
variable {M : Md} {io : Pl} {H : Hp} {S : Sto}
theorem RDs.empty {ds : List D} {xs : List V} (h : RDs M.K io H ds xs) : xs.isEmpty = ds.isEmpty := by
  cases ds with
  | nil => rw [show xs = [] from h]; rfl
  | cons d ds => obtain ⟨x, r, rfl, _⟩ := h; rfl
theorem RS.lst (r : RS M io H S) {l : Nat} {ds : List D} {x : V} (e : S l = some (.lst ds)) (h : RD M.K io H (.ref l) x) : ∃ a xs, x = .ref a ∧ io[l]? = some (a, a) ∧ H a = some (.lst xs) ∧ RDs M.K io H ds xs := by
  obtain ⟨p, e1, h1⟩ := r.ob l _ e
  obtain ⟨q, e2, rfl⟩ := h
  rw [e1] at e2; cases e2
  obtain ⟨e3, xs, h2, h3⟩ := h1
  obtain ⟨p1, p2⟩ := p
  have e3 : p2 = p1 := e3
  subst e3
  exact ⟨_, xs, rfl, e1, h2, h3⟩
theorem RS.dic (r : RS M io H S) {l : Nat} {ks : List Key} {ds : List D} {x : V} (e : S l = some (.dic ks ds)) (h : RD M.K io H (.ref l) x) :
    ∃ a kvs, x = .ref a ∧ io[l]? = some (a, a) ∧ H a = some (.dK kvs) ∧ kvs.map (·.1) = ks ∧ RDs M.K io H ds (kvs.map (·.2)) := by
  obtain ⟨p, e1, h1⟩ := r.ob l _ e
  obtain ⟨q, e2, rfl⟩ := h
  rw [e1] at e2; cases e2
  obtain ⟨e3, xs, h2, h3, h4⟩ := h1
  obtain ⟨p1, p2⟩ := p
  have e3 : p2 = p1 := e3
  subst e3
  exact ⟨_, xs, rfl, e1, h2, h3, h4⟩
def seqD (S : Sto) : D → Option (List D)
  | .tup ds => some ds
  | .lst ds => some ds
  | .kl ds => some ds
  | .kt ds => some ds
  | .ref l => (match S l with
    | some (.lst ds) => some ds
    | _ => none)
  | _ => none
theorem seq_of (r : RS M io H S) {v : D} {x : V} {ds : List D} (h : RD M.K io H v x) (e : seqD S v = some ds) : ∃ a xs, x = .ref a ∧ (SqL M.K H a xs ∨ SqT M.K H a xs) ∧ RDs M.K io H ds xs := by
  cases v with
  | tup ds' =>
    cases e
    obtain ⟨a, xs, e1, h1, h2⟩ := h
    exact ⟨a, xs, e1, .inr (SqT.of h1), h2⟩
  | lst ds' =>
    cases e
    obtain ⟨a, xs, e1, h1, h2⟩ := h
    exact ⟨a, xs, e1, .inl h1.sq, h2⟩
  | kl ds' =>
    cases e
    obtain ⟨a, xs, e1, h1, h2⟩ := h
    exact ⟨a, xs, e1, .inl (.inr h1), h2⟩
  | kt ds' =>
    cases e
    obtain ⟨a, o, xs, e1, h1, _, h2⟩ := h
    exact ⟨a, xs, e1, .inr (.inl (.inr ⟨o, h1⟩)), h2⟩
  | ref l =>
    have e' : (match S l with | some (.lst ds) => some ds | _ => none) = some ds := e
    cases q : S l with
    | none => rw [q] at e'; cases e'
    | some o =>
      rw [q] at e'
      cases o with
      | lst ds' =>
        cases e'
        obtain ⟨a, xs, e1, _, h1, h2⟩ := r.lst q h
        exact ⟨a, xs, e1, .inl (SqL.of h1), h2⟩
      | _ => cases e'
  | _ => cases e
def lstD (S : Sto) : D → Option (List D)
  | .lst ds => some ds
  | .kl ds => some ds
  | .ref l => (match S l with
    | some (.lst ds) => some ds
    | _ => none)
  | _ => none
def lstR (S : Sto) : D → Option (List D)
  | .lst ds => some ds
  | .ref l => (match S l with
    | some (.lst ds) => some ds
    | _ => none)
  | _ => none
theorem lst_rd (r : RS M io H S) {v : D} {x : V} {ds : List D} (h : RD M.K io H v x) (e : lstR S v = some ds) : ∃ a xs, x = .ref a ∧ Rd H a (.lst xs) ∧ RDs M.K io H ds xs := by
  cases v with
  | lst ds' =>
    cases e
    obtain ⟨a, xs, e1, h1, h2⟩ := h
    exact ⟨a, xs, e1, h1.rd, h2⟩
  | ref l =>
    have e' : (match S l with | some (.lst ds) => some ds | _ => none) = some ds := e
    cases q : S l with
    | none => rw [q] at e'; cases e'
    | some o =>
      rw [q] at e'
      cases o with
      | lst ds' =>
        cases e'
        obtain ⟨a, xs, e1, _, h1, h2⟩ := r.lst q h
        exact ⟨a, xs, e1, .inl h1, h2⟩
      | _ => cases e'
  | _ => cases e
theorem lst_of (r : RS M io H S) {v : D} {x : V} {ds : List D} (h : RD M.K io H v x) (e : lstD S v = some ds) : ∃ a xs, x = .ref a ∧ SqL M.K H a xs ∧ RDs M.K io H ds xs := by
  cases v with
  | lst ds' =>
    cases e
    obtain ⟨a, xs, e1, h1, h2⟩ := h
    exact ⟨a, xs, e1, h1.sq, h2⟩
  | kl ds' =>
    cases e
    obtain ⟨a, xs, e1, h1, h2⟩ := h
    exact ⟨a, xs, e1, .inr h1, h2⟩
  | ref l =>
    have e' : (match S l with | some (.lst ds) => some ds | _ => none) = some ds := e
    cases q : S l with
    | none => rw [q] at e'; cases e'
    | some o =>
      rw [q] at e'
      cases o with
      | lst ds' =>
        cases e'
        obtain ⟨a, xs, e1, _, h1, h2⟩ := r.lst q h
        exact ⟨a, xs, e1, SqL.of h1, h2⟩
      | _ => cases e'
  | _ => cases e
def dicD (S : Sto) : D → Option (List Key × List D)
  | .dic ks ds => some (ks, ds)
  | .ref l => (match S l with
    | some (.dic ks ds) => some (ks, ds)
    | _ => none)
  | _ => none
theorem dic_of (r : RS M io H S) {v : D} {x : V} {p : List Key × List D} (h : RD M.K io H v x) (e : dicD S v = some p) : ∃ a kvs, x = .ref a ∧ Rd H a (.dK kvs) ∧ kvs.map (·.1) = p.1 ∧ RDs M.K io H p.2 (kvs.map (·.2)) := by
  cases v with
  | dic ks ds' =>
    cases e
    obtain ⟨a, o, kvs, e1, h1, h2, h3⟩ := h
    exact ⟨a, kvs, e1, .inr ⟨o, h1⟩, h2, h3⟩
  | ref l =>
    have e' : (match S l with | some (.dic ks ds) => some (ks, ds) | _ => none) = some p := e
    cases q : S l with
    | none => rw [q] at e'; cases e'
    | some o =>
      rw [q] at e'
      cases o with
      | dic ks ds' =>
        cases e'
        obtain ⟨a, kvs, e1, _, h1, h2, h3⟩ := r.dic q h
        exact ⟨a, kvs, e1, .inl h1, h2, h3⟩
      | _ => cases e'
  | _ => cases e
end
def truB (S : Sto) (v : D) (k : Bool) : Prop := match v with
  | .non => k = false
  | .bl b => k = b
  | .int i => k = (i != 0)
  | .str x => x.length ≤ sizeLine ∧ k = ((x.length : Int) != 0)
  | v => (∃ ds, seqD S v = some ds ∧ k = !ds.isEmpty) ∨ ∃ l ks ds, v = .ref l ∧ S l = some (.dic ks ds) ∧ k = !ks.isEmpty
def dTru (d : DE) : DT := fun ρ S Q => d ρ S fun v S' => ∃ k, truB S' v k ∧ Q k S'
theorem tru_of {M : Md} {io : Pl} {H : Hp} {S : Sto} (r : RS M io H S) {v : D} {x : V} {k : Bool} (h : RD M.K io H v x) (t : truB S v k) : TruV M.K x H k := by
  have sq : ((∃ ds, seqD S v = some ds ∧ k = !ds.isEmpty) ∨ ∃ l ks ds, v = .ref l ∧ S l = some (.dic ks ds) ∧ k = !ks.isEmpty) → TruV M.K x H k := fun t => by
    rcases t with ⟨ds, e, rfl⟩ | ⟨l, ks, ds, rfl, e, rfl⟩
    · obtain ⟨a, xs, rfl, s, rr⟩ := seq_of r h e
      rw [← rr.empty]
      rcases s with s | s
      · exact .inl ⟨xs, s, rfl⟩
      · exact .inr (.inl ⟨xs, s, rfl⟩)
    · obtain ⟨a, kvs, rfl, _, h1, h2, _⟩ := r.dic e h
      refine .inr (.inr ⟨kvs, h1, ?_⟩)
      rw [← h2]
      cases kvs <;> rfl
  cases v with
  | non => rw [show x = .non from h]; exact t
  | bl b => rw [show x = .bl b from h]; exact t
  | int b => rw [show x = .int b from h]; exact t
  | str b => rw [show x = .str b from h]; exact t
  | tup ds => exact sq t
  | lst ds => exact sq t
  | kl ds => exact sq t
  | kt ds => exact sq t
  | dic ks ds => exact sq t
  | ref l => exact sq t
  | raw w => exact sq t
theorem inv_freeze {X : Cx} {pins : List (Addr × Obj)} {σ : L2.St} {H : Hp} {s : Shared} {a : Addr} {u : HO} (I : Inv X pins σ H s) (e : H a = some u) (h1 : ∀ xs, u ≠ .tup xs) (h2 : ∀ o x, u ≠ .frz o x) (h3 : ∀ ps, u ≠ .tbl ps) (h4 : ∀ x, u ≠ .own x) :
    ∃ o, Inv X pins σ (upd H a (.frz o u)) s := by
  obtain ⟨o, ho⟩ : ∃ o, s.heap.get? a = some o := by
    have q := (I.hok a u e).lt
    rcases h : s.heap.get? a with _ | o
    · exfalso
      have z := I.hok a u e
      cases u with
      | lst xs => obtain ⟨_, _, _, _, z⟩ := z; rw [h] at z; cases z
      | tup xs => exact h1 _ rfl
      | dK kvs => obtain ⟨_, _, _, _, _, _, _, z, _⟩ := z; rw [h] at z; cases z
      | dT kvs => obtain ⟨_, _, _, _, _, _, _, z, _⟩ := z; rw [h] at z; cases z
      | set S n => obtain ⟨_, _, _, _, z, _⟩ := z; rw [h] at z; cases z
      | ins C dx fs => obtain ⟨_, _, _, z, _⟩ := z; rw [h] at z; cases z
      | own y => exact h4 _ rfl
      | xd fs => obtain ⟨_, ⟨_, _, _, z, _⟩, _⟩ := z; rw [h] at z; cases z
      | rng lo hi => obtain ⟨_, _, _, z⟩ := z; rw [h] at z; cases z
      | frz ob x => exact h2 _ _ rfl
      | tbl ps => exact h3 _ rfl
      | met f y => have z : s.heap.get? a = _ := z; rw [h] at z; cases z
      | ext φ => obtain ⟨_, ⟨_, z⟩, _⟩ := z; rw [h] at z; cases z
    · exact ⟨o, rfl⟩
  refine ⟨o, ?_⟩
  have ne : ∀ b x, H b = some x → x ≠ u → b ≠ a := fun b x q z w => by subst w; rw [e] at q; exact z (Option.some.inj q).symm
  have nn : ∀ b, H b = none → b ≠ a := fun b q w => by subst w; rw [e] at q; cases q
  have J := I.un (H' := upd H a (.frz o u)) (h' := s.heap) (t' := s.toks) ⟨fun b ob q _ _ _ => q, fun b ob q _ _ _ => ⟨ob.slots, q⟩, fun b ob q n _ => by rw [upd_ne (nn b n)]; exact n, fun b ob q _ => ⟨ob, q⟩, fun b xs q => by rw [upd_ne (ne b _ q (h1 xs).symm)]; exact q,
    fun b ob x q => by rw [upd_ne (ne b _ q (h2 ob x).symm)]; exact q, fun b ps q => ⟨#[], by rw [upd_ne (ne b _ q (h3 ps).symm), q]; simp⟩⟩ (fun b x q => by
      by_cases hb : b = a
      · subst hb
        rw [upd_same] at q; cases q
        refine ⟨ho, (I.hok b u e).stay (fun _ _ _ z => z) (fun c z => ?_) fun c xs z => ?_⟩
        · rw [upd_ne (ne c _ z (h4 b).symm)]; exact z
        · rw [upd_ne (ne c _ z (h1 xs).symm)]; exact z
      · rw [upd_ne hb] at q
        refine (I.hok b x q).stay (fun _ _ _ z => z) (fun c z => ?_) fun c xs z => ?_
        · rw [upd_ne (ne c _ z (h4 b).symm)]; exact z
        · rw [upd_ne (ne c _ z (h1 xs).symm)]; exact z)
  exact J
def frzO : Ob → Option D
  | .lst ds => some (.lst ds)
  | .dic ks ds => some (.dic ks ds)
  | _ => none
def dFrz (d : DE) : DE := fun ρ S Q => d ρ S fun v S' => ∃ l o w, v = .ref l ∧ S' l = some o ∧ frzO o = some w ∧ Q w (S'.del l)
theorem RS.freeze {M : Md} {io : Pl} {H : Hp} {S : Sto} {l : Nat} {o : Ob} {p : Addr × Addr} {ob : Obj} {u : HO} {w : D} (r : RS M io H S) (e : S l = some o) (hp : io[l]? = some p) (hu : H p.1 = some u) (hw : frzO o = some w) :
    RS M io (upd H p.1 (.frz ob u)) (S.del l) ∧ Stp io H io (upd H p.1 (.frz ob u)) ∧ RD M.K io (upd H p.1 (.frz ob u)) w (.ref p.1) := by
  obtain ⟨p', e1, h1⟩ := r.ob l o e
  rw [hp] at e1; cases e1
  obtain ⟨⟨u1, a1, b1, c1, d1⟩, _⟩ := h1.there
  rw [hu] at a1; cases a1
  have ne : ∀ b x, H b = some x → x ≠ u → b ≠ p.1 := fun b x q z w => by subst w; rw [hu] at q; exact z (Option.some.inj q).symm
  have st : Stp io H io (upd H p.1 (.frz ob u)) := ⟨⟨[], by simp⟩, fun a xs q => by rw [upd_ne (ne _ _ q (b1 xs).symm)]; exact q, fun a o2 x q => by rw [upd_ne (ne _ _ q (c1 o2 x).symm)]; exact q⟩
  refine ⟨⟨fun m o2 q => ?_, fun m m' o1 o2 p1 p2 q1 q2 hn z1 z2 => ?_, fun P hP => ?_, sz_upd r.sz (have z : SzO u := r.sz _ _ hu; z), r.bs.trans st⟩, st, ?_⟩
  · have hm : m ≠ l := fun z => by subst z; rw [Sto.del_same] at q; cases q
    rw [Sto.del_ne hm] at q
    obtain ⟨p2, e2, h2⟩ := r.ob m o2 q
    obtain ⟨s1, s2, s3, s4⟩ := r.sep m l o2 o p2 p q e hm e2 hp
    exact ⟨p2, e2, h2.keep st (upd_ne s1) (upd_ne s3)⟩
  · have hm : m ≠ l := fun z => by subst z; rw [Sto.del_same] at q1; cases q1
    have hm' : m' ≠ l := fun z => by subst z; rw [Sto.del_same] at q2; cases q2
    rw [Sto.del_ne hm] at q1
    rw [Sto.del_ne hm'] at q2
    exact r.sep m m' o1 o2 p1 p2 q1 q2 hn z1 z2
  · exact (r.tab P hP).keep st.frz fun ps h => by rw [upd_ne (ne _ _ h (d1 ps).symm)]; exact h
  · cases o with
    | lst ds =>
      cases hw
      obtain ⟨_, xs, h2, h3⟩ := h1
      rw [hu] at h2; cases h2
      exact ⟨p.1, xs, rfl, ⟨ob, upd_same⟩, h3.mono st⟩
    | dic ks ds =>
      cases hw
      obtain ⟨_, kvs, h2, h3, h4⟩ := h1
      rw [hu] at h2; cases h2
      exact ⟨p.1, ob, kvs, rfl, upd_same, h3, h4.mono st⟩
    | _ => cases hw
theorem q_frz {M : Md} {X : Cx} {a : Expr} {da : DE} (ha : QE M X a da) : QE M X a (dFrz da) := by
  refine ⟨fun pins s σ H Q I ⟨io, S, ρ, Qd, r, re, h, c⟩ => ?_⟩
  refine thn (ha.run pins s σ H (fun x H' => ∃ io' S' v, Stp io H io' H' ∧ RS M io' H' S' ∧ RD M.K io' H' v x ∧ ∃ l o w, v = .ref l ∧ S' l = some o ∧ frzO o = some w ∧ Qd w (S'.del l)) I
    ⟨io, S, ρ, _, r, re, h, fun i1 H1 S1 v x s1 r1 d1 q => ⟨i1, S1, v, s1, r1, d1, q⟩⟩) fun u s' ⟨x, H', I', rx, i1, S1, v, s1, r1, d1, l, o, w, ev, el, hw, q⟩ => ?_
  subst ev
  obtain ⟨p, e1, h1⟩ := r1.ob l o el
  obtain ⟨p', e2, ex⟩ := d1
  rw [e1] at e2; cases e2
  obtain ⟨⟨u1, a1, b1, c1, d1'⟩, _⟩ := h1.there
  have h4 : ∀ y, u1 ≠ .own y := by
    cases o with
    | lst ds => obtain ⟨_, xs, h2, _⟩ := h1; rw [a1] at h2; cases h2; simp
    | dic ks ds => obtain ⟨_, xs, h2, _⟩ := h1; rw [a1] at h2; cases h2; simp
    | _ => cases hw
  obtain ⟨ob, I2⟩ := inv_freeze I' a1 b1 c1 d1' h4
  obtain ⟨r2, s2, d2⟩ := r1.freeze (ob := ob) el e1 a1 hw
  refine ⟨x, _, I2, rx, ?_⟩
  subst ex
  exact c i1 _ _ w _ (s1.trans s2) r2 d2 q
def dNext : DS := fun E ρ S => E.nx ρ S
def dSeq (a b : DS) : DS := fun E ρ S => a { E with nx := fun ρ' S' => b E ρ' S' } ρ S
def dDrop (d : DE) : DS := fun E ρ S => d ρ S fun _ S' => E.nx ρ S'
def dRet (d : DE) : DS := fun E ρ S => d ρ S E.rt
def dRetN : DS := fun E _ S => E.rt .non S
def dIfS (t : DT) (a b : DS) : DS := fun E ρ S => t ρ S fun k S' => if k = true then a E ρ S' else b E ρ S'
def dBreak : DS := fun E ρ S => E.bk ρ S
def dSet (i : Nat) (d : DE) : DS := fun E ρ S => d ρ S fun v S' => E.nx (ρ.set i (some v)) S'
section
variable {M : Md} {X : Cx} {pos : Pos} {st : Stmt} {rest : List Stmt} {e : Expr} {d : DE} {t : DT} {a b : DS}
theorem ss_nil : QSs M X [] dNext := PSs.imp pss_nil fun E σ H ⟨io, S, ρ, Ed, r, re, h, c1, _⟩ => c1 io H S ρ σ (Stp.refl _ _) r re h
theorem ss_cons (h1 : QS M X st a) (h2 : QSs M X rest b) : QSs M X (st :: rest) (dSeq a b) :=
  PSs.imp (pss_cons h1 h2) fun E σ H ⟨io, S, ρ, Ed, r, re, h, c1, c2, c3, c4⟩ => ⟨io, S, ρ, _, r, re, h, fun i1 H1 S1 ρ1 σ1 s1 r1 re1 h1 => ⟨i1, S1, ρ1, Ed, r1, re1, h1, c1.to s1, c2.to s1, c3.to s1, c4.to s1⟩, c2, c3, c4⟩
theorem ss_one (h1 : QS M X st a) : QSs M X [st] a := pss_one h1
theorem s_expr (he : QE M X e d) (hs : swapsWith e none pos.line X.env = pure false := by rfl) : QS M X (.Expr e pos) (dDrop d) :=
  PS.imp (ps_expr he hs) fun E σ H ⟨io, S, ρ, Ed, r, re, h, c1, c2, c3, c4⟩ => ⟨io, S, ρ, _, r, re, h, fun i1 H1 S1 v x s1 r1 _ h1 => c1 i1 H1 S1 ρ σ s1 r1 (re.mono s1) h1⟩
theorem s_ret (he : QE M X e d) : QS M X (.Return (some e) pos) (dRet d) :=
  PS.imp (ps_ret he) fun E σ H ⟨io, S, ρ, Ed, r, re, h, c1, c2, c3, c4⟩ => ⟨io, S, ρ, _, r, re, h, c2⟩
theorem s_if {c : Expr} {as bs : List Stmt} (hc : QT M X c t) (ha : QSs M X as a) (hb : QSs M X bs b) : QS M X (.If c as bs pos) (dIfS t a b) :=
  PS.imp (ps_if hc ha hb) fun E σ H ⟨io, S, ρ, Ed, r, re, h, c1, c2, c3, c4⟩ => ⟨io, S, ρ, _, r, re, h, fun i1 H1 S1 k s1 r1 h1 => by
    cases k with
    | true => exact ⟨i1, S1, ρ, Ed, r1, re.mono s1, h1, c1.to s1, c2.to s1, c3.to s1, c4.to s1⟩
    | false => exact ⟨i1, S1, ρ, Ed, r1, re.mono s1, h1, c1.to s1, c2.to s1, c3.to s1, c4.to s1⟩⟩
theorem s_set {i : Nat} {x : Str} {pos' : Pos} (hN : X.N.Nodup) (hi : X.N[i]? = some x) (hx : Loc X.env.scope x) (he : QE M X e d) (hs : swapsWith e (some (.Name x pos')) pos.line X.env = pure false := by rfl)
    (hf : X.fn x = true ∨ X.env.scope.names.lookup x = some .local := by first | exact .inl rfl | exact .inr rfl | assumption) : QS M X (.Assign [.Name x pos'] e pos) (dSet i d) :=
  PS.imp (ps_set hN hi hx he hs hf) fun E σ H ⟨io, S, ρ, Ed, r, re, h, c1, c2, c3, c4⟩ => ⟨io, S, ρ, _, r, re, h, fun i1 H1 S1 v x s1 r1 d1 h1 => c1 i1 H1 S1 _ _ s1 r1 ((re.mono s1).set i d1) h1⟩
end
inductive Tg where
  | one (i : Nat)
  | many (is : List Nat)
def gMany : List Nat → TGs
  | [] => gNil
  | i :: is => gCons (gName i) (gMany is)
def Tg.g (K : PySem.W.Frag) : Tg → TG
  | .one i => gName i
  | .many is => gTup K is.length (gMany is)
def setsE : List Nat → List D → En → En
  | i :: is, d :: ds, ρ => setsE is ds (ρ.set i (some d))
  | _, _, ρ => ρ
def setsV : List Nat → List V → L2.St → L2.St
  | i :: is, x :: xs, σ => setsV is xs (σ.set i (some x))
  | _, _, σ => σ
def Tg.d (t : Tg) (v : D) (ρ : En) (Q : En → Prop) : Prop := match t with
  | .one i => Q (ρ.set i (some v))
  | .many is => ∃ ds, v = .tup ds ∧ ds.length = is.length ∧ Q (setsE is ds ρ)
def Tg.in_ (t : Tg) (vs : List Nat) : Prop := match t with
  | .one i => i ∈ vs
  | .many is => ∀ i ∈ is, i ∈ vs
theorem RE.sets {K : PySem.W.Frag} {io : Pl} {H : Hp} : ∀ (is : List Nat) {ds : List D} {xs : List V} {ρ : En} {σ : L2.St}, RE K io H ρ σ → RDs K io H ds xs → RE K io H (setsE is ds ρ) (setsV is xs σ)
  | [], _, _, _, _, r, _ => r
  | i :: is, [], _, _, _, r, h => by rw [show _ = _ from h]; exact r
  | i :: is, d :: ds, _, _, _, r, h => by
    obtain ⟨x, xs, rfl, h1, h2⟩ := h
    exact RE.sets is (r.set i h1) h2
theorem gMany_of : ∀ (is : List Nat) {xs : List V} {σ : L2.St} {H : Hp} {Q : L2.St → Hp → Prop}, xs.length = is.length → Q (setsV is xs σ) H → gMany is xs σ H Q
  | [], xs, _, _, _, hl, q => by
    have e : xs = [] := List.eq_nil_of_length_eq_zero hl
    subst e
    exact ⟨rfl, q⟩
  | i :: is, [], _, _, _, hl, q => by simp at hl
  | i :: is, x :: xs, _, _, _, hl, q => ⟨x, xs, rfl, gMany_of is (by simpa using hl) q⟩
theorem tg_sim {M : Md} {io : Pl} {H : Hp} {t : Tg} {v : D} {x : V} {ρ : En} {σ : L2.St} {Qe : En → Prop} {Q : L2.St → Hp → Prop} (re : RE M.K io H ρ σ) (h : RD M.K io H v x) (q : t.d v ρ Qe)
    (k : ∀ ρ' σ', RE M.K io H ρ' σ' → Qe ρ' → (∀ vs, t.in_ vs → wipe σ' vs = wipe σ vs) → Q σ' H) : t.g M.K x σ H Q := by
  have w0 : ∀ (vs : List Nat) (σ : L2.St) (i : Nat) (x : Option V), wipe (σ.set i x) vs = if i ∈ vs then wipe σ vs else (wipe σ vs).set i x := fun vs => by
    induction vs with
    | nil => intro σ i x; simp [wipe]
    | cons j vs ih =>
      intro σ i x
      show (wipe (σ.set i x) vs).set j none = _
      rw [ih]
      by_cases h1 : i ∈ vs
      · rw [if_pos h1, if_pos (List.mem_cons_of_mem _ h1)]; rfl
      · rw [if_neg h1]
        by_cases e : i = j
        · subst e
          rw [if_pos List.mem_cons_self, List.set_set]; rfl
        · rw [if_neg (fun z => (List.mem_cons.mp z).elim e h1), List.set_comm _ _ e]; rfl
  have w1 : ∀ (σ : L2.St) (i : Nat) (x : V) (vs : List Nat), i ∈ vs → wipe (σ.set i (some x)) vs = wipe σ vs := fun σ i x vs hi => by rw [w0, if_pos hi]
  have wm : ∀ (is : List Nat) (σ : L2.St) (xs : List V) (vs : List Nat), (∀ i ∈ is, i ∈ vs) → wipe (setsV is xs σ) vs = wipe σ vs := fun is => by
    induction is with
    | nil => intro σ xs vs _; rfl
    | cons i is ih =>
      intro σ xs vs hi
      cases xs with
      | nil => rfl
      | cons x xs =>
        show wipe (setsV is xs (σ.set i (some x))) vs = _
        rw [ih _ _ _ fun j hj => hi j (List.mem_cons_of_mem _ hj), w1 _ _ _ _ (hi i List.mem_cons_self)]
  cases t with
  | one i => exact k _ _ (re.set i h) q fun vs hi => w1 _ _ _ _ hi
  | many is =>
    obtain ⟨ds, rfl, hl, q⟩ := q
    obtain ⟨a, xs, rfl, s, r⟩ := h
    exact ⟨a, xs, rfl, SqT.of s, by rw [r.len, hl], gMany_of is (by rw [r.len, hl]) (k _ _ (re.sets is r) q fun vs hi => wm is σ xs vs hi)⟩
end L3
end
section
set_option Elab.async false
set_option linter.all false
set_option maxRecDepth 100000
set_option maxHeartbeats 2000000
namespace L3
open PySem PySem.Spec PyProof.Rows L2

abbrev Gs := List (Nat × Ob)
def Gs.ok (gs : Gs) (S : Sto) : Prop := ∀ g ∈ gs, S g.1 = some g.2
theorem Gs.ok_nil {S : Sto} : Gs.ok [] S := fun _ h => by simp at h
theorem Gs.ok_sub {gs : Gs} {S S' : Sto} (h : gs.ok S) (s : S.sub S') : gs.ok S' := fun g hg => s _ _ (h g hg)
structure ItOk (M : Md) (J : It) (ds : List D) (gs : Gs) (io : Pl) (H : Hp) : Prop where
  go : ∀ (io2 : Pl) (H2 : Hp) (S2 : Sto) (i : Nat) (d : D), Stp io H io2 H2 → RS M io2 H2 S2 → gs.ok S2 → ds[i]? = some d → J.go i H2 ∧ ∀ x H3, J.yld i H2 x H3 → ∃ io3, Stp io2 H2 io3 H3 ∧ RS M io3 H3 S2 ∧ RD M.K io3 H3 d x
  stop : ∀ (io2 : Pl) (H2 : Hp) (S2 : Sto), Stp io H io2 H2 → RS M io2 H2 S2 → gs.ok S2 → J.stop ds.length H2
abbrev DI := En → Sto → (List D → Gs → Sto → Prop) → Prop
def liftI (M : Md) (di : DI) : TI := fun σ H R => ∃ io S ρ Rd, RS M io H S ∧ RE M.K io H ρ σ ∧ di ρ S Rd ∧ ∀ io' H' S' J ds gs, Stp io H io' H' → RS M io' H' S' → ItOk M J ds gs io' H' → Rd ds gs S' → R J H'
abbrev QI (M : Md) (X : Cx) (tg e : Expr) (d : DI) : Prop := PI X tg e (liftI M d)
theorem PI.imp {X : Cx} {tg e : Expr} {t t' : TI} (h : PI X tg e t) (k : ∀ σ H R, t' σ H R → t σ H R) : PI X tg e t' := ⟨fun pins s σ H R I q => h.run pins s σ H R I (k σ H R q)⟩

def gsOf (v : D) (o : Ob) : Gs := match v with
  | .ref l => [(l, o)]
  | _ => []
section
variable {M : Md} {io : Pl} {H : Hp} {S : Sto}
theorem lst_src (r : RS M io H S) {v : D} {x : V} {ds : List D} (h : RD M.K io H v x) (e : lstD S v = some ds) :
    ∃ a, x = .ref a ∧ ∀ (io2 : Pl) (H2 : Hp) (S2 : Sto), Stp io H io2 H2 → RS M io2 H2 S2 → (gsOf v (.lst ds)).ok S2 → ∃ xs, SqL M.K H2 a xs ∧ RDs M.K io2 H2 ds xs := by
  cases v with
  | lst ds' =>
    cases e
    obtain ⟨a, xs, e1, h1, h2⟩ := h
    exact ⟨a, e1, fun io2 H2 S2 st _ _ => ⟨xs, (st.fzL h1).sq, h2.mono st⟩⟩
  | kl ds' =>
    cases e
    obtain ⟨a, xs, e1, h1, h2⟩ := h
    exact ⟨a, e1, fun io2 H2 S2 st _ _ => ⟨xs, .inr h1, h2.mono st⟩⟩
  | ref l =>
    obtain ⟨p, e1, e2⟩ := h
    refine ⟨p.1, e2, fun io2 H2 S2 st r2 g => ?_⟩
    have g' : S2 l = some (.lst ds) := g (l, .lst ds) (by simp [gsOf])
    obtain ⟨a, xs, e3, _, h1, h2⟩ := r2.lst (x := .ref p.1) g' ⟨p, st.at_ e1, rfl⟩
    cases e3
    exact ⟨xs, SqL.of h1, h2⟩
  | _ => cases e
theorem tup_src {ds : List D} {x : V} (h : ∃ a xs, x = .ref a ∧ SqT M.K H a xs ∧ RDs M.K io H ds xs) :
    ∃ a xs, x = .ref a ∧ ∀ (io2 : Pl) (H2 : Hp), Stp io H io2 H2 → SqT M.K H2 a xs ∧ RDs M.K io2 H2 ds xs := by
  obtain ⟨a, xs, e1, h1, h2⟩ := h
  exact ⟨a, xs, e1, fun io2 H2 st => ⟨st.sqT h1, h2.mono st⟩⟩
theorem itl_ok {a : Addr} {ds : List D} {gs : Gs} (h : ∀ (io2 : Pl) (H2 : Hp) (S2 : Sto), Stp io H io2 H2 → RS M io2 H2 S2 → gs.ok S2 → ∃ xs, SqL M.K H2 a xs ∧ RDs M.K io2 H2 ds xs) : ItOk M (Itl M.K a) ds gs io H where
  go := fun io2 H2 S2 i d st r g e => by
    obtain ⟨xs, h1, h2⟩ := h io2 H2 S2 st r g
    obtain ⟨x, e1, h3⟩ := h2.get e
    refine ⟨⟨xs, x, h1, e1⟩, fun y H3 ⟨e2, q⟩ => ?_⟩
    subst e2
    have := q xs h1
    rw [e1] at this; cases this
    exact ⟨io2, Stp.refl _ _, r, h3⟩
  stop := fun io2 H2 S2 st r g => by
    obtain ⟨xs, h1, h2⟩ := h io2 H2 S2 st r g
    exact ⟨xs, h1, by rw [h2.len]; exact Nat.le_refl _⟩
theorem itt_ok {a : Addr} {ds : List D} {xs : List V} (h : ∀ (io2 : Pl) (H2 : Hp), Stp io H io2 H2 → SqT M.K H2 a xs ∧ RDs M.K io2 H2 ds xs) : ItOk M (Itt M.K a) ds [] io H where
  go := fun io2 H2 S2 i d st r g e => by
    obtain ⟨h1, h2⟩ := h io2 H2 st
    obtain ⟨x, e1, h3⟩ := h2.get e
    refine ⟨⟨xs, x, h1, e1⟩, fun y H3 ⟨e2, q⟩ => ?_⟩
    subst e2
    have := q xs h1
    rw [e1] at this; cases this
    exact ⟨io2, Stp.refl _ _, r, h3⟩
  stop := fun io2 H2 S2 st r g => by
    obtain ⟨h1, h2⟩ := h io2 H2 st
    exact ⟨xs, h1, by rw [h2.len]; exact Nat.le_refl _⟩
theorem itr_ok {lo : Int} {n : Nat} : ItOk M (Itr lo n) ((List.range n).map fun i : Nat => D.int (lo + i)) [] io H where
  go := fun io2 H2 S2 i d st r g e => by
    rw [List.getElem?_map] at e
    have hi : i < n := by
      by_cases hi : i < n
      · exact hi
      · rw [List.getElem?_eq_none (by simpa using hi)] at e; cases e
    rw [List.getElem?_range hi] at e
    cases e
    exact ⟨hi, fun x H3 ⟨e1, e2⟩ => by subst e1 e2; exact ⟨io2, Stp.refl _ _, r, rfl⟩⟩
  stop := fun io2 H2 S2 st r g => by
    show n ≤ _
    simp
theorem pair_new {x y : V} {d e : D} {T : Addr} (r : RS M io H S) (hT : H T = none) (h1 : RD M.K io H d x) (h2 : RD M.K io H e y) : ∃ io3, Stp io H io3 (upd H T (.tup [x, y])) ∧ RS M io3 (upd H T (.tup [x, y])) S ∧ RD M.K io3 (upd H T (.tup [x, y])) (.tup [d, e]) (.ref T) := by
  obtain ⟨r2, s2⟩ := r.keepNew (u := .tup [x, y]) hT (by show 2 ≤ sizeLine; decide)
  exact ⟨io, s2, r2, T, [x, y], rfl, upd_same, RDs.cons (h1.mono s2) (RDs.one (h2.mono s2))⟩
end
section
variable {M : Md} {X : Cx} {tg e e2 : Expr} {d d2 : DE} {da : DA} {pos p : Pos}
def iSeq (d : DE) : DI := fun ρ S R => d ρ S fun v S' => ∃ ds, seqD S' v = some ds ∧ R ds (gsOf v (.lst ds)) S'
theorem q_iSeq (hM : M.K = X.K) (he : QE M X e d) : QI M X tg e (iSeq d) := by
  refine ⟨fun pins s σ H R I ⟨io, S, ρ, Rd, r, re, h, c⟩ => ?_⟩
  refine thn (he.run pins s σ H (fun x H1 => ∃ io1 S1 v, Stp io H io1 H1 ∧ RS M io1 H1 S1 ∧ RD M.K io1 H1 v x ∧ ∃ ds, seqD S1 v = some ds ∧ Rd ds (gsOf v (.lst ds)) S1) I
    ⟨io, S, ρ, _, r, re, h, fun i1 H1 S1 v x s1 r1 d1 q => ⟨i1, S1, v, s1, r1, d1, q⟩⟩) fun v s1 ⟨x, H1, I1, r1, i1, S1, w, st1, rs1, d1, ds, e1, q1⟩ => ?_
  have fin : ∀ {J : It} {tn : Nat → Heap → Prop} (o : Obj), Turn X.prog X.w X.K tg J [s1.heap.objs.size] s1.heap.objs.size tn → tn 0 (s1.heap.push o) → ItOk M J ds (gsOf w (.lst ds)) i1 H1 → PIE X pins σ tg R (.ref s1.heap.objs.size) { s1 with heap := s1.heap.push o } := fun {J tn} o T t0 ok => by
    refine ⟨s1.heap.objs.size, [s1.heap.objs.size], tn, J, H1, rfl, I1.kept (t' := s1.toks) fun b o e => Heap.get?_push_of_some _ e, T, t0, fun b hb => ?_, c i1 H1 S1 J ds _ st1 rs1 ok q1⟩
    have e : b = s1.heap.objs.size := by simpa using hb
    subst e
    exact I1.fpOk (Nat.le_refl _) (I1.hok.fresh (Nat.le_refl _))
  have lst : ∀ {ds' : List D}, lstD S1 w = some ds' → ds' = ds → wpAny (model X.prog X.w) X.A (pyIter v) (PIE X pins σ tg R) X.xe s1 := fun {ds'} e2 e3 => by
    subst e3
    obtain ⟨a, ex, hs⟩ := lst_src rs1 d1 e2
    subst ex
    cases r1
    obtain ⟨a', xs, ex, hq, _⟩ := lst_of rs1 d1 e2
    cases ex
    rw [hM] at hq
    obtain ⟨its, rv, p, hz⟩ := I1.list hq
    refine wpAny_pyIter_list p.isList (fin _ (turn_list a _) ⟨_, Heap.get?_push_size _ rfl, rfl, rfl⟩ ?_)
    rw [← hM]; exact itl_ok hs
  cases w with
  | tup ds' =>
    cases e1
    obtain ⟨a, xs, ex, hs⟩ := tup_src d1.tup_sq
    subst ex
    cases r1
    have hq := (hs i1 H1 (Stp.refl _ _)).1
    rw [hM] at hq
    obtain ⟨its, rv, p, hz⟩ := I1.tuple hq
    refine wpAny_pyIter_tuple (show s1.heap.IsTuple a its.toArray from p) (fin _ (turn_tuple a _) ⟨_, Heap.get?_push_size _ rfl, rfl, rfl⟩ ?_)
    rw [← hM]; exact itt_ok hs
  | lst ds' => exact lst rfl (Option.some.inj e1)
  | kl ds' => exact lst rfl (Option.some.inj e1)
  | kt ds' =>
    cases e1
    obtain ⟨a, xs, ex, hs⟩ := tup_src d1.kt_sq
    subst ex
    cases r1
    have hq := (hs i1 H1 (Stp.refl _ _)).1
    rw [hM] at hq
    obtain ⟨its, rv, p, hz⟩ := I1.tuple hq
    refine wpAny_pyIter_tuple (show s1.heap.IsTuple a its.toArray from p) (fin _ (turn_tuple a _) ⟨_, Heap.get?_push_size _ rfl, rfl, rfl⟩ ?_)
    rw [← hM]; exact itt_ok hs
  | ref l => exact lst (ds' := ds) e1 rfl
  | _ => cases e1
def iR1 (d : DA) : DI := fun ρ S R => d ρ S fun ds S' => ∃ j : Int, ds = [.int j] ∧ (-(2 ^ 62) ≤ j ∧ j < 2 ^ 62) ∧ R ((List.range j.toNat).map fun i : Nat => D.int i) [] S'
theorem q_range1 {a : Expr} (hg : Gl X "range") (hm : X.mg "range" = none) (ha : QA M X [a] da) (hs : starEach [a] X.env = [(false, eval a X.env)] := by rfl) : QI M X tg (.Call (.Name "range" p) [a] [] pos) (iR1 da) :=
  PI.imp (pi_range1 hg hm ha hs) fun σ H R ⟨io, S, ρ, Rd, r, re, h, c⟩ => ⟨io, S, ρ, _, r, re, h, fun i1 H1 S1 ds xs s1 r1 d1 ⟨j, e, ⟨b1, b2⟩, q⟩ => by
    subst e
    obtain ⟨x, t, rfl, hx, ht⟩ := d1
    have ht : t = [] := ht
    have hx : x = .int j := hx
    subst ht hx
    refine ⟨j, rfl, b1, b2, c i1 H1 S1 _ _ [] s1 r1 ?_ q⟩
    have z := itr_ok (M := M) (io := i1) (H := H1) (lo := 0) (n := j.toNat)
    simpa using z⟩
def iR2 (d : DA) : DI := fun ρ S R => d ρ S fun ds S' => ∃ i j : Int, ds = [.int i, .int j] ∧ (-(2 ^ 62) ≤ i ∧ i < 2 ^ 62 ∧ -(2 ^ 62) ≤ j ∧ j < 2 ^ 62) ∧ R ((List.range (j - i).toNat).map fun k : Nat => D.int (i + k)) [] S'
def iEn (d : DA) : DI := fun ρ S R => d ρ S fun vs S' => ∃ v ds, vs = [v] ∧ lstD S' v = some ds ∧ R ((List.range ds.length).zip ds |>.map fun p => D.tup [.int p.1, p.2]) (gsOf v (.lst ds)) S'
theorem q_enum {elts : List Expr} {kk : Nat} {tpos : Pos} (hM : M.K = X.K) (hg : Gl X "enumerate") (hm : X.mg "enumerate" = none) (ha : QA M X [e] da) (hs : starEach [e] X.env = [(false, eval e X.env)] := by rfl) :
    QI M X (.Tuple elts kk tpos) (.Call (.Name "enumerate" p) [e] [] pos) (iEn da) :=
  PI.imp (pi_enum hg hm ha hs) fun σ H R ⟨io, S, ρ, Rd, r, re, h, c⟩ => ⟨io, S, ρ, _, r, re, h, fun i1 H1 S1 vs xs s1 r1 d1 ⟨v, ds, e1, e2, q⟩ => by
    subst e1
    obtain ⟨x, t, rfl, hx, ht⟩ := d1
    have ht : t = [] := ht
    subst ht
    obtain ⟨a, ex, src⟩ := lst_src r1 hx e2
    subst ex
    obtain ⟨a', xs, ex, hq, _⟩ := lst_of r1 hx e2
    cases ex
    refine ⟨a, xs, rfl, by rw [← hM]; exact hq, c i1 H1 S1 _ _ _ s1 r1 ⟨fun io2 H2 S2 i d st r2 g ed => ?_, fun io2 H2 S2 st r2 g => ?_⟩ q⟩
    · obtain ⟨ys, h1, h2⟩ := src io2 H2 S2 st r2 g
      rw [List.getElem?_map] at ed
      cases ei : ds[i]? with
      | none =>
        have : ds.length ≤ i := List.getElem?_eq_none_iff.mp ei
        rw [List.getElem?_eq_none (by simpa using this)] at ed; cases ed
      | some d0 =>
        have hi : i < ds.length := (List.getElem?_eq_some_iff.mp ei).1
        have ez : ((List.range ds.length).zip ds)[i]? = some (i, d0) := List.getElem?_zip_eq_some.mpr ⟨List.getElem?_range hi, ei⟩
        rw [ez] at ed
        cases ed
        obtain ⟨y, e3, h3⟩ := h2.get ei
        refine ⟨⟨ys, y, by rw [← hM]; exact h1, e3⟩, fun z H3 ⟨T, y', e4, hT, e5, hy⟩ => ?_⟩
        have := hy ys (by rw [← hM]; exact h1)
        rw [e3] at this; cases this
        subst e4 e5
        exact pair_new r2 hT (d := .int i) rfl h3
    · obtain ⟨ys, h1, h2⟩ := src io2 H2 S2 st r2 g
      exact ⟨ys, by rw [← hM]; exact h1, by rw [h2.len]; simp⟩⟩
end
def forW (gs : Gs) (t : Tg) (body : DS) (E : DEnds) : List D → En → Sto → Prop
  | [], ρ, S => gs.ok S ∧ E.nx ρ S
  | d :: ds, ρ, S => gs.ok S ∧ t.d d ρ fun ρ1 => body { E with nx := fun ρ2 S2 => ∃ ρ3 S3, Wk ρ3 ρ2 ∧ S3.sub S2 ∧ forW gs t body E ds ρ3 S3, ct := fun ρ2 S2 => ∃ ρ3 S3, Wk ρ3 ρ2 ∧ S3.sub S2 ∧ forW gs t body E ds ρ3 S3, bk := E.nx } ρ1 S
def dFor (di : DI) (t : Tg) (body : DS) : DS := fun E ρ S => di ρ S fun ds gs S1 => forW gs t body E ds ρ S1
theorem q_for {M : Md} {X : Cx} {tg iter : Expr} {body : List Stmt} {di : DI} {t : Tg} {b : DS} {pos : Pos} (hM : M.K = X.K) (hp : PassesOwn (model X.prog X.w) X.A X.env X.xe) (hc : X.calm = true) (hi : QI M X tg iter di) (hg : PG X tg (t.g X.K)) (hb : QSs M X body b)
    (hs : ∀ x, foldedSetIterable iter X.env x = pure x := by intro _; rfl) : QS M X (.For tg iter body [] pos) (dFor di t b) :=
  PS.imp (ps_for hp hc hi hg hb hs) fun E σ H ⟨io, S, ρ, Ed, r, re, h, c1, c2, c3, c4⟩ => ⟨io, S, ρ, _, r, re, h, fun i1 H1 S1 J ds gs s1 r1 ok q => by
    refine ⟨fun i m σ' H' => m = ds.length - i ∧ i ≤ ds.length ∧ ∃ io2 S2 ρ2, Stp i1 H1 io2 H' ∧ RS M io2 H' S2 ∧ RE M.K io2 H' ρ2 σ' ∧ forW gs t b Ed (ds.drop i) ρ2 S2, ⟨ds.length, by simp, Nat.zero_le _, i1, S1, ρ, Stp.refl _ _, r1, re.mono s1, by simpa using q⟩, ?_⟩
    rintro i m σ2 H2 ⟨rfl, hi, io2, S2, ρ2, st2, r2, re2, q2⟩
    by_cases hlt : i < ds.length
    · have ed : ds[i]? = some ds[i] := List.getElem?_eq_getElem hlt
      rw [List.drop_eq_getElem_cons hlt] at q2
      obtain ⟨g2, q2⟩ := q2
      obtain ⟨go, yl⟩ := ok.go io2 H2 S2 i _ st2 r2 g2 ed
      refine .inr ⟨go, fun σ' H' => ∃ io3 S3 ρ3, Stp i1 H1 io3 H' ∧ RS M io3 H' S3 ∧ RE M.K io3 H' ρ3 σ' ∧ forW gs t b Ed (ds.drop (i + 1)) ρ3 S3, fun σ' H' z => ⟨ds.length - (i + 1), by omega, rfl, hlt, z⟩, fun x H3 y => ?_⟩
      obtain ⟨io3, st3, r3, d3⟩ := yl x H3 y
      have stb : Stp io H io3 H3 := s1.trans (st2.trans st3)
      have nx : CoS M io3 H3 σ2 (fun ρ2 S2 => ∃ ρ3 S3, Wk ρ3 ρ2 ∧ S3.sub S2 ∧ forW gs t b Ed (ds.drop (i + 1)) ρ3 S3) fun σ' H' => ∃ io3 S3 ρ3, Stp i1 H1 io3 H' ∧ RS M io3 H' S3 ∧ RE M.K io3 H' ρ3 σ' ∧ forW gs t b Ed (ds.drop (i + 1)) ρ3 S3 :=
        fun io4 H4 S4 ρ4 σ4 st4 r4 re4 ⟨ρ5, S5, w5, s5, q5⟩ => ⟨io4, S5, ρ5, (st2.trans st3).trans st4, r4.sub s5, re4.wk w5, q5⟩
      rw [← hM]
      refine tg_sim (re2.mono st3) d3 q2 fun ρ4 σ4 re4 q4 _ => ?_
      exact ⟨io3, S2, ρ4, _, r3, re4, q4, nx, c2.to stb, c1.to stb, nx⟩
    · have e : i = ds.length := by omega
      subst e
      rw [List.drop_length] at q2
      obtain ⟨g2, q2⟩ := q2
      exact .inl ⟨ok.stop io2 H2 S2 st2 r2 g2, c1 io2 H2 S2 ρ2 σ2 (s1.trans st2) r2 re2 q2⟩⟩
def whileW (t : DT) (body : DS) (E : DEnds) : Nat → En → Sto → Prop
  | 0, _, _ => False
  | n + 1, ρ, S => t ρ S fun k S' => if k = true then body { E with nx := fun ρ2 S2 => ∃ ρ3 S3, Wk ρ3 ρ2 ∧ S3.sub S2 ∧ whileW t body E n ρ3 S3, ct := fun ρ2 S2 => ∃ ρ3 S3, Wk ρ3 ρ2 ∧ S3.sub S2 ∧ whileW t body E n ρ3 S3, bk := E.nx } ρ S' else E.nx ρ S'
def dWhile (t : DT) (body : DS) : DS := fun E ρ S => ∃ n, whileW t body E n ρ S
end L3
end
section
set_option Elab.async false
set_option linter.all false
set_option maxRecDepth 100000
set_option maxHeartbeats 2000000
namespace L3
open PySem PySem.Spec PyProof.Rows L2

def wipeD (ρ : En) : List Nat → En
  | [] => ρ
  | v :: vs => (wipeD ρ vs).set v none
theorem RE.wipe {K : PySem.W.Frag} {io : Pl} {H : Hp} {ρ : En} {σ : L2.St} (r : RE K io H ρ σ) : ∀ vs : List Nat, RE K io H (wipeD ρ vs) (L2.wipe σ vs)
  | [] => r
  | v :: vs => by
    have ih := RE.wipe r vs
    refine ⟨by simp [wipeD, L2.wipe, ih.1], fun i d e => ?_⟩
    have hi : i ≠ v := fun z => by
      subst z
      have e' : ((wipeD ρ vs).set i none)[i]? = some (some d) := e
      by_cases hl : i < (wipeD ρ vs).length
      · rw [List.getElem?_set_self hl] at e'; cases e'
      · rw [List.getElem?_eq_none (by simpa using hl)] at e'; cases e'
    have e' : ((wipeD ρ vs).set v none)[i]? = some (some d) := e
    rw [List.getElem?_set_ne (Ne.symm hi)] at e'
    obtain ⟨x, e1, h⟩ := ih.2 i d e'
    exact ⟨x, by show ((L2.wipe σ vs).set v none)[i]? = _; rw [List.getElem?_set_ne (Ne.symm hi)]; exact e1, h⟩
theorem wipe_get (σ : L2.St) : ∀ (vs : List Nat) (i : Nat), (L2.wipe σ vs)[i]? = if i ∈ vs then σ[i]?.map (fun _ => none) else σ[i]?
  | [], i => by simp [L2.wipe]
  | v :: vs, i => by
    show ((L2.wipe σ vs).set v none)[i]? = _
    rw [List.getElem?_set, wipe_get σ vs i, wipe_length]
    by_cases h : v = i
    · subst h
      simp only [List.mem_cons, true_or, if_true]
      by_cases hl : v < σ.length
      · rw [if_pos hl, List.getElem?_eq_getElem hl]; rfl
      · rw [if_neg hl, List.getElem?_eq_none (by omega)]; rfl
    · rw [if_neg h]
      have : (i ∈ v :: vs) ↔ (i ∈ vs) := by
        rw [List.mem_cons]
        exact ⟨fun z => z.elim (fun z => absurd z.symm h) id, .inr⟩
      simp only [this]
theorem wipe_twice (σ : L2.St) (vs : List Nat) : L2.wipe (L2.wipe σ vs) vs = L2.wipe σ vs := by
  apply List.ext_getElem?
  intro i
  rw [wipe_get, wipe_get]
  by_cases h : i ∈ vs
  · rw [if_pos h, if_pos h]
    cases σ[i]? <;> rfl
  · rw [if_neg h]
theorem lst_len {M : Md} {io : Pl} {H : Hp} {S : Sto} (r : RS M io H S) {v : D} {x : V} {ds : List D} (h : RD M.K io H v x) (e : seqD S v = some ds) : ds.length ≤ sizeLine := by
  obtain ⟨a, xs, _, s, rr⟩ := seq_of r h e
  rw [← rr.len]
  rcases s with s | s
  · exact r.lenL s
  · exact r.lenT s
def compW (gs : Gs) (t : Tg) (tt : DT) (te : DE) (ρ : En) (Q : List D → Sto → Prop) : List D → List D → Sto → Prop
  | [], acc, S => gs.ok S ∧ Q acc S
  | d :: ds, acc, S => gs.ok S ∧ acc.length < sizeLine ∧ ∀ l o, S l = none → t.d d ρ fun ρ1 => tt ρ1 (S.set l o) fun b S2 =>
      if b = true then te ρ1 S2 fun v S3 => S3 l = some o ∧ ∃ S4, S4.sub (S3.del l) ∧ compW gs t tt te ρ Q ds (acc ++ [v]) S4
      else S2 l = some o ∧ ∃ S4, S4.sub (S2.del l) ∧ compW gs t tt te ρ Q ds acc S4
def dLc (di : DI) (t : Tg) (tt : DT) (te : DE) (vs : List Nat) : DE := fun ρ S Q => di ρ S fun ds gs S1 => compW gs t tt te (wipeD ρ vs) (fun acc S2 => ∀ l, S2 l = none → Q (.ref l) (S2.set l (.lst acc))) ds [] S1
def dYes : DT := fun _ S Q => Q true S
abbrev QTs (M : Md) (X : Cx) (ifs : List Expr) (d : DT) : Prop := PTs X ifs (liftT M d)
theorem q_noif {M : Md} {X : Cx} : QTs M X [] dYes := ⟨fun pins s σ H Q I ⟨io, S, ρ, Qd, r, re, h, c⟩ => pts_nil.run pins s σ H Q I (c.here r h)⟩
theorem q_if1 {M : Md} {X : Cx} {c : Expr} {t : DT} (h : QT M X c t) : QTs M X [c] t := pts_one h
section
variable {M : Md} {di : DI} {t : Tg} {tt : DT} {te : DE} {vs : List Nat} {K : PySem.W.Frag}
theorem lc_sim (hM : M.K = K) (hv : t.in_ vs) : ∀ σ H Q, lift M (dLc di t tt te vs) σ H Q → tLc (liftI M di) (t.g K) (liftT M tt) (lift M te) vs σ H Q :=
  fun σ H Q ⟨io, S, ρ, Qd, r, re, h, c⟩ => ⟨io, S, ρ, _, r, re, h, fun i1 H1 S1 J ds gs s1 r1 ok q D hD => by
    -- the new list takes a place of its own
    obtain ⟨r2, s2, f2, at2⟩ := r1.new (u := .lst []) (o := .lst []) hD (Nat.zero_le _) ⟨rfl, [], upd_same, RDs.nil⟩
    refine ⟨fun i m H' => m = ds.length - i ∧ i ≤ ds.length ∧ ∃ io2 S2 acc, Stp (i1 ++ [(D, D)]) (upd H1 D (.lst [])) io2 H' ∧ RS M io2 H' (S2.set i1.length (.lst acc)) ∧ S2 i1.length = none ∧ compW gs t tt te (wipeD ρ vs) (fun acc S2 => ∀ l, S2 l = none → Qd (.ref l) (S2.set l (.lst acc))) (ds.drop i) acc S2,
      ⟨ds.length, by simp, Nat.zero_le _, _, S1, [], Stp.refl _ _, r2, f2, by simpa using q⟩, ?_⟩
    rintro i m H2 ⟨rfl, hi, io2, S2, acc, st2, r2, n2, q2⟩
    have sg : S2.sub (S2.set i1.length (.lst acc)) := Sto.sub_set n2
    have atD : ∀ {io3 : Pl} {H3 : Hp}, Stp io2 H2 io3 H3 → io3[i1.length]? = some (D, D) := fun st => st.at_ (st2.at_ at2)
    by_cases hlt : i < ds.length
    · have ed : ds[i]? = some ds[i] := List.getElem?_eq_getElem hlt
      rw [List.drop_eq_getElem_cons hlt] at q2
      obtain ⟨g2, hz, q2⟩ := q2
      obtain ⟨go, yl⟩ := ok.go io2 H2 _ i _ (s2.trans st2) r2 (Gs.ok_sub g2 sg) ed
      refine .inr ⟨go, fun H' => ∃ io3 S3 acc, Stp (i1 ++ [(D, D)]) (upd H1 D (.lst [])) io3 H' ∧ RS M io3 H' (S3.set i1.length (.lst acc)) ∧ S3 i1.length = none ∧ compW gs t tt te (wipeD ρ vs) (fun acc S2 => ∀ l, S2 l = none → Qd (.ref l) (S2.set l (.lst acc))) (ds.drop (i + 1)) acc S3,
        fun H' z => ⟨ds.length - (i + 1), by omega, rfl, hlt, z⟩, fun x H3 y => ?_⟩
      obtain ⟨io3, st3, r3, d3⟩ := yl x H3 y
      have q3 := q2 i1.length (.lst acc) n2
      have stb : Stp io H io3 H3 := (s1.trans s2).trans (st2.trans st3)
      rw [← hM]
      refine tg_sim ((re.mono stb).wipe vs) d3 q3 fun ρ4 σ4 re4 q4 hw => ⟨(hw vs hv).trans (wipe_twice σ vs), ?_⟩
      refine ⟨io3, _, ρ4, _, r3, re4, q4, fun io5 H5 S5 b st5 r5 q5 => ?_⟩
      cases b with
      | true =>
        rw [if_pos rfl] at q5 ⊢
        refine ⟨io5, S5, ρ4, _, r5, re4.mono st5, q5, fun io6 H6 S6 v z st6 r6 d6 ⟨e6, S7, s7, q7⟩ => ?_⟩
        have a6 : io6[i1.length]? = some (D, D) := atD ((st3.trans st5).trans st6)
        obtain ⟨p, ep, e8, xs, hx, rx⟩ := r6.ob _ _ e6
        rw [a6] at ep; cases ep
        have hlen : xs.length < sizeLine := by rw [rx.len]; exact hz
        obtain ⟨r8, s8⟩ := r6.put (H' := upd H6 D (.lst (xs ++ [z]))) (o' := .lst (acc ++ [v])) e6 a6 (fun b h1 _ => upd_ne h1)
          (fun u hu => by
            have : upd H6 D (.lst (xs ++ [z])) D = some u := hu.elim id id
            rw [upd_same] at this; cases this
            show (xs ++ [z]).length ≤ sizeLine
            simp; omega)
          fun st => ⟨rfl, _, upd_same, (rx.mono st).app (RDs.one (d6.mono st))⟩
        refine ⟨xs, hx, hlen, _, S7, acc ++ [v], ((st2.trans st3).trans (st5.trans st6)).trans s8, r8.sub fun l o e => ?_, ?_, q7⟩
        · by_cases hl : l = i1.length
          · subst hl; rw [Sto.set_same] at e ⊢; exact e
          · rw [Sto.set_ne hl] at e ⊢
            have := s7 l o e
            rw [Sto.del_ne hl] at this; exact this
        · cases e : S7 i1.length with
          | none => rfl
          | some o =>
            have := s7 _ _ e
            rw [Sto.del_same] at this; cases this
      | false =>
        rw [if_neg Bool.false_ne_true] at q5 ⊢
        obtain ⟨e5, S7, s7, q7⟩ := q5
        refine ⟨io5, S7, acc, (st2.trans st3).trans st5, r5.sub fun l o e => ?_, ?_, q7⟩
        · by_cases hl : l = i1.length
          · subst hl; rw [Sto.set_same] at e; rw [e5]; exact e
          · rw [Sto.set_ne hl] at e
            have := s7 l o e
            rw [Sto.del_ne hl] at this; exact this
        · cases e : S7 i1.length with
          | none => rfl
          | some o =>
            have := s7 _ _ e
            rw [Sto.del_same] at this; cases this
    · have e : i = ds.length := by omega
      subst e
      rw [List.drop_length] at q2
      obtain ⟨g2, q2⟩ := q2
      refine .inl ⟨ok.stop io2 H2 _ (s2.trans st2) r2 (Gs.ok_sub g2 sg), ?_⟩
      exact c io2 H2 _ (.ref i1.length) (.ref D) ((s1.trans s2).trans st2) r2 ⟨_, st2.at_ at2, rfl⟩ (q2 _ n2)⟩
end
section
variable {M : Md} {X : Cx} {elt tg iter : Expr} {ifs : List Expr} {scope : Scope} {own : List (Str × Nat)} {pos spos py : Pos} {di : DI} {t : Tg} {tt : DT} {te : DE} {y : Str} {i : Nat}
theorem q_lc (hM : M.K = X.K) (hc : X.calm = true) (hN : X.N.Nodup) (hi : QI M X tg iter di) (ok : BlkOk X.N X.env.scope scope own) (hv : t.in_ (own.map (·.2)))
    (hg : ∀ (s : Shared) (H : Hp) (C : Addr) (cl : List (Str × Addr)) (fp : List Addr), PG (X.blk s H scope (compEnvC scope cl C X.env) fp) tg (t.g X.K)) (ht : ∀ (s : Shared) (H : Hp) (C : Addr) (cl : List (Str × Addr)) (fp : List Addr), QTs M (X.blk s H scope (compEnvC scope cl C X.env) fp) ifs tt)
    (he : ∀ (s : Shared) (H : Hp) (C : Addr) (cl : List (Str × Addr)) (fp : List Addr), QE M (X.blk s H scope (compEnvC scope cl C X.env) fp) elt te) (hs : ∀ x, foldedSetIterable iter X.env x = pure x := by intro _; rfl) :
    QE M X (.ListComp elt [⟨tg, iter, ifs, 0⟩] scope pos) (dLc di t tt te (own.map (·.2))) :=
  PE.imp (pe_lc hc hN hi ok hg ht he hs) (lc_sim hM hv)
theorem s_setLc (hM : M.K = X.K) (hc : X.calm = true) (hN : X.N.Nodup) (hy : X.N[i]? = some y) (hyl : X.env.scope.names.lookup y = some .local)
    (hsw : swapsWith (.ListComp elt [⟨tg, iter, ifs, 0⟩] scope pos) (some (.Name y py)) spos.line X.env = pure true) (hi : QI M X tg iter di) (ok : BlkOk X.N X.env.scope scope own) (hv : t.in_ (own.map (·.2)))
    (hg : ∀ (s : Shared) (H : Hp) (C : Addr) (cl : List (Str × Addr)) (fp : List Addr), PG (X.blk s H scope (compEnvC scope cl C X.env) fp) tg (t.g X.K)) (ht : ∀ (s : Shared) (H : Hp) (C : Addr) (cl : List (Str × Addr)) (fp : List Addr), QTs M (X.blk s H scope (compEnvC scope cl C X.env) fp) ifs tt)
    (he : ∀ (s : Shared) (H : Hp) (C : Addr) (cl : List (Str × Addr)) (fp : List Addr), QE M (X.blk s H scope (compEnvC scope cl C X.env) fp) elt te) (hs : ∀ x, foldedSetIterable iter X.env x = pure x := by intro _; rfl) :
    QS M X (.Assign [.Name y py] (.ListComp elt [⟨tg, iter, ifs, 0⟩] scope pos) spos) (dSet i (dLc di t tt te (own.map (·.2)))) :=
  PS.imp (ps_setLc hc hN hy hyl hsw hi ok hg ht he hs) fun E σ H ⟨io, S, ρ, Ed, r, re, h, c1, c2, c3, c4⟩ =>
    lc_sim hM hv σ H _ ⟨io, S, ρ, _, r, re, h, fun i1 H1 S1 v x s1 r1 d1 h1 => c1 i1 H1 S1 _ _ s1 r1 ((re.mono s1).set i d1) h1⟩
end
section
variable {gs : Gs} {t : Tg} {tt : DT} {te : DE} {ρ : En} {Q : List D → Sto → Prop} {S : Sto}
end
end L3
end
section
set_option Elab.async false
set_option linter.all false
set_option maxRecDepth 100000
set_option maxHeartbeats 2000000
namespace L3
open PySem PySem.Spec PyProof.Rows L2

def aNil : DA := fun _ S Q => Q [] S
def aCons (d : DE) (t : DA) : DA := fun ρ S Q => d ρ S fun v S1 => t ρ S1 fun vs S2 => Q (v :: vs) S2
def aStar (d : DE) (t : DA) : DA := fun ρ S Q => d ρ S fun v S1 => ∃ ds, seqD S1 v = some ds ∧ t ρ S1 fun vs S2 => Q (ds ++ vs) S2
def dTup (t : DA) : DE := fun ρ S Q => t ρ S fun ds S1 => ds.length ≤ sizeLine ∧ Q (.tup ds) S1
def dLst (t : DA) : DE := fun ρ S Q => t ρ S fun ds S1 => ds.length ≤ sizeLine ∧ ∀ l, S1 l = none → Q (.ref l) (S1.set l (.lst ds))
section
variable {M : Md} {X : Cx} {e : Expr} {es : List Expr} {d : DE} {t : DA} {pos p : Pos}
theorem a_nil : QA M X [] aNil := PA.imp pa_nil fun σ H Q ⟨io, S, ρ, Qd, r, re, h, c⟩ => c io H S [] [] (Stp.refl _ _) r rfl h
theorem a_cons (he : QE M X e d) (hr : QA M X es t) (hs : starEach (e :: es) X.env = (false, eval e X.env) :: starEach es X.env := by rfl) : QA M X (e :: es) (aCons d t) :=
  PA.imp (pa_cons he hr hs) fun σ H Q ⟨io, S, ρ, Qd, r, re, h, c⟩ => ⟨io, S, ρ, _, r, re, h, fun i1 H1 S1 v x s1 r1 d1 h1 => ⟨i1, S1, ρ, _, r1, re.mono s1, h1, fun i2 H2 S2 vs xs s2 r2 d2 h2 =>
    c i2 H2 S2 (v :: vs) (x :: xs) (s1.trans s2) r2 (RDs.cons (d1.mono s2) d2) h2⟩⟩
theorem q_tup {k : Nat} (h : QA M X es t) : QE M X (.Tuple es k pos) (dTup t) :=
  PE.imp (pe_tup h) fun σ H Q ⟨io, S, ρ, Qd, r, re, h, c⟩ => ⟨io, S, ρ, _, r, re, h, fun i1 H1 S1 ds xs s1 r1 d1 ⟨hz, h1⟩ => ⟨by rw [d1.len]; exact hz, fun p hp => by
    obtain ⟨r2, s2⟩ := r1.keepNew (u := .tup xs) hp (by show xs.length ≤ _; rw [d1.len]; exact hz)
    exact c i1 _ S1 (.tup ds) (.ref p) (s1.trans s2) r2 ⟨p, xs, rfl, upd_same, d1.mono s2⟩ h1⟩⟩
theorem q_lst (h : QA M X es t) : QE M X (.List es pos) (dLst t) :=
  PE.imp (pe_lst h) fun σ H Q ⟨io, S, ρ, Qd, r, re, h, c⟩ => ⟨io, S, ρ, _, r, re, h, fun i1 H1 S1 ds xs s1 r1 d1 ⟨hz, h1⟩ => ⟨by rw [d1.len]; exact hz, fun p hp => by
    have hz' : xs.length ≤ sizeLine := by rw [d1.len]; exact hz
    have st0 : Stp i1 H1 (i1 ++ [(p, p)]) (upd H1 p (.lst xs)) := ⟨⟨_, rfl⟩, fun a ys h => by rw [upd_ne (ne_of_none h hp)]; exact h, fun a o y h => by rw [upd_ne (ne_of_none h hp)]; exact h⟩
    obtain ⟨r2, s2, n2, at2⟩ := r1.new (u := .lst xs) (o := .lst ds) hp hz' ⟨rfl, xs, upd_same, d1.mono st0⟩
    exact c _ _ _ (.ref i1.length) (.ref p) (s1.trans s2) r2 ⟨_, at2, rfl⟩ (h1 _ n2)⟩⟩
end
section
variable {M : Md} {X : Cx} {e : Expr} {es : List Expr} {t : DA} {pos p : Pos} {x : Str} {id T : String} {r : List V → Hp → VK → Prop} {dr : DRA}
theorem seqA (hs : SimA M r dr) : ∀ σ H Q, lift M (dCB dr t) σ H Q → tCB r (liftA M t) σ H Q := fun σ H Q ⟨io, S, ρ, Qd, r1, re, h, c⟩ =>
  ⟨io, S, ρ, _, r1, re, h, fun i1 H1 S1 ds xs s1 r2 d1 h1 => hs i1 H1 S1 xs ds Qd Q r2 d1 h1 (c.to s1)⟩
theorem q_callB (hs : SimA M r dr) (hc : CallR X (.builtin id) r) (hg : Gl X x) (hm : X.mg x = none) (hv : bootBuiltins x = some (.builtin id)) (ha : QA M X (e :: es) t) (hn : x ≠ "__name__" := by decide) (hdb : (x == ("__debug__" : Str)) = false := by decide)
    (he : starEach (e :: es) X.env = (false, eval e X.env) :: starEach es X.env := by rfl) (hpl : (backTo pos (starEach es X.env)).any (·.1) = false := by rfl) : QE M X (.Call (.Name x p) (e :: es) [] pos) (dCB dr t) :=
  PE.imp (pe_callB hc hg hm hv ha hn hdb he hpl) (seqA hs)
theorem q_callTy (hs : SimA M r dr) (hc : CallR X (.type T) r) (hg : Gl X x) (hm : X.mg x = none) (hv : bootBuiltins x = some (.type T)) (ha : QA M X (e :: es) t) (hn : x ≠ "__name__" := by decide) (hdb : (x == ("__debug__" : Str)) = false := by decide)
    (he : starEach (e :: es) X.env = (false, eval e X.env) :: starEach es X.env := by rfl) (hpl : (backTo pos (starEach es X.env)).any (·.1) = false := by rfl) : QE M X (.Call (.Name x p) (e :: es) [] pos) (dCB dr t) :=
  PE.imp (pe_callTy hc hg hm hv ha hn hdb he hpl) (seqA hs)
end
abbrev DXK := Value → List Str → List D → Sto → Prop
abbrev DSp := List D → Sto → DK → DXK → Prop
def RX (K : PySem.W.Frag) (io : Pl) (H : Hp) (S : Sto) (d : Option Addr) (ns : List Str) (ds : List D) : Prop := match d with
  | none => ns = [] ∧ ds = []
  | some a => (∀ l o p, S l = some o → io[l]? = some p → p.1 ≠ a ∧ p.2 ≠ a) ∧ ∃ vs, H a = some (.xd (ns.zip vs)) ∧ vs.length = ns.length ∧ RDs K io H ds vs
def ExOk (M : Md) (Ed : DXK) (E : XK) : Prop := ∀ (io' : Pl) (H' : Hp) (S' : Sto) (cls : Value) (d : Option Addr) (ns : List Str) (ds : List D), RS M io' H' S' → RX M.K io' H' S' d ns ds → Ed cls ns ds S' → E cls d H'
def noX : DXK := fun _ _ _ _ => False
theorem exOk_no (M : Md) (E : XK) : ExOk M noX E := fun _ _ _ _ _ _ _ _ _ h => h.elim
def liftSp (K : PySem.W.Frag) (tabs : List (Addr × Str)) (W : Option World) (sp : DSp) : Sp := fun vs H Q E => ∃ io S ds Qd Ed, RS ⟨K, tabs, io, H, W⟩ io H S ∧ RDs K io H ds vs ∧ sp ds S Qd Ed ∧ Co ⟨K, tabs, io, H, W⟩ io H Qd Q ∧ ExOk ⟨K, tabs, io, H, W⟩ Ed E
theorem call_sim {M : Md} {sp : DSp} {io : Pl} {H : Hp} {S : Sto} {ds : List D} {vs : List V} {Qd : DK} {Q : VK} {Ed : DXK} {E : XK} (r : RS M io H S) (d : RDs M.K io H ds vs) (h : sp ds S Qd Ed) (c : Co M io H Qd Q) (hE : ExOk M Ed E) : liftSp M.K M.tabs M.w sp vs H Q E :=
  ⟨io, S, ds, Qd, Ed, r.re, d, h, fun i1 H1 S1 v x s1 r1 d1 q => c i1 H1 S1 v x s1 (r.back r1) d1 q, fun i1 H1 S1 cls a ns es r1 x1 q => hE i1 H1 S1 cls a ns es (r.back r1) x1 q⟩
structure FN (P : Program) (w : World) (K : PySem.W.Frag) (mg : Str → Option Value) (base : Heap) (CX : CXT) (tabs : List (Addr × Str)) (k : Nat) (f : Addr) (params : Arguments) (ps : List Str) (sp : DSp) : Prop where
  ex : ∃ fd, FnOk P w K mg base CX k f fd ps (liftSp K tabs (some w) sp) ∧ Binds K fd ps [] ∧ PySem.W.keepIn K (.ref f) = true ∧ ∃ x qual body scope kV doc pm an cdv ct, fd = PySem.W.fnOf x qual params body scope .none kV doc pm an cdv ct
theorem FN.mono {P : Program} {w : World} {K : PySem.W.Frag} {mg : Str → Option Value} {base : Heap} {CX : CXT} {tabs : List (Addr × Str)} {j k : Nat} {f : Addr} {params : Arguments} {ps : List Str} {sp : DSp} (F : FN P w K mg base CX tabs j f params ps sp) (h : j ≤ k) :
    FN P w K mg base CX tabs k f params ps sp := by
  obtain ⟨fd, a, b⟩ := F.ex
  exact ⟨fd, a.mono h, b⟩
theorem FN.imp {P : Program} {w : World} {K : PySem.W.Frag} {mg : Str → Option Value} {base : Heap} {CX : CXT} {tabs : List (Addr × Str)} {k : Nat} {f : Addr} {params : Arguments} {ps : List Str} {sp sp' : DSp} (F : FN P w K mg base CX tabs k f params ps sp)
    (h : ∀ ds S Q E, sp' ds S Q E → sp ds S Q E) : FN P w K mg base CX tabs k f params ps sp' := by
  obtain ⟨fd, a, b⟩ := F.ex
  exact ⟨fd, a.imp fun vs H Q E ⟨io, S, ds, Qd, Ed, r, d, s, c, x⟩ => ⟨io, S, ds, Qd, Ed, r, d, h _ _ _ _ s, c, x⟩, b⟩
theorem FN.raw {P : Program} {w : World} {K : PySem.W.Frag} {mg : Str → Option Value} {base : Heap} {CX : CXT} {tabs : List (Addr × Str)} {k : Nat} {f : Addr} {params : Arguments} {ps : List Str} {sp : DSp} (F : FN P w K mg base CX tabs k f params ps sp) :
    FnR P w K mg base CX k f (liftSp K tabs (some w) sp) := by
  obtain ⟨fd, a, b, _⟩ := F.ex
  exact (a.raw b .nil).imp fun vs H Q E h => by rw [List.append_nil]; exact h
def dCall (sp : DSp) (Ed : DXK) (t : DA) : DE := fun ρ S Q => t ρ S fun ds S1 => sp ds S1 Q Ed
def dMethSl (C : Addr) (sp : DSp) (Ed : DXK) (d : DE) (t : DA) : DE := fun ρ S Q => d ρ S fun v S1 => ∃ l vs, v = .ref l ∧ S1 l = some (.slt C vs) ∧ t ρ S1 fun ds S2 => sp (v :: ds) S2 Q Ed
def dMeth (C : Addr) (m : Str) (sp : DSp) (Ed : DXK) (d : DE) (t : DA) : DE := fun ρ S Q => d ρ S fun v S1 => ∃ l fs vs, v = .ref l ∧ S1 l = some (.ins C fs vs) ∧ m ∉ fs ∧ t ρ S1 fun ds S2 => sp (v :: ds) S2 Q Ed
def dSlot (C : Addr) (i : Nat) (d : DE) : DE := fun ρ S Q => d ρ S fun v S1 => ∃ l vs w, v = .ref l ∧ S1 l = some (.slt C vs) ∧ vs[i]? = some (some w) ∧ Q w S1
def putD (i : Nat) (v : D) (vs : List (Option D)) : List (Option D) := (vs ++ List.replicate (i + 1 - vs.length) none).set i (some v)
def dSetSlot (C : Addr) (i : Nat) (d v : DE) : DS := fun E ρ S => v ρ S fun w S1 => d ρ S1 fun o S2 => ∃ l vs, o = .ref l ∧ S2 l = some (.slt C vs) ∧ E.nx ρ (S2.set l (.slt C (putD i w vs)))
theorem RDo.get {K : PySem.W.Frag} {io : Pl} {H : Hp} : ∀ {ds : List (Option D)} {xs : List (Option V)} {i : Nat} {d : D}, RDo K io H ds xs → ds[i]? = some (some d) → ∃ x, xs[i]? = some (some x) ∧ RD K io H d x
  | [], _, _, _, _, e => by simp at e
  | none :: ds, _, 0, _, _, e => by simp at e
  | some d :: ds, _, 0, d', h, e => by
    obtain ⟨x, r, rfl, h1, _⟩ := h
    simp at e; subst e
    exact ⟨x, rfl, h1⟩
  | none :: ds, _, i + 1, d', h, e => by
    obtain ⟨x, r, rfl, h2⟩ := h
    obtain ⟨y, e1, e2⟩ := RDo.get (i := i) h2 (by simpa using e)
    exact ⟨y, by simpa using e1, e2⟩
  | some d :: ds, _, i + 1, d', h, e => by
    obtain ⟨x, r, rfl, _, h2⟩ := h
    obtain ⟨y, e1, e2⟩ := RDo.get (i := i) h2 (by simpa using e)
    exact ⟨y, by simpa using e1, e2⟩
theorem RDo.len {K : PySem.W.Frag} {io : Pl} {H : Hp} : ∀ {ds : List (Option D)} {xs : List (Option V)}, RDo K io H ds xs → xs.length = ds.length
  | [], _, h => by rw [show _ = _ from h]; rfl
  | none :: ds, _, h => by
    obtain ⟨x, r, rfl, h2⟩ := h
    simp [RDo.len h2]
  | some d :: ds, _, h => by
    obtain ⟨x, r, rfl, _, h2⟩ := h
    simp [RDo.len h2]
theorem RDo.app {K : PySem.W.Frag} {io : Pl} {H : Hp} : ∀ {ds es : List (Option D)} {xs ys : List (Option V)}, RDo K io H ds xs → RDo K io H es ys → RDo K io H (ds ++ es) (xs ++ ys)
  | [], _, _, _, h, h' => by rw [show _ = _ from h]; exact h'
  | none :: ds, _, _, _, h, h' => by
    obtain ⟨x, r, rfl, h2⟩ := h
    exact ⟨x, r ++ _, rfl, RDo.app h2 h'⟩
  | some d :: ds, _, _, _, h, h' => by
    obtain ⟨x, r, rfl, h1, h2⟩ := h
    exact ⟨x, r ++ _, rfl, h1, RDo.app h2 h'⟩
theorem RDo.nones {K : PySem.W.Frag} {io : Pl} {H : Hp} : ∀ n : Nat, RDo K io H (List.replicate n none) (List.replicate n none)
  | 0 => rfl
  | n + 1 => ⟨none, _, rfl, RDo.nones n⟩
theorem RDo.set {K : PySem.W.Frag} {io : Pl} {H : Hp} : ∀ {ds : List (Option D)} {xs : List (Option V)} (i : Nat) {d : D} {x : V}, RDo K io H ds xs → RD K io H d x → RDo K io H (ds.set i (some d)) (xs.set i (some x))
  | [], _, _, _, _, h, _ => by rw [show _ = _ from h]; exact rfl
  | none :: ds, _, 0, _, _, h, h' => by
    obtain ⟨x, r, rfl, h2⟩ := h
    exact ⟨_, r, rfl, h', h2⟩
  | some d :: ds, _, 0, _, _, h, h' => by
    obtain ⟨x, r, rfl, _, h2⟩ := h
    exact ⟨_, r, rfl, h', h2⟩
  | none :: ds, _, i + 1, _, _, h, h' => by
    obtain ⟨x, r, rfl, h2⟩ := h
    exact ⟨x, _, rfl, RDo.set i h2 h'⟩
  | some d :: ds, _, i + 1, _, _, h, h' => by
    obtain ⟨x, r, rfl, h1, h2⟩ := h
    exact ⟨x, _, rfl, h1, RDo.set i h2 h'⟩
theorem RDo.put {K : PySem.W.Frag} {io : Pl} {H : Hp} {ds : List (Option D)} {xs : List (Option V)} (i : Nat) {d : D} {x : V} (h : RDo K io H ds xs) (h' : RD K io H d x) : RDo K io H (putD i d ds) (SlX.putS i x xs) := by
  unfold putD SlX.putS
  rw [h.len]
  exact (h.app (RDo.nones _)).set i h'
theorem RS.slt {M : Md} {io : Pl} {H : Hp} {S : Sto} (r : RS M io H S) {l : Nat} {C : Addr} {ds : List (Option D)} {x : V} (e : S l = some (.slt C ds)) (h : RD M.K io H (.ref l) x) :
    ∃ p xs, x = .ref p.1 ∧ io[l]? = some p ∧ p.2 ≠ p.1 ∧ SlX.Slt H p.1 C p.2 xs ∧ RDo M.K io H ds xs := by
  obtain ⟨p, e1, h1⟩ := r.ob l _ e
  obtain ⟨q, e2, rfl⟩ := h
  rw [e1] at e2; cases e2
  obtain ⟨e3, _, xs, h2, h3⟩ := h1
  exact ⟨p, xs, rfl, e1, e3, h2, h3⟩
theorem RS.ins {M : Md} {io : Pl} {H : Hp} {S : Sto} (r : RS M io H S) {l : Nat} {C : Addr} {fs : List Str} {ds : List D} {x : V} (e : S l = some (.ins C fs ds)) (h : RD M.K io H (.ref l) x) :
    ∃ p xs, x = .ref p.1 ∧ io[l]? = some p ∧ p.2 ≠ p.1 ∧ H p.2 = some (.own p.1) ∧ H p.1 = some (.ins C p.2 (fs.zip xs)) ∧ xs.length = fs.length ∧ RDs M.K io H ds xs := by
  obtain ⟨p, e1, h1⟩ := r.ob l _ e
  obtain ⟨q, e2, rfl⟩ := h
  rw [e1] at e2; cases e2
  obtain ⟨e3, h0, xs, h2, h3, h4⟩ := h1
  exact ⟨p, xs, rfl, e1, e3, h0, h2, h3, h4⟩
section
variable {M : Md} {X : Cx} {CX : CXT} {k : Nat} {f C : Addr} {params : Arguments} {ps : List Str} {sp : DSp} {Ed : DXK} {E : XK} {x m : Str} {p pos apos : Pos} {e o value : Expr} {es : List Expr} {d dv : DE} {t : DA}
theorem q_call (hK : M.kw = (X.K, some X.w)) (F : FN X.prog X.w X.K X.mg X.base CX M.tabs k f params ps sp) (hr : Room k X.A) (hg : Gl X x) (hm : X.mg x = some (.ref f)) (hx : Passes CX X E) (hE : ExOk M Ed E)
    (ha : QA M X (e :: es) t) (hdb : (x == ("__debug__" : Str)) = false := by decide) (he : starEach (e :: es) X.env = (false, eval e X.env) :: starEach es X.env := by rfl) (hpl : (backTo pos (starEach es X.env)).any (·.1) = false := by rfl) :
    QE M X (.Call (.Name x p) (e :: es) [] pos) (dCall sp Ed t) := by
  obtain ⟨fd, a, b, kp, _⟩ := F.ex
  exact PE.imp (pe_call a hr hg hm kp b .nil hx ha hdb he hpl) fun σ H Q ⟨io, S, ρ, Qd, r, re, h, c⟩ => ⟨io, S, ρ, _, r, re, h, fun i1 H1 S1 ds xs s1 r1 d1 h1 => by
    show liftSp X.K M.tabs (some X.w) sp (xs ++ []) H1 Q E
    rw [List.append_nil, ← kw_k hK, ← kw_w hK]
    exact call_sim r1 d1 h1 (c.to s1) hE⟩
theorem q_call0 (hK : M.kw = (X.K, some X.w)) (F : FN X.prog X.w X.K X.mg X.base CX M.tabs k f params ps sp) (hr : Room k X.A) (hg : Gl X x) (hm : X.mg x = some (.ref f)) (hx : Passes CX X E) (hE : ExOk M Ed E)
    (hdb : (x == ("__debug__" : Str)) = false := by decide) : QE M X (.Call (.Name x p) [] [] pos) (dCall sp Ed aNil) := by
  obtain ⟨fd, a, b, kp, _⟩ := F.ex
  exact PE.imp (pe_call0 a hr hg hm kp b .nil hx hdb) fun σ H Q ⟨io, S, ρ, Qd, r, re, h, c⟩ => by
    show liftSp X.K M.tabs (some X.w) sp ([] ++ []) H Q E
    rw [List.append_nil, ← kw_k hK, ← kw_w hK]
    exact call_sim r RDs.nil h c hE
end
end L3
end
section
set_option Elab.async false
set_option linter.all false
set_option maxRecDepth 100000
set_option maxHeartbeats 2000000
namespace L3
open PySem PySem.Spec PyProof.Rows L2

theorem RD.ref {K : PySem.W.Frag} {io : Pl} {H : Hp} {l : Nat} {p : Addr × Addr} (h : io[l]? = some p) : RD K io H (.ref l) (.ref p.1) := ⟨p, h, rfl⟩
def dMakeSl (C : Addr) (sp : DSp) (Ed : DXK) (t : DA) : DE := fun ρ S Q => t ρ S fun ds S1 => ∀ l, S1 l = none → sp (.ref l :: ds) (S1.set l (.slt C [])) (fun v S2 => v = .non ∧ Q (.ref l) S2) Ed
def dMake (C : Addr) (sp : DSp) (Ed : DXK) (t : DA) : DE := fun ρ S Q => t ρ S fun ds S1 => ∀ l, S1 l = none → sp (.ref l :: ds) (S1.set l (.ins C [] [])) (fun v S2 => v = .non ∧ Q (.ref l) S2) Ed
section
variable {M : Md} {X : Cx} {CX : CXT} {k : Nat} {f C : Addr} {params : Arguments} {ps : List Str} {sp : DSp} {Ed : DXK} {E : XK} {x : Str} {p pos : Pos} {e : Expr} {es : List Expr} {t : DA}
end
def drp (P : Sto → Prop) (S : Sto) : Prop := ∃ S', S'.sub S ∧ P S'
theorem drp_of {P : Sto → Prop} {S : Sto} (h : P S) : drp P S := ⟨S, Sto.sub_refl S, h⟩
def EndsD (Q : DK) : DEnds := { nx := fun _ S => drp (Q .non) S, rt := fun v S => drp (Q v) S }
def startD (N : List Str) (ds : List D) : En := ds.map some ++ List.replicate (N.length - ds.length) none
theorem RE.start {K : PySem.W.Frag} {io : Pl} {H : Hp} {N : List Str} {ds : List D} {vs : List V} (d : RDs K io H ds vs) : RE K io H (startD N ds) (L2.start N vs) := by
  have hl := d.len
  refine ⟨by simp [startD, L2.start, hl], fun i v e => ?_⟩
  unfold startD at e
  by_cases hi : i < ds.length
  · rw [List.getElem?_append_left (by simpa using hi), List.getElem?_map] at e
    cases ei : ds[i]? with
    | none => rw [ei] at e; cases e
    | some d0 =>
      rw [ei] at e; cases e
      obtain ⟨x, e1, h⟩ := d.get ei
      refine ⟨x, ?_, h⟩
      unfold L2.start
      rw [List.getElem?_append_left (by rw [List.length_map, hl]; exact hi), List.getElem?_map, e1]; rfl
  · rw [List.getElem?_append_right (by simpa using hi), List.getElem?_replicate] at e
    split at e <;> cases e
section
variable {P : Program} {w : World} {K : PySem.W.Frag} {mg : Str → Option Value} {base : Heap} {x qual : Str} {params : Arguments} {body : List Stmt} {scope : Scope} {f : Addr} {fd : FuncData} {N ps : List Str} {k : Nat} {sp : DSp} {tabs : List (Addr × Str)}
theorem body_sim {io : Pl} {H : Hp} {S : Sto} {ds : List D} {vs : List V} {Qd : DK} {Q : VK} {d : DS} (r : RS ⟨K, tabs, io, H, some w⟩ io H S) (dd : RDs K io H ds vs) (c : Co ⟨K, tabs, io, H, some w⟩ io H Qd Q) (h : d (EndsD Qd) (startD N ds) S) :
    liftS ⟨K, tabs, io, H, some w⟩ d { nx := fun _ H' => Q .non H', rt := Q } (L2.start N vs) H :=
  ⟨io, S, startD N ds, EndsD Qd, r, RE.start dd, h, fun i1 H1 S1 ρ1 σ1 s1 r1 re1 ⟨S2, h1, h2⟩ => c i1 H1 S2 .non .non s1 (r1.sub h1) rfl h2, fun i1 H1 S1 v x s1 r1 d1 ⟨S2, h1, h2⟩ => c i1 H1 S2 v x s1 (r1.sub h1) d1 h2,
    fun _ _ _ _ _ _ _ _ h => h.elim, fun _ _ _ _ _ _ _ _ h => h.elim⟩
theorem funD_fn (F : FunD K x qual params body scope [] [] f fd) : ∃ x qual body scope kV doc pm an cdv ct, fd = PySem.W.fnOf x qual params body scope .none kV doc pm an cdv ct := by
  obtain ⟨oc, od, dV, kV, doc, pm, an, cdv, ct, osl, rfl, lk, hcd, hD, hK⟩ := F.ex
  rcases hD with ⟨_, rfl⟩ | ⟨e, _⟩
  · exact ⟨_, _, _, _, _, _, _, _, _, _, rfl⟩
  · exact absurd rfl e
end
end L3
end
section
set_option Elab.async false
set_option linter.all false
set_option maxRecDepth 100000
set_option maxHeartbeats 2000000
namespace L3
open PySem PySem.Spec PyProof.Rows L2

theorem Sim2.or {M : Md} {r r' : R2} {d d' : DR2} (h : Sim2 M r d) (h' : Sim2 M r' d') : Sim2 M (fun x y H Q => r x y H Q ∨ r' x y H Q) (fun v w S Q => d v w S Q ∨ d' v w S Q) :=
  fun io H S x y v w Qd Q rs dv dw q c => q.elim (fun q => .inl (h io H S x y v w Qd Q rs dv dw q c)) fun q => .inr (h' io H S x y v w Qd Q rs dv dw q c)
theorem SimA.or {M : Md} {r r' : List V → Hp → VK → Prop} {d d' : DRA} (h : SimA M r d) (h' : SimA M r' d') : SimA M (fun x H Q => r x H Q ∨ r' x H Q) (fun v S Q => d v S Q ∨ d' v S Q) :=
  fun io H S x v Qd Q rs dv q c => q.elim (fun q => .inl (h io H S x v Qd Q rs dv q c)) fun q => .inr (h' io H S x v Qd Q rs dv q c)
theorem CallR.or {X : Cx} {f : Value} {r r' : List V → Hp → VK → Prop} (h : CallR X f r) (h' : CallR X f r') : CallR X f (fun x H Q => r x H Q ∨ r' x H Q) := by
  intro pins s σ H xs us Q I rv q
  rcases q with q | q
  · exact h pins s σ H xs us Q I rv q
  · exact h' pins s σ H xs us Q I rv q
section
variable {M : Md} {io : Pl} {H : Hp} {S : Sto}
theorem new_lst (r : RS M io H S) {q : Addr} {ds : List D} {xs : List V} {Qd : DK} {Q : VK} (hq : H q = none) (hz : ds.length ≤ sizeLine) (d : RDs M.K io H ds xs) (c : Co M io H Qd Q) (h : ∀ l, S l = none → Qd (.ref l) (S.set l (.lst ds))) : Q (.ref q) (upd H q (.lst xs)) := by
  have st0 : Stp io H (io ++ [(q, q)]) (upd H q (.lst xs)) := ⟨⟨_, rfl⟩, fun a ys h => by rw [upd_ne (ne_of_none h hq)]; exact h, fun a o y h => by rw [upd_ne (ne_of_none h hq)]; exact h⟩
  obtain ⟨r2, s2, n2, at2⟩ := r.new (u := .lst xs) (o := .lst ds) hq (by show xs.length ≤ _; rw [d.len]; exact hz) ⟨rfl, xs, upd_same, d.mono st0⟩
  exact c _ _ _ (.ref io.length) (.ref q) s2 r2 (RD.ref at2) (h _ n2)
theorem new_tup (r : RS M io H S) {q : Addr} {ds : List D} {xs : List V} {Qd : DK} {Q : VK} (hq : H q = none) (hz : ds.length ≤ sizeLine) (d : RDs M.K io H ds xs) (c : Co M io H Qd Q) (h : Qd (.tup ds) S) : Q (.ref q) (upd H q (.tup xs)) := by
  obtain ⟨r2, s2⟩ := r.keepNew (u := .tup xs) hq (by show xs.length ≤ _; rw [d.len]; exact hz)
  exact c io _ S (.tup ds) (.ref q) s2 r2 ⟨q, xs, rfl, upd_same, d.mono s2⟩ h
theorem RDs.inj1 {d : D} {vs : List V} (h : RDs M.K io H [d] vs) : ∃ x, vs = [x] ∧ RD M.K io H d x := by
  obtain ⟨x, r, rfl, h1, h2⟩ := h
  have h2 : r = [] := h2
  subst h2
  exact ⟨x, rfl, h1⟩
theorem RDs.inj2 {d e : D} {vs : List V} (h : RDs M.K io H [d, e] vs) : ∃ x y, vs = [x, y] ∧ RD M.K io H d x ∧ RD M.K io H e y := by
  obtain ⟨x, r, rfl, h1, y, r', rfl, h2, h3⟩ := h
  have h3 : r' = [] := h3
  subst h3
  exact ⟨x, y, rfl, h1, h2⟩
theorem RDs.nil_iff {ds : List D} {xs : List V} (h : RDs M.K io H ds xs) : xs = [] ↔ ds = [] := by
  cases ds with
  | nil => exact ⟨fun _ => rfl, fun _ => h⟩
  | cons d ds => obtain ⟨x, r, rfl, _⟩ := h; simp
end
def oAddI : DR2 := oI0 fun i j => .int (i + j)
def oAddS : DR2 := fun v w S Q => ∃ a b, v = .str a ∧ w = .str b ∧ a.length + b.length ≤ sizeLine ∧ Q (.str (a ++ b)) S
def oAddT : DR2 := fun v w S Q => ∃ ds es, v = .tup ds ∧ w = .tup es ∧ ds.length + es.length ≤ sizeLine ∧ Q (.tup (ds ++ es)) S
def oAddL : DR2 := fun v w S Q => ∃ ds es, lstR S v = some ds ∧ lstR S w = some es ∧ ds.length + es.length ≤ sizeLine ∧ ∀ l, S l = none → Q (.ref l) (S.set l (.lst (ds ++ es)))
def rCatR : R2 := fun x y H Q => ∃ l b xs zs, x = .ref l ∧ y = .ref b ∧ Rd H l (.lst xs) ∧ Rd H b (.lst zs) ∧ xs.length + zs.length ≤ sizeLine ∧ ∀ p, H p = none → Q (.ref p) (upd H p (.lst (xs ++ zs)))
theorem rd_lst {X : Cx} {pins : List (Addr × Obj)} {σ : L2.St} {H : Hp} {s : Shared} {l : Addr} {xs : List V} (I : Inv X pins σ H s) (h : Rd H l (.lst xs)) :
    xs.length ≤ sizeLine ∧ ∃ (its : List Value) (n : Nat), Vals xs its ∧ xs.length = its.length ∧ s.heap.get? l = some { cls := .type "list", data := .seq its.toArray n } := by
  obtain ⟨z, its, n, r, e⟩ := h.ok I.hok
  exact ⟨z, its, n, r, r.length, e⟩
theorem op_catR {X : Cx} : OpR X (binaryOp .Add) rCatR := by
  intro pins s σ H x y v u Q I rx ry h
  obtain ⟨l, b, xs, zs, rfl, rfl, hH, hB, hz, q⟩ := h
  cases rx
  cases ry
  obtain ⟨z, its, n, r, hl, e⟩ := rd_lst I hH
  obtain ⟨z2, its2, n2, r2, hl2, e2⟩ := rd_lst I hB
  refine PySem.P.add_list e e2 ?_ (by rw [List.size_toArray, List.size_toArray]; omega)
  have ea : its.toArray ++ its2.toArray = (its ++ its2).toArray := by simp
  rw [ea]
  exact ⟨.ref _, _, I.lnew (t' := s.toks) (r.append r2) (by rw [List.length_append]; omega), rfl, q _ I.fresh⟩
theorem sim_addS {M : Md} : Sim2 M (fun x y H Q => ∃ i j, x = .str i ∧ y = .str j ∧ i.length + j.length ≤ sizeLine ∧ Q (.str (i ++ j)) H) oAddS := fun io H S x y v w Qd Q r dv dw ⟨a, b, e1, e2, hz, q⟩ c => by
  subst e1 e2
  exact ⟨a, b, dv, dw, hz, c.here r (v := .str (a ++ b)) rfl q⟩
theorem sim_addT {M : Md} {K : PySem.W.Frag} (hM : M.K = K) : Sim2 M (rCatA K) oAddT := fun io H S x y v w Qd Q r dv dw ⟨ds, es, e1, e2, hz, q⟩ c => by
  subst e1 e2
  obtain ⟨a, xs, rfl, s1, d1⟩ := dv
  obtain ⟨b, ys, rfl, s2, d2⟩ := dw
  rw [← hM]
  refine ⟨a, b, xs, ys, rfl, rfl, SqT.of s1, SqT.of s2, by rw [d1.len, d2.len]; exact hz, fun e => ?_, fun _ e => ?_, fun _ _ p hp => ?_⟩
  · have e' := d1.nil_iff.mp e
    subst e'
    exact c.here r (v := .tup es) ⟨b, ys, rfl, s2, d2⟩ q
  · have e' := d2.nil_iff.mp e
    subst e'
    rw [List.append_nil] at q
    exact c.here r (v := .tup ds) ⟨a, xs, rfl, s1, d1⟩ q
  · exact new_tup r hp (by rw [List.length_append]; exact hz) (d1.app d2) c q
theorem sim_addL {M : Md} : Sim2 M rCatR oAddL := fun io H S x y v w Qd Q r dv dw ⟨ds, es, e1, e2, hz, q⟩ c => by
  obtain ⟨a, xs, rfl, s1, d1⟩ := lst_rd r dv e1
  obtain ⟨b, ys, rfl, s2, d2⟩ := lst_rd r dw e2
  exact ⟨a, b, xs, ys, rfl, rfl, s1, s2, by rw [d1.len, d2.len]; exact hz, fun p hp => new_lst r hp (by rw [List.length_append]; exact hz) (d1.app d2) c q⟩
def oMulI : DR2 := oI CMul fun i j => .int (i * j)
def oRepL : DR2 := fun v w S Q => ∃ ds k, lstR S v = some ds ∧ w = .int k ∧ 0 ≤ k ∧ k < 2 ^ 62 ∧ ds.length * k.toNat ≤ sizeLine ∧ ∀ l, S l = none → Q (.ref l) (S.set l (.lst (List.replicate k.toNat ds).flatten))
def rRepR : R2 := fun x y H Q => ∃ l k xs, x = .ref l ∧ y = .int k ∧ Rd H l (.lst xs) ∧ -(2 ^ 63) ≤ k ∧ k < 2 ^ 63 ∧ xs.length * k.toNat ≤ sizeLine ∧
  ∀ p, H p = none → Q (.ref p) (upd H p (.lst (List.replicate k.toNat xs).flatten))
theorem op_repR {X : Cx} : OpR X (binaryOp .Mult) rRepR := by
  intro pins s σ H x y v u Q I rx ry h
  obtain ⟨l, k, xs, ex, ey, hH, h1, h2, hz, q⟩ := h
  rcases hH with hH | ⟨o, hH⟩
  · exact op_rep pins s σ H x y v u Q I rx ry ⟨l, k, xs, ex, ey, hH, h1, h2, hz, q⟩
  · subst ex ey
    cases rx
    obtain ⟨t, rfl⟩ := ry
    obtain ⟨z, its, n, r, hl, e⟩ := rd_lst I (.inr ⟨o, hH⟩)
    have hlen : its.toArray.size * k.toNat ≤ sizeLine := by rw [List.size_toArray, ← hl]; exact hz
    have hcap : ¬ its.toArray.size * k.toNat > (2 ^ 63 - 1) / 8 := by
      have : (sizeLine : Nat) ≤ (2 ^ 63 - 1) / 8 := by decide
      omega
    have hfit : ¬ (!Builtin.List.listFitsIndex k) = true := by
      rw [fitsIndex_both h1 h2]
      exact Bool.false_ne_true
    have hlong : ¬ Builtin.List.listTooLong (its.toArray.size * k.toNat) = true := by
      rw [notLongL hlen]
      exact Bool.false_ne_true
    have hnew : List.foldl (fun x1 x2 => x1 ++ x2) #[] (List.replicate (if its.toArray.isEmpty = true then 0 else k.toNat) its.toArray) = (List.replicate k.toNat its).flatten.toArray := by
      have f0 : ∀ m : Nat, List.foldl (fun x1 x2 => x1 ++ x2) #[] (List.replicate m its.toArray) = (List.replicate m its).flatten.toArray := fun m => by
        have := foldl_rep its m []
        rw [List.nil_append] at this
        exact this
      rw [f0]
      cases its with
      | nil => simp
      | cons a r' => rw [if_neg (by simp)]
    refine wpAny_binaryOp_repeat_ref (T := "list") (U := "int") (by decide) ⟨_, e, rfl⟩ (fun s' => typeIs_int s' k t) noFill_list_mul F.fills_int_mul F.slot_int_rmul repeat_list F.slot_int_index.lookup
      (call_meets F.slot_int_rmul (typeIs_int s k t) F.entry_int_rmul (F.args_int_rmul_2 _ _) (int___rmul___int_list k t l its.toArray n)
        ⟨e, rfl, ⟨_, e, rfl⟩, call_meets F.slot_list_mul ⟨_, e, rfl⟩ F.entry_list_mul (F.args_list_mul_2 _ _) (AutoListH.list___mul___list_int_3 l its.toArray n k t hfit hcap hlong) ⟨e, ?_⟩⟩)
    rw [hnew]
    exact ⟨.ref _, _, I.lnew (t' := s.toks) (r.rep k.toNat) (by rw [PyProof.Rows.lm_len_rep_flat, Nat.mul_comm]; exact hz), rfl, q _ I.fresh⟩
theorem RDs.rep {K : PySem.W.Frag} {io : Pl} {H : Hp} {ds : List D} {xs : List V} (h : RDs K io H ds xs) : ∀ k : Nat, RDs K io H (List.replicate k ds).flatten (List.replicate k xs).flatten
  | 0 => RDs.nil
  | k + 1 => by
    rw [List.replicate_succ, List.replicate_succ, List.flatten_cons, List.flatten_cons]
    exact h.app (RDs.rep h k)
theorem rep_len {α : Type} (ds : List α) : ∀ k : Nat, (List.replicate k ds).flatten.length = ds.length * k
  | 0 => by simp
  | k + 1 => by
    rw [List.replicate_succ, List.flatten_cons, List.length_append, rep_len ds k, Nat.mul_succ, Nat.add_comm]
theorem sim_repL {M : Md} : Sim2 M rRepR oRepL := fun io H S x y v w Qd Q r dv dw ⟨ds, k, e1, e2, h0, h1, hz, q⟩ c => by
  subst e2
  obtain ⟨a, xs, rfl, s1, d1⟩ := lst_rd r dv e1
  exact ⟨a, k, xs, rfl, dw, s1, by omega, by omega, by rw [d1.len]; exact hz, fun p hp => new_lst r hp (by rw [rep_len]; exact hz) (d1.rep k.toNat) c q⟩
mutual
def pyD : D → Option PyData
  | .non => some .none
  | .bl b => some (.bool b)
  | .int i => some (.int i)
  | .str x => some (.str x)
  | .tup ds => (pyDs ds).map .tuple
  | .lst ds => (pyDs ds).map .list
  | .kl _ => none
  | .kt ds => (pyDs ds).map .tuple
  | .dic _ _ => none
  | .ref _ => none
  | .raw _ => none
def pyDs : List D → Option (List PyData)
  | [] => some []
  | d :: ds => (pyD d).bind fun p => (pyDs ds).map fun ps => p :: ps
end
def pyR (S : Sto) (v : D) : Option PyData := match v with
  | .ref l => (match S l with
    | some (.lst ds) => (pyDs ds).map .list
    | _ => none)
  | v => pyD v
section
variable {M : Md} {io : Pl} {H : Hp}
mutual
theorem dp_of : ∀ (d : D) {v : V} {p : PyData}, RD M.K io H d v → pyD d = some p → Dp M.K H v p
  | .non, v, p, h, e => by cases e; rw [show v = .non from h]; exact .non
  | .bl b, v, p, h, e => by cases e; rw [show v = .bl b from h]; exact .bl b
  | .int b, v, p, h, e => by cases e; rw [show v = .int b from h]; exact .int b
  | .str b, v, p, h, e => by cases e; rw [show v = .str b from h]; exact .str b
  | .tup ds, v, p, h, e => by
    obtain ⟨a, xs, rfl, s, r⟩ := h
    have e' : (pyDs ds).map PyData.tuple = some p := e
    cases q : pyDs ds with
    | none => rw [q] at e'; cases e'
    | some ps => rw [q] at e'; cases e'; exact .tup (SqT.of s) (dps_of ds r q)
  | .lst ds, v, p, h, e => by
    obtain ⟨a, xs, rfl, s, r⟩ := h
    have e' : (pyDs ds).map PyData.list = some p := e
    cases q : pyDs ds with
    | none => rw [q] at e'; cases e'
    | some ps => rw [q] at e'; cases e'; exact .lst s.sq (dps_of ds r q)
  | .kl _, v, p, h, e => by cases e
  | .kt ds, v, p, h, e => by
    obtain ⟨a, o, xs, rfl, s, _, r⟩ := h
    have e' : (pyDs ds).map PyData.tuple = some p := e
    cases q : pyDs ds with
    | none => rw [q] at e'; cases e'
    | some ps => rw [q] at e'; cases e'; exact .tup (.inl (.inr ⟨o, s⟩)) (dps_of ds r q)
  | .dic _ _, v, p, h, e => by cases e
  | .ref _, v, p, h, e => by cases e
  | .raw _, v, p, h, e => by cases e
theorem dps_of : ∀ (ds : List D) {vs : List V} {ps : List PyData}, RDs M.K io H ds vs → pyDs ds = some ps → DpAll M.K H vs ps
  | [], vs, ps, h, e => by cases e; rw [show vs = [] from h]; exact .nil
  | d :: ds, vs, ps, h, e => by
    obtain ⟨x, r, rfl, h1, h2⟩ := h
    have e' : ((pyD d).bind fun p => (pyDs ds).map fun ps => p :: ps) = some ps := e
    cases q : pyD d with
    | none => rw [q] at e'; cases e'
    | some p =>
      rw [q] at e'
      cases q2 : pyDs ds with
      | none => rw [q2] at e'; cases e'
      | some ps' => rw [q2] at e'; cases e'; exact .cons (dp_of d h1 q) (dps_of ds h2 q2)
end
theorem dpr_of {S : Sto} (r : RS M io H S) {d : D} {v : V} {p : PyData} (h : RD M.K io H d v) (e : pyR S d = some p) : Dp M.K H v p := by
  cases d with
  | ref l =>
    have e' : (match S l with | some (.lst ds) => (pyDs ds).map PyData.list | _ => none) = some p := e
    cases q : S l with
    | none => rw [q] at e'; cases e'
    | some o =>
      rw [q] at e'
      cases o with
      | lst ds =>
        have e' : (pyDs ds).map PyData.list = some p := e'
        obtain ⟨a, xs, rfl, _, h1, h2⟩ := r.lst q h
        cases q2 : pyDs ds with
        | none => rw [q2] at e'; cases e'
        | some ps => rw [q2] at e'; cases e'; exact .lst (SqL.of h1) (dps_of ds h2 q2)
      | _ => cases e'
  | _ => exact dp_of _ h e
end
def oEqD : DR2 := fun v w S Q => ∃ p q, pyR S v = some p ∧ pyR S w = some q ∧ SeqAt.shaped p = true ∧ SeqAt.shaped q = true ∧ Q (.bl (PyData.eqv p q)) S
def oNeD : DR2 := fun v w S Q => ∃ p q, pyR S v = some p ∧ pyR S w = some q ∧ SeqAt.shaped p = true ∧ SeqAt.shaped q = true ∧ Q (.bl (!PyData.eqv p q)) S
theorem sim_eqD {M : Md} {K : PySem.W.Frag} (hM : M.K = K) : Sim2 M (rEqD K) oEqD := fun io H S x y v w Qd Q r dv dw ⟨p, q, e1, e2, s1, s2, k⟩ c =>
  ⟨p, q, hM ▸ dpr_of r dv e1, hM ▸ dpr_of r dw e2, s1, s2, c.here r (v := .bl _) rfl k⟩
theorem sim_neD {M : Md} {K : PySem.W.Frag} (hM : M.K = K) : Sim2 M (rNeD K) oNeD := fun io H S x y v w Qd Q r dv dw ⟨p, q, e1, e2, s1, s2, k⟩ c =>
  ⟨p, q, hM ▸ dpr_of r dv e1, hM ▸ dpr_of r dw e2, s1, s2, c.here r (v := .bl _) rfl k⟩
def oInD : DR2 := fun v w S Q => ∃ p qs, pyR S v = some p ∧ pyR S w = some (.list qs) ∧ SeqAt.shaped p = true ∧ SeqAt.shaped (.list qs) = true ∧ Q (.bl (qs.any fun z => PyData.eqv z p)) S
def oNotInD : DR2 := fun v w S Q => ∃ p qs, pyR S v = some p ∧ pyR S w = some (.list qs) ∧ SeqAt.shaped p = true ∧ SeqAt.shaped (.list qs) = true ∧ Q (.bl (!qs.any fun z => PyData.eqv z p)) S
theorem sim_inD {M : Md} {K : PySem.W.Frag} (hM : M.K = K) : Sim2 M (rInD K) oInD := fun io H S x y v w Qd Q r dv dw ⟨p, q, e1, e2, s1, s2, k⟩ c =>
  ⟨p, q, hM ▸ dpr_of r dv e1, hM ▸ dpr_of r dw e2, s1, s2, c.here r (v := .bl _) rfl k⟩
theorem sim_notInD {M : Md} {K : PySem.W.Frag} (hM : M.K = K) : Sim2 M (rNotInD K) oNotInD := fun io H S x y v w Qd Q r dv dw ⟨p, q, e1, e2, s1, s2, k⟩ c =>
  ⟨p, q, hM ▸ dpr_of r dv e1, hM ▸ dpr_of r dw e2, s1, s2, c.here r (v := .bl _) rfl k⟩
def oIsN : DR2 := fun v w S Q => w = .non ∧ ((v = .non ∧ Q (.bl true) S) ∨ (isNonD v = some false ∧ Q (.bl false) S))
where isNonD : D → Option Bool
  | .non => some true
  | .raw _ => none
  | _ => some false
theorem nonD_of {K : PySem.W.Frag} {io : Pl} {H : Hp} {v : D} {x : V} (h : RD K io H v x) (e : oIsN.isNonD v = some false) : x ≠ .non := by
  cases v with
  | non => cases e
  | bl b => rw [show x = .bl b from h]; simp
  | int b => rw [show x = .int b from h]; simp
  | str b => rw [show x = .str b from h]; simp
  | tup ds => obtain ⟨a, xs, rfl, _⟩ := h; simp
  | lst ds => obtain ⟨a, xs, rfl, _⟩ := h; simp
  | kl ds => obtain ⟨a, xs, rfl, _⟩ := h; simp
  | kt ds => obtain ⟨a, o, xs, rfl, _⟩ := h; simp
  | dic ks ds => obtain ⟨a, o, kvs, rfl, _⟩ := h; simp
  | ref l => obtain ⟨p, _, rfl⟩ := h; simp
  | raw w => cases e
theorem sim_isN {M : Md} : Sim2 M (fun x y H Q => y = .non ∧ Q (.bl (decide (x = .non))) H) oIsN := fun io H S x y v w Qd Q r dv dw ⟨e, h⟩ c => by
  subst e
  refine ⟨dw, ?_⟩
  rcases h with ⟨e, q⟩ | ⟨e, q⟩
  · subst e
    rw [show x = .non from dv]
    exact c.here r (v := .bl true) rfl q
  · rw [decide_eq_false (nonD_of dv e)]
    exact c.here r (v := .bl false) rfl q
end L3
end
section
set_option Elab.async false
set_option linter.all false
set_option maxRecDepth 100000
set_option maxHeartbeats 2000000
namespace L3
open PySem PySem.Spec PyProof.Rows L2

theorem RDs.at_ {K : PySem.W.Frag} {io : Pl} {H : Hp} {ds : List D} {xs : List V} {i : Int} {u : D} (h : RDs K io H ds xs) (e : atI ds i = some u) : ∃ x, atI xs i = some x ∧ RD K io H u x := by
  unfold atI at e ⊢
  rw [h.len]
  cases q : ixN ds.length i with
  | none => rw [q] at e; cases e
  | some j =>
    rw [q] at e
    obtain ⟨x, e1, h1⟩ := h.get (i := j) e
    exact ⟨x, e1, h1⟩
def oIx : DR2 := fun v w S Q => ∃ ds i u, seqD S v = some ds ∧ w = .int i ∧ atI ds i = some u ∧ Q u S
theorem sim_ix {M : Md} {K : PySem.W.Frag} (hM : M.K = K) : Sim2 M (fun x y H Q => rIxL K x y H Q ∨ rIxT K x y H Q) oIx := fun io H S x y v w Qd Q r dv dw ⟨ds, i, u, e1, e2, e3, q⟩ c => by
  subst e2
  obtain ⟨a, xs, rfl, s, rr⟩ := seq_of r dv e1
  obtain ⟨z, e4, dz⟩ := rr.at_ e3
  rw [← hM]
  rcases s with s | s
  · exact .inl ⟨a, xs, i, z, rfl, dw, s, e4, c.here r dz q⟩
  · exact .inr ⟨a, xs, i, z, rfl, dw, s, e4, c.here r dz q⟩
section
variable {M : Md} {X : Cx} {a b : Expr} {da db : DE} {pos p2 : Pos}
theorem q_ix (hM : M.K = X.K) (ha : QE M X a da) (hb : QE M X b db) (hs : PlainIx b := by intro _ _; rfl) : QE M X (.Subscript a b pos) (dOp oIx da db) :=
  PE.imp (pe_ix (ix_list.or ix_tup) ha hb hs) (seq2 (sim_ix hM))
end
abbrev DO := En → Sto → (Option Int → Sto → Prop) → Prop
def liftO (M : Md) (d : DO) : TO := fun σ H Q => ∃ io S ρ Qd, RS M io H S ∧ RE M.K io H ρ σ ∧ d ρ S Qd ∧ ∀ io' H' S' o, Stp io H io' H' → RS M io' H' S' → Qd o S' → Q o H'
abbrev QO (M : Md) (X : Cx) (e : Option Expr) (d : DO) : Prop := PO X e (liftO M d)
theorem PO.imp {X : Cx} {e : Option Expr} {t t' : TO} (h : PO X e t) (k : ∀ σ H Q, t' σ H Q → t σ H Q) : PO X e t' := ⟨fun pins s σ H Q I q => h.run pins s σ H Q I (k σ H Q q)⟩
def dNoP : DO := fun _ S Q => Q none S
def dPart (d : DE) : DO := fun ρ S Q => d ρ S fun v S' => ∃ i, v = .int i ∧ Q (some i) S'
theorem o_none {M : Md} {X : Cx} : QO M X none dNoP := PO.imp po_none fun σ H Q ⟨io, S, ρ, Qd, r, re, h, c⟩ => c io H S _ (Stp.refl _ _) r h
theorem o_some {M : Md} {X : Cx} {e : Expr} {d : DE} (h : QE M X e d) : QO M X (some e) (dPart d) :=
  PO.imp (po_some h) fun σ H Q ⟨io, S, ρ, Qd, r, re, h, c⟩ => ⟨io, S, ρ, _, r, re, h, fun i1 H1 S1 v x s1 r1 d1 ⟨i, e, q⟩ => by
    subst e
    exact ⟨i, d1, c i1 H1 S1 _ s1 r1 q⟩⟩
def cutD {α : Type} (ds : List α) (lo hi : Option Int) : List α := (ds.drop (HT.sIx ds.length 0 lo)).take (HT.sIx ds.length ds.length hi - HT.sIx ds.length 0 lo)
theorem cutD_len {α : Type} (ds : List α) (lo hi : Option Int) : (cutD ds lo hi).length ≤ ds.length := by
  unfold cutD
  rw [List.length_take, List.length_drop]
  omega
theorem RDs.cut {K : PySem.W.Frag} {io : Pl} {H : Hp} {ds : List D} {xs : List V} (h : RDs K io H ds xs) (lo hi : Option Int) : RDs K io H (cutD ds lo hi) (cutV xs lo hi) := by
  unfold cutD cutV
  rw [h.len]
  exact (h.drop _).take _
def dSl (d : DE) (l h : DO) : DE := fun ρ S Q => d ρ S fun v S1 => l ρ S1 fun lo S2 => h ρ S2 fun hi S3 =>
  (∃ ds, lstD S3 v = some ds ∧ ∀ m, S3 m = none → Q (.ref m) (S3.set m (.lst (cutD ds lo hi)))) ∨ ∃ ds, v = .tup ds ∧ Q (.tup (cutD ds lo hi)) S3
theorem q_slice {M : Md} {X : Cx} {e : Expr} {lo hi : Option Expr} {d : DE} {l h : DO} {pos p2 : Pos} (hM : M.K = X.K) (he : QE M X e d) (hl : QO M X lo l) (hh : QO M X hi h) : QE M X (.Subscript e (.Slice lo hi none p2) pos) (dSl d l h) :=
  PE.imp (pe_slice (sl_list.or sl_tupA) he hl hh) fun σ H Q ⟨io, S, ρ, Qd, r, re, hh, c⟩ => ⟨io, S, ρ, _, r, re, hh, fun i1 H1 S1 v x s1 r1 d1 h1 => ⟨i1, S1, ρ, _, r1, re.mono s1, h1, fun i2 H2 S2 lo s2 r2 h2 => ⟨i2, S2, ρ, _, r2, re.mono (s1.trans s2), h2,
    fun i3 H3 S3 hi s3 r3 h3 => by
      have dv := d1.mono (s2.trans s3)
      have c3 := c.to (s1.trans (s2.trans s3))
      rw [← hM]
      rcases h3 with ⟨ds, e, q⟩ | ⟨ds, e, q⟩
      · obtain ⟨a, xs, rfl, sq, rr⟩ := lst_of r3 dv e
        refine .inl ⟨a, xs, rfl, sq, fun p hp => new_lst r3 hp ?_ (rr.cut lo hi) c3 q⟩
        have := cutD_len ds lo hi
        have := r3.lenL sq
        rw [rr.len] at this
        omega
      · subst e
        obtain ⟨a, xs, rfl, sq, rr⟩ := dv
        refine .inr ⟨a, xs, rfl, SqT.of sq, fun hw => ?_, fun hw p hp => ?_⟩
        · have e : cutD ds lo hi = ds := by
            unfold cutD
            rw [← rr.len, hw.1, hw.2]
            simp [rr.len]
          rw [e] at q
          exact c3.here r3 (v := .tup ds) ⟨a, xs, rfl, sq, rr⟩ q
        · refine new_tup r3 hp ?_ (rr.cut lo hi) c3 q
          have := cutD_len ds lo hi
          have := r3.lenT (SqT.of (K := M.K) sq)
          rw [rr.len] at this
          omega⟩⟩⟩
abbrev DRB := D → List D → Sto → DK → Prop
def SimB (M : Md) (r : V → List V → Hp → VK → Prop) (dr : DRB) : Prop := ∀ (io : Pl) (H : Hp) (S : Sto) (x : V) (xs : List V) (v : D) (ds : List D) (Qd : DK) (Q : VK), RS M io H S → RD M.K io H v x → RDs M.K io H ds xs → dr v ds S Qd → Co M io H Qd Q → r x xs H Q
def tyB (S : Sto) (T : String) (v : D) : Prop := (T = "list" ∧ ∃ ds, lstD S v = some ds) ∨ (T = "dict" ∧ ∃ l ks ds, v = .ref l ∧ S l = some (.dic ks ds)) ∨ (T = "str" ∧ ∃ x, v = .str x)
def dBM (T : String) (dr : DRB) (d : DE) (t : DA) : DE := fun ρ S Q => d ρ S fun v S1 => tyB S1 T v ∧ t ρ S1 fun ds S2 => dr v ds S2 Q
theorem tyB_of {M : Md} {io : Pl} {H : Hp} {S : Sto} {T : String} {v : D} {x : V} (r : RS M io H S) (h : RD M.K io H v x) (t : tyB S T v) : tyV M.K T x H := by
  rcases t with ⟨rfl, ds, e⟩ | ⟨rfl, l, ks, ds, rfl, e⟩ | ⟨rfl, z, rfl⟩
  · obtain ⟨a, xs, rfl, sq, _⟩ := lst_of r h e
    exact .inl ⟨rfl, xs, sq⟩
  · obtain ⟨a, kvs, rfl, _, h1, _⟩ := r.dic e h
    exact .inr (.inr (.inl ⟨rfl, .inl ⟨kvs, h1⟩⟩))
  · rw [show x = .str z from h]; rfl
section
variable {M : Md} {X : Cx} {o e : Expr} {es : List Expr} {d : DE} {t : DA} {name : Str} {apos cpos : Pos} {T id : String} {r : V → List V → Hp → VK → Prop} {dr : DRB}
theorem q_bm (hM : M.K = X.K) (hs : SimB M r dr) (pa : PlainAttrs T) (slot : Slot T name id) (hty : typeOf (.builtin id) = pure (.type "method_descriptor")) (hm : MtR X id r) (ho : QE M X o d) (ha : QA M X (e :: es) t)
    (hbase : attributeBase o name X.env (eval o X.env) = eval o X.env := by rfl)
    (hfew : ((backTo cpos (starEach (e :: es) X.env)).all (fun x => !x.1) && (backToKw cpos (keywordEach [] X.env)).all (fun x => x.1.isSome)
      && decide ((e :: es).length + ([] : List Keyword).length + (if ([] : List Keyword).isEmpty then 0 else 1) < 30)) = true := by rfl)
    (hline : (apos.endLine == cpos.line) = true := by rfl) (hst : starEach (e :: es) X.env = (false, eval e X.env) :: starEach es X.env := by rfl) (hplain : (backTo cpos (starEach es X.env)).any (·.1) = false := by rfl) :
    QE M X (.Call (.Attribute o name apos) (e :: es) [] cpos) (dBM T dr d t) :=
  PE.imp (pe_bm pa slot hty hm ho ha hbase hfew hline hst hplain) fun σ H Q ⟨io, S, ρ, Qd, r, re, hh, c⟩ => ⟨io, S, ρ, _, r, re, hh, fun i1 H1 S1 v x s1 r1 d1 ⟨ty, h1⟩ => ⟨by rw [← hM]; exact tyB_of r1 d1 ty, i1, S1, ρ, _, r1, re.mono s1, h1,
    fun i2 H2 S2 ds xs s2 r2 d2 h2 => hs i2 H2 S2 x xs v ds Qd Q r2 (d1.mono s2) d2 h2 (c.to (s1.trans s2))⟩⟩
end
section
variable {M : Md}
theorem put_lst {io : Pl} {H : Hp} {S : Sto} (r : RS M io H S) {l : Nat} {ds es : List D} {a : Addr} {ys : List V} (e : S l = some (.lst ds)) (at_ : io[l]? = some (a, a)) (hz : es.length ≤ sizeLine) (h : RDs M.K io H es ys) :
    RS M io (upd H a (.lst ys)) (S.set l (.lst es)) ∧ Stp io H io (upd H a (.lst ys)) :=
  r.put e at_ (fun b h1 _ => upd_ne h1) (fun u hu => by
    have : upd H a (.lst ys) a = some u := hu.elim id id
    rw [upd_same] at this; cases this
    show ys.length ≤ sizeLine
    rw [h.len]; exact hz) fun st => ⟨rfl, ys, upd_same, h.mono st⟩
def mAppend : DRB := fun v ds S Q => ∃ l es w, v = .ref l ∧ ds = [w] ∧ S l = some (.lst es) ∧ es.length < sizeLine ∧ Q .non (S.set l (.lst (es ++ [w])))
theorem sim_append : SimB M rAppend mAppend := fun io H S x xs v ds Qd Q r dv dd ⟨l, es, w, e1, e2, e3, hz, q⟩ c => by
  subst e1 e2
  obtain ⟨a, ys, rfl, at_, h1, rr⟩ := r.lst e3 dv
  obtain ⟨y, rfl, dy⟩ := dd.inj1
  obtain ⟨r2, s2⟩ := put_lst r e3 at_ (es := es ++ [w]) (by simp; omega) (rr.app (RDs.one dy))
  exact ⟨a, ys, y, rfl, rfl, h1, by rw [rr.len]; exact hz, c io _ _ .non .non s2 r2 rfl q⟩
def mExtend : DRB := fun v ds S Q => ∃ l es w zs, v = .ref l ∧ ds = [w] ∧ S l = some (.lst es) ∧ lstR S w = some zs ∧ es.length + zs.length ≤ sizeLine ∧ Q .non (S.set l (.lst (es ++ zs)))
def mPop : DRB := fun v ds S Q => ∃ l es w, v = .ref l ∧ ds = [] ∧ S l = some (.lst es) ∧ es[es.length - 1]? = some w ∧ Q w (S.set l (.lst es.dropLast))
theorem RDs.dropLast {K : PySem.W.Frag} {io : Pl} {H : Hp} {ds : List D} {xs : List V} (h : RDs K io H ds xs) : RDs K io H ds.dropLast xs.dropLast := by
  rw [List.dropLast_eq_take, List.dropLast_eq_take, h.len]
  exact h.take _
def mPopAt : DRB := fun v ds S Q => ∃ l es i k w, v = .ref l ∧ ds = [.int i] ∧ S l = some (.lst es) ∧ ixN es.length i = some k ∧ es[k]? = some w ∧ Q w (S.set l (.lst (es.eraseIdx k)))
theorem sim_popAt : SimB M rPopAt mPopAt := fun io H S x xs v ds Qd Q r dv dd ⟨l, es, i, k, w, e1, e2, e3, e4, e5, q⟩ c => by
  subst e1 e2
  obtain ⟨a, ys, rfl, at_, h1, rr⟩ := r.lst e3 dv
  obtain ⟨y, rfl, dy⟩ := dd.inj1
  have dy : y = .int i := dy
  subst dy
  obtain ⟨z, ez, dz⟩ := rr.get e5
  have hl := lst_len r (v := .ref l) dv (ds := es) (by simp [seqD, e3])
  obtain ⟨r2, s2⟩ := put_lst r e3 at_ (es := es.eraseIdx k) (by have := len_erase es k; omega) (rr.era k)
  obtain ⟨h2, h3, h4, h5⟩ := ixN_seq e4
  have hs : (sizeLine : Nat) = 16777216 := sizeLine_eq
  exact ⟨a, ys, i, k, z, rfl, rfl, h1, by omega, by omega, by rw [rr.len]; exact h2, ez, c io _ _ w z s2 r2 (dz.mono s2) q⟩
def mIndex : DRB := fun v ds S Q => ∃ (p : PyData) (qs : List PyData) (j : Nat) (z : PyData) (w : D), pyR S v = some (.list qs) ∧ ds = [w] ∧ pyR S w = some p ∧ SeqAt.shaped (.list qs) = true ∧ SeqAt.shaped p = true ∧ qs[j]? = some z ∧ PyData.eqv z p = true ∧
  (∀ (m : Nat) (z' : PyData), m < j → qs[m]? = some z' → PyData.eqv z' p = false) ∧ Q (.int (j : Nat)) S
end
section
variable {M : Md}
def bLen : DRA := fun ds S Q => ∃ v, ds = [v] ∧ ((∃ es, seqD S v = some es ∧ Q (.int es.length) S) ∨ (∃ x, v = .str x ∧ x.length ≤ sizeLine ∧ Q (.int x.length) S))
theorem sim_len {K : PySem.W.Frag} (hM : M.K = K) : SimA M (fun xs H Q => ∃ x n, xs = [x] ∧ LenV K x H n ∧ Q (.int n) H) bLen := fun io H S xs ds Qd Q r dd ⟨v, e1, h⟩ c => by
  subst e1
  obtain ⟨y, rfl, dy⟩ := dd.inj1
  rcases h with ⟨es, e, q⟩ | ⟨x, e, hz, q⟩
  · obtain ⟨a, ys, rfl, sq, rr⟩ := seq_of r dy e
    rw [hM] at sq
    refine ⟨_, es.length, rfl, ?_, c.here r (v := .int es.length) rfl q⟩
    rcases sq with sq | sq
    · exact .inl ⟨ys, sq, rr.len.symm⟩
    · exact .inr ⟨ys, sq, rr.len.symm⟩
  · subst e
    have dy : y = .str x := dy
    subst dy
    exact ⟨_, x.length, rfl, ⟨hz, rfl⟩, c.here r (v := .int x.length) rfl q⟩
def bAbs : DRA := fun ds S Q => ∃ i, ds = [.int i] ∧ Q (.int (if i < 0 then -i else i)) S
theorem sim_abs : SimA M (fun xs H Q => ∃ i, xs = [.int i] ∧ Q (.int (if i < 0 then -i else i)) H) bAbs := fun io H S xs ds Qd Q r dd ⟨i, e1, q⟩ c => by
  subst e1
  obtain ⟨y, rfl, dy⟩ := dd.inj1
  have dy : y = .int i := dy
  subst dy
  exact ⟨i, rfl, c.here r (v := .int _) rfl q⟩
def bInt : DRA := fun ds S Q => (∃ i, ds = [.int i] ∧ Q (.int i) S) ∨ ∃ b, ds = [.bl b] ∧ Q (.int (if b then 1 else 0)) S
theorem sim_int : SimA M (fun xs H Q => (∃ i, xs = [.int i] ∧ Q (.int i) H) ∨ ∃ k, xs = [.bl k] ∧ Q (.int (if k then 1 else 0)) H) bInt := fun io H S xs ds Qd Q r dd h c => by
  rcases h with ⟨i, e, q⟩ | ⟨i, e, q⟩
  · subst e
    obtain ⟨y, rfl, dy⟩ := dd.inj1
    have dy : y = .int i := dy
    subst dy
    exact .inl ⟨i, rfl, c.here r (v := .int _) rfl q⟩
  · subst e
    obtain ⟨y, rfl, dy⟩ := dd.inj1
    have dy : y = .bl i := dy
    subst dy
    exact .inr ⟨i, rfl, c.here r (v := .int _) rfl q⟩
def bMin2 : DRA := fun ds S Q => ∃ i j, ds = [.int i, .int j] ∧ Q (.int (if j < i then j else i)) S
def bMax2 : DRA := fun ds S Q => ∃ i j, ds = [.int i, .int j] ∧ Q (.int (if j > i then j else i)) S
theorem sim_min2 : SimA M (fun xs H Q => ∃ i j, xs = [.int i, .int j] ∧ Q (.int (if j < i then j else i)) H) bMin2 := fun io H S xs ds Qd Q r dd ⟨i, j, e1, q⟩ c => by
  subst e1
  obtain ⟨y, z, rfl, dy, dz⟩ := dd.inj2
  have dy : y = .int i := dy
  have dz : z = .int j := dz
  subst dy dz
  exact ⟨i, j, rfl, c.here r (v := .int _) rfl q⟩
theorem RDs.bls : ∀ {io : Pl} {H : Hp} {bs : List Bool} {xs : List V}, RDs M.K io H (bs.map D.bl) xs → xs = bs.map V.bl
  | _, _, [], _, h => h
  | _, _, b :: bs, _, h => by
    obtain ⟨x, r, rfl, h1, h2⟩ := h
    rw [show x = .bl b from h1, RDs.bls h2]; rfl
theorem RDs.strs : ∀ {io : Pl} {H : Hp} {bs : List Str} {xs : List V}, RDs M.K io H (bs.map D.str) xs → xs = bs.map V.str
  | _, _, [], _, h => h
  | _, _, b :: bs, _, h => by
    obtain ⟨x, r, rfl, h1, h2⟩ := h
    rw [show x = .str b from h1, RDs.strs h2]; rfl
theorem RDs.ofStrs {io : Pl} {H : Hp} : ∀ {bs : List Str}, RDs M.K io H (bs.map D.str) (bs.map V.str)
  | [] => RDs.nil
  | b :: bs => RDs.cons rfl RDs.ofStrs
def bAll : DRA := fun ds S Q => ∃ (v : D) (bs : List Bool), ds = [v] ∧ lstD S v = some (bs.map D.bl) ∧ Q (.bl (bs.all id)) S
def bAny : DRA := fun ds S Q => ∃ (v : D) (bs : List Bool), ds = [v] ∧ lstD S v = some (bs.map D.bl) ∧ Q (.bl (bs.any id)) S
theorem sim_all {K : PySem.W.Frag} (hM : M.K = K) : SimA M (rAll K) bAll := fun io H S xs ds Qd Q r dd ⟨v, bs, e1, e2, q⟩ c => by
  subst e1
  obtain ⟨y, rfl, dy⟩ := dd.inj1
  obtain ⟨a, ys, rfl, sq, rr⟩ := lst_of r dy e2
  rw [rr.bls, hM] at sq
  exact ⟨a, bs, rfl, sq, c.here r (v := .bl _) rfl q⟩
def tupOf : D → List D → D
  | .kt ds, _ => .kt ds
  | _, es => .tup es
def bTuple : DRA := fun ds S Q => ∃ v es, ds = [v] ∧ seqD S v = some es ∧ Q (tupOf v es) S
def bList : DRA := fun ds S Q => ∃ v es, ds = [v] ∧ seqD S v = some es ∧ ∀ l, S l = none → Q (.ref l) (S.set l (.lst es))
theorem sim_tuple {K : PySem.W.Frag} (hM : M.K = K) : SimA M (fun xs H Q => ∃ p ys, xs = [.ref p] ∧ ((SqL K H p ys ∧ ∀ l, H l = none → Q (.ref l) (upd H l (.tup ys))) ∨ (SqT K H p ys ∧ Q (.ref p) H))) bTuple :=
  fun io H S xs ds Qd Q r dd ⟨v, es, e1, e2, q⟩ c => by
    subst e1 hM
    obtain ⟨y, rfl, dy⟩ := dd.inj1
    have hl := lst_len r dy e2
    have L : lstD S v = some es → Qd (.tup es) S → ∃ p ys, [y] = [.ref p] ∧ ((SqL M.K H p ys ∧ ∀ l, H l = none → Q (.ref l) (upd H l (.tup ys))) ∨ (SqT M.K H p ys ∧ Q (.ref p) H)) := fun e q => by
      obtain ⟨a, ys, rfl, sq, rr⟩ := lst_of r dy e
      exact ⟨a, ys, rfl, .inl ⟨sq, fun l hp => new_tup r hp hl rr c q⟩⟩
    cases v with
    | kt ds' =>
      cases e2
      obtain ⟨a, o, xs, rfl, s, od, r'⟩ := dy
      exact ⟨a, xs, rfl, .inr ⟨.inl (.inr ⟨o, s⟩), c.here r (v := .kt es) ⟨a, o, xs, rfl, s, od, r'⟩ q⟩⟩
    | tup ds' =>
      cases e2
      obtain ⟨a, xs, rfl, s, r'⟩ := dy
      exact ⟨a, xs, rfl, .inr ⟨SqT.of s, c.here r (v := .tup es) ⟨a, xs, rfl, s, r'⟩ q⟩⟩
    | lst ds' => exact L e2 q
    | kl ds' => exact L e2 q
    | ref l => exact L e2 q
    | _ => cases e2
theorem sim_list {K : PySem.W.Frag} (hM : M.K = K) : SimA M (fun xs H Q => ∃ p ys, xs = [.ref p] ∧ (SqL K H p ys ∨ SqT K H p ys) ∧ ∀ l, H l = none → Q (.ref l) (upd H l (.lst ys))) bList :=
  fun io H S xs ds Qd Q r dd ⟨v, es, e1, e2, q⟩ c => by
    subst e1
    obtain ⟨y, rfl, dy⟩ := dd.inj1
    have hl := lst_len r dy e2
    obtain ⟨a, ys, rfl, sq, rr⟩ := seq_of r dy e2
    rw [hM] at sq
    exact ⟨a, ys, rfl, sq, fun l hp => new_lst r hp hl rr c q⟩
def kD : Key → D
  | .inl i => .int i
  | .inr x => .str x
theorem RDs.keys {io : Pl} {H : Hp} : ∀ {ks : List Key}, RDs M.K io H (ks.map kD) (ks.map kV)
  | [] => RDs.nil
  | .inl i :: ks => RDs.cons rfl RDs.keys
  | .inr i :: ks => RDs.cons rfl RDs.keys
def bListD : DRA := fun ds S Q => ∃ v p, ds = [v] ∧ dicD S v = some p ∧ ∀ l, S l = none → Q (.ref l) (S.set l (.lst (p.1.map kD)))
def bSortS : DRA := fun ds S Q => ∃ (v : D) (xs : List Str), ds = [v] ∧ lstD S v = some (xs.map D.str) ∧ xs.length < 64 ∧ ∀ (ys : List Str) (l : Nat), ys.Perm xs → sortedS ys = true → S l = none → Q (.ref l) (S.set l (.lst (ys.map D.str)))
theorem sim_sortS {K : PySem.W.Frag} (hM : M.K = K) : SimA M (rSortedS K) bSortS := fun io H S xs ds Qd Q r dd ⟨v, zs, e1, e2, hz, q⟩ c => by
  subst e1
  obtain ⟨y, rfl, dy⟩ := dd.inj1
  obtain ⟨a, ys, rfl, sq, rr⟩ := lst_of r dy e2
  rw [rr.strs, hM] at sq
  exact ⟨a, zs, rfl, sq, hz, fun us p hp hs hn => new_lst r hn (by rw [List.length_map, hp.length_eq]; exact small64 hz) RDs.ofStrs c fun l hl => q us l hp hs hl⟩
end
def tyD (S : Sto) : D → Option String
  | .non => some "NoneType"
  | .bl _ => some "bool"
  | .int _ => some "int"
  | .str _ => some "str"
  | .tup _ => some "tuple"
  | .lst _ => some "list"
  | .kl _ => some "list"
  | .kt _ => some "tuple"
  | .dic _ _ => some "dict"
  | .ref l => (match S l with
    | some (.lst _) => some "list"
    | some (.dic _ _) => some "dict"
    | _ => none)
  | .raw _ => none
theorem ty_of {M : Md} {io : Pl} {H : Hp} {S : Sto} (r : RS M io H S) {v : D} {x : V} {T : String} (h : RD M.K io H v x) (e : tyD S v = some T) : TyX M.K H x (.type T) := by
  cases v with
  | non => cases e; rw [show x = .non from h]; exact .base .non
  | bl b => cases e; rw [show x = .bl b from h]; exact .base (.bl b)
  | int b => cases e; rw [show x = .int b from h]; exact .base (.int b)
  | str b => cases e; rw [show x = .str b from h]; exact .base (.str b)
  | tup ds =>
    cases e
    obtain ⟨a, xs, rfl, sq, _⟩ := h
    exact .base (.tup sq)
  | lst ds =>
    cases e
    obtain ⟨a, xs, rfl, ⟨o, sq⟩, _⟩ := h
    exact .base (.frz sq)
  | kl ds =>
    cases e
    obtain ⟨a, xs, rfl, ⟨o, its, n, h1, h2, _⟩, _⟩ := h
    exact .kList h1 h2
  | kt ds =>
    cases e
    obtain ⟨a, o, xs, rfl, sq, _⟩ := h
    exact .fTuple sq
  | dic ks ds =>
    cases e
    obtain ⟨a, o, kvs, rfl, sq, _⟩ := h
    exact .fDict sq
  | ref l =>
    have e' : (match S l with | some (.lst _) => some "list" | some (.dic _ _) => some "dict" | _ => none) = some T := e
    cases q : S l with
    | none => rw [q] at e'; cases e'
    | some o =>
      rw [q] at e'
      cases o with
      | lst ds =>
        cases e'
        obtain ⟨a, xs, rfl, _, h1, _⟩ := r.lst q h
        exact .base (.lst h1)
      | dic ks ds =>
        cases e'
        obtain ⟨a, xs, rfl, _, h1, _⟩ := r.dic q h
        exact .base (.dK h1)
      | _ => cases e'
  | raw w => cases e
def isK (a b : String) : Bool := a == b || (a == "bool" && b == "int")
def kinds : List String := ["NoneType", "bool", "int", "str", "tuple", "list", "dict"]
theorem kit_all : ∀ a ∈ kinds, ∀ b ∈ kinds.tail, kitB a b = some (isK a b) := by decide +kernel
theorem tyD_in {S : Sto} {v : D} {T : String} (e : tyD S v = some T) : T ∈ kinds := by
  cases v with
  | ref l =>
    have e' : (match S l with | some (.lst _) => some "list" | some (.dic _ _) => some "dict" | _ => none) = some T := e
    split at e' <;> cases e' <;> decide
  | raw w => cases e
  | _ => cases e; decide
def dIsi (T : String) (d : DE) : DE := fun ρ S Q => d ρ S fun v S1 => ∃ t, tyD S1 v = some t ∧ Q (.bl (isK t T)) S1
def dIsi2 (T U : String) (d : DE) : DE := fun ρ S Q => d ρ S fun v S1 => ∃ t, tyD S1 v = some t ∧ Q (.bl (isK t T || isK t U)) S1
section
variable {M : Md} {X : Cx} {e : Expr} {d : DE} {p q pos p1 p2 : Pos} {x y : Str} {T U : String}
theorem q_isi (hM : M.K = X.K) (hg : Gl X "isinstance") (hm : X.mg "isinstance" = none) (he : QE M X e d) (hgx : Gl X x) (hmx : X.mg x = none) (hv : bootBuiltins x = some (.type T)) (hT : T ∈ kinds.tail)
    (hn : x ≠ "__name__" := by decide) (hd : (x == ("__debug__" : Str)) = false := by decide)
    (hs : starEach [e, .Name x q] X.env = (false, eval e X.env) :: starEach [.Name x q] X.env := by rfl) (hs2 : starEach [.Name x q] X.env = [(false, eval (.Name x q) X.env)] := by rfl) (hpl : (backTo pos (starEach [.Name x q] X.env)).any (·.1) = false := by rfl) :
    QE M X (.Call (.Name "isinstance" p) [e, .Name x q] [] pos) (dIsi T d) :=
  PE.imp (pe_callB call_isi hg hm (by decide +kernel) (pa_cons he (pa_cons (pe_bltn (v := .ty T) hgx hmx hv rfl hn hd) pa_nil hs2) hs) (by decide) (by decide) hs hpl) fun σ H Q ⟨io, S, ρ, Qd, r, re, h, c⟩ =>
    ⟨io, S, ρ, _, r, re, h, fun i1 H1 S1 v z s1 r1 d1 ⟨t, e1, h1⟩ => ⟨z, .ty T, .type t, .type T, _, rfl, .ty T, by rw [← hM]; exact ty_of r1 d1 e1, kit_ty (kit_all t (tyD_in e1) T hT), c i1 H1 S1 (.bl _) _ s1 r1 rfl h1⟩⟩
theorem q_isi2 {k : Nat} (hM : M.K = X.K) (hg : Gl X "isinstance") (hm : X.mg "isinstance" = none) (he : QE M X e d) (hgx : Gl X x) (hmx : X.mg x = none) (hv : bootBuiltins x = some (.type T)) (hT : T ∈ kinds.tail) (hgy : Gl X y) (hmy : X.mg y = none) (hvy : bootBuiltins y = some (.type U)) (hU : U ∈ kinds.tail)
    (hn : x ≠ "__name__" := by decide) (hd : (x == ("__debug__" : Str)) = false := by decide) (hny : y ≠ "__name__" := by decide) (hdy : (y == ("__debug__" : Str)) = false := by decide)
    (hs : starEach [e, .Tuple [.Name x q, .Name y p1] k p2] X.env = (false, eval e X.env) :: starEach [.Tuple [.Name x q, .Name y p1] k p2] X.env := by rfl)
    (hs2 : starEach [.Tuple [.Name x q, .Name y p1] k p2] X.env = [(false, eval (.Tuple [.Name x q, .Name y p1] k p2) X.env)] := by rfl)
    (hs3 : starEach [.Name x q, .Name y p1] X.env = (false, eval (.Name x q) X.env) :: starEach [.Name y p1] X.env := by rfl) (hs4 : starEach [.Name y p1] X.env = [(false, eval (.Name y p1) X.env)] := by rfl)
    (hpl : (backTo pos (starEach [.Tuple [.Name x q, .Name y p1] k p2] X.env)).any (·.1) = false := by rfl) :
    QE M X (.Call (.Name "isinstance" p) [e, .Tuple [.Name x q, .Name y p1] k p2] [] pos) (dIsi2 T U d) :=
  PE.imp (pe_callB call_isiT hg hm (by decide +kernel) (pa_cons he (pa_cons (pe_tup (pa_cons (pe_bltn (v := .ty T) hgx hmx hv rfl hn hd) (pa_cons (pe_bltn (v := .ty U) hgy hmy hvy rfl hny hdy) pa_nil hs4) hs3)) pa_nil hs2) hs) (by decide) (by decide) hs hpl)
    fun σ H Q ⟨io, S, ρ, Qd, r, re, h, c⟩ =>
    ⟨io, S, ρ, _, r, re, h, fun i1 H1 S1 v z s1 r1 d1 ⟨t, e1, h1⟩ => ⟨(by decide : 2 ≤ sizeLine), fun a ha => by
      obtain ⟨r2, s2⟩ := r1.keepNew (u := .tup [.ty T, .ty U]) ha (by show 2 ≤ sizeLine; decide)
      refine ⟨z, a, [.ty T, .ty U], .type t, [.type T, .type U], isK t T || isK t U, rfl, upd_same, .cons (.ty T) (.cons (.ty U) .nil), by rw [← hM]; exact ty_of r2 (d1.mono s2) e1, ?_, c i1 _ S1 (.bl _) _ (s1.trans s2) r2 rfl h1⟩
      refine kitAny_cons (kit_ty (kit_all t (tyD_in e1) T hT)) (fun hb => ?_) fun hb => by rw [hb]; rfl
      refine kitAny_cons (kit_ty (kit_all t (tyD_in e1) U hU)) (fun hb2 => ?_) fun hb2 => by rw [hb2, Bool.or_true]
      rw [hb, hb2]
      exact kitAny_nil⟩⟩
end
end L3
end
section
set_option Elab.async false
set_option linter.all false
set_option maxRecDepth 100000
set_option maxHeartbeats 2000000
namespace L3
open PySem PySem.Spec PyProof.Rows L2

section
variable {X : Cx} {pins : List (Addr × Obj)} {σ : L2.St} {H : Hp} {s : Shared}
end
def nextW (gs : Gs) (t : Tg) (tt : DT) (te : DE) (ρ : En) (z : D) (Q : DK) : List D → Sto → Prop
  | [], S => gs.ok S ∧ Q z S
  | d :: ds, S => gs.ok S ∧ t.d d ρ fun ρ1 => tt ρ1 S fun b S2 => if b = true then te ρ1 S2 Q else ∃ S3, S3.sub S2 ∧ nextW gs t tt te ρ z Q ds S3
def dNextG (di : DI) (t : Tg) (tt : DT) (te : DE) (vs : List Nat) (z : D) : DE := fun ρ S Q => di ρ S fun ds gs S1 => nextW gs t tt te (wipeD ρ vs) z Q ds S1
section
variable {M : Md} {X : Cx} {elt tg iter de : Expr} {ifs : List Expr} {scope : Scope} {own : List (Str × Nat)} {p pos gpos : Pos} {di : DI} {t : Tg} {tt : DT} {te : DE} {k : Nat} {z : D} {zx : V} {zv : Value} {c P : Addr}
end
end L3
end
section
set_option Elab.async false
set_option linter.all false
set_option maxRecDepth 100000
set_option maxHeartbeats 2000000
namespace L3
open PySem PySem.Spec PyProof.Rows L2

abbrev DG := D → En → Sto → (En → Sto → Prop) → Prop
abbrev DGs := List D → En → Sto → (En → Sto → Prop) → Prop
def liftG (M : Md) (g : DG) : TG := fun x σ H Q => ∃ io S ρ v Qd, RS M io H S ∧ RE M.K io H ρ σ ∧ RD M.K io H v x ∧ g v ρ S Qd ∧ CoS M io H σ Qd Q
def liftGs (M : Md) (g : DGs) : TGs := fun xs σ H Q => ∃ io S ρ vs Qd, RS M io H S ∧ RE M.K io H ρ σ ∧ RDs M.K io H vs xs ∧ g vs ρ S Qd ∧ CoS M io H σ Qd Q
abbrev QG (M : Md) (X : Cx) (e : Expr) (g : DG) : Prop := PG X e (liftG M g)
abbrev QGs (M : Md) (X : Cx) (es : List Expr) (g : DGs) : Prop := PGs X es (liftGs M g)
theorem PG.imp {X : Cx} {e : Expr} {t t' : TG} (h : PG X e t) (k : ∀ x σ H Q, t' x σ H Q → t x σ H Q) : PG X e t' := ⟨fun pins s σ H v u Q I r q => h.run pins s σ H v u Q I r (k v σ H Q q)⟩
theorem PGs.imp {X : Cx} {e : List Expr} {t t' : TGs} (h : PGs X e t) (k : ∀ x σ H Q, t' x σ H Q → t x σ H Q) : PGs X e t' := ⟨fun pins s σ H v u Q I r q => h.run pins s σ H v u Q I r (k v σ H Q q)⟩
def gdName (i : Nat) : DG := fun v ρ S Q => Q (ρ.set i (some v)) S
def gdNil : DGs := fun vs ρ S Q => vs = [] ∧ Q ρ S
def gdCons (g : DG) (t : DGs) : DGs := fun vs ρ S Q => ∃ v r, vs = v :: r ∧ g v ρ S fun ρ1 S1 => t r ρ1 S1 Q
def gdTup (n : Nat) (t : DGs) : DG := fun v ρ S Q => ∃ ds, v = .tup ds ∧ ds.length = n ∧ t ds ρ S Q
def gdSub (d di : DE) : DG := fun v ρ S Q => d ρ S fun o S1 => di ρ S1 fun i S2 => ∃ l es k j, o = .ref l ∧ i = .int k ∧ S2 l = some (.lst es) ∧ ixN es.length k = some j ∧ Q ρ (S2.set l (.lst (es.set j v)))
section
variable {M : Md} {X : Cx} {pos : Pos}
theorem g_name {i : Nat} {x : Str} (hN : X.N.Nodup) (hi : X.N[i]? = some x) (hx : Loc X.env.scope x) (hf : X.fn x = true ∨ X.env.scope.names.lookup x = some .local := by first | exact .inl rfl | exact .inr rfl | assumption) : QG M X (.Name x pos) (gdName i) :=
  PG.imp (pg_name hN hi hx hf) fun x σ H Q ⟨io, S, ρ, v, Qd, r, re, d, h, c⟩ => c io H S _ _ (Stp.refl _ _) r (re.set i d) h
theorem gs_nil : QGs M X [] gdNil := PGs.imp pgs_nil fun xs σ H Q ⟨io, S, ρ, vs, Qd, r, re, d, ⟨e, h⟩, c⟩ => by
  subst e
  exact ⟨d, c io H S ρ σ (Stp.refl _ _) r re h⟩
theorem gs_cons {e : Expr} {es : List Expr} {g : DG} {t : DGs} (h1 : QG M X e g) (h2 : QGs M X es t) (hs : (assignEach (e :: es) X.env).map (·.2) = assign e X.env :: (assignEach es X.env).map (·.2) := by rfl) : QGs M X (e :: es) (gdCons g t) :=
  PGs.imp (pgs_cons h1 h2 hs) fun xs σ H Q ⟨io, S, ρ, vs, Qd, r, re, d, ⟨v, w, e, h⟩, c⟩ => by
    subst e
    obtain ⟨x, ys, rfl, d1, d2⟩ := d
    exact ⟨x, ys, rfl, io, S, ρ, v, _, r, re, d1, h, fun i1 H1 S1 ρ1 σ1 s1 r1 re1 h1 => ⟨i1, S1, ρ1, w, Qd, r1, re1, d2.mono s1, h1, c.to s1⟩⟩
theorem g_tup {es : List Expr} {k n : Nat} {t : DGs} (hM : M.K = X.K) (hc : X.calm = true) (h : QGs M X es t) (hn : (assignEach es X.env).length = n := by rfl) (hst : (assignEach es X.env).findIdx? (·.1) = none := by rfl) : QG M X (.Tuple es k pos) (gdTup n t) :=
  PG.imp (pg_tup hc h hn hst) fun x σ H Q ⟨io, S, ρ, v, Qd, r, re, d, ⟨ds, e, hl, h⟩, c⟩ => by
    subst e
    obtain ⟨a, xs, rfl, sq, rr⟩ := d
    exact ⟨a, xs, rfl, by rw [← hM]; exact (SqT.of sq), by rw [rr.len, hl], io, S, ρ, ds, Qd, r, re, rr, h, c⟩
theorem g_sub {o i : Expr} {d di : DE} (ho : QE M X o d) (hi : QE M X i di)
    (ha : ∀ v, assign (.Subscript o i pos) X.env v = (do
      let ov ← holding [v] (eval o X.env)
      let iv ← holding [v, ov] (eval i X.env)
      standAt pos
      holding [v, ov, iv] (setItem ov iv v)
      release [v, ov, iv] []) := by intro _; rfl) : QG M X (.Subscript o i pos) (gdSub d di) :=
  PG.imp (pg_sub ho hi set_list ha) fun x σ H Q ⟨io, S, ρ, v, Qd, r, re, dv, h, c⟩ => ⟨io, S, ρ, _, r, re, h, fun i1 H1 S1 o x1 s1 r1 d1 h1 => ⟨i1, S1, ρ, _, r1, re.mono s1, h1, fun i2 H2 S2 w x2 s2 r2 d2 ⟨l, es, k, j, e1, e2, e3, e4, h2⟩ => by
    subst e1 e2
    obtain ⟨a, ys, rfl, at_, hy, rr⟩ := r2.lst e3 (d1.mono s2)
    have hz := lst_len r2 (v := .ref l) (d1.mono s2) (ds := es) (by simp [seqD, e3])
    obtain ⟨r3, s3⟩ := put_lst r2 e3 at_ (es := es.set j v) (by rw [List.length_set]; exact hz) (rr.set j (dv.mono (s1.trans s2)))
    exact ⟨a, ys, k, j, rfl, d2, hy, by rw [rr.len]; exact e4, c i2 _ _ ρ σ (s1.trans (s2.trans s3)) r3 (re.mono (s1.trans (s2.trans s3))) h2⟩⟩⟩
def gdSlot (C : Addr) (i : Nat) (d : DE) : DG := fun w ρ S Q => d ρ S fun o S2 => ∃ l vs, o = .ref l ∧ S2 l = some (.slt C vs) ∧ Q ρ (S2.set l (.slt C (putD i w vs)))
def dAsg (d : DE) (g : DG) : DS := fun E ρ S => d ρ S fun v S1 => g v ρ S1 E.nx
theorem s_asg {tg e : Expr} {d : DE} {g : DG} (he : QE M X e d) (hg : QG M X tg g) (hs : swapsWithSole [tg] e pos.line X.env = pure false := by rfl) (hw : swappedStores [tg] e X.env = pure none := by rfl)
    (h1 : (assignEach [tg] X.env).map (·.2) = [assign tg X.env] := by rfl) : QS M X (.Assign [tg] e pos) (dAsg d g) :=
  PS.imp (ps_asg he hg hs hw h1) fun E σ H ⟨io, S, ρ, Ed, r, re, h, c1, _⟩ => ⟨io, S, ρ, _, r, re, h, fun i1 H1 S1 v x s1 r1 d1 h1 => ⟨i1, S1, ρ, v, _, r1, re.mono s1, d1, h1, c1.to s1⟩⟩
def dPar (i j : Nat) (t : DA) : DS := fun E ρ S => t ρ S fun ds S1 => ∃ v w, ds = [v, w] ∧ E.nx ((ρ.set i (some v)).set j (some w)) S1
theorem s_par {i j : Nat} {x y : Str} {a b : Expr} {t : DA} {px py pt : Pos} {kt k2 pt2} (hc : X.calm = true) (hN : X.N.Nodup) (hi : X.N[i]? = some x) (hj : X.N[j]? = some y) (hij : i ≠ j)
    (hx : X.env.scope.names.lookup x = some .local) (hy : X.env.scope.names.lookup y = some .local) (ha : QA M X [a, b] t)
    (hw : swappedStores [.Tuple [.Name x px, .Name y py] kt pt] (.Tuple [a, b] k2 pt2) X.env = pure (some [x, y]))
    (hs : swapsWithSole [.Tuple [.Name x px, .Name y py] kt pt] (.Tuple [a, b] k2 pt2) pos.line X.env = pure false := by rfl) :
    QS M X (.Assign [.Tuple [.Name x px, .Name y py] kt pt] (.Tuple [a, b] k2 pt2) pos) (dPar i j t) :=
  PS.imp (ps_par hc hN hi hj hij hx hy ha hw hs) fun E σ H ⟨io, S, ρ, Ed, r, re, h, c1, _⟩ => ⟨io, S, ρ, _, r, re, h, fun i1 H1 S1 ds xs s1 r1 d1 ⟨v, w, e, h1⟩ => by
    subst e
    obtain ⟨y1, y2, rfl, dy, dz⟩ := d1.inj2
    exact ⟨y1, y2, rfl, c1 i1 H1 S1 _ _ s1 r1 (((re.mono s1).set i dy).set j dz) h1⟩⟩
def dOrT (da db : DE) : DE := fun ρ S Q => da ρ S fun v S1 => ∃ k, truB S1 v k ∧ if k = true then Q v S1 else db ρ S1 Q
theorem q_orT {a b : Expr} {rest : List Expr} {da db : DE} (hM : M.K = X.K) (ha : QE M X a da) (hb : QE M X (.BoolOp .Or (b :: rest) pos) db) : QE M X (.BoolOp .Or (a :: b :: rest) pos) (dOrT da db) :=
  PE.imp (pe_orT ha hb) fun σ H Q ⟨io, S, ρ, Qd, r, re, h, c⟩ => ⟨io, S, ρ, _, r, re, h, fun i1 H1 S1 v x s1 r1 d1 ⟨k, t, q⟩ => ⟨k, by rw [← hM]; exact tru_of r1 d1 t, by
    cases k with
    | true => exact c i1 H1 S1 v x s1 r1 d1 q
    | false => exact ⟨i1, S1, ρ, Qd, r1, re.mono s1, q, c.to s1⟩⟩⟩
end
def dListV (d : DE) : DE := fun ρ S Q => d ρ S fun v S1 => ∃ p, dicD S1 v = some p ∧ ∀ l, S1 l = none → Q (.ref l) (S1.set l (.lst p.2))
end L3
end
section
set_option Elab.async false
set_option linter.all false
set_option maxRecDepth 100000
set_option maxHeartbeats 2000000
namespace L3
open PySem PySem.Spec PyProof.Rows L2

section
variable {M : Md} {X : Cx} {tg e e2 : Expr} {da : DA} {pos p : Pos}
def iZpA (d : DA) : DI := fun ρ S R => d ρ S fun vs S' => ∃ v w ds es, vs = [v, w] ∧ ((lstD S' v = some ds ∧ lstD S' w = some es) ∨ (v = .tup ds ∧ w = .tup es)) ∧ R ((ds.zip es).map fun p => D.tup [p.1, p.2]) (gsOf v (.lst ds) ++ gsOf w (.lst es)) S'
theorem q_zipA {elts : List Expr} {kk : Nat} {tpos : Pos} (hM : M.K = X.K) (hg : Gl X "zip") (hm : X.mg "zip" = none) (ha : QA M X [e, e2] da)
    (hs : starEach [e, e2] X.env = (false, eval e X.env) :: starEach [e2] X.env := by rfl) (hpl : (backTo pos (starEach [e2] X.env)).any (·.1) = false := by rfl) :
    QI M X (.Tuple elts kk tpos) (.Call (.Name "zip" p) [e, e2] [] pos) (iZpA da) :=
  PI.imp (RZ.pi_zipA hg hm ha hs hpl) fun σ H R ⟨io, S, ρ, Rd, r, re, h, c⟩ => ⟨io, S, ρ, _, r, re, h, fun i1 H1 S1 vs xs s1 r1 d1 ⟨v, w, ds, es, e1, e2, q⟩ => by
    subst e1
    obtain ⟨x, y, rfl, hx, hy⟩ := d1.inj2
    rcases e2 with ⟨e2, e3⟩ | ⟨e2, e3⟩
    · obtain ⟨a, ex, src⟩ := lst_src r1 hx e2
      subst ex
      obtain ⟨b, ey, src2⟩ := lst_src r1 hy e3
      subst ey
      obtain ⟨a', xs, ex, hq, _⟩ := lst_of r1 hx e2
      cases ex
      obtain ⟨b', ys, ey, hq2, _⟩ := lst_of r1 hy e3
      cases ey
      have gl : ∀ {S2 : Sto}, Gs.ok (gsOf v (.lst ds) ++ gsOf w (.lst es)) S2 → Gs.ok (gsOf v (.lst ds)) S2 ∧ Gs.ok (gsOf w (.lst es)) S2 := fun g => ⟨fun z hz => g z (List.mem_append_left _ hz), fun z hz => g z (List.mem_append_right _ hz)⟩
      refine ⟨a, b, xs, ys, rfl, .inl ⟨by rw [← hM]; exact hq, by rw [← hM]; exact hq2, c i1 H1 S1 _ _ _ s1 r1 ⟨fun io2 H2 S2 i d st r2 g ed => ?_, fun io2 H2 S2 st r2 g => ?_⟩ q⟩⟩
      · obtain ⟨xs2, h1, h2⟩ := src io2 H2 S2 st r2 (gl g).1
        obtain ⟨ys2, h3, h4⟩ := src2 io2 H2 S2 st r2 (gl g).2
        rw [List.getElem?_map] at ed
        cases ez : (ds.zip es)[i]? with
        | none => rw [ez] at ed; cases ed
        | some p =>
          rw [ez] at ed
          cases ed
          obtain ⟨f1, f2⟩ := List.getElem?_zip_eq_some.mp ez
          obtain ⟨x1, g1, k1⟩ := h2.get f1
          obtain ⟨y1, g2, k2⟩ := h4.get f2
          refine ⟨⟨xs2, ys2, x1, y1, by rw [← hM]; exact h1, by rw [← hM]; exact h3, g1, g2⟩, fun z H3 ⟨T, x', y', e4, hT, e5, hx', hy'⟩ => ?_⟩
          have z1 := hx' xs2 (by rw [← hM]; exact h1)
          have z2 := hy' ys2 (by rw [← hM]; exact h3)
          rw [g1] at z1; cases z1
          rw [g2] at z2; cases z2
          subst e4 e5
          exact pair_new r2 hT k1 k2
      · obtain ⟨xs2, h1, h2⟩ := src io2 H2 S2 st r2 (gl g).1
        obtain ⟨ys2, h3, h4⟩ := src2 io2 H2 S2 st r2 (gl g).2
        refine ⟨xs2, ys2, by rw [← hM]; exact h1, by rw [← hM]; exact h3, ?_⟩
        rw [h2.len, h4.len]
        simp only [List.length_map, List.length_zip]
        omega
    · subst e2 e3
      obtain ⟨a, xs2, ex, src⟩ := tup_src hx.tup_sq
      subst ex
      obtain ⟨b, ys2, ey, src2⟩ := tup_src hy.tup_sq
      subst ey
      have t1 := (src i1 H1 (Stp.refl _ _)).1
      have t2 := (src2 i1 H1 (Stp.refl _ _)).1
      refine ⟨a, b, xs2, ys2, rfl, .inr ⟨by rw [← hM]; exact t1, by rw [← hM]; exact t2, c i1 H1 S1 _ _ _ s1 r1 ⟨fun io2 H2 S2 i d st r2 g ed => ?_, fun io2 H2 S2 st r2 g => ?_⟩ q⟩⟩
      · obtain ⟨h1, h2⟩ := src io2 H2 st
        obtain ⟨h3, h4⟩ := src2 io2 H2 st
        rw [List.getElem?_map] at ed
        cases ez : (ds.zip es)[i]? with
        | none => rw [ez] at ed; cases ed
        | some p =>
          rw [ez] at ed
          cases ed
          obtain ⟨f1, f2⟩ := List.getElem?_zip_eq_some.mp ez
          obtain ⟨x1, g1, k1⟩ := h2.get f1
          obtain ⟨y1, g2, k2⟩ := h4.get f2
          refine ⟨⟨xs2, ys2, x1, y1, by rw [← hM]; exact h1, by rw [← hM]; exact h3, g1, g2⟩, fun z H3 ⟨T, x', y', e4, hT, e5, hx', hy'⟩ => ?_⟩
          have z1 := hx' xs2 (by rw [← hM]; exact h1)
          have z2 := hy' ys2 (by rw [← hM]; exact h3)
          rw [g1] at z1; cases z1
          rw [g2] at z2; cases z2
          subst e4 e5
          exact pair_new r2 hT k1 k2
      · obtain ⟨h1, h2⟩ := src io2 H2 st
        obtain ⟨h3, h4⟩ := src2 io2 H2 st
        refine ⟨xs2, ys2, by rw [← hM]; exact h1, by rw [← hM]; exact h3, ?_⟩
        rw [h2.len, h4.len]
        simp only [List.length_map, List.length_zip]
        omega⟩
end
def pick {α : Type} (is : List Nat) (xs : List α) : List α := is.filterMap fun i => xs[i]?
theorem pick_vals {vs : List V} {us : List Value} (h : Vals vs us) : ∀ is : List Nat, Vals (pick is vs) (pick is us)
  | [] => .nil
  | i :: is => by
    have ih := pick_vals h is
    unfold pick at ih ⊢
    rw [List.filterMap_cons, List.filterMap_cons]
    cases e : vs[i]? with
    | none => rw [h.none_of e]; exact ih
    | some x =>
      obtain ⟨u, e2, r⟩ := h.get e
      rw [e2]
      exact .cons r ih
theorem pick_rds {K : PySem.W.Frag} {io : Pl} {H : Hp} {ds : List D} {xs : List V} (h : RDs K io H ds xs) : ∀ is : List Nat, RDs K io H (pick is ds) (pick is xs)
  | [] => RDs.nil
  | i :: is => by
    have ih := pick_rds h is
    unfold pick at ih ⊢
    rw [List.filterMap_cons, List.filterMap_cons]
    cases e : ds[i]? with
    | none =>
      have : xs[i]? = none := List.getElem?_eq_none (by rw [h.len]; exact List.getElem?_eq_none_iff.mp e)
      rw [this]; exact ih
    | some d =>
      obtain ⟨x, e2, r⟩ := h.get e
      rw [e2]
      exact RDs.cons r ih
abbrev QK (M : Md) (X : Cx) (kws : List Keyword) (d : DA) : Prop := PK X kws (liftA M d)
theorem PK.imp {X : Cx} {es : List Keyword} {t t' : TA} (h : PK X es t) (k : ∀ σ H Q, t' σ H Q → t σ H Q) : PK X es t' := ⟨fun p pins s σ H Q I q => h.run p pins s σ H Q I (k σ H Q q)⟩
def dCallP (n : Nat) (sp : DSp) (Ed : DXK) (is : List Nat) (t : DA) : DE := fun ρ S Q => t ρ S fun ds S1 => ds.length = n ∧ sp (pick is ds) S1 Q Ed
section
variable {M : Md} {X : Cx} {CX : CXT} {k : Nat} {f : Addr} {params : Arguments} {ps ks : List Str} {sp : DSp} {Ed : DXK} {E : XK} {x : Str} {p pos kpos : Pos} {e : Expr} {kws : List Keyword} {d : DE} {t : DA} {is : List Nat} {nm : Option Str}
theorem k_nil : QK M X [] aNil := PK.imp pk_nil fun σ H Q ⟨io, S, ρ, Qd, r, re, h, c⟩ => c io H S [] [] (Stp.refl _ _) r rfl h
theorem k_cons (he : QE M X e d) (hr : QK M X kws t) : QK M X (⟨nm, e, kpos⟩ :: kws) (aCons d t) :=
  PK.imp (pk_cons he hr) fun σ H Q ⟨io, S, ρ, Qd, r, re, h, c⟩ => ⟨io, S, ρ, _, r, re, h, fun i1 H1 S1 v x s1 r1 d1 h1 => ⟨i1, S1, ρ, _, r1, re.mono s1, h1, fun i2 H2 S2 vs xs s2 r2 d2 h2 =>
    c i2 H2 S2 (v :: vs) (x :: xs) (s1.trans s2) r2 (RDs.cons (d1.mono s2) d2) h2⟩⟩
theorem q_callK0 (hK : M.kw = (X.K, some X.w)) (F : FN X.prog X.w X.K X.mg X.base CX M.tabs k f params ps sp) (hr : Room k X.A) (hg : Gl X x) (hm : X.mg x = some (.ref f)) (hx : Passes CX X E) (hE : ExOk M Ed E)
    (hb : ∀ (fx qual : Str) (body : List Stmt) (scope : Scope) (kV doc pm : Value) (an : Option Addr) (cdv ct : Value) (us : List Value), us.length = ks.length → bindArgs (PySem.W.fnOf fx qual params body scope .none kV doc pm an cdv ct) ⟨[], ks.zip us⟩ = pure (ps.zip (pick is us)))
    (ha : QK M X kws t) (hall : (backToKw pos (keywordEach kws X.env)).all (·.1.isSome) = true := by rfl) (hks : (backToKw pos (keywordEach kws X.env)).filterMap (·.1) = ks := by rfl) (hdb : (x == ("__debug__" : Str)) = false := by decide)
    (hpl : ((backTo pos (starEach [] X.env)).any (·.1) || (backToKw pos (keywordEach kws X.env)).any (·.1.isNone)) = false := by rfl) :
    QE M X (.Call (.Name x p) [] kws pos) (dCallP ks.length sp Ed is t) := by
  obtain ⟨fd, a, b, kp, fx, qual, body, scope, kV, doc, pm, an, cdv, ct, rfl⟩ := F.ex
  have kb : KBn X.K (PySem.W.fnOf fx qual params body scope .none kV doc pm an cdv ct) ps 0 ks (fun _ ws => pick is ws) (fun _ zs => pick is zs) :=
    ⟨fun s us ws _ h1 h2 => by
      have e : us = [] := List.eq_nil_of_length_eq_zero h1
      subst e
      exact .of_eq (hb _ _ _ _ _ _ _ _ _ _ ws h2), fun _ r => pick_vals r is⟩
  refine ⟨fun pins s σ H Q I ⟨io, S, ρ, Qd, r, re, h, c⟩ => ?_⟩
  refine wpAny_Call_Name_kw (ld_glob I hg hm ?_ hdb)
  refine PySem.W.callWith_KW0 (h₀ := X.base) I.ok.mod.kin kp hall ?_ hpl
  refine thn (ha.run pos pins s σ H (fun zs H1 => zs.length = ks.length ∧ liftSp X.K M.tabs (some X.w) sp (pick is zs) H1 Q E) I ⟨io, S, ρ, _, r, re, h, fun i1 H1 S1 ds xs s1 r1 d1 ⟨hl, h1⟩ => ⟨by rw [d1.len]; exact hl, by
      rw [← kw_k hK, ← kw_w hK]
      exact call_sim r1 (pick_rds d1 is) h1 (c.to s1) hE⟩⟩) fun ws s2 ⟨zs, H2, I2, rz, l2, q2⟩ => ⟨I2.kIn, ?_⟩
  rw [hks]
  exact run_fnN a hr kb hx I2 .nil rz rfl l2 q2
end
def putKs (ks : List Key) (k : Key) : List Key := if (ks.any fun x => decide (x = k)) = true then ks else ks ++ [k]
def putDs (ks : List Key) (es : List D) (k : Key) (z : D) : List D := if (ks.any fun x => decide (x = k)) = true then (ks.zip es).map fun p => if p.1 = k then z else p.2 else es ++ [z]
theorem kD_V {K : PySem.W.Frag} {io : Pl} {H : Hp} {k : Key} {x : V} (h : RD K io H (kD k) x) : x = kV k := by
  cases k with
  | inl i => exact h
  | inr i => exact h
def dicW (gs : Gs) (t : Tg) (tt : DT) (tk tv : DE) (ρ : En) (Q : List Key → List D → Sto → Prop) : List D → List Key → List D → Sto → Prop
  | [], ks, es, S => gs.ok S ∧ Q ks es S
  | d :: ds, ks, es, S => gs.ok S ∧ ks.length < sizeLine ∧ ∀ l o, S l = none → t.d d ρ fun ρ1 => tt ρ1 (S.set l o) fun b S2 =>
      if b = true then tk ρ1 S2 fun y S3 => tv ρ1 S3 fun z S4 => ∃ k, y = kD k ∧ S4 l = some o ∧ ∃ S5, S5.sub (S4.del l) ∧ dicW gs t tt tk tv ρ Q ds (putKs ks k) (putDs ks es k z) S5
      else S2 l = some o ∧ ∃ S4, S4.sub (S2.del l) ∧ dicW gs t tt tk tv ρ Q ds ks es S4
def dDc (di : DI) (t : Tg) (tt : DT) (tk tv : DE) (vs : List Nat) : DE := fun ρ S Q => di ρ S fun ds gs S1 => dicW gs t tt tk tv (wipeD ρ vs) (fun ks es S2 => ∀ l, S2 l = none → Q (.ref l) (S2.set l (.dic ks es))) ds [] [] S1
section
variable {M : Md} {di : DI} {t : Tg} {tt : DT} {tk tv : DE} {vs : List Nat} {K : PySem.W.Frag}
end
section
variable {M : Md} {X : Cx} {kx vx tg iter : Expr} {ifs : List Expr} {scope : Scope} {own : List (Str × Nat)} {pos : Pos} {di : DI} {t : Tg} {tt : DT} {tk tv : DE}
end
def comp2W (gs : Gs) (t : Tg) (tt : DT) (di1 : DI) (t1 : Tg) (tt1 : DT) (te : DE) (vs1 : List Nat) (ρ : En) (Q : List D → Sto → Prop) : List D → List D → Sto → Prop
  | [], acc, S => gs.ok S ∧ Q acc S
  | d :: ds, acc, S => gs.ok S ∧ ∀ l o, S l = none → t.d d ρ fun ρ1 => tt ρ1 (S.set l o) fun b S2 =>
      if b = true then di1 ρ1 S2 fun ds1 gs1 S3 => S3 l = some o ∧ ∃ S4, S4.sub (S3.del l) ∧ compW gs1 t1 tt1 te (wipeD ρ1 vs1) (fun acc' S5 => ∃ S6, S6.sub S5 ∧ comp2W gs t tt di1 t1 tt1 te vs1 ρ Q ds acc' S6) ds1 acc S4
      else S2 l = some o ∧ ∃ S4, S4.sub (S2.del l) ∧ comp2W gs t tt di1 t1 tt1 te vs1 ρ Q ds acc S4
def dLc2 (di : DI) (t : Tg) (tt : DT) (di1 : DI) (t1 : Tg) (tt1 : DT) (te : DE) (vs vs1 : List Nat) : DE := fun ρ S Q => di ρ S fun ds gs S1 =>
  comp2W gs t tt di1 t1 tt1 te vs1 (wipeD ρ vs) (fun acc S2 => ∀ l, S2 l = none → Q (.ref l) (S2.set l (.lst acc))) ds [] S1
section
variable {M : Md} {di di1 : DI} {t t1 : Tg} {tt tt1 : DT} {te : DE} {vs vs1 : List Nat} {K : PySem.W.Frag}
end
section
variable {M : Md} {X : Cx} {elt tg iter tg1 iter1 : Expr} {ifs ifs1 : List Expr} {scope : Scope} {own : List (Str × Nat)} {vs1 : List Nat} {pos : Pos} {di di1 : DI} {t t1 : Tg} {tt tt1 : DT} {te : DE}
end
end L3
end
section
set_option Elab.async false
set_option linter.all false
set_option maxRecDepth 100000
set_option maxHeartbeats 2000000
namespace L3
open PySem PySem.Spec PyProof.Rows L2

section
variable {M : Md} {X : Cx} {pos : Pos}
theorem qv (i : Nat) {x : Str} (hN : X.N[i]? = some x := by rfl) (hv : Vis X.env.scope x := by first | exact Or.inl rfl | exact Or.inr (Or.inl rfl) | exact Or.inr (Or.inr rfl)) (hd : (x == ("__debug__" : Str)) = false := by decide)
    (hcd : (x == ("__classdict__" : Str)) = false := by decide) : QE M X (.Name x pos) (dVar i) := q_var hN hv hd hcd
theorem QE.imp {e : Expr} {d d' : DE} (h : QE M X e d) (k : ∀ ρ S Q, d' ρ S Q → d ρ S Q) : QE M X e d' :=
  PE.imp h fun σ H Q ⟨io, S, ρ, Qd, r, re, hd, c⟩ => ⟨io, S, ρ, Qd, r, re, k ρ S Qd hd, c⟩
theorem QS.imp {e : Stmt} {d d' : DS} (h : QS M X e d) (k : ∀ E ρ S, d' E ρ S → d E ρ S) : QS M X e d' :=
  PS.imp h fun E σ H ⟨io, S, ρ, Ed, r, re, hd, c⟩ => ⟨io, S, ρ, Ed, r, re, k Ed ρ S hd, c⟩
end
theorem frz_lst {S : Sto} {ds : List D} {Q : DK} (q : Q (.lst ds) S) : ∀ l, S l = none → ∃ l' o w, D.ref l = .ref l' ∧ (S.set l (.lst ds)) l' = some o ∧ frzO o = some w ∧ Q w ((S.set l (.lst ds)).del l') := fun l hl =>
  ⟨l, _, _, rfl, Sto.set_same, rfl, by rw [Sto.del_set hl]; exact q⟩
def turn (t : Tg) (tt : DT) (te : DE) (ρ : En) (d : D) (S' : Sto) (Py : DK) (Pn : Sto → Prop) : Prop := t.d d ρ fun ρ1 => tt ρ1 S' fun b S2 => if b = true then te ρ1 S2 Py else Pn S2
theorem compW_by {gs : Gs} {t : Tg} {tt : DT} {te : DE} {ρ : En} {Q : List D → Sto → Prop} {S : Sto} (f : D → Option D) : ∀ (ds acc : List D), gs.ok S → acc.length + ds.length ≤ sizeLine →
    (∀ d ∈ ds, ∀ (S' : Sto) (Py : DK) (Pn : Sto → Prop), S.sub S' → (∀ v, f d = some v → Py v S') → (f d = none → Pn S') → turn t tt te ρ d S' Py Pn) → Q (acc ++ ds.filterMap f) S → compW gs t tt te ρ Q ds acc S
  | [], acc, g, _, _, q => ⟨g, by simpa using q⟩
  | d :: ds, acc, g, hz, h, q => by
    refine ⟨g, by simp at hz; omega, fun l o hl => ?_⟩
    have ih := fun acc' (hz' : acc'.length + ds.length ≤ sizeLine) (q' : Q (acc' ++ ds.filterMap f) S) => compW_by f ds acc' g hz' (fun d' hd => h d' (List.mem_cons_of_mem _ hd)) q'
    refine h d List.mem_cons_self (S.set l o) _ _ (Sto.sub_set hl) (fun v e => ⟨Sto.set_same, S, ?_, ih (acc ++ [v]) (by simp at hz ⊢; omega) ?_⟩) fun e => ⟨Sto.set_same, S, ?_, ih acc (by simp at hz ⊢; omega) ?_⟩
    · rw [Sto.del_set hl]; exact Sto.sub_refl _
    · rw [List.filterMap_cons, e] at q
      simpa using q
    · rw [Sto.del_set hl]; exact Sto.sub_refl _
    · rw [List.filterMap_cons, e] at q
      exact q
section
variable {P : Program} {w : World} {K : PySem.W.Frag} {mg : Str → Option Value} {base : Heap} {x qual : Str} {params : Arguments} {body : List Stmt} {scope : Scope} {p : He.Defn} {fd : FuncData} {N ps : List Str} {k : Nat} {sp : DSp} {tabs : List (Addr × Str)}
theorem fn_ok0 (F : FunD K x qual params body scope [] [] (He.fAd K p) fd) (S : FnScope N ps scope) (len : ∀ ds S Q E, sp ds S Q E → ds.length = ps.length)
    (hbody : ∀ (A : Around) (outer : List Env) (s : Shared) (H : Hp) (E : XK) (io : Pl), Room k (A.deeper (envOfC qual scope s.heap.objs.size (He.fAd K p) (.ref (He.codeOf K p)))) →
      ∃ d : DS, QSs ⟨K, tabs, io, H, some w⟩ (cxOf C8.CX0 P w K mg base N qual scope (He.fAd K p) (.ref (He.codeOf K p)) A outer s H E).nox body d ∧ ∀ ds S Q Ed, sp ds S Q Ed → d (EndsD Q) (startD N ds) S) : FnOk P w K mg base C8.CX0 (k + 1) (He.fAd K p) fd ps (liftSp K tabs (some w) sp) := by
  obtain ⟨oc, od, dV, kV, doc, pm, an, cdv, ct, osl, rfl, lk, hcd, hD, hK⟩ := F.ex
  obtain ⟨c, rfl⟩ := He.codeIn_ref hcd
  have ec : He.codeOf K p = c := He.codeOf_eq lk rfl
  subst ec
  refine fn_of lk hcd S (fun vs H Q E ⟨io, S, ds, Qd, Ed, r, d, h, c, x⟩ => d.len.trans (len _ _ _ _ h)) fun A outer s H vs Q E hr ⟨io, S, ds, Qd, Ed, r, d, h, c, x⟩ => ?_
  obtain ⟨dd, q, v⟩ := hbody A outer s H E io hr
  exact ⟨_, q.nox, body_sim r d c (v ds S Qd Ed h)⟩
theorem fn_def0 (F : FunD K x qual params body scope [] [] (He.fAd K p) fd) (S : FnScope N ps scope)
    (hb : ∀ (kV doc pm : Value) (an : Option Addr) (cdv ct : Value) (us : List Value), us.length = ps.length → bindArgs (PySem.W.fnOf x qual params body scope .none kV doc pm an cdv ct) ⟨us, []⟩ = pure (ps.zip us)) (len : ∀ ds S Q E, sp ds S Q E → ds.length = ps.length)
    (hbody : ∀ (A : Around) (outer : List Env) (s : Shared) (H : Hp) (E : XK) (io : Pl), Room k (A.deeper (envOfC qual scope s.heap.objs.size (He.fAd K p) (.ref (He.codeOf K p)))) →
      ∃ d : DS, QSs ⟨K, tabs, io, H, some w⟩ (cxOf C8.CX0 P w K mg base N qual scope (He.fAd K p) (.ref (He.codeOf K p)) A outer s H E).nox body d ∧ ∀ ds S Q Ed, sp ds S Q Ed → d (EndsD Q) (startD N ds) S) : FN P w K mg base C8.CX0 tabs (k + 1) (He.fAd K p) params ps sp :=
  ⟨fd, fn_ok0 F S len hbody, F.bindsN hb, F.kp, funD_fn F⟩
end
theorem szo_of {P : Program} {w : World} {H : Hp} {h : Heap} {a : Addr} : ∀ {u : HO}, ObjOk P w H h a u → SzO u
  | .lst xs, o => o.1
  | .tup xs, o => o.1
  | .dK kvs, o => o.1
  | .frz ob u, o => szo_of (u := u) o.2
  | .dT _, _ => trivial
  | .set _ _, _ => trivial
  | .ins _ _ _, _ => trivial
  | .own _, _ => trivial
  | .xd _, _ => trivial
  | .rng _ _, _ => trivial
  | .tbl _, _ => trivial
  | .met _ _, _ => trivial
  | .ext _, _ => trivial
def oSubI : DR2 := oI0 fun i j => .int (i - j)
def oModI : DR2 := oI (fun _ j => 0 < j) fun i j => .int (i % j)
def oDivI : DR2 := oI CDiv fun i j => .int (i / j)
def oPowI : DR2 := oI CPow fun i j => .int (i ^ j.toNat)
def oLtI : DR2 := oI0 fun i j => .bl (decide (i < j))
def oLeI : DR2 := oI0 fun i j => .bl (decide (i ≤ j))
def oGtI : DR2 := oI0 fun i j => .bl (decide (j < i))
def oGeI : DR2 := oI0 fun i j => .bl (decide (j ≤ i))
theorem units65 {k : Nat} {A : Around} (h : Room k A) : A.units + 65 < cLine := by have := h.un; omega
section
variable {M : Md} {X : Cx} {pos pos' : Pos} {x : Str} {e : Expr} {d : DE}
theorem sset (i : Nat) (hN : X.N.Nodup) (he : QE M X e d) (hi : X.N[i]? = some x := by rfl) (hx : Loc X.env.scope x := by first | exact Or.inl rfl | exact Or.inr rfl) (hs : swapsWith e (some (.Name x pos')) pos.line X.env = pure false := by rfl)
    (hf : X.fn x = true ∨ X.env.scope.names.lookup x = some .local := by first | exact .inl rfl | exact .inr rfl) : QS M X (.Assign [.Name x pos'] e pos) (dSet i d) := s_set hN hi hx he hs hf
theorem gnm (i : Nat) (hN : X.N.Nodup) (hi : X.N[i]? = some x := by rfl) (hx : Loc X.env.scope x := by first | exact Or.inl rfl | exact Or.inr rfl)
    (hf : X.fn x = true ∨ X.env.scope.names.lookup x = some .local := by first | exact .inl rfl | exact .inr rfl) : PG X (.Name x pos) (gName i) := pg_name hN hi hx hf
theorem gdnm (i : Nat) (hN : X.N.Nodup) (hi : X.N[i]? = some x := by rfl) (hx : Loc X.env.scope x := by first | exact Or.inl rfl | exact Or.inr rfl)
    (hf : X.fn x = true ∨ X.env.scope.names.lookup x = some .local := by first | exact .inl rfl | exact .inr rfl) : QG M X (.Name x pos) (gdName i) := g_name hN hi hx hf
theorem ss_never {st : List Stmt} : QSs M X st (fun _ _ _ => False) := PSs.imp pss_never fun E σ H ⟨io, S, ρ, Ed, r, re, h, _⟩ => h
theorem s_frzN {st : Stmt} (i : Nat) (h : QS M X st (dSet i d)) (hi : X.N[i]? = some x := by rfl) : QS M X st (dSet i (dFrz d)) := by
  refine ⟨fun pins s σ H E I ⟨io, S, ρ, Ed, r, re, hd, c1, c2, c3, c4⟩ => ?_⟩
  have hl : i < ρ.length := by
    rw [re.1, I.len]
    exact (List.getElem?_eq_some_iff.mp hi).1
  have at_ : ∀ v : D, (ρ.set i (some v))[i]? = some (some v) := fun v => List.getElem?_set_self hl
  let W : En → Sto → Prop := fun ρ' S1 => ∀ v, ρ'[i]? = some (some v) → ∃ l o w, v = .ref l ∧ S1 l = some o ∧ frzO o = some w ∧ Ed.nx (ρ'.set i (some w)) (S1.del l)
  have eW : (fun (v : D) (S' : Sto) => W (ρ.set i (some v)) S') = fun v S' => ∃ l o w, v = .ref l ∧ S' l = some o ∧ frzO o = some w ∧ Ed.nx (ρ.set i (some w)) (S'.del l) := by
    funext v S'
    refine propext ⟨fun h => ?_, fun ⟨l, o, w, h1, h2, h3, h4⟩ v' e => ?_⟩
    · obtain ⟨l, o, w, h1, h2, h3, h4⟩ := h v (at_ v)
      rw [List.set_set] at h4
      exact ⟨l, o, w, h1, h2, h3, h4⟩
    · rw [at_ v] at e; cases e
      exact ⟨l, o, w, h1, h2, h3, by rw [List.set_set]; exact h4⟩
  have run := h.run pins s σ H { nx := fun σ' H' => ∃ i1 S1 ρ1, Stp io H i1 H' ∧ RS M i1 H' S1 ∧ RE M.K i1 H' ρ1 σ' ∧ W ρ1 S1 ∧ ∃ v, ρ1[i]? = some (some v), rt := fun _ _ => False } I
    ⟨io, S, ρ, { nx := fun ρ' S1 => W ρ' S1 ∧ ∃ v, ρ'[i]? = some (some v), rt := fun _ _ => False }, r, re, ?_, fun i1 H1 S1 ρ1 σ1 s1 r1 re1 q => ⟨i1, S1, ρ1, s1, r1, re1, q.1, q.2⟩, fun _ _ _ _ _ _ _ _ h => h.elim, fun _ _ _ _ _ _ _ _ h => h.elim, fun _ _ _ _ _ _ _ _ h => h.elim⟩
  · refine thn run fun fl s' hs => ?_
    cases fl with
    | next =>
      obtain ⟨σ', H', I', i1, S1, ρ1, st1, r1, re1, hW, v, ev⟩ := hs
      obtain ⟨l, o, w, e0, el, hw, q⟩ := hW v ev
      subst e0
      obtain ⟨p, e1, h1⟩ := r1.ob l o el
      obtain ⟨⟨u1, a1, b1, c1', d1'⟩, _⟩ := h1.there
      have h4 : ∀ y, u1 ≠ .own y := by
        cases o with
        | lst ds => obtain ⟨_, xs, h2, _⟩ := h1; rw [a1] at h2; cases h2; simp
        | dic ks ds => obtain ⟨_, xs, h2, _⟩ := h1; rw [a1] at h2; cases h2; simp
        | _ => cases hw
      obtain ⟨ob, I2⟩ := inv_freeze I' a1 b1 c1' d1' h4
      obtain ⟨r2, s2, d2⟩ := r1.freeze (ob := ob) el e1 a1 hw
      refine ⟨σ', _, I2, c1 i1 _ _ _ σ' (st1.trans s2) r2 ?_ q⟩
      have re3 := re1.mono s2
      refine ⟨by simpa using re3.1, fun j dj ej => ?_⟩
      by_cases hj : j = i
      · subst hj
        have hl1 : j < ρ1.length := (List.getElem?_eq_some_iff.mp ev).1
        rw [List.getElem?_set_self hl1] at ej
        cases ej
        obtain ⟨y, ey, dy⟩ := re3.2 j (.ref l) ev
        obtain ⟨p', ep, ey'⟩ := dy
        rw [e1] at ep; cases ep
        exact ⟨y, ey, by rw [ey']; exact d2⟩
      · rw [List.getElem?_set_ne (Ne.symm hj)] at ej
        exact re3.2 j dj ej
    | brk => obtain ⟨_, _, _, q⟩ := hs; exact q.elim
    | cont => obtain ⟨_, _, _, q⟩ := hs; exact q.elim
    | ret u => obtain ⟨_, _, _, _, _, q⟩ := hs; exact q.elim
  · have eN : (fun (v : D) (S' : Sto) => W (ρ.set i (some v)) S' ∧ ∃ u, (ρ.set i (some v))[i]? = some (some u)) = fun v S' => ∃ l o w, v = .ref l ∧ S' l = some o ∧ frzO o = some w ∧ Ed.nx (ρ.set i (some w)) (S'.del l) := by
      rw [← eW]
      funext v S'
      exact propext ⟨fun h => h.1, fun h => ⟨h, v, at_ v⟩⟩
    show d ρ S (fun (v : D) (S' : Sto) => W (ρ.set i (some v)) S' ∧ ∃ u, (ρ.set i (some v))[i]? = some (some u))
    rw [eN]
    exact hd
end
structure GFx (fa : List He.Fa) (fn : List He.DefD) (tf : List He.Defn) (exs : PySem.W.Frag → List Bool) (w : World) (K : PySem.W.Frag) (mg : Str → Option Value) (base : Heap) : Prop where
  h : ∃ h : Heap, K.In h ∧ h.Ns mainGlobals mg
  d : He.SaysD fa fn K
  e : (exs K).all id = true
  t : ∀ p ∈ tf, GxR.TabB base mg (He.cT K p).1 (He.cT K p).2
section
variable {fa : List He.Fa} {fn : List He.DefD} {tf : List He.Defn} {exs : PySem.W.Frag → List Bool} {w : World} {K : PySem.W.Frag} {mg : Str → Option Value} {base : Heap} (G : GFx fa fn tf exs w K mg base)
include G
theorem GFx.glo (i : Nat) {x : Str} (h : fa[i]? = some (.glo x) := by rfl) : mg x = some (.ref (He.ga K x)) := let ⟨_, X, N⟩ := G.h; He.glo_ok X N (G.d.fact i h)
theorem GFx.free (i : Nat) {x : Str} (h : fa[i]? = some (.free x) := by rfl) : mg x = none := let ⟨_, X, N⟩ := G.h; He.free_ok X N (G.d.fact i h)
theorem GFx.str (i : Nat) {x z : Str} (h : fa[i]? = some (.str x z) := by rfl) : ∃ t, mg x = some (.str z t) := let ⟨_, X, N⟩ := G.h; He.str_ok X N (G.d.fact i h)
theorem GFx.int (i : Nat) {x : Str} {z : Int} (h : fa[i]? = some (.int x z) := by rfl) : ∃ t, mg x = some (.int z t) := let ⟨_, X, N⟩ := G.h; He.int_ok X N (G.d.fact i h)
theorem GFx.ex (i : Nat) {b : Bool} (h : (exs K)[i]? = some b := by rfl) : b = true := List.all_eq_true.mp G.e b (List.mem_of_getElem? h)
theorem GFx.tb (i : Nat) {p : He.Defn} (h : tf[i]? = some p := by rfl) : GxR.TabB base mg (He.codeOf K p) (He.tabOf K (He.codeOf K p)) := G.t p (List.mem_of_getElem? h)
theorem GFx.def_ (i : Nat) {d : He.DefD} (h : fn[i]? = some d := by rfl) : ∃ fd, FunD K d.name d.qual d.params d.body d.scope (d.dvs K) (d.kws K) (He.fAd K d.at_) fd := G.d.def_ i h
end
end L3
end
section
set_option Elab.async false
set_option linter.all false
set_option maxRecDepth 100000
set_option maxHeartbeats 2000000
namespace L3
open PySem PySem.Spec PyProof.Rows L2
section
variable {M : Md} {X : Cx} {e tg : Expr} {es : List Expr}
def mcE (d : DE) : DE := fun ρ S Q => ∃ Q0 : DK, d ρ S Q0 ∧ ∀ v S1, Q0 v S1 → Q v S1
def mcT (d : DT) : DT := fun ρ S Q => ∃ Q0 : Bool → Sto → Prop, d ρ S Q0 ∧ ∀ v S1, Q0 v S1 → Q v S1
def mcA (d : DA) : DA := fun ρ S Q => ∃ Q0 : List D → Sto → Prop, d ρ S Q0 ∧ ∀ v S1, Q0 v S1 → Q v S1
def mcI (d : DI) : DI := fun ρ S Q => ∃ Q0 : List D → Gs → Sto → Prop, d ρ S Q0 ∧ ∀ ds gs S1, Q0 ds gs S1 → Q ds gs S1
def mcO (d : DO) : DO := fun ρ S Q => ∃ Q0 : Option Int → Sto → Prop, d ρ S Q0 ∧ ∀ v S1, Q0 v S1 → Q v S1
theorem QE.mc {d : DE} (h : QE M X e d) : QE M X e (mcE d) := PE.imp h fun σ H Q ⟨io, S, ρ, Qd, r, re, ⟨Q0, hd, k⟩, c⟩ => ⟨io, S, ρ, Q0, r, re, hd, fun i1 H1 S1 v x s1 r1 d1 q => c i1 H1 S1 v x s1 r1 d1 (k _ _ q)⟩
theorem QT.mc {d : DT} (h : QT M X e d) : QT M X e (mcT d) := PT.imp h fun σ H Q ⟨io, S, ρ, Qd, r, re, ⟨Q0, hd, k⟩, c⟩ => ⟨io, S, ρ, Q0, r, re, hd, fun i1 H1 S1 v s1 r1 q => c i1 H1 S1 v s1 r1 (k _ _ q)⟩
theorem QA.mc {d : DA} (h : QA M X es d) : QA M X es (mcA d) := PA.imp h fun σ H Q ⟨io, S, ρ, Qd, r, re, ⟨Q0, hd, k⟩, c⟩ => ⟨io, S, ρ, Q0, r, re, hd, fun i1 H1 S1 v x s1 r1 d1 q => c i1 H1 S1 v x s1 r1 d1 (k _ _ q)⟩
theorem QI.mc {d : DI} (h : QI M X tg e d) : QI M X tg e (mcI d) := PI.imp h fun σ H Q ⟨io, S, ρ, Qd, r, re, ⟨Q0, hd, k⟩, c⟩ => ⟨io, S, ρ, Q0, r, re, hd, fun i1 H1 S1 J ds gs s1 r1 d1 q => c i1 H1 S1 J ds gs s1 r1 d1 (k _ _ _ q)⟩
theorem QO.mc {o : Option Expr} {d : DO} (h : QO M X o d) : QO M X o (mcO d) := PO.imp h fun σ H Q ⟨io, S, ρ, Qd, r, re, ⟨Q0, hd, k⟩, c⟩ => ⟨io, S, ρ, Q0, r, re, hd, fun i1 H1 S1 v s1 r1 q => c i1 H1 S1 v s1 r1 (k _ _ q)⟩
theorem QTs.mc {ifs : List Expr} {d : DT} (h : QTs M X ifs d) : QTs M X ifs (mcT d) := ⟨fun pins s σ H Q I ⟨io, S, ρ, Qd, r, re, ⟨Q0, hd, k⟩, c⟩ => h.run pins s σ H Q I ⟨io, S, ρ, Q0, r, re, hd, fun i1 H1 S1 v s1 r1 q => c i1 H1 S1 v s1 r1 (k _ _ q)⟩⟩
end
abbrev fz (Q : DK) : DK := fun v S' => ∃ l o w, v = .ref l ∧ S' l = some o ∧ frzO o = some w ∧ Q w (S'.del l)
section
variable {M : Md} {X : Cx} {e : Expr} {es : List Expr} {pos : Pos}
def dLstF (t : DA) : DE := fun ρ S Q => t ρ S fun ds S1 => ds.length ≤ sizeLine ∧ Q (.lst ds) S1
theorem q_lstF {t : DA} (h : QA M X es t) : QE M X (.List es pos) (dLstF t) :=
  QE.imp (q_frz (q_lst h.mc)) fun ρ S Q hd => ⟨_, hd, fun ds S1 ⟨z, q⟩ => ⟨z, frz_lst q⟩⟩
theorem q_fzB {dr drF : DRA} {t : DA} (hF : ∀ ds S Q, drF ds S Q → dr ds S (fz Q)) (h : QE M X e (dCB dr (mcA t))) : QE M X e (dCB drF t) :=
  QE.imp (q_frz h) fun ρ S Q hd => ⟨_, hd, fun ds S1 q => hF ds S1 Q q⟩
def bListF : DRA := fun ds S Q => ∃ v es, ds = [v] ∧ seqD S v = some es ∧ Q (.lst es) S
theorem fz_list : ∀ ds S Q, bListF ds S Q → bList ds S (fz Q) := fun ds S Q ⟨v, es, h1, h2, q⟩ => ⟨v, es, h1, h2, frz_lst q⟩
def bListDF : DRA := fun ds S Q => ∃ v p, ds = [v] ∧ dicD S v = some p ∧ Q (.lst (p.1.map kD)) S
def bSortSF : DRA := fun ds S Q => ∃ (v : D) (xs : List Str), ds = [v] ∧ lstD S v = some (xs.map D.str) ∧ xs.length < 64 ∧ ∀ ys : List Str, ys.Perm xs → sortedS ys = true → Q (.lst (ys.map D.str)) S
theorem q_fzO {dr drF : DR2} {da db : DE} (hF : ∀ v w S Q, drF v w S Q → dr v w S (fz Q)) (h : QE M X e (dOp dr (mcE da) (mcE db))) : QE M X e (dOp drF da db) :=
  QE.imp (q_frz h) fun ρ S Q hd => ⟨_, hd, fun v S1 h1 => ⟨_, h1, fun w S2 q => hF v w S2 Q q⟩⟩
def oAddLF : DR2 := fun v w S Q => ∃ ds es, lstR S v = some ds ∧ lstR S w = some es ∧ ds.length + es.length ≤ sizeLine ∧ Q (.lst (ds ++ es)) S
theorem fz_addL : ∀ v w S Q, oAddLF v w S Q → oAddL v w S (fz Q) := fun v w S Q ⟨ds, es, h1, h2, h3, q⟩ => ⟨ds, es, h1, h2, h3, frz_lst q⟩
def oRepLF : DR2 := fun v w S Q => ∃ ds k, lstR S v = some ds ∧ w = .int k ∧ 0 ≤ k ∧ k < 2 ^ 62 ∧ ds.length * k.toNat ≤ sizeLine ∧ Q (.lst (List.replicate k.toNat ds).flatten) S
abbrev fzM (Q : DK) : DK := fun v S' => fz Q v S' ∨ Q v S'
theorem q_frzM {da : DE} (ha : QE M X e da) : QE M X e (fun ρ S Q => da ρ S (fzM Q)) := by
  refine ⟨fun pins s σ H Q I ⟨io, S, ρ, Qd, r, re, h, c⟩ => ?_⟩
  refine thn (ha.run pins s σ H (fun x H' => ∃ io' S' v, Stp io H io' H' ∧ RS M io' H' S' ∧ RD M.K io' H' v x ∧ fzM Qd v S') I
    ⟨io, S, ρ, _, r, re, h, fun i1 H1 S1 v x s1 r1 d1 q => ⟨i1, S1, v, s1, r1, d1, q⟩⟩) fun u s' ⟨x, H', I', rx, i1, S1, v, s1, r1, d1, q⟩ => ?_
  rcases q with ⟨l, o, w, ev, el, hw, q⟩ | q
  · subst ev
    obtain ⟨p, e1, h1⟩ := r1.ob l o el
    obtain ⟨p', e2, ex⟩ := d1
    rw [e1] at e2; cases e2
    obtain ⟨⟨u1, a1, b1, c1, d1'⟩, _⟩ := h1.there
    have h4 : ∀ y, u1 ≠ .own y := by
      cases o with
      | lst ds => obtain ⟨_, xs, h2, _⟩ := h1; rw [a1] at h2; cases h2; simp
      | dic ks ds => obtain ⟨_, xs, h2, _⟩ := h1; rw [a1] at h2; cases h2; simp
      | _ => cases hw
    obtain ⟨ob, I2⟩ := inv_freeze I' a1 b1 c1 d1' h4
    obtain ⟨r2, s2, d2⟩ := r1.freeze (ob := ob) el e1 a1 hw
    refine ⟨x, _, I2, rx, ?_⟩
    subst ex
    exact c i1 _ _ w _ (s1.trans s2) r2 d2 q
  · exact ⟨x, H', I', rx, c i1 H' S1 v x s1 r1 d1 q⟩
def dSlF (d : DE) (l h : DO) : DE := fun ρ S Q => d ρ S fun v S1 => l ρ S1 fun lo S2 => h ρ S2 fun hi S3 =>
  (∃ ds, lstD S3 v = some ds ∧ Q (.lst (cutD ds lo hi)) S3) ∨ ∃ ds, v = .tup ds ∧ Q (.tup (cutD ds lo hi)) S3
theorem q_sliceF {lo hi : Option Expr} {d : DE} {l h : DO} {p2 : Pos} (hM : M.K = X.K) (he : QE M X e d) (hl : QO M X lo l) (hh : QO M X hi h) : QE M X (.Subscript e (.Slice lo hi none p2) pos) (dSlF d l h) :=
  QE.imp (q_frzM (q_slice hM he.mc hl.mc hh.mc)) fun ρ S Q hd => ⟨_, hd, fun v S1 h1 => ⟨_, h1, fun o S2 h2 => ⟨_, h2, fun o2 S3 h3 => by
    rcases h3 with ⟨ds, e, q⟩ | ⟨ds, e, q⟩
    · exact .inl ⟨ds, e, fun m hm => .inl (frz_lst q m hm)⟩
    · exact .inr ⟨ds, e, .inr q⟩⟩⟩⟩
def dListVF (d : DE) : DE := fun ρ S Q => d ρ S fun v S1 => ∃ p, dicD S1 v = some p ∧ Q (.lst p.2) S1
theorem Tg.d_mono {t : Tg} {v : D} {ρ : En} {Q Q' : En → Prop} (h : t.d v ρ Q) (k : ∀ ρ1, Q ρ1 → Q' ρ1) : t.d v ρ Q' := by
  cases t with
  | one i => exact k _ h
  | many is => obtain ⟨ds, e, l, q⟩ := h; exact ⟨ds, e, l, k _ q⟩
theorem compW_mc {gs : Gs} {t : Tg} {tt : DT} {te : DE} {ρ : En} {K K' : List D → Sto → Prop} (k : ∀ a S, K a S → K' a S) : ∀ (ds acc : List D) (S : Sto), compW gs t tt te ρ K ds acc S → compW gs t (mcT tt) (mcE te) ρ K' ds acc S
  | [], acc, S, ⟨g, q⟩ => ⟨g, k _ _ q⟩
  | d :: ds, acc, S, ⟨g, z, h⟩ => ⟨g, z, fun l o hl => Tg.d_mono (h l o hl) fun ρ1 h1 => ⟨_, h1, fun b S2 h2 => by
    cases b with
    | true =>
      simp only [if_true] at h2 ⊢
      exact ⟨_, h2, fun v S3 ⟨e3, S4, s4, h4⟩ => ⟨e3, S4, s4, compW_mc k ds _ S4 h4⟩⟩
    | false =>
      simp only [Bool.false_eq_true, if_false] at h2 ⊢
      obtain ⟨e2, S4, s4, h4⟩ := h2
      exact ⟨e2, S4, s4, compW_mc k ds _ S4 h4⟩⟩⟩
def dLcF (di : DI) (t : Tg) (tt : DT) (te : DE) (vs : List Nat) : DE := fun ρ S Q => di ρ S fun ds gs S1 => compW gs t tt te (wipeD ρ vs) (fun acc S2 => Q (.lst acc) S2) ds [] S1
theorem q_fzL {di : DI} {t : Tg} {tt : DT} {te : DE} {vs : List Nat} (h : QE M X e (dLc (mcI di) t (mcT tt) (mcE te) vs)) : QE M X e (dLcF di t tt te vs) :=
  QE.imp (q_frz h) fun ρ S Q hd => ⟨_, hd, fun ds gs S1 q => compW_mc (fun a S2 h => frz_lst h) _ _ _ q⟩
theorem s_fzL {st : Stmt} {x : Str} (i : Nat) {di : DI} {t : Tg} {tt : DT} {te : DE} {vs : List Nat} (h : QS M X st (dSet i (dLc (mcI di) t (mcT tt) (mcE te) vs))) (hi : X.N[i]? = some x := by rfl) : QS M X st (dSet i (dLcF di t tt te vs)) :=
  QS.imp (s_frzN i h hi) fun E ρ S hd => ⟨_, hd, fun ds gs S1 q => compW_mc (fun a S2 h => frz_lst h) _ _ _ q⟩
def dDcF (di : DI) (t : Tg) (tt : DT) (tk tv : DE) (vs : List Nat) : DE := fun ρ S Q => di ρ S fun ds gs S1 => dicW gs t tt tk tv (wipeD ρ vs) (fun ks es S2 => Q (.dic ks es) S2) ds [] [] S1
def dLc2F (di : DI) (t : Tg) (tt : DT) (di1 : DI) (t1 : Tg) (tt1 : DT) (te : DE) (vs vs1 : List Nat) : DE := fun ρ S Q => di ρ S fun ds gs S1 =>
  comp2W gs t tt di1 t1 tt1 te vs1 (wipeD ρ vs) (fun acc S2 => Q (.lst acc) S2) ds [] S1
end
end L3
end
section
set_option Elab.async false
set_option linter.all false
set_option maxRecDepth 100000
set_option maxHeartbeats 2000000
namespace L3
open PySem PySem.Spec PyProof.Rows L2
section
variable {M : Md} {X : Cx}
theorem OpR.or {f : Value → Value → Sem Value} {r r' : R2} (h : OpR X f r) (h' : OpR X f r') : OpR X f (fun x y H Q => r x y H Q ∨ r' x y H Q) := by
  intro pins s σ H x y v u Q I rx ry q
  rcases q with q | q
  · exact h pins s σ H x y v u Q I rx ry q
  · exact h' pins s σ H x y v u Q I rx ry q
def oInF (neg : Bool) : DR2 := fun v w S Q => ∃ (x : Str) (xs : List Str), v = .str x ∧ seqD S w = some (xs.map .str) ∧ Q (.bl (if neg then !decide (x ∈ xs) else decide (x ∈ xs))) S
theorem inV_strs (x : Str) : ∀ xs : List Str, inV (.str x) (xs.map V.str) = decide (x ∈ xs)
  | [] => rfl
  | y :: ys => by
    show ((y == x) || inV (.str x) (ys.map V.str)) = _
    rw [inV_strs x ys, Bool.eq_iff_iff, Bool.or_eq_true, beq_iff_eq, decide_eq_true_iff, decide_eq_true_iff, List.mem_cons]
    exact ⟨fun h => h.elim (fun e => .inl e.symm) .inr, fun h => h.elim (fun e => .inl e.symm) .inr⟩
theorem flat_strs (xs : List Str) : (xs.map V.str).all flatV = true := by
  rw [List.all_map]; exact List.all_eq_true.mpr fun _ _ => rfl
theorem sim_inF {K : PySem.W.Frag} (hM : M.K = K) (neg : Bool) : Sim2 M (rIn K neg) (oInF neg) := fun io H S x y v w Qd Q r dv dw ⟨z, zs, e1, e2, q⟩ c => by
  subst e1
  obtain ⟨a, ys, rfl, sq, rr⟩ := seq_of r dw e2
  have ey := rr.strs
  subst ey
  rw [show x = .str z from dv]
  refine ⟨a, _, rfl, by rw [← hM]; exact sq, rfl, flat_strs zs, ?_⟩
  rw [inV_strs]
  exact c.here r (v := .bl _) rfl q
def rDIn (neg : Bool) : R2 := fun x y H Q => ∃ a o, y = .ref a ∧ DGet H a x o ∧ Q (.bl (if neg then !o.isSome else o.isSome)) H
theorem op_inK (hu : X.A.units + 65 < cLine) : OpR X (compareOp .In) (rDIn false) := by
  intro pins s σ H x y v u Q I rx ry ⟨a, o, ey, g, q⟩
  subst ey
  obtain rfl : u = Value.ref a := ry
  exact d_in (by omega) I g rx fun s' I' => ⟨.bl _, H, I', rfl, q⟩
theorem op_notInK (hu : X.A.units + 65 < cLine) : OpR X (compareOp .NotIn) (rDIn true) := by
  intro pins s σ H x y v u Q I rx ry ⟨a, o, ey, g, q⟩
  subst ey
  obtain rfl : u = Value.ref a := ry
  exact d_notIn (by omega) I g rx fun s' I' => ⟨.bl _, H, I', rfl, q⟩
def oInK (neg : Bool) : DR2 := fun v w S Q => ∃ (k : Key) (p : List Key × List D), v = kD k ∧ dicD S w = some p ∧ Q (.bl (if neg then !p.1.any (fun x => decide (x = k)) else p.1.any fun x => decide (x = k))) S
theorem val_isSome {kvs : List (Key × V)} (k : Key) : (valV kvs k).isSome = (kvs.map (·.1)).any fun x => decide (x = k) := by
  unfold valV
  rw [Option.isSome_map, List.any_map, Bool.eq_iff_iff, List.find?_isSome, List.any_eq_true]
  exact Iff.rfl
theorem sim_inK (neg : Bool) : Sim2 M (rDIn neg) (oInK neg) := fun io H S x y v w Qd Q r dv dw ⟨k, p, e1, e2, q⟩ c => by
  subst e1
  obtain ⟨a, kvs, rfl, hd, hk, rr⟩ := dic_of r dw e2
  rw [kD_V dv]
  refine ⟨a, _, rfl, .inl ⟨kvs, k, hd, rfl, rfl⟩, ?_⟩
  rw [val_isSome, hk]
  exact c.here r (v := .bl _) rfl q
def oInA : DR2 := fun v w S Q => oInD v w S Q ∨ oInF false v w S Q ∨ oInK false v w S Q
def oNotInA : DR2 := fun v w S Q => oNotInD v w S Q ∨ oInF true v w S Q ∨ oInK true v w S Q
abbrev rInA (K : PySem.W.Frag) : R2 := fun x y H Q => rInD K x y H Q ∨ (rIn K false x y H Q ∨ rDIn false x y H Q)
abbrev rNotInA (K : PySem.W.Frag) : R2 := fun x y H Q => rNotInD K x y H Q ∨ (rIn K true x y H Q ∨ rDIn true x y H Q)
theorem op_inA (hu : X.A.units + 65 < cLine) : OpR X (compareOp .In) (rInA X.K) := (op_inD hu).or (op_in_seq.or (op_inK hu))
theorem op_notInA (hu : X.A.units + 65 < cLine) : OpR X (compareOp .NotIn) (rNotInA X.K) := (op_notInD hu).or (op_notIn_seq.or (op_notInK hu))
theorem sim_inA {K : PySem.W.Frag} (hM : M.K = K) : Sim2 M (rInA K) oInA := (sim_inD hM).or ((sim_inF hM false).or (sim_inK false))
theorem sim_notInA {K : PySem.W.Frag} (hM : M.K = K) : Sim2 M (rNotInA K) oNotInA := (sim_notInD hM).or ((sim_inF hM true).or (sim_inK true))
def getKD (ks : List Key) (ds : List D) (k : Key) : Option D := ((ks.zip ds).find? fun p => decide (p.1 = k)).map (·.2)
def oIxK : DR2 := fun v w S Q => ∃ p k d, dicD S v = some p ∧ w = kD k ∧ getKD p.1 p.2 k = some d ∧ Q d S
def oIxA : DR2 := fun v w S Q => oIx v w S Q ∨ oIxK v w S Q
variable {a b : Expr} {da db : DE} {pos p2 : Pos}
def gdSubA (d di : DE) : DG := fun v ρ S Q => d ρ S fun o S1 => di ρ S1 fun i S2 => (∃ l es k j, o = .ref l ∧ i = .int k ∧ S2 l = some (.lst es) ∧ ixN es.length k = some j ∧ Q ρ (S2.set l (.lst (es.set j v)))) ∨
  ∃ l ks es k, o = .ref l ∧ i = kD k ∧ S2 l = some (.dic ks es) ∧ ks.length < sizeLine ∧ Q ρ (S2.set l (.dic (putKs ks k) (putDs ks es k v)))
def dDicE : DE := fun _ S Q => ∀ l, S l = none → Q (.ref l) (S.set l (.dic [] []))
def bSortDF : DRA := fun ds S Q => ∃ (v : D) (p : List Key × List D) (ks : List Str), ds = [v] ∧ dicD S v = some p ∧ p.1 = ks.map Sum.inr ∧ ks.length < 64 ∧ ∀ ys : List Str, ys.Perm ks → sortedS ys = true → Q (.lst (ys.map D.str)) S
def bSortD : DRA := fun ds S Q => ∃ (v : D) (p : List Key × List D) (ks : List Str), ds = [v] ∧ dicD S v = some p ∧ p.1 = ks.map Sum.inr ∧ ks.length < 64 ∧ ∀ (ys : List Str) (l : Nat), ys.Perm ks → sortedS ys = true → S l = none → Q (.ref l) (S.set l (.lst (ys.map D.str)))
def bSum : DRA := fun ds S Q => ∃ (v : D) (ns : List Int), ds = [v] ∧ lstD S v = some (ns.map .int) ∧ Q (.int ns.sum) S
def bMaxL : DRA := fun ds S Q => ∃ (v : D) (ns : List Int), ds = [v] ∧ lstD S v = some (ns.map .int) ∧ 0 < ns.length ∧ ∀ m, m ∈ ns → (∀ y, y ∈ ns → y ≤ m) → Q (.int m) S
def bMinL : DRA := fun ds S Q => ∃ (v : D) (ns : List Int), ds = [v] ∧ lstD S v = some (ns.map .int) ∧ 0 < ns.length ∧ ∀ m, m ∈ ns → (∀ y, y ∈ ns → m ≤ y) → Q (.int m) S
def dGet2 (d di dz : DE) : DE := fun ρ S Q => d ρ S fun v S1 => (∃ p, dicD S1 v = some p) ∧ di ρ S1 fun w S2 => dz ρ S2 fun z S3 => ∃ p k, dicD S3 v = some p ∧ w = kD k ∧ Q ((getKD p.1 p.2 k).getD z) S3
end
end L3
end
section
set_option Elab.async false
set_option linter.all false
set_option maxRecDepth 100000
set_option maxHeartbeats 2000000
namespace L3
open PySem PySem.Spec PyProof.Rows L2
def lnK (xs : List Str) : PyData := .tuple [.int xs.length, .tuple (xs.map .str)]
section
variable {prog : Program} {w : World} {A : Around} {E : Value → Shared → Prop} {s : Shared}
end
def tS (b : List Str) : D := .tup (b.map .str)
def lnLe : List Str → List Str → Bool := PySem.W.dataLe false lnK
def dSortK (d : DE) : DE := fun ρ S Q => d ρ S fun v S1 => ∃ bs : List (List Str), lstD S1 v = some (bs.map tS) ∧ bs.length ≤ 1000 ∧ (∀ b ∈ bs, b.length ≤ 1000) ∧ ∀ l, S1 l = none → Q (.ref l) (S1.set l (.lst ((bs.mergeSort lnLe).map tS)))
theorem alike_strs : ∀ xs ys : List Str, PySem.W.alikeAll (xs.map .str) (ys.map .str) = true
  | [], _ => by cases ‹List Str› <;> rfl
  | _ :: _, [] => rfl
  | x :: xs, y :: ys => by
    show (PySem.W.alike (.str x) (.str y) && PySem.W.alikeAll (xs.map .str) (ys.map .str)) = true
    rw [alike_strs xs ys]; rfl
section
variable {M : Md} {X : Cx} {e : Expr} {d : DE} {x : Str} {params : Arguments} {scope : Scope} {p lpos kpos pos p1 p2 p3 p4 p5 : Pos} {kk k : Nat} {c P : Addr}
end
end L3
end
section
set_option Elab.async false
set_option linter.all false
set_option maxRecDepth 100000
set_option maxHeartbeats 2000000
namespace L3
open PySem PySem.Spec PyProof.Rows L2

def SqB : Bool → PySem.W.Frag → Hp → Addr → List V → Prop
  | true => SqL
  | false => SqT
def IsB : Bool → Heap → Addr → Array Value → Prop
  | true => fun h a its => h.IsList a its
  | false => fun h a its => h.IsTuple a its
def ItB : Bool → Heap → Addr → Addr → Nat → Prop
  | true => fun h i a n => h.IsListIter i a n
  | false => fun h i a n => h.IsTupleIter i a n
def obB : Bool → Addr → Obj
  | true => fun a => { cls := .type "list_iterator", data := .fields #[.ref a, .int 0 0] }
  | false => fun a => { cls := .type "tuple_iterator", data := .fields #[.ref a, .int 0 0] }
theorem begB (b : Bool) (a : Addr) (its : Array Value) : Begins (.ref a) (obB b a) fun h => IsB b h a its := by
  cases b
  · exact begins_tuple a its
  · exact begins_list a its
theorem drwB {prog : Program} {w : World} {A : Around} (hh : A.handled = none) (b : Bool) {i a : Addr} (hne : a ≠ i) (its : Array Value) : Draws prog w A i [i, a] its.size (fun n v => its[n]? = some v) (fun n h => ItB b h i a n ∧ IsB b h a its) := by
  cases b
  · exact Draws.tuple hh i a hne its
  · exact Draws.list hh i a hne its
theorem ItB.new {b : Bool} {h : Heap} {i a : Addr} (e : h.get? i = some (obB b a)) : ItB b h i a 0 := by
  cases b <;> exact ⟨_, e, rfl, rfl⟩
theorem ItB.ob {b : Bool} {h : Heap} {i a : Addr} {n : Nat} (s : ItB b h i a n) : ∃ o vs, h.get? i = some o ∧ o.data = .fields vs := by
  cases b <;> exact let ⟨o, e, _, d⟩ := s; ⟨o, _, e, d⟩
theorem ItB.up {b : Bool} {h h' : Heap} {i a : Addr} {n : Nat} (s : ItB b h i a n) (k : ∀ o, h.get? i = some o → h'.get? i = some o) : ItB b h' i a n := by
  cases b <;> exact let ⟨o, e, r⟩ := s; ⟨o, k o e, r⟩
theorem IsB.lt {b : Bool} {h : Heap} {a : Addr} {its : Array Value} (s : IsB b h a its) : a < h.objs.size := by
  cases b <;> exact let ⟨_, e, _⟩ := s; Heap.lt_size e
section
variable {X : Cx} {pins : List (Addr × Obj)} {σ : L2.St} {H : Hp} {s : Shared}
theorem inv_sq {b : Bool} {a : Addr} {xs : List V} (I : Inv X pins σ H s) (h : SqB b X.K H a xs) : ∃ its : List Value, Vals xs its ∧ IsB b s.heap a its.toArray := by
  cases b
  · exact (I.tuple h).imp fun _ q => ⟨q.1, q.2.1⟩
  · exact (I.list h).imp fun _ q => ⟨q.1, q.2.1.isList⟩
theorem inv_sq1 {b : Bool} {a : Addr} {xs ys : List V} (I : Inv X pins σ H s) (h : SqB b X.K H a xs) (h' : SqB b X.K H a ys) : xs = ys := by
  cases b
  · exact I.tuple_inj h h'
  · exact I.list_inj h h'

variable {it : Addr} {fp fpW wr : List Addr} {n i : Nat} {Pt : Nat → Array Value → Prop} {St : Nat → Heap → Prop} {Mid : Nat → Addr → Heap → Prop}
theorem walk_turn {elts : List Expr} {kk : Nat} {pos : Pos} {Row : List V → Prop} {Q : Value → Shared → Prop} {E : Value → Shared → Prop} (W : WalksT X.prog X.w X.A it fpW wr n Pt St Mid) (I : Inv X pins σ H s) (hf : ∀ b ∈ fp, FpOk X pins H b) (hs : ∀ b ∈ fp, b < s.heap.objs.size) (sub : ∀ b ∈ wr, b ∈ fp)
    (st : St i s.heap) (hi : i < n) (row : ∀ vals, Pt i vals → ∃ ys, ys.length ≤ sizeLine ∧ Vals ys vals.toList ∧ Row ys)
    (h : ∀ T ys s2, H T = none → Row ys → Inv X pins σ (upd H T (.tup ys)) s2 → St (i + 1) s2.heap → (∀ b ∈ fp, upd H T (.tup ys) b = none) → Q (.ref T) s2) :
    wpAny (model X.prog X.w) X.A (pyNext (.ref it)) (fun r s1 => ∃ u, r = some u ∧ wpAny (model X.prog X.w) X.A (letOwnedTupleGo (.Tuple elts kk pos) (.ref it) u) (fun _ s2 => Q u s2) E s1) E s := by
  refine W.item i s _ E hi st fun T vals h1 tk hp hT isT hm k1 => ⟨_, rfl, ?_⟩
  obtain ⟨ys, hz, rv, hr⟩ := row vals hp
  have tup : ObjOk X.prog X.w (upd H T (.tup ys)) h1 T (.tup ys) := ⟨hz, vals.toList, rv, by rw [Array.toArray_toList]; exact isT⟩
  have I1 := I.turnedNew (t' := tk) k1 (fun b hb => hf b (sub b hb)) hT tup
  have off : ∀ b ∈ fp, FpOk X pins (upd H T (.tup ys)) b := fun b hb => ⟨(upd_ne (Nat.ne_of_lt (Nat.lt_of_lt_of_le (hs b hb) hT))).trans (hf b hb).1, (hf b hb).2⟩
  exact W.go elts kk pos i T _ _ E hm fun h2 st2 k2 => h T ys _ (I.hok.fresh hT) hr (I1.turnedL (t' := tk) k2 fun b hb => off b (sub b hb)) st2 fun b hb => (off b hb).1
theorem walk_end {E : Value → Shared → Prop} (W : WalksT X.prog X.w X.A it fpW wr n Pt St Mid) (I : Inv X pins σ H s) (hf : ∀ b ∈ fp, FpOk X pins H b) (sub : ∀ b ∈ wr, b ∈ fp) (st : St n s.heap) :
    wpAny (model X.prog X.w) X.A (pyNext (.ref it)) (fun r s1 => r = none ∧ Inv X pins σ H s1) E s :=
  W.done s _ E st fun h1 tk k1 => ⟨rfl, I.turnedL (t' := tk) k1 fun b hb => hf b (sub b hb)⟩
end
def RowB (K : PySem.W.Frag) (H : Hp) (i : Nat) : List (Bool × Addr) → List V → Prop
  | [], ys => ys = []
  | p :: ps, ys => ∃ y zs, ys = y :: zs ∧ (∀ xs, SqB p.1 K H p.2 xs → xs[i]? = some y) ∧ RowB K H i ps zs
def ItN (K : PySem.W.Frag) (src : List (Bool × Addr)) : It where
  go i H := ∀ p ∈ src, ∃ xs, SqB p.1 K H p.2 xs ∧ i < xs.length
  yld i H v H' := ∃ T ys, v = .ref T ∧ H T = none ∧ H' = upd H T (.tup ys) ∧ RowB K H i src ys
  stop i H := (∀ p ∈ src, ∃ xs, SqB p.1 K H p.2 xs ∧ i ≤ xs.length) ∧ ∃ p ∈ src, ∃ xs, SqB p.1 K H p.2 xs ∧ xs.length = i
section
variable {X : Cx} {pins : List (Addr × Obj)} {σ : L2.St} {H : Hp} {s : Shared}
theorem src_at {b : Bool} {a : Addr} {xs : List V} {P : Nat → Prop} (I : Inv X pins σ H s) (h : SqB b X.K H a xs) (hp : P xs.length) :
    ∃ its : Array Value, IsB b s.heap a its ∧ P its.size ∧ ∀ (i : Nat) (v : Value), its[i]? = some v → ∃ y, RelV y v ∧ ∀ ys, SqB b X.K H a ys → ys[i]? = some y := by
  obtain ⟨its, rv, hb⟩ := inv_sq I h
  refine ⟨its.toArray, hb, by rw [List.size_toArray, ← rv.length]; exact hp, fun i v e => ?_⟩
  rw [List.getElem?_toArray] at e
  cases ex : xs[i]? with
  | none => rw [rv.none_of ex] at e; cases e
  | some y =>
    obtain ⟨u, eu, ru⟩ := rv.get ex
    rw [eu] at e
    cases e
    exact ⟨y, ru, fun ys hy => by rw [← inv_sq1 I h hy]; exact ex⟩
end
theorem fp_lt {h : Heap} {fp : List Addr} (g : ∀ b ∈ fp, ∃ o, h.get? b = some o ∧ ∀ v, o.data ≠ .cell v) : ∀ b ∈ fp, b < h.objs.size := fun b hb => let ⟨_, e, _⟩ := g b hb; Heap.lt_size e
abbrev T2 (b1 b2 : Bool) (z TI TO i1 i2 a1 a2 : Addr) (i : Nat) (h : Heap) : Prop :=
  IsZip h z TI TO .none ∧ IsTupOf2 h TI (.ref i1) (.ref i2) ∧ (∃ x1 x2, IsTupOf2 h TO x1 x2) ∧ ItB b1 h i1 a1 i ∧ ItB b2 h i2 a2 i
abbrev T3 (b1 b2 b3 : Bool) (z TI TO i1 i2 i3 a1 a2 a3 : Addr) (i : Nat) (h : Heap) : Prop :=
  IsZip h z TI TO .none ∧ IsTupOf3 h TI (.ref i1) (.ref i2) (.ref i3) ∧ (∃ x1 x2 x3, IsTupOf3 h TO x1 x2 x3) ∧ ItB b1 h i1 a1 i ∧ ItB b2 h i2 a2 i ∧ ItB b3 h i3 a3 i
theorem T2.obj {b1 b2 : Bool} {z TI TO i1 i2 a1 a2 : Addr} {i : Nat} {h : Heap} (t : T2 b1 b2 z TI TO i1 i2 a1 a2 i h) : ∀ b ∈ [z, TI, TO, i1, i2], ∃ o, h.get? b = some o ∧ ∀ v, o.data ≠ .cell v := by
  obtain ⟨e1, e2, ⟨_, _, e3⟩, e4, e5⟩ := t
  obtain ⟨o4, v4, e4, d4⟩ := e4.ob
  obtain ⟨o5, v5, e5, d5⟩ := e5.ob
  intro b hb
  simp only [List.mem_cons, List.not_mem_nil, or_false] at hb
  rcases hb with rfl | rfl | rfl | rfl | rfl
  · exact ⟨_, e1, fun v q => by cases q⟩
  · exact ⟨_, e2, fun v q => by cases q⟩
  · exact ⟨_, e3, fun v q => by cases q⟩
  · exact ⟨_, e4, fun v q => by rw [d4] at q; cases q⟩
  · exact ⟨_, e5, fun v q => by rw [d5] at q; cases q⟩
theorem T3.obj {b1 b2 b3 : Bool} {z TI TO i1 i2 i3 a1 a2 a3 : Addr} {i : Nat} {h : Heap} (t : T3 b1 b2 b3 z TI TO i1 i2 i3 a1 a2 a3 i h) : ∀ b ∈ [z, TI, TO, i1, i2, i3], ∃ o, h.get? b = some o ∧ ∀ v, o.data ≠ .cell v := by
  obtain ⟨e1, e2, ⟨_, _, _, e3⟩, e4, e5, e6⟩ := t
  obtain ⟨o4, v4, e4, d4⟩ := e4.ob
  obtain ⟨o5, v5, e5, d5⟩ := e5.ob
  obtain ⟨o6, v6, e6, d6⟩ := e6.ob
  intro b hb
  simp only [List.mem_cons, List.not_mem_nil, or_false] at hb
  rcases hb with rfl | rfl | rfl | rfl | rfl | rfl
  · exact ⟨_, e1, fun v q => by cases q⟩
  · exact ⟨_, e2, fun v q => by cases q⟩
  · exact ⟨_, e3, fun v q => by cases q⟩
  · exact ⟨_, e4, fun v q => by rw [d4] at q; cases q⟩
  · exact ⟨_, e5, fun v q => by rw [d5] at q; cases q⟩
  · exact ⟨_, e6, fun v q => by rw [d6] at q; cases q⟩
section
variable {P : Program} {w : World} {K : PySem.W.Frag} {elts : List Expr} {kk : Nat} {pos : Pos} {b1 b2 b3 : Bool} {z TI TO i1 i2 i3 a1 a2 a3 : Addr}
theorem turn2 (S : ZipSep2 z TI TO i1 i2 [i1, a1] [i2, a2]) (n1 : a1 ≠ i1) (n2 : a2 ≠ i2) : Turn P w K (.Tuple elts kk pos) (ItN K [(b1, a1), (b2, a2)]) [z, TI, TO, i1, i2] z (T2 b1 b2 z TI TO i1 i2 a1 a2) where
  mem := by simp
  obj _ _ t := T2.obj t
  keep i h h' t k := by
    obtain ⟨e1, e2, ⟨x1, x2, e3⟩, e4, e5⟩ := t
    exact ⟨k z (by simp) _ e1, k TI (by simp) _ e2, ⟨x1, x2, k TO (by simp) _ e3⟩, e4.up (k i1 (by simp)), e5.up (k i2 (by simp))⟩
  item X hP hw hK hc i pins s σ H E I hf t hg := by
    subst hP hw hK
    obtain ⟨xs, hx, lx⟩ := hg (b1, a1) (by simp)
    obtain ⟨ys, hy, ly⟩ := hg (b2, a2) (by simp)
    obtain ⟨v1, q1, lx, r1⟩ := src_at (P := (i < ·)) I hx lx
    obtain ⟨v2, q2, ly, r2⟩ := src_at (P := (i < ·)) I hy ly
    have hh : X.A.in1.handled = none := I.ok.hd hc
    have W := WalksT.zipD2 (A := X.A) S (drwB (prog := X.prog) (w := X.w) hh b1 n1 v1) (drwB hh b2 n2 v2)
    obtain ⟨e1, e2, e3, e4, e5⟩ := t
    refine walk_turn (Row := RowB X.K H i [(b1, a1), (b2, a2)]) W I hf (fp_lt (T2.obj ⟨e1, e2, e3, e4, e5⟩)) (by simp) ⟨e1, e2, e3, ⟨e4, q1⟩, e5, q2⟩ (Nat.lt_min.mpr ⟨lx, ly⟩) ?_
      fun T ys s2 hT hr I2 st hn => ⟨.ref T, _, I2, rfl, ⟨T, ys, rfl, hT, rfl, hr⟩, ⟨st.1, st.2.1, st.2.2.1, st.2.2.2.1.1, st.2.2.2.2.1⟩, hn⟩
    rintro _ ⟨x1, x2, p1, p2, rfl⟩
    obtain ⟨y1, k1, m1⟩ := r1 _ _ p1
    obtain ⟨y2, k2, m2⟩ := r2 _ _ p2
    exact ⟨[y1, y2], by show 2 ≤ sizeLine; decide, .cons k1 (.cons k2 .nil), y1, _, rfl, m1, y2, _, rfl, m2, rfl⟩
  done X hP hw hK hc i pins s σ H E I hf t hg := by
    subst hP hw hK
    obtain ⟨hg, p, hp, zs, hz, lz⟩ := hg
    obtain ⟨xs, hx, lx⟩ := hg (b1, a1) (by simp)
    obtain ⟨ys, hy, ly⟩ := hg (b2, a2) (by simp)
    have last : xs.length = i ∨ ys.length = i := by
      simp only [List.mem_cons, List.not_mem_nil, or_false] at hp
      rcases hp with rfl | rfl
      · exact .inl (by rw [inv_sq1 I hx hz]; exact lz)
      · exact .inr (by rw [inv_sq1 I hy hz]; exact lz)
    obtain ⟨v1, q1, ⟨lx, l1⟩, _⟩ := src_at (P := fun n => i ≤ n ∧ n = xs.length) I hx ⟨lx, rfl⟩
    obtain ⟨v2, q2, ⟨ly, l2⟩, _⟩ := src_at (P := fun n => i ≤ n ∧ n = ys.length) I hy ⟨ly, rfl⟩
    have hh : X.A.in1.handled = none := I.ok.hd hc
    have W := WalksT.zipD2 (A := X.A) S (drwB (prog := X.prog) (w := X.w) hh b1 n1 v1) (drwB hh b2 n2 v2)
    obtain ⟨e1, e2, e3, e4, e5⟩ := t
    have en : i = min v1.size v2.size := by omega
    refine walk_end W I hf (by simp) ?_
    rw [← en]
    exact ⟨e1, e2, e3, ⟨e4, q1⟩, e5, q2⟩
  self A i s Q E t h := wpAny_pyIter_zip t.1 h
end
def SrcD (M : Md) (io : Pl) (H : Hp) (p : Bool × Addr) (ds : List D) (gs : Gs) : Prop := ∀ (io2 : Pl) (H2 : Hp) (S2 : Sto), Stp io H io2 H2 → RS M io2 H2 S2 → gs.ok S2 → ∃ xs, SqB p.1 M.K H2 p.2 xs ∧ RDs M.K io2 H2 ds xs
section
variable {M : Md} {io : Pl} {H : Hp} {S : Sto}
theorem src_of (r : RS M io H S) {v : D} {x : V} {ds : List D} (h : RD M.K io H v x) (e : seqD S v = some ds) : ∃ p : Bool × Addr, x = .ref p.2 ∧ SrcD M io H p ds (gsOf v (.lst ds)) := by
  have lst : lstD S v = some ds → ∃ p : Bool × Addr, x = .ref p.2 ∧ SrcD M io H p ds (gsOf v (.lst ds)) := fun e => by
    obtain ⟨a, ex, q⟩ := lst_src r h e
    exact ⟨(true, a), ex, q⟩
  cases v with
  | tup es =>
    cases e
    obtain ⟨a, xs, ex, q⟩ := tup_src h.tup_sq
    exact ⟨(false, a), ex, fun io2 H2 _ st _ _ => ⟨xs, q io2 H2 st⟩⟩
  | lst es => exact lst e
  | kl es => exact lst e
  | kt es =>
    cases e
    obtain ⟨a, xs, ex, q⟩ := tup_src h.kt_sq
    exact ⟨(false, a), ex, fun io2 H2 _ st _ _ => ⟨xs, q io2 H2 st⟩⟩
  | ref l => exact lst e
  | _ => cases e
def AtD (i : Nat) : List (List D) → List D → Prop
  | [], es => es = []
  | ds :: dss, es => ∃ e fs, es = e :: fs ∧ ds[i]? = some e ∧ AtD i dss fs
theorem row_of {io2 : Pl} {H2 : Hp} {S2 : Sto} {gs : Gs} {i : Nat} (st : Stp io H io2 H2) (r2 : RS M io2 H2 S2) (g : gs.ok S2) : ∀ {src : List (Bool × Addr)} {dss : List (List D)} {es : List D} {ys : List V}, src.length = dss.length → (∀ (j : Nat) (p : Bool × Addr) (ds : List D), src[j]? = some p → dss[j]? = some ds → SrcD M io H p ds gs) → AtD i dss es → RowB M.K H2 i src ys → RDs M.K io2 H2 es ys
  | [], [], _, _, _, _, e1, e2 => by
    cases e1; cases e2; exact RDs.nil
  | p :: src, ds :: dss, _, _, hl, h, ⟨e, fs, rfl, ed, e1⟩, ⟨y, zs, rfl, ey, e2⟩ => by
    obtain ⟨xs, h1, h2⟩ := h 0 p ds rfl rfl io2 H2 S2 st r2 g
    obtain ⟨x, ex, k⟩ := h2.get ed
    have := ey xs h1
    rw [ex] at this
    cases this
    exact RDs.cons k (row_of st r2 g (by simpa using hl) (fun j p ds a b => h (j + 1) p ds a b) e1 e2)
theorem AtD.len {i : Nat} : ∀ {dss : List (List D)} {es : List D}, AtD i dss es → es.length = dss.length ∧ ∀ ds ∈ dss, i < ds.length
  | [], _, e => ⟨by cases e; rfl, fun _ h => nomatch h⟩
  | d :: dss, _, ⟨e, fs, rfl, ed, r⟩ => by
    obtain ⟨h1, h2⟩ := AtD.len r
    refine ⟨by simp [h1], fun ds hd => ?_⟩
    rcases List.mem_cons.mp hd with rfl | hd
    · exact (List.getElem?_eq_some_iff.mp ed).1
    · exact h2 ds hd
theorem itN_ok {src : List (Bool × Addr)} {dss : List (List D)} {rows : List D} {gs : Gs} (hl : src.length = dss.length) (h4 : src.length ≤ 1000) (h : ∀ (j : Nat) (p : Bool × Addr) (ds : List D), src[j]? = some p → dss[j]? = some ds → SrcD M io H p ds gs)
    (hr : ∀ (i : Nat) (d : D), rows[i]? = some d → ∃ es, d = .tup es ∧ AtD i dss es) (he : (∀ ds ∈ dss, rows.length ≤ ds.length) ∧ ∃ ds ∈ dss, ds.length = rows.length) : ItOk M (ItN M.K src) rows gs io H where
  go io2 H2 S2 i d st r g e := by
    obtain ⟨es, rfl, ha⟩ := hr i d e
    refine ⟨fun p hp => ?_, ?_⟩
    · obtain ⟨j, hj, rfl⟩ := List.getElem_of_mem hp
      obtain ⟨xs, h1, h2⟩ := h j _ _ (List.getElem?_eq_getElem hj) (List.getElem?_eq_getElem (hl ▸ hj)) io2 H2 S2 st r g
      exact ⟨xs, h1, by rw [h2.len]; exact ha.len.2 _ (List.getElem_mem _)⟩
    · rintro _ _ ⟨T, ys, rfl, hT, rfl, hy⟩
      have rr := row_of st r g hl h ha hy
      obtain ⟨r3, s3⟩ := r.keepNew (u := .tup ys) hT (by
        show ys.length ≤ sizeLine
        rw [rr.len, ha.len.1, ← hl, sizeLine_eq]; omega)
      exact ⟨io2, s3, r3, T, ys, rfl, upd_same, rr.mono s3⟩
  stop io2 H2 S2 st r g := by
    refine ⟨fun p hp => ?_, ?_⟩
    · obtain ⟨j, hj, rfl⟩ := List.getElem_of_mem hp
      obtain ⟨xs, h1, h2⟩ := h j _ _ (List.getElem?_eq_getElem hj) (List.getElem?_eq_getElem (hl ▸ hj)) io2 H2 S2 st r g
      exact ⟨xs, h1, by rw [h2.len]; exact he.1 _ (List.getElem_mem _)⟩
    · obtain ⟨ds, hd, el⟩ := he.2
      obtain ⟨j, hj, rfl⟩ := List.getElem_of_mem hd
      obtain ⟨xs, h1, h2⟩ := h j _ _ (List.getElem?_eq_getElem (hl.symm ▸ hj)) (List.getElem?_eq_getElem hj) io2 H2 S2 st r g
      exact ⟨_, List.getElem_mem (hl.symm ▸ hj), xs, h1, by rw [h2.len]; exact el⟩
end
def rows2 (a b : List D) : List D := (a.zip b).map fun p => D.tup [p.1, p.2]
def rows3 (a b c : List D) : List D := (a.zip (b.zip c)).map fun p => D.tup [p.1, p.2.1, p.2.2]
theorem zip_some {α β : Type} {a : List α} {b : List β} {i : Nat} {p : α × β} (e : (a.zip b)[i]? = some p) : a[i]? = some p.1 ∧ b[i]? = some p.2 := List.getElem?_zip_eq_some.mp e
theorem rows2_at {a b : List D} {i : Nat} {d : D} (e : (rows2 a b)[i]? = some d) : ∃ es, d = .tup es ∧ AtD i [a, b] es := by
  unfold rows2 at e
  rw [List.getElem?_map, Option.map_eq_some_iff] at e
  obtain ⟨p, e, rfl⟩ := e
  obtain ⟨e1, e2⟩ := zip_some e
  exact ⟨_, rfl, _, _, rfl, e1, _, _, rfl, e2, rfl⟩
theorem rows2_len {a b : List D} : (∀ ds ∈ [a, b], (rows2 a b).length ≤ ds.length) ∧ ∃ ds ∈ [a, b], ds.length = (rows2 a b).length := by
  have e : (rows2 a b).length = min a.length b.length := by simp [rows2]
  refine ⟨by simp; omega, ?_⟩
  rcases Nat.le_total a.length b.length with h | h
  · exact ⟨a, by simp, by omega⟩
  · exact ⟨b, by simp, by omega⟩
def iZ2 (d : DA) : DI := fun ρ S R => d ρ S fun vs S' => ∃ u v a b, vs = [u, v] ∧ seqD S' u = some a ∧ seqD S' v = some b ∧ R (rows2 a b) (gsOf u (.lst a) ++ gsOf v (.lst b)) S'
def iZ3 (d : DA) : DI := fun ρ S R => d ρ S fun vs S' => ∃ u v w a b c, vs = [u, v, w] ∧ seqD S' u = some a ∧ seqD S' v = some b ∧ seqD S' w = some c ∧ R (rows3 a b c) (gsOf u (.lst a) ++ (gsOf v (.lst b) ++ gsOf w (.lst c))) S'
theorem sep2 {n a1 a2 : Nat} (h1 : a1 < n) (h2 : a2 < n) : ZipSep2 (n + 4) (n + 2) (n + 3) n (n + 1) [n, a1] [n + 1, a2] := by
  constructor <;> (simp only [List.mem_cons, List.not_mem_nil, or_false, not_or, ne_eq, true_or, not_false_eq_true, and_true, true_and]; repeat' apply And.intro) <;> (intro e; have e2 : @Eq Nat _ _ := e; omega)
theorem ne_add {a n k : Nat} (h : a < n) : a ≠ n + k := by omega
theorem gs_seq {S : Sto} {w : D} {ds : List D} (e : seqD S w = some ds) : (gsOf w (.lst ds)).ok S := fun g hg => by
  cases w with
  | ref l =>
    have eg : g = (l, .lst ds) := by simpa [gsOf] using hg
    rw [eg]
    have e : lstD S (.ref l) = some ds := e
    unfold lstD at e
    dsimp only at e
    split at e
    · rename_i o eo; cases e; exact eo
    · cases e
  | _ => exact nomatch hg
theorem Gs.ok.app {S : Sto} {g g' : Gs} (h : g.ok S) (h' : g'.ok S) : (g ++ g').ok S := fun x hx => (List.mem_append.mp hx).elim (h x) (h' x)
section
variable {M : Md} {X : Cx} {e e2 e3 : Expr} {da : DA} {p pos tpos : Pos} {elts : List Expr} {kk : Nat}
theorem SrcD.more {io : Pl} {H : Hp} {q : Bool × Addr} {ds : List D} {gs gs' : Gs} (h : SrcD M io H q ds gs) (k : ∀ g ∈ gs, g ∈ gs') : SrcD M io H q ds gs' := fun io2 H2 S2 st r g => h io2 H2 S2 st r fun x hx => g x (k x hx)
theorem q_zip2 (hM : M.K = X.K) (hg : Gl X "zip") (hm : X.mg "zip" = none) (ha : QA M X [e, e2] da)
    (hs : starEach [e, e2] X.env = (false, eval e X.env) :: starEach [e2] X.env := by rfl) (hpl : (backTo pos (starEach [e2] X.env)).any (·.1) = false := by rfl) :
    QI M X (.Tuple elts kk tpos) (.Call (.Name "zip" p) [e, e2] [] pos) (iZ2 da) := by
  refine ⟨fun pins s σ H R I ⟨io, S, ρ, Rd, r, re, h, c⟩ => ?_⟩
  refine Call_ (ld_blt I hg hm PyProof.Rows.boot_zip (PyProof.Rows.callWith_type1 (thn (ha.run pos pins s σ H (fun xs H1 => ∃ io1 S1 x y q1 q2 a b gs, xs = [x, y] ∧ x = .ref q1.2 ∧ y = .ref q2.2 ∧ Stp io H io1 H1 ∧ RS M io1 H1 S1 ∧ SrcD M io1 H1 q1 a gs ∧ SrcD M io1 H1 q2 b gs ∧ gs.ok S1 ∧ Rd (rows2 a b) gs S1) I
    ⟨io, S, ρ, _, r, re, h, fun i1 H1 S1 ds xs s1 r1 dd q => ?_⟩) fun us s1 ⟨vs, H1, I1, rv, io1, S1, x, y, q1, q2, a, b, gs, ev, ex, ey, st1, r1, h1, h2, g1, q⟩ => ?_) hs hpl))
  · obtain ⟨u, v, a, b, rfl, e1, e2, q⟩ := q
    obtain ⟨x, y, rfl, dx, dy⟩ := dd.inj2
    obtain ⟨q1, ex, h1⟩ := src_of r1 dx e1
    obtain ⟨q2, ey, h2⟩ := src_of r1 dy e2
    have gk := (gs_seq e1).app (gs_seq e2)
    exact ⟨i1, S1, x, y, q1, q2, a, b, _, rfl, ex, ey, s1, r1, h1.more fun g hg => List.mem_append_left _ hg, h2.more fun g hg => List.mem_append_right _ hg, gk, q⟩
  · subst ev ex ey
    obtain ⟨u1, u2, rfl, eu1, eu2⟩ : ∃ u1 u2, us = [u1, u2] ∧ u1 = Value.ref q1.2 ∧ u2 = Value.ref q2.2 := by
      cases rv with
      | cons k1 rr => cases rr with
        | cons k2 rr => cases rr; exact ⟨_, _, rfl, k1, k2⟩
    subst eu1 eu2
    obtain ⟨xs, k1, _⟩ := h1 io1 H1 S1 (Stp.refl _ _) r1 g1
    obtain ⟨ys, k2, _⟩ := h2 io1 H1 S1 (Stp.refl _ _) r1 g1
    rw [hM] at k1 k2
    obtain ⟨v1, _, b1⟩ := inv_sq I1 k1
    obtain ⟨v2, _, b2⟩ := inv_sq I1 k2
    refine zip_begins2 (begB q1.1 q1.2 v1.toArray) (begB q2.1 q2.2 v2.toArray) b1 b2 fun h' z1 z2 z3 z4 z5 sz k => wpAny_pyIter_zip z1 ?_
    have l1 : q1.2 < s1.heap.objs.size := b1.lt
    have l2 : q2.2 < s1.heap.objs.size := b2.lt
    refine ⟨_, [s1.heap.objs.size + 4, s1.heap.objs.size + 2, s1.heap.objs.size + 3, s1.heap.objs.size, s1.heap.objs.size + 1], _, _, H1, rfl, I1.kept (t' := s1.toks) k, turn2 (sep2 l1 l2) (Nat.ne_of_lt l1) (ne_add l2), ⟨z1, z2, ⟨_, _, z3⟩, .new z4, .new z5⟩, fun b hb => ?_, ?_⟩
    · have hle : s1.heap.objs.size ≤ b := by
        simp only [List.mem_cons, List.not_mem_nil, or_false] at hb
        rcases hb with rfl | rfl | rfl | rfl | rfl <;> first | exact Nat.le_refl _ | exact Nat.le_add_right _ _
      exact I1.fpOk hle (I1.hok.fresh hle)
    · rw [← hM]
      refine c io1 H1 S1 _ _ gs st1 r1 (itN_ok (dss := [a, b]) rfl (by show 2 ≤ 1000; decide) (fun j p ds hj hd => ?_) (fun i d e => rows2_at e) rows2_len) q
      match j with
      | 0 => cases hj; cases hd; exact h1
      | 1 => cases hj; cases hd; exact h2
      | j + 2 => cases hj
end
end L3
end
section
set_option Elab.async false
set_option linter.all false
set_option maxRecDepth 100000
set_option maxHeartbeats 2000000
namespace L3
open PySem PySem.Spec PyProof.Rows L2
section
variable {prog : Program} {w : World} {A : Around} {E : Value → Shared → Prop} {s : Shared}
end
def LL (K : PySem.W.Frag) (H : Hp) : List V → List (List V) → Prop
  | [], [] => True
  | x :: xs, ys :: yss => (∃ b, x = V.ref b ∧ SqL K H b ys) ∧ LL K H xs yss
  | _, _ => False
theorem LL.raw {X : Cx} {pins : List (Addr × Obj)} {σ : L2.St} {H : Hp} {s : Shared} (I : Inv X pins σ H s) : ∀ {xs : List V} {yss : List (List V)} {its : List Value}, LL X.K H xs yss → Vals xs its →
    ∃ xss : List (List Value), its.length = xss.length ∧ (∀ (j : Nat) (v : Value) (ws : List Value), its[j]? = some v → xss[j]? = some ws → ∃ b, v = .ref b ∧ s.heap.IsList b ws.toArray) ∧ Vals yss.flatten xss.flatten
  | [], [], _, _, .nil => ⟨[], rfl, fun j v ws e => by simp at e, .nil⟩
  | x :: xs, ys :: yss, _, ⟨⟨b, e, hb⟩, h⟩, .cons (b := u) ru rr => by
    subst e
    obtain rfl : u = Value.ref b := ru
    obtain ⟨zs, rz, pl, _⟩ := I.list hb
    obtain ⟨xss, h1, h2, h3⟩ := LL.raw I h rr
    refine ⟨zs :: xss, by simp [h1], fun j v ws e1 e2 => ?_, ?_⟩
    · cases j with
      | zero => cases e1; cases e2; exact ⟨b, rfl, pl.isList⟩
      | succ j => exact h2 j v ws e1 e2
    · rw [List.flatten_cons, List.flatten_cons]
      exact rz.append h3
  | [], _ :: _, _, h, _ => h.elim
  | _ :: _, [], _, h, _ => h.elim
def LsD (S : Sto) : List D → List (List D) → Prop
  | [], [] => True
  | e :: es, ds :: dss => lstD S e = some ds ∧ LsD S es dss
  | _, _ => False
def bSumL : DRA := fun ds S Q => ∃ (v w : D) (es : List D) (dss : List (List D)), ds = [v, w] ∧ lstD S v = some es ∧ es ≠ [] ∧ lstD S w = some [] ∧ LsD S es dss ∧ dss.flatten.length ≤ sizeLine ∧ ∀ l, S l = none → Q (.ref l) (S.set l (.lst dss.flatten))
def bSumLF : DRA := fun ds S Q => ∃ (v w : D) (es : List D) (dss : List (List D)), ds = [v, w] ∧ lstD S v = some es ∧ es ≠ [] ∧ lstD S w = some [] ∧ LsD S es dss ∧ dss.flatten.length ≤ sizeLine ∧ Q (.lst dss.flatten) S
end L3
end
section
set_option Elab.async false
set_option linter.all false
set_option maxRecDepth 100000
set_option maxHeartbeats 2000000
namespace L3
open PySem PySem.Spec PyProof.Rows L2
def dSortKF (d : DE) : DE := fun ρ S Q => d ρ S fun v S1 => ∃ bs : List (List Str), lstD S1 v = some (bs.map tS) ∧ bs.length ≤ 1000 ∧ (∀ b ∈ bs, b.length ≤ 1000) ∧ Q (.lst ((bs.mergeSort lnLe).map tS)) S1
section
variable {M : Md} {X : Cx} {e : Expr} {d : DE}
end
def tK (xs : List Str) : PyData := .tuple (xs.map .str)
def tLe : List Str → List Str → Bool := PySem.W.dataLe false tK
def bSortT : DRA := fun ds S Q => ∃ (v : D) (bs : List (List Str)), ds = [v] ∧ lstD S v = some (bs.map tS) ∧ bs.length ≤ 1000 ∧ (∀ b ∈ bs, b ≠ []) ∧ ∀ l, S l = none → Q (.ref l) (S.set l (.lst ((bs.mergeSort tLe).map tS)))
def bSortTF : DRA := fun ds S Q => ∃ (v : D) (bs : List (List Str)), ds = [v] ∧ lstD S v = some (bs.map tS) ∧ bs.length ≤ 1000 ∧ (∀ b ∈ bs, b ≠ []) ∧ Q (.lst ((bs.mergeSort tLe).map tS)) S
end L3
end
section
set_option Elab.async false
set_option linter.all false
set_option maxRecDepth 100000
set_option maxHeartbeats 2000000
namespace L3
open PySem PySem.Spec PyProof.Rows L2
def addP (t : SetTable) (x : Value) : SetTable := if t.plain = true then (if plainKind x = true then t else { t with plain := false }) else t
def addL (L : Array (Int × Value) × SetTable × Bool × Bool) (x : Value) : Array (Int × Value) × SetTable :=
  if (!L.2.2.1 && (addP L.2.1 x).tooFull) = true then ((relayAll (addP L.2.1 x) L.1 (SetTable.grown L.1.size)).1, (relayAll (addP L.2.1 x) L.1 (SetTable.grown L.1.size)).2.1) else (L.1, addP L.2.1 x)
def addT (es : Array (Int × Value)) (t : SetTable) (h : Int) (x : Value) : Array (Int × Value) × SetTable := addL (layNew t es h x) x
structure Tb (w : World) (es : Array (Int × Value)) (t : SetTable) : Prop where
  fits : t.fits es.size = true
  ris : Ris t.place.toList
  led : w.params.followText "set-order" = true ∨ t.led = true
theorem addP_place (t : SetTable) (x : Value) : (addP t x).place = t.place ∧ (addP t x).led = t.led := by
  unfold addP
  split
  · split <;> exact ⟨rfl, rfl⟩
  · exact ⟨rfl, rfl⟩
theorem addP_fits {t : SetTable} {n : Nat} {x : Value} (h : t.fits n = true) : (addP t x).fits n = true := by
  unfold addP
  split
  · split
    · exact h
    · exact SetTable.fits_plain_off h
  · exact h
theorem Tb.add {w : World} {es : Array (Int × Value)} {t : SetTable} (h : Int) (x : Value) (T : Tb w es t) : Tb w (addT es t h x).1 (addT es t h x).2 ∧ (addT es t h x).1.toList.Perm (es.toList ++ [(h, x)]) := by
  have hp := layNew_perm t es h x
  rw [Array.toList_push] at hp
  have hf := layNew_fits t es h x
  have hr := layNew_ris t es h x T.ris
  have hl := layNew_led t es h x
  unfold addT
  generalize layNew t es h x = L at hp hf hr hl ⊢
  obtain ⟨es1, t1, wd, gv⟩ := L
  obtain ⟨p1, p2⟩ := addP_place t1 x
  have lay : Tb w es1 (addP t1 x) := ⟨addP_fits hf, by rw [p1]; exact hr, T.led.imp id fun e => by rw [p2, hl]; exact e⟩
  unfold addL
  dsimp only
  generalize addP t1 x = t2 at lay ⊢
  split
  · exact ⟨⟨relayAll_fits t2 es1 _, relayAll_ris t2 es1 _, lay.led.imp id fun e => by rw [relayAll_led]; exact e⟩, (relayAll_perm t2 es1 _).trans hp⟩
  · exact ⟨lay, hp⟩
section
variable {P : Program} {w : World} {A : Around} {E : Value → Shared → Prop} {s : Shared} {K : Type} [DecidableEq K] {knd : KeyKind P w K}
theorem set_add_new {a : Addr} {o : Obj} {es : Array (Int × Value)} {ep : Nat} {t : SetTable} {k : K} {x : Value} {Q : Bool → Shared → Prop} (hkey : knd.is k x = true) (hsc : x.scannable = true) (ho : s.heap.get? a = some o) (hd : o.data = .set es ep t) (hel : ElemsOf knd es.toList)
    (hb : es.size + 1 < scanBound) (hf : t.fits es.size = true) (hno : ∀ e ∈ es.toList, knd.is k e.2 = false)
    (h : ∀ h' ep', Heap.SameBut a s.heap h' → h'.get? a = some { o with data := .set (addT es t (knd.hash k) x).1 ep' (addT es t (knd.hash k) x).2 } → Q true { s with heap := h' }) :
    wpAny (model P w) A (setAddHashed a x (knd.hash k)) Q E s := by
  have gave : ∀ (b : Bool) (s1 : Shared) (Q' : Unit → Shared → Prop), Q' () s1 → wpAny (model P w) A (match b with | true => rule "set.scan.the-table-gave-way" | false => pure ()) Q' E s1 := fun b s1 Q' q => by
    cases b
    · exact wpAny_pure q
    · exact wpAny_rule q
  have none_ : List.findIdx? (fun e => knd.is k e.2) es.toList = none := List.findIdx?_eq_none_iff.mpr hno
  have hp := layNew_perm t es (knd.hash k) x
  have hfit := layNew_fits t es (knd.hash k) x
  unfold addT at h
  unfold setAddHashed setAddHashedIn
  refine wpAny_holding (wpAny_bind (wpAny_setState_of ho hd hf ?_))
  dsimp only
  rw [byScan_of hsc (Nat.lt_of_succ_lt hb) hel]
  simp only [↓reduceIte]
  unfold setAddByScan
  refine wpAny_bind ?_
  refine wpAny_bind (wpAny_rule ?_)
  refine wpAny_bind (wpAny_setScan_of hkey ho hd hf hel ?_)
  rw [none_]
  dsimp only
  generalize layNew t es (knd.hash k) x = L at hp hfit h ⊢
  obtain ⟨es1, t1, wd, gv⟩ := L
  dsimp only at hp hfit h ⊢
  have len1 : es1.size = es.size + 1 := by
    have := hp.length_eq
    rw [Array.toList_push, List.length_append] at this
    simpa using this
  refine wpAny_bind (gave _ _ _ ?_)
  -- what is stored, and stored again where the table has become too full
  have tail : ∀ (t2 : SetTable), t2 = addP t1 x → wpAny (model P w) A (do
        storeSet a es1 t2
        if (!wd && t2.tooFull) = true then do
            (match (relayAll t2 es1 (SetTable.grown es1.size)).2.2 with | true => rule "set.scan.the-table-gave-way" | false => pure ())
            storeSet a (relayAll t2 es1 (SetTable.grown es1.size)).1 (relayAll t2 es1 (SetTable.grown es1.size)).2.1
            pure (some true)
          else pure (some true)) (fun r s' => r = some true ∧ Q true s') E s := by
    intro t2 e2
    unfold addL at h
    dsimp only at h
    rw [← e2] at h
    have fit2 : t2.fits es1.size = true := by rw [e2]; exact addP_fits hfit
    have e1 := store_at (es' := es1) (t' := t2) ho hd
    have b1 := Heap.SameBut.update s.heap a (Obj.putSet es1 t2)
    refine wpAny_bind (wpAny_storeSet_of ho hd ?_ (fits_of_scanBound (by rw [len1]; exact hb)))
    by_cases c : (!wd && t2.tooFull) = true
    · rw [if_pos c] at h ⊢
      have rp := relayAll_perm t2 es1 (SetTable.grown es1.size)
      generalize relayAll t2 es1 (SetTable.grown es1.size) = R at rp h ⊢
      obtain ⟨es2, t3, g2⟩ := R
      dsimp only at rp h ⊢
      have len2 : es2.size = es1.size := by
        have := rp.length_eq
        simpa using this
      refine wpAny_bind (gave _ _ _ ?_)
      refine wpAny_bind (wpAny_storeSet_of (s := { s with heap := s.heap.update a (Obj.putSet es1 t2) }) e1 rfl ?_ (fits_of_scanBound (by rw [len2, len1]; exact hb)))
      exact wpAny_pure ⟨rfl, h _ _ (b1.trans (Heap.SameBut.update _ a _)) (store_at (o := { o with data := .set es1 (ep + 1) t2 }) e1 rfl)⟩
    · rw [if_neg c] at h ⊢
      exact wpAny_pure ⟨rfl, h _ _ b1 e1⟩
  have fin : ∀ t2, t2 = addP t1 x → wpAny (model P w) A (do
        storeSet a es1 t2
        if (!wd && t2.tooFull) = true then do
            (match (relayAll t2 es1 (SetTable.grown es1.size)).2.2 with | true => rule "set.scan.the-table-gave-way" | false => pure ())
            storeSet a (relayAll t2 es1 (SetTable.grown es1.size)).1 (relayAll t2 es1 (SetTable.grown es1.size)).2.1
            pure (some true)
          else pure (some true)) (fun r s' => wpAny (model P w) A (match r with
        | some added => pure added
        | none => setAddHashedIn a x (knd.hash k) 99999) Q E s') E s := fun t2 e => wpAny_mono (tail t2 e) (fun r s' ⟨er, q⟩ => by subst er; exact wpAny_pure q) fun _ _ e => e
  by_cases c : t1.plain = true
  · rw [if_pos c]
    refine wpAny_bind ?_
    rw [hashByValue_scannable 8 hsc]
    refine wpAny_pure ?_
    refine fin _ ?_
    unfold addP
    rw [if_pos c]
  · rw [if_neg c]
    refine wpAny_bind (wpAny_pure ?_)
    refine fin _ ?_
    unfold addP
    rw [if_neg c]; rfl
theorem set_add_old {a : Addr} {o : Obj} {es : Array (Int × Value)} {ep : Nat} {t : SetTable} {k : K} {x : Value} {Q : Bool → Shared → Prop} (hkey : knd.is k x = true) (hsc : x.scannable = true) (ho : s.heap.get? a = some o) (hd : o.data = .set es ep t) (hel : ElemsOf knd es.toList)
    (hb : es.size + 1 < scanBound) (hf : t.fits es.size = true) (hin : ∃ e ∈ es.toList, knd.is k e.2 = true) (h : Q false s) : wpAny (model P w) A (setAddHashed a x (knd.hash k)) Q E s := by
  unfold setAddHashed setAddHashedIn
  refine wpAny_holding (wpAny_bind (wpAny_setState_of ho hd hf ?_))
  dsimp only
  rw [byScan_of hsc (Nat.lt_of_succ_lt hb) hel]
  simp only [↓reduceIte]
  unfold setAddByScan
  refine wpAny_bind ?_
  refine wpAny_bind (wpAny_rule ?_)
  refine wpAny_bind (wpAny_setScan_of hkey ho hd hf hel ?_)
  cases hr : List.findIdx? (fun e => knd.is k e.2) es.toList with
  | some j => exact wpAny_pure (wpAny_pure h)
  | none =>
    obtain ⟨e, he, q⟩ := hin
    have := List.findIdx?_eq_none_iff.mp hr e he
    rw [q] at this; cases this
end
def keyS (e : Int × Value) : Str := match e.2 with
  | .str k _ => k
  | _ => ""
def addK (ks : List Str) (k : Str) : List Str := if k ∈ ks then ks else ks ++ [k]
def TxtS (P : Program) (w : World) (h : Heap) (a : Addr) (ks : List Str) : Prop :=
  ∃ o es ep t, h.get? a = some o ∧ o.ExactSet ∧ o.data = .set es ep t ∧ ElemsOf (strKind P w) es.toList ∧ (es.toList.map keyS).Perm ks ∧ Tb w es t
section
variable {P : Program} {w : World} {A : Around} {E : Value → Shared → Prop} {s : Shared}
theorem keyS_is {es : List (Int × Value)} (h : ElemsOf (strKind P w) es) {e : Int × Value} (he : e ∈ es) (k : Str) : (strKind P w).is k e.2 = true ↔ keyS e = k := by
  obtain ⟨⟨k0, hk, _⟩, _⟩ := h e he
  obtain ⟨t, et⟩ := Value.isStrOf_shape hk
  have e0 : keyS e = k0 := by unfold keyS; rw [et]
  rw [e0]
  exact ⟨fun q => (strKind P w).inj _ _ _ hk q, fun q => by rw [← q]; exact hk⟩
theorem isStr_self (k : Str) (t : Tok) : (strKind P w).is k (.str k t) = true := by
  show Value.isStrOf k (.str k t) = true
  simp [Value.isStrOf]
theorem TxtS.at_ {h h' : Heap} {a : Addr} {ks : List Str} (x : TxtS P w h a ks) (k : ∀ o, h.get? a = some o → h'.get? a = some o) : TxtS P w h' a ks := let ⟨o, es, ep, t, ho, r⟩ := x; ⟨o, es, ep, t, k o ho, r⟩
theorem TxtS.put {a : Addr} {ks : List Str} {k : Str} {tk : Tok} {Q : Bool → Shared → Prop} (x : TxtS P w s.heap a ks) (hb : ks.length + 1 < scanBound)
    (h : ∀ b h', Heap.SameBut a s.heap h' → TxtS P w h' a (addK ks k) → Q b { s with heap := h', toks := s.toks + 1 }) : wpAny (model P w) A (setAdd a (.str k tk)) Q E s := by
  obtain ⟨o, es, ep, t, ho, hex, hd, hel, hp, T⟩ := x
  have len : es.size = ks.length := by have := hp.length_eq; simpa using this
  unfold setAdd
  refine wpAny_holding (wpAny_bind ((strKind P w).pyHash (k := k) (isStr_self k tk) ?_))
  by_cases hk : k ∈ ks
  · obtain ⟨e, he, ee⟩ := List.mem_map.mp (hp.mem_iff.mpr hk)
    refine set_add_old (s := { s with toks := s.toks + 1 }) (knd := strKind P w) (isStr_self k tk) rfl ho hd hel (by rw [len]; exact hb) T.fits ⟨e, he, (keyS_is hel he k).mpr ee⟩ ?_
    exact h false s.heap (Heap.SameBut.refl a s.heap) ⟨o, es, ep, t, ho, hex, hd, hel, by unfold addK; rw [if_pos hk]; exact hp, T⟩
  · refine set_add_new (s := { s with toks := s.toks + 1 }) (knd := strKind P w) (isStr_self k tk) rfl ho hd hel (by rw [len]; exact hb) T.fits (fun e he => ?_) fun h' ep' sb e1 => ?_
    · cases q : (strKind P w).is k e.2 with
      | false => rfl
      | true => exact absurd (hp.mem_iff.mp (List.mem_map.mpr ⟨e, he, (keyS_is hel he k).mp q⟩)) hk
    · obtain ⟨T2, p2⟩ := T.add ((strKind P w).hash k) (.str k tk)
      refine h true h' sb ⟨_, _, ep', _, e1, ⟨hex.1, hex.2.1, hex.2.2⟩, rfl, (hel.push (isStr_self k tk) rfl).perm p2, ?_, T2⟩
      unfold addK
      rw [if_neg hk]
      refine (p2.map keyS).trans ?_
      rw [List.map_append]
      exact hp.append_right _
def foldK (acc ks : List Str) : List Str := ks.foldl addK acc
theorem addK_len (ks : List Str) (k : Str) : (addK ks k).length ≤ ks.length + 1 := by
  unfold addK
  split <;> simp
theorem addK_len0 (ks : List Str) (k : Str) : ks.length ≤ (addK ks k).length := by
  unfold addK
  split <;> simp
theorem foldK_len0 : ∀ (ks acc : List Str), acc.length ≤ (foldK acc ks).length
  | [], _ => Nat.le_refl _
  | k :: ks, acc => Nat.le_trans (addK_len0 acc k) (foldK_len0 ks (addK acc k))
theorem upd_turns {h0 : Heap} {I S l : Addr} {vs : List Value} {ks : List Str} {R : Result → Shared → Prop} (hh : A.handled = none) (hI : h0.objs.size ≤ I) (hS : h0.objs.size ≤ S) (hIS : I ≠ S) (hl : h0.IsList l vs.toArray)
    (hv : Vals (ks.map V.str) vs) : ∀ (k i : Nat) (acc : List Str) (s : Shared), i + k = ks.length → (∀ b o, h0.get? b = some o → s.heap.get? b = some o) → s.heap.IsListIter I l i → TxtS P w s.heap S acc → (foldK acc (ks.drop i)).length + 1 < scanBound →
      (∀ h' tk, (∀ b o, h0.get? b = some o → h'.get? b = some o) → TxtS P w h' S (foldK acc (ks.drop i)) → R (.ok (.ret .none)) { s with heap := h', toks := tk }) →
      codeAny (model P w) A (.builtin "set.update.loop" ⟨[.ref S, .ref I], []⟩) R s := by
  have lt0 : ∀ {b : Addr} {o : Obj}, h0.get? b = some o → b ≠ I ∧ b ≠ S := fun e => ⟨Nat.ne_of_lt (Nat.lt_of_lt_of_le (Heap.lt_size e) hI), Nat.ne_of_lt (Nat.lt_of_lt_of_le (Heap.lt_size e) hS)⟩
  have hlen : ks.length = vs.length := by have := hv.length; simpa using this
  intro k
  induction k with
  | zero =>
    intro i acc s hi old it st _ hR
    obtain ⟨ol, hl0, hlr⟩ := hl
    refine codeAny_builtin PyProof.Rows.F.entry_set_update_loop ?_
    rw [Around.under_plainId PyProof.Rows.F.plain_set_update_loop _]
    show wpAny _ A.in1 (pyNext (.ref I) >>= _) _ _ s
    refine wpAny_bind (wpAny_pyNext_list_end hh it ⟨ol, old _ _ hl0, hlr⟩ (by rw [List.getElem?_toArray]; exact List.getElem?_eq_none (by omega)) fun h1 k1 => ?_)
    show wpAny _ A.in1 (ret Value.none) _ _ _
    refine wpAny_pure (hR h1 s.toks (fun b o e => k1 b o (lt0 e).1 (old b o e)) ?_)
    rw [List.drop_of_length_le (by omega)]
    exact st.at_ fun o e => k1 _ _ hIS.symm e
  | succ k ih =>
    intro i acc s hi old it st hb hR
    obtain ⟨ol, hl0, hlr⟩ := id hl
    have hlt : i < ks.length := by omega
    have hb' : (foldK (addK acc ks[i]) (ks.drop (i + 1))).length + 1 < scanBound := by rw [List.drop_eq_getElem_cons hlt] at hb; exact hb
    have hb0 : acc.length + 1 < scanBound := by have := foldK_len0 (ks.drop i) acc; omega
    obtain ⟨v, ev, tk, rv⟩ := hv.get (show (ks.map V.str)[i]? = some (V.str ks[i]) by rw [List.getElem?_map, List.getElem?_eq_getElem hlt]; rfl)
    refine codeAny_builtin PyProof.Rows.F.entry_set_update_loop ?_
    rw [Around.under_plainId PyProof.Rows.F.plain_set_update_loop _]
    show wpAny _ A.in1 (pyNext (.ref I) >>= _) _ _ s
    refine wpAny_bind (wpAny_pyNext_list_item (x := v) it ⟨ol, old _ _ hl0, hlr⟩ (by rw [List.getElem?_toArray]; exact ev) fun h1 it1 k1 => ?_)
    subst rv
    have S1 : TxtS P w h1 S acc := st.at_ fun o e => k1.extBut _ _ hIS.symm e
    show wpAny _ A.in1 (holding [Value.str ks[i] tk] (setAdd S (.str ks[i] tk)) >>= _) _ _ _
    refine wpAny_bind (wpAny_holding (S1.put (s := { s with heap := h1 }) hb0 fun b h2 sb S2 => ?_))
    refine wpAny_pure ⟨plainId_quiet PyProof.Rows.F.plain_set_update_loop _, ih (i + 1) (addK acc ks[i]) _ (by omega) (fun b o e => sb.extBut _ _ (lt0 e).2 (k1.extBut _ _ (lt0 e).1 (old b o e))) ?_ S2 hb' fun h' tk' o' t' => ?_⟩
    · obtain ⟨o, e, q⟩ := it1
      exact ⟨o, sb.extBut _ _ hIS e, q⟩
    · refine hR h' tk' o' ?_
      rw [List.drop_eq_getElem_cons hlt]
      exact t'
theorem fresh_txt {h : Heap} (w : World) : TxtS P w (h.push { cls := .type "set", dict := none, data := .set #[] 0 (.fresh 0 0 (!w.params.followText "set-order")) }) h.objs.size [] :=
  ⟨_, #[], 0, _, Heap.get?_push_size _ rfl, ⟨rfl, rfl, rfl⟩, rfl, fun e he => by simp at he, .nil, rfl, List.Pairwise.nil, by
    show _ ∨ (!w.params.followText "set-order") = true
    cases w.params.followText "set-order"
    · exact .inr rfl
    · exact .inl rfl⟩
theorem new_led (x : Value) {Q : Value → Shared → Prop} (h : Q (.ref s.heap.objs.size) { s with heap := s.heap.push { cls := .type "set", dict := none, data := .set #[] 0 (.fresh 0 0 (!w.params.followText "set-order")) } }) :
    codeAny (model P w) A (.call (.builtin "set.__new__") ⟨[.type "set", x], []⟩) (wants Q E) s := by
  refine codeAny_of_tree ?_
  show wpAny _ A.in1 (checkBuiltinCall "set.__new__" ⟨[.type "set", x], []⟩ >>= fun _ => again (.builtin "set.__new__" ⟨[.type "set", x], []⟩)) _ _ s
  refine wpAny_bind (wpAny_of_eq (PySem.F.newCall_set_1 x) (wpAny_pure ⟨plainId_quiet PySem.F.plain_set_new _, codeAny_builtin PySem.F.entry_set_new ?_⟩))
  rw [Around.under_plainId PySem.F.plain_set_new _]
  unfold Builtin.«set.__new__» Builtin.Frozenset.newClass
  have sub := sub_set_self
  obtain ⟨hp, g, d, tk, os⟩ := s
  dsimp only
  wp_walk
  refine wpAny_askSetting (wpAny_pure ?_)
  simp only [newObj]
  exact wpAny_bind (wpAny_alloc (wpAny_pure (wpAny_pure h)))
abbrev setObj (w : World) : Obj := { cls := .type "set", dict := none, data := .set #[] 0 (.fresh 0 0 (!w.params.followText "set-order")) }
theorem init_txt {l : Addr} {vs : List Value} {ks : List Str} {Q : Value → Shared → Prop} (hh : A.handled = none) (hl : s.heap.IsList l vs.toArray) (hv : Vals (ks.map V.str) vs) (hb : (foldK [] ks).length + 1 < scanBound)
    (h : ∀ h' tk, (∀ b o, s.heap.get? b = some o → h'.get? b = some o) → TxtS P w h' s.heap.objs.size (foldK [] ks) → Q .none { s with heap := h', toks := tk }) :
    wpAny (model P w) A (Builtin.«set.__init__» ⟨[.ref s.heap.objs.size, .ref l], []⟩) (fun fin s' => ∃ v, fin = .done (.ret v) ∧ Q v s') E { s with heap := s.heap.push (setObj w) } := by
  have hS : (s.heap.push (setObj w)).get? s.heap.objs.size = some (setObj w) := Heap.get?_push_size _ rfl
  have hT : Shared.TypeIs { s with heap := s.heap.push (setObj w) } (.ref s.heap.objs.size) "set" := ⟨_, hS, rfl⟩
  obtain ⟨⟨c, d, x, sl⟩, hol, rfl, n, rfl⟩ := id hl
  have hol' : (s.heap.push (setObj w)).get? l = some { cls := .type "list", dict := d, data := .seq vs.toArray n, slots := sl } := Heap.get?_push_of_some _ hol
  have f1 := PySem.F.sub_list_set
  have f2 := PySem.F.sub_list_frozenset
  have f3 : (Value.type "list" == Value.type "dict") = false := by decide
  have hl1 : (s.heap.push (setObj w)).IsList l vs.toArray := ⟨_, hol', rfl, n, rfl⟩
  unfold Builtin.«set.__init__» noKeywords Builtin.Frozenset.updateFrom
  generalize hPI : pyIter = PI
  wp_walk
  subst hPI
  refine wpAny_pyIter_list hl1 ?_
  have z1 : (s.heap.push (setObj w)).objs.size = s.heap.objs.size + 1 := Heap.size_push ..
  refine wpAny_bind (wpAny_runValue (upd_turns (h0 := s.heap) (I := (s.heap.push (setObj w)).objs.size) (S := s.heap.objs.size) (by simp [hh]) (by rw [z1]; exact Nat.le_succ _) (Nat.le_refl _) (by rw [z1]; exact Nat.ne_of_gt (Nat.lt_succ_self _)) hl hv ks.length 0 [] _ (by omega) (fun b o e => Heap.get?_push_of_some _ (Heap.get?_push_of_some _ e))
    ⟨_, Heap.get?_push_size _ rfl, rfl, rfl⟩ ((fresh_txt w).at_ fun o e => Heap.get?_push_of_some _ e) (by simpa using hb) fun h' tk k1 t1 => ?_))
  refine wpAny_pure ?_
  show wpAny _ _ (ret Value.none) _ _ _
  exact wpAny_pure ⟨_, rfl, h h' tk k1 t1⟩
theorem set_of_list {l : Addr} {vs : List Value} {ks : List Str} {Q : Value → Shared → Prop} (hh : A.handled = none) (hl : s.heap.IsList l vs.toArray) (hv : Vals (ks.map V.str) vs) (hb : (foldK [] ks).length + 1 < scanBound)
    (h : ∀ h' tk, (∀ b o, s.heap.get? b = some o → h'.get? b = some o) → TxtS P w h' s.heap.objs.size (foldK [] ks) → Q (.ref s.heap.objs.size) { s with heap := h', toks := tk }) :
    wpAny (model P w) A (call (.type "set") [.ref l]) Q E s := by
  have ft := PySem.F.called_set
  obtain ⟨c, tl, hmro⟩ := ft.mro
  have g1 := ft.made
  have g2 := ft.sub
  have g3 := ft.notType
  have g4 := ft.canCreate
  have g5 := PySem.F.typeCall_set_1 (.ref l)
  refine wpAny_call (codeAny_of_tree (show wpAny _ _ (callAny (.type "set") _) _ _ _ from wpAny_pure ⟨Code.quiet_builtin _ (by decide +kernel), codeAny_builtin PySem.F.entry_type_call ?_⟩))
  rw [Around.under_plain (weight_type_call_type "set" [.ref l] []) rfl]
  repeat (any_goals (first | assumption | wp_step))
  refine codeAny_mono (new_led (.ref l) (E := E) (Q := fun v s1 => v = .ref s.heap.objs.size ∧ s1 = { s with heap := s.heap.push (setObj w) }) ⟨rfl, rfl⟩) fun r s1 hr => ?_
  match r, hr with
  | .error e, hr => exact hr
  | .ok (.ret v), hr =>
    obtain ⟨rfl, rfl⟩ := hr
    have ty : Shared.TypeIs { s with heap := s.heap.push (setObj w) } (.ref s.heap.objs.size) "set" := ⟨_, Heap.get?_push_size _ rfl, rfl⟩
    have g6 := ft.init.lookup
    have g7 := ft.init.bind (.ref s.heap.objs.size)
    repeat (any_goals (first | assumption | wp_step))
    refine codeAny_mono (codeAny_call_builtin (R := wants (fun v s2 => v = .none ∧ Q (.ref s.heap.objs.size) s2) E) ft.init.plain PySem.F.entry_set_init (check_set_init_1 ty ?_)) fun r2 s2 hr2 => ?_
    · refine wpAny_mono (init_txt (A := _) (E := _) (by simpa using hh) hl hv hb (Q := fun v s2 => v = .none ∧ Q (.ref s.heap.objs.size) s2) fun h' tk k t => ⟨rfl, h h' tk k t⟩) (fun fin s2 hf => ?_) fun _ _ e => e
      obtain ⟨v, rfl, q⟩ := hf
      exact q
    · match r2, hr2 with
      | .error e, hr2 => exact hr2
      | .ok (.ret v), hr2 =>
        obtain ⟨rfl, q⟩ := hr2
        repeat (any_goals (first | assumption | wp_step))
      | .ok .next, hr2 => exact hr2.elim
      | .ok .brk, hr2 => exact hr2.elim
      | .ok .cont, hr2 => exact hr2.elim
  | .ok .next, hr => exact hr.elim
  | .ok .brk, hr => exact hr.elim
  | .ok .cont, hr => exact hr.elim
end
theorem foldK_mem : ∀ (ks acc : List Str) (x : Str), x ∈ foldK acc ks ↔ x ∈ acc ∨ x ∈ ks
  | [], acc, x => by simp [foldK]
  | k :: ks, acc, x => by
    show x ∈ foldK (addK acc k) ks ↔ _
    rw [foldK_mem ks]
    unfold addK
    split
    · rename_i h
      rw [List.mem_cons]
      exact ⟨fun q => q.imp id .inr, fun q => q.elim .inl fun q => q.elim (fun e => .inl (e ▸ h)) .inr⟩
    · rw [List.mem_append, List.mem_singleton, List.mem_cons, or_assoc]
theorem foldK_nd : ∀ (ks acc : List Str), acc.Nodup → (foldK acc ks).Nodup
  | [], acc, h => h
  | k :: ks, acc, h => by
    refine foldK_nd ks _ ?_
    unfold addK
    split
    · exact h
    · rename_i hk
      exact List.nodup_append.mpr ⟨h, by simp, fun a ha b hb e => hk (by rw [List.mem_singleton.mp hb] at e; exact e ▸ ha)⟩
theorem foldK_len : ∀ (ks acc : List Str), (foldK acc ks).length ≤ acc.length + ks.length
  | [], acc => Nat.le_refl _
  | k :: ks, acc => by
    have h1 := foldK_len ks (addK acc k)
    have h2 := addK_len acc k
    show (foldK (addK acc k) ks).length ≤ _
    rw [List.length_cons]; omega
def dSortSet (d : DE) : DE := fun ρ S Q => d ρ S fun v S1 => ∃ xs : List Str, lstD S1 v = some (xs.map .str) ∧ xs.length < 1000 ∧ ∀ (ys : List Str) (l : Nat), (∀ x, x ∈ ys ↔ x ∈ xs) → ys.Nodup → sortedS ys = true → S1 l = none → Q (.ref l) (S1.set l (.lst (ys.map .str)))
def dSortSetF (d : DE) : DE := fun ρ S Q => d ρ S fun v S1 => ∃ xs : List Str, lstD S1 v = some (xs.map .str) ∧ xs.length < 1000 ∧ ∀ ys : List Str, (∀ x, x ∈ ys ↔ x ∈ xs) → ys.Nodup → sortedS ys = true → Q (.lst (ys.map .str)) S1
def dSortSetBF (d : DE) : DE := fun ρ S Q => d ρ S fun v S1 => ∃ xs : List Str, lstD S1 v = some (xs.map .str) ∧ (xs.length < 1000000 ∧ (foldK [] xs).length < 4000) ∧ ∀ ys : List Str, (∀ x, x ∈ ys ↔ x ∈ xs) → ys.Nodup → sortedS ys = true → Q (.lst (ys.map .str)) S1
section
variable {M : Md} {X : Cx} {e : Expr} {d : DE} {p p2 pos pos2 : Pos}
end
end L3
end
section
set_option Elab.async false
set_option linter.all false
set_option maxRecDepth 100000
namespace L3
open PySem PySem.Spec PyProof.Rows L2 PySem.W
section
variable {M : Md} {X : Cx} {pos : Pos}
def gdLst (n : Nat) (t : DGs) : DG := fun v ρ S Q => ∃ ds, v = .lst ds ∧ ds.length = n ∧ t ds ρ S Q
end
end L3
end
section
set_option Elab.async false
set_option linter.all false
set_option maxRecDepth 100000
set_option maxHeartbeats 2000000
namespace L3
open PySem PySem.Spec PyProof.Rows L2
section
variable {M : Md} {X : Cx} {pos : Pos}
def oNegI : DR1 := fun v S Q => ∃ i, v = .int i ∧ Q (.int (-i)) S
theorem sim_neg : Sim1 M (rU fun i => .int (-i)) oNegI := fun io H S x v Qd Q r dv ⟨i, e, q⟩ c => by
  subst e
  exact ⟨i, dv, c.here r (v := .int (-i)) rfl q⟩
def dRevL (d : DE) : DE := fun ρ S Q => d ρ S fun v S1 => ∃ ds, lstD S1 v = some ds ∧ ∀ l, S1 l = none → Q (.ref l) (S1.set l (.lst ds.reverse))
def dRevLF (d : DE) : DE := fun ρ S Q => d ρ S fun v S1 => ∃ ds, lstD S1 v = some ds ∧ Q (.lst ds.reverse) S1
end
def dFrzA (d : DE) : DE := fun ρ S Q => d ρ S fun v S' => (∃ l o w, v = .ref l ∧ S' l = some o ∧ frzO o = some w ∧ Q w (S'.del l)) ∨ Q v S'
section
variable {prog : Program} {w : World} {A : Around} {E : Value → Shared → Prop} {s : Shared}
end
def gdAll (d : DE) : DG := fun v ρ S Q => d ρ S fun o S2 => ∃ l m es ds, o = .ref l ∧ S2 l = some (.lst es) ∧ ((v = .ref m ∧ m ≠ l ∧ S2 m = some (.lst ds)) ∨ v = .lst ds) ∧ es.length + ds.length ≤ sizeLine ∧ Q ρ (S2.set l (.lst ds))
section
variable {M : Md} {X : Cx} {pos : Pos}
end
end L3
end
section
set_option Elab.async false
set_option linter.all false
set_option maxRecDepth 100000
set_option maxHeartbeats 2000000
namespace L3
open PySem PySem.Spec PyProof.Rows L2
def Keeps (σ τ : L2.St) : Prop := τ.length = σ.length ∧ ∀ (j : Nat) v, σ[j]? = some (some v) → τ[j]? = some (some v)
theorem Keeps.refl (σ : L2.St) : Keeps σ σ := ⟨rfl, fun _ _ e => e⟩
theorem Keeps.trans {a b c : L2.St} (h : Keeps a b) (k : Keeps b c) : Keeps a c := ⟨k.1.trans h.1, fun j v e => k.2 j v (h.2 j v e)⟩
section
variable {P : Program} {w : World} {A : Around} {kx vx t0 i0 t1 i1 : Expr} {ifs0 ifs1 : List Expr} {scope : Scope} {pos : Pos} {D : Addr} {env : Env} {it : Value}
end
section
variable {X : Cx} {kx vx tg iter tg1 iter1 : Expr} {ifs ifs1 : List Expr} {scope : Scope} {own : List (Str × Nat)} {vs1 : List Nat} {pos : Pos} {wi wi1 : TI} {g g1 : TG} {tt tt1 : TT} {tk tv : TE}
end
end L3
end
section
set_option Elab.async false
set_option linter.all false
set_option maxRecDepth 100000
set_option maxHeartbeats 2000000
namespace L3
open PySem PySem.Spec PyProof.Rows L2
def dic2W (gs : Gs) (t : Tg) (tt : DT) (di1 : DI) (t1 : Tg) (tt1 : DT) (tk tv : DE) (vs1 : List Nat) (ρ : En) (Q : List Key → List D → Sto → Prop) : List D → List Key → List D → Sto → Prop
  | [], ks, es, S => gs.ok S ∧ Q ks es S
  | d :: ds, ks, es, S => gs.ok S ∧ ∀ l o, S l = none → t.d d ρ fun ρ1 => tt ρ1 (S.set l o) fun b S2 =>
      if b = true then di1 ρ1 S2 fun ds1 gs1 S3 => S3 l = some o ∧ ∃ S4, S4.sub (S3.del l) ∧ dicW gs1 t1 tt1 tk tv (wipeD ρ1 vs1) (fun ks' es' S5 => ∃ S6, S6.sub S5 ∧ dic2W gs t tt di1 t1 tt1 tk tv vs1 ρ Q ds ks' es' S6) ds1 ks es S4
      else S2 l = some o ∧ ∃ S4, S4.sub (S2.del l) ∧ dic2W gs t tt di1 t1 tt1 tk tv vs1 ρ Q ds ks es S4
def dDc2 (di : DI) (t : Tg) (tt : DT) (di1 : DI) (t1 : Tg) (tt1 : DT) (tk tv : DE) (vs vs1 : List Nat) : DE := fun ρ S Q => di ρ S fun ds gs S1 =>
  dic2W gs t tt di1 t1 tt1 tk tv vs1 (wipeD ρ vs) (fun ks es S2 => ∀ l, S2 l = none → Q (.ref l) (S2.set l (.dic ks es))) ds [] [] S1
section
variable {M : Md} {di di1 : DI} {t t1 : Tg} {tt tt1 : DT} {tk tv : DE} {vs vs1 : List Nat} {K : PySem.W.Frag}
end
section
variable {M : Md} {X : Cx} {kx vx tg iter tg1 iter1 : Expr} {ifs ifs1 : List Expr} {scope : Scope} {own : List (Str × Nat)} {vs1 : List Nat} {pos : Pos} {di di1 : DI} {t t1 : Tg} {tt tt1 : DT} {tk tv : DE}
end
end L3
end
section
set_option Elab.async false
set_option linter.all false
set_option maxRecDepth 100000
set_option maxHeartbeats 2000000
namespace L3
open PySem PySem.Spec PyProof.Rows L2
section
variable {M : Md} {X : Cx} {pos : Pos}
def dWkA (d : DE) : DE := fun ρ S Q => d ρ S Q
def dTupK (t : DA) : DE := fun ρ S Q => t ρ S fun ds S1 => ds.length ≤ sizeLine ∧ Q (.kt ds) S1
def dTupL (d : DE) : DE := fun ρ S Q => d ρ S fun v S1 => ∃ es, lstD S1 v = some es ∧ (Q (.tup es) S1 ∨ Q (.kt es) S1)
end
section
variable {M : Md} {X : Cx} {o e : Expr} {d de : DE} {apos cpos : Pos}
def dTupIx (d de : DE) : DE := fun ρ S Q => d ρ S fun v S1 => ∃ ys : List Str, v = .kt (ys.map .str) ∧ de ρ S1 fun w S2 => ∃ z j, w = .str z ∧ ys[j]? = some z ∧ (∀ m, m < j → ys[m]? ≠ some z) ∧ Q (.int (j : Nat)) S2
end
section
variable {M : Md} {X : Cx} {pos : Pos}
def mergeKD (ps : List (Key × D)) : List Key × List D := ps.foldl (fun acc p => (putKs acc.1 p.1, putDs acc.1 acc.2 p.1 p.2)) ([], [])
def dDictP (d : DE) : DE := fun ρ S Q => d ρ S fun v S1 => ∃ ps : List (Key × D), v = .kt (ps.map fun p => .tup [kD p.1, p.2]) ∧ ps.length ≤ sizeLine ∧ ∀ l, S1 l = none → Q (.ref l) (S1.set l (.dic (mergeKD ps).1 (mergeKD ps).2))
end
end L3
end
section
set_option Elab.async false
set_option linter.all false
set_option maxRecDepth 100000
set_option maxHeartbeats 2000000
namespace L3
open PySem PySem.Spec PyProof.Rows L2
section
variable {P : Program} {w : World} {A : Around} {E : Value → Shared → Prop} {s : Shared} {K : Type} [DecidableEq K] {knd : KeyKind P w K}
end
section
variable {P : Program} {w : World} {A : Around} {E : Value → Shared → Prop} {s : Shared}
end
def dSortSetT (d : DE) : DE := fun ρ S Q => d ρ S fun v S1 => ∃ xs : List Str, v = .tup (xs.map .str) ∧ xs.length < 1000 ∧ ∀ (ys : List Str) (l : Nat), (∀ x, x ∈ ys ↔ x ∈ xs) → ys.Nodup → sortedS ys = true → S1 l = none → Q (.ref l) (S1.set l (.lst (ys.map .str)))
def dSortSetTF (d : DE) : DE := fun ρ S Q => d ρ S fun v S1 => ∃ xs : List Str, v = .tup (xs.map .str) ∧ xs.length < 1000 ∧ ∀ ys : List Str, (∀ x, x ∈ ys ↔ x ∈ xs) → ys.Nodup → sortedS ys = true → Q (.lst (ys.map .str)) S1
section
variable {M : Md} {X : Cx} {e : Expr} {d : DE} {p p2 pos pos2 : Pos}
end
end L3
end
section
set_option Elab.async false
set_option linter.all false
set_option maxRecDepth 100000
set_option maxHeartbeats 1000000
namespace L3
open PySem PySem.Spec PyProof.Rows L2
def oAddTK : DR2 := fun v w S Q => ∃ ds es, v = .kt ds ∧ w = .tup es ∧ ds ≠ [] ∧ ds.length + es.length ≤ sizeLine ∧ Q (.kt (ds ++ es)) S
end L3
end
section
set_option Elab.async false
set_option linter.all false
set_option maxRecDepth 100000
set_option maxHeartbeats 1000000
namespace HT
open PySem PySem.Spec PyProof.Rows
section
variable {prog : Program} {w : World} {A : Around} {E : Value → Shared → Prop} {s : Shared}
theorem places_rev (n : Nat) : Builtin.Slice.slicePlaces ((n : Int) - 1) (-1) (-1) = n := by
  unfold Builtin.Slice.slicePlaces
  have h1 : ¬ ((-1 : Int) > 0) := by omega
  simp only [h1, if_false]
  by_cases h : (n : Int) - 1 > -1
  · rw [if_pos h, show (- -1 : Int) = 1 by decide, Int.ediv_one]
    omega
  · rw [if_neg h]
    omega
theorem sliceApplied_rev {sl : Addr} {vl vu vs : Value} {n : Nat} {Q : Int × Int × Nat → Shared → Prop} (hs : s.heap.IsSliceOf sl vl vu vs) (pl : IsPart vl none) (pu : IsPart vu none) (ps : IsPart vs (some (-1)))
    (h : Q ((n : Int) - 1, -1, n) s) : wpAny (model prog w) A (Builtin.Slice.sliceApplied (.ref sl) (pure (n : Int))) Q E s := by
  obtain ⟨os, hos, hcs, hds⟩ := id hs
  unfold Builtin.Slice.sliceApplied Builtin.Slice.sliceFields
  refine wpAny_bind (wpAny_bind (wpAny_field hos hds (x := vl) rfl (wpAny_bind (wpAny_field hos hds (x := vu) rfl (wpAny_bind (wpAny_field hos hds (x := vs) rfl (wpAny_pure ?_)))))))
  refine wpAny_bind (slicePart_ ps ?_)
  show wpAny _ _ (if ((-1 : Int) == 0) = true then _ else _) _ _ s
  rw [if_neg (by decide)]
  refine wpAny_bind (slicePart_ pl (wpAny_bind (slicePart_ pu (wpAny_bind (wpAny_pure ?_)))))
  show wpAny _ _ (pure ((n : Int) - 1, (-1 : Int), Builtin.Slice.slicePlaces ((n : Int) - 1) (-1) (-1))) _ _ s
  rw [places_rev]
  exact wpAny_pure h
theorem fm_ext {α β : Type} {f g : α → Option β} : ∀ {l : List α}, (∀ x ∈ l, f x = g x) → l.filterMap f = l.filterMap g
  | [], _ => rfl
  | x :: l, h => by rw [List.filterMap_cons, List.filterMap_cons, h x List.mem_cons_self, fm_ext fun y hy => h y (List.mem_cons_of_mem _ hy)]
theorem pick_rev (xs : Array Value) : ((List.range xs.size).filterMap fun (k : Nat) => xs[((xs.size : Int) - 1 + (k : Int) * -1).toNat]?).toArray = xs.toList.reverse.toArray := by
  have e : (List.range xs.size).filterMap (fun (k : Nat) => xs[((xs.size : Int) - 1 + (k : Int) * -1).toNat]?) = ((List.range xs.size).map fun k => xs.size - 1 - k).filterMap (xs[·]?) := by
    rw [List.filterMap_map]
    refine fm_ext fun k hk => ?_
    have := List.mem_range.mp hk
    have e : ((xs.size : Int) - 1 + (k : Int) * -1).toNat = xs.size - 1 - k := by omega
    rw [e]
    rfl
  rw [e, PySem.W.krv_range, List.filterMap_reverse, PySem.W.krv_all]
theorem getItem_tuple_rev {t sl : Addr} {items : Array Value} {vl vu vs : Value} {Q : Value → Shared → Prop} (ht : IsTup s.heap t items) (hs : s.heap.IsSliceOf sl vl vu vs) (pl : IsPart vl none) (pu : IsPart vu none) (ps : IsPart vs (some (-1)))
    (h : Q (.ref s.heap.objs.size) { s with heap := s.heap.push { cls := .type "tuple", data := .seq items.toList.reverse.toArray } })
    (hsz : items.size ≤ sizeLine) : wpAny (model prog w) A (getItem (.ref t) (.ref sl)) Q E s := by
  have htake : sizeOk (.seq items.toList.reverse.toArray) := by
    show items.toList.reverse.toArray.size ≤ sizeLine
    rw [List.size_toArray, List.length_reverse, Array.length_toList]
    exact hsz
  obtain ⟨os, hos, hcs, hds⟩ := id hs
  have hTs : s.TypeIs (.ref sl) "slice" := ⟨os, hos, hcs⟩
  unfold getItem
  try with_reducible refine wpAny_holding ?_
  first | refine wpAny_bind (wpAny_pure ?_) | skip
  refine wpAny_bind (wpAny_sequenceKey ht.typeIs (by decide) ?_)
  refine wpAny_bind (wpAny_callSpecial?_slot (name := Str.ofString "__getitem__") ht.typeIs PyProof.Rows.slot_tuple_getitem
    (wpAny_call_entry PyProof.Rows.slot_tuple_getitem ht.typeIs entry_tuple_getitem ?_ (args_tuple_getitem _ _)))
  show wpAny _ _ (Builtin.Tuple.tupleItemsOf (.ref t) >>= _) _ _ s
  refine wpAny_bind (tupleItemsOf_ ht ?_)
  refine wpAny_bind (wpAny_typeOf hTs ?_)
  rw [if_pos (by decide)]
  refine wpAny_bind (sliceApplied_rev hs pl pu ps ?_)
  show wpAny _ _ (if (((items.size : Int) - 1) == 0 && (-1 : Int) == 1 && items.size == items.size) = true then _ else _) _ _ s
  rw [if_neg (by simp), pick_rev]
  first
    | exact wpAny_bind (m := Builtin.Tuple.tupleExact _) (wpAny_newObj_type (wpAny_pure ⟨_, rfl, wpAny_pure h⟩) htake)
    | exact wpAny_bind (m := Builtin.Tuple.tupleExact _) (wpAny_newObj_type (wpAny_bind (wpAny_pure (wpAny_pure ⟨_, rfl, wpAny_pure h⟩))) htake)
    | exact wpAny_bind (wpAny_bind (m := Builtin.Tuple.tupleExact _) (wpAny_newObj_type (wpAny_pure (wpAny_pure ⟨_, rfl, wpAny_pure h⟩)) htake))
    | exact wpAny_bind (wpAny_bind (m := Builtin.Tuple.tupleExact _) (wpAny_newObj_type (wpAny_pure ⟨_, rfl, wpAny_pure h⟩) htake))
end
end HT
namespace L3
open PySem PySem.Spec PyProof.Rows L2
def tRevT (K : PySem.W.Frag) (te : TE) : TE := fun σ H Q => te σ H fun x H1 => ∃ a xs, x = .ref a ∧ SqT K H1 a xs ∧ ∀ p, H1 p = none → Q (.ref p) (upd H1 p (.tup xs.reverse))
theorem pe_revT {X : Cx} {e : Expr} {te : TE} {k : Nat} {p1 p2 p3 pos : Pos} (he : PE X e te) : PE X (.Subscript e (.Slice none none (some (.UnaryOp .USub (.Constant (.int 1) k p1) p2)) p3) pos) (tRevT X.K te) := by
  refine ⟨fun pins s σ H Q I h => ?_⟩
  refine Subscript_ (thn (he.run pins s σ H _ I h) fun v s1 ⟨x, H1, I1, r1, q1⟩ => ?_)
  obtain ⟨a, xs, ex, hx, q⟩ := q1
  subst ex
  cases r1
  have hst : PO X (some (.UnaryOp .USub (.Constant (.int 1) k p1) p2)) (tPart (tUn (rU fun i => .int (-i)) (tC (.int 1)))) := po_some (pe_un un_neg pe_int)
  refine wpAny_Slice (thn (po_none.run pins s1 σ H1 (fun o H2 => o = none ∧ H2 = H1) I1 ⟨rfl, rfl⟩) fun vl s2 ⟨l, H2, I2, pl, el, e2⟩ => ?_)
  subst el e2
  refine thn (po_none.run pins s2 σ H2 (fun o H3 => o = none ∧ H3 = H2) I2 ⟨rfl, rfl⟩) fun vu s3 ⟨u, H3, I3, pu, eu, e3⟩ => ?_
  subst eu e3
  refine thn (hst.run pins s3 σ H3 (fun o H4 => o = some (-1) ∧ H4 = H3) I3 ⟨1, rfl, -1, rfl, rfl, rfl⟩) fun vs s4 ⟨o, H4, I4, ps, eo, e4⟩ => ?_
  subst eo e4
  have I5 : Inv X pins σ H4 { s4 with heap := s4.heap.push { cls := .type "slice", data := .fields #[vl, vu, vs] } } := I4.kept (t' := s4.toks) fun b ob q => Heap.get?_push_of_some _ q
  obtain ⟨its, r, ht, hz⟩ := I5.tuple hx
  have hlen := r.length
  show wpAny (model X.prog X.w) X.A (subscriptTail e (.Slice none none (some (.UnaryOp .USub (.Constant (.int 1) k p1) p2)) p3) (.ref a) (.ref s4.heap.objs.size)) (EP X pins σ Q) X.xe { s4 with heap := s4.heap.push { cls := .type "slice", data := .fields #[vl, vu, vs] } }
  refine tail_any (ops := [.ref a, .ref s4.heap.objs.size]) ht.typeIs (PyProof.Rows.slot_tuple_getitem.lookup) ?_ (by with_unfolding_all rfl)
  refine HT.getItem_tuple_rev ht (Heap.IsSliceOf.new _ vl vu vs) pl pu ps ?_ (by rw [List.size_toArray]; omega)
  refine ⟨.ref _, _, I5.laid (t' := s4.toks) (o := .tup xs.reverse) (fun b ob q => Heap.get?_push_of_some _ q) (Nat.le_refl _) ?_, rfl, q _ (I5.hok.fresh (Nat.le_refl _))⟩
  exact ⟨by rw [List.length_reverse]; exact hz, _, r.reverse, IsTup.new _ _⟩
def dRevT (d : DE) : DE := fun ρ S Q => d ρ S fun v S1 => ∃ ds, v = .tup ds ∧ ds.length ≤ sizeLine ∧ Q (.tup ds.reverse) S1
theorem q_revT {M : Md} {X : Cx} {pos : Pos} {e : Expr} {d : DE} {k : Nat} {p1 p2 p3 : Pos} (hM : M.K = X.K) (he : QE M X e d) : QE M X (.Subscript e (.Slice none none (some (.UnaryOp .USub (.Constant (.int 1) k p1) p2)) p3) pos) (dRevT d) :=
  PE.imp (pe_revT he) fun σ H Q ⟨io, S, ρ, Qd, r, re, h, c⟩ => ⟨io, S, ρ, _, r, re, h, fun i1 H1 S1 v x s1 r1 d1 ⟨ds, e, hz, q⟩ => by
    subst e
    obtain ⟨a, xs, rfl, sq, rr⟩ := d1
    rw [← hM]
    exact ⟨a, xs, rfl, SqT.of sq, fun p hp => new_tup r1 hp (by rw [List.length_reverse]; exact hz) rr.rev (c.to s1) q⟩⟩
end L3
end
section
set_option Elab.async false
set_option linter.all false
set_option maxRecDepth 100000
set_option maxHeartbeats 1000000
namespace L3
open PySem PySem.Spec PyProof.Rows L2
def dPar3 (i j k : Nat) (t : DA) : DS := fun E ρ S => t ρ S fun ds S1 => ∃ u v w, ds = [u, v, w] ∧ E.nx (((ρ.set i (some u)).set j (some v)).set k (some w)) S1
end L3
end
section
set_option Elab.async false
set_option linter.all false
set_option maxRecDepth 100000
set_option maxHeartbeats 1000000
namespace L3
open PySem PySem.Spec PyProof.Rows L2
def putZ {α : Type} (f : Str) (v : α) : List (Str × α) → List (Str × α)
  | [] => [(f, v)]
  | (g, x) :: r => if g = f then (g, v) :: r else (g, x) :: putZ f v r
def putFs {α : Type} (f : Str) (v : α) (fs : List Str) (ds : List α) : List Str := (putZ f v (fs.zip ds)).map (·.1)
def putFd {α : Type} (f : Str) (v : α) (fs : List Str) (ds : List α) : List α := (putZ f v (fs.zip ds)).map (·.2)
def dFld (C : Addr) (f : Str) (d : DE) : DE := fun ρ S Q => d ρ S fun v S1 => ∃ l fs vs w, v = .ref l ∧ S1 l = some (.ins C fs vs) ∧ (fs.zip vs).lookup f = some w ∧ Q w S1
def dSetFld (C : Addr) (f : Str) (d v : DE) : DS := fun E ρ S => v ρ S fun w S1 => d ρ S1 fun o S2 => ∃ l fs vs, o = .ref l ∧ S2 l = some (.ins C fs vs) ∧ fs.length < 900 ∧ E.nx ρ (S2.set l (.ins C (putFs f w fs vs) (putFd f w fs vs)))
def dAddFld (C : Addr) (f : Str) (d v : DE) : DS := fun E ρ S => d ρ S fun o S1 => ∃ l fs vs i, o = .ref l ∧ S1 l = some (.ins C fs vs) ∧ (fs.zip vs).lookup f = some (.int i) ∧
  v ρ S1 fun w S2 => ∃ j fs' vs', w = .int j ∧ S2 l = some (.ins C fs' vs') ∧ fs'.length < 900 ∧ E.nx ρ (S2.set l (.ins C (putFs f (.int (i + j)) fs' vs') (putFd f (.int (i + j)) fs' vs')))
section
variable {M : Md} {X : Cx} {CX : CXT} {k : Nat} {g C : Addr} {params : Arguments} {ps : List Str} {sp : DSp} {Ed : DXK} {E : XK} {f m : Str} {pos apos pos' tpos : Pos} {o value : Expr} {d dv : DE}
def gdFld (C : Addr) (f : Str) (d : DE) : DG := fun w ρ S Q => d ρ S fun o S2 => ∃ l fs vs, o = .ref l ∧ S2 l = some (.ins C fs vs) ∧ fs.length < 900 ∧ Q ρ (S2.set l (.ins C (putFs f w fs vs) (putFd f w fs vs)))
end
section
variable {fa : List He.Fa} {fn : List He.DefD} {tf : List He.Defn} {exs : PySem.W.Frag → List Bool} {w : World} {K : PySem.W.Frag} {mg : Str → Option Value} {base : Heap} (G : GFx fa fn tf exs w K mg base)
include G
theorem GFx.cls (i : Nat) {x : Str} (h : fa[i]? = some (.cls x) := by rfl) : Cls K (He.ga K x) := He.cls_ok (G.d.fact i h)
end
end L3
end
section
set_option Elab.async false
set_option linter.all false
set_option maxRecDepth 100000
set_option maxHeartbeats 1000000
namespace L3
open PySem PySem.Spec PyProof.Rows L2
abbrev DP := D × PyData
def dpLe : DP → DP → Bool := PySem.W.dataLe false fun p : DP => p.2
def bSortG : DRA := fun ds S Q => ∃ (v : D) (bs : List DP), ds = [v] ∧ lstD S v = some (bs.map (·.1)) ∧ bs.length ≤ 1000 ∧
  (∀ b ∈ bs, pyR S b.1 = some b.2 ∧ b.2.depth ≤ 8 ∧ ∃ x r, b.2 = .tuple (x :: r)) ∧ (∀ a ∈ bs, ∀ b ∈ bs, PySem.W.alike a.2 b.2 = true) ∧ ∀ l, S l = none → Q (.ref l) (S.set l (.lst ((bs.mergeSort dpLe).map (·.1))))
def bSortGF : DRA := fun ds S Q => ∃ (v : D) (bs : List DP), ds = [v] ∧ lstD S v = some (bs.map (·.1)) ∧ bs.length ≤ 1000 ∧
  (∀ b ∈ bs, pyR S b.1 = some b.2 ∧ b.2.depth ≤ 8 ∧ ∃ x r, b.2 = .tuple (x :: r)) ∧ (∀ a ∈ bs, ∀ b ∈ bs, PySem.W.alike a.2 b.2 = true) ∧ Q (.lst ((bs.mergeSort dpLe).map (·.1))) S
end L3
end
section
set_option Elab.async false
set_option linter.all false
set_option maxRecDepth 100000
set_option maxHeartbeats 1000000
namespace L3
open PySem PySem.Spec PyProof.Rows L2
def dSlK (d : DE) (l h : DO) : DE := fun ρ S Q => d ρ S fun v S1 => l ρ S1 fun lo S2 => h ρ S2 fun hi S3 => ∃ ds, v = .kt ds ∧ (cutD ds lo hi).length < ds.length ∧ Q (.tup (cutD ds lo hi)) S3
end L3
end
section
set_option Elab.async false
set_option linter.all false
set_option maxRecDepth 100000
set_option maxHeartbeats 1000000
namespace L3
open PySem PySem.Spec PyProof.Rows L2
def oIsB : DR2 := fun v w S Q => ∃ a b, v = .bl a ∧ w = .bl b ∧ Q (.bl (decide (a = b))) S
def oNotB : DR2 := fun v w S Q => ∃ a b, v = .bl a ∧ w = .bl b ∧ Q (.bl (!decide (a = b))) S
end L3
end
section
set_option Elab.async false
set_option linter.all false
set_option maxRecDepth 100000
set_option maxHeartbeats 8000000
namespace L3
open PySem PySem.Spec PyProof.Rows L2
def bSortTS : DRA := fun ds S Q => ∃ (v : D) (zs : List Str), ds = [v] ∧ v = .tup (zs.map .str) ∧ zs.length ≤ 1000 ∧ ∀ (ys : List Str) l, ys.Perm zs → sortedS ys = true → S l = none → Q (.ref l) (S.set l (.lst (ys.map .str)))
def bSortTSF : DRA := fun ds S Q => ∃ (v : D) (zs : List Str), ds = [v] ∧ v = .tup (zs.map .str) ∧ zs.length ≤ 1000 ∧ ∀ ys : List Str, ys.Perm zs → sortedS ys = true → Q (.lst (ys.map .str)) S
end L3
end
section
set_option Elab.async false
set_option linter.all false
set_option maxRecDepth 100000
set_option maxHeartbeats 1000000
namespace L3
open PySem PySem.Spec PyProof.Rows L2
def inLe (a b : Int) : Bool := decide (a ≤ b)
def bSortI : DRA := fun ds S Q => ∃ (v : D) (ns : List Int), ds = [v] ∧ lstD S v = some (ns.map D.int) ∧ ns.length ≤ 1000 ∧ ∀ l, S l = none → Q (.ref l) (S.set l (.lst ((ns.mergeSort inLe).map D.int)))
def bSortIF : DRA := fun ds S Q => ∃ (v : D) (ns : List Int), ds = [v] ∧ lstD S v = some (ns.map D.int) ∧ ns.length ≤ 1000 ∧ Q (.lst ((ns.mergeSort inLe).map D.int)) S
end L3
end
section
set_option Elab.async false
set_option linter.all false
set_option maxRecDepth 100000
set_option maxHeartbeats 1000000
namespace L3
open PySem PySem.Spec PyProof.Rows L2
def iDi (d : DE) : DI := fun ρ S R => d ρ S fun v S' => ∃ ks ds, v = .dic ks ds ∧ R ((ks.zip ds).map fun p => D.tup [kD p.1, p.2]) [] S'
end L3
end
section
set_option Elab.async false
set_option linter.all false
set_option maxRecDepth 100000
set_option maxHeartbeats 1000000
namespace L3
open PySem PySem.Spec PyProof.Rows L2
def dDisp (ks : List Str) (da : DA) : DE := fun ρ S Q => ∀ l, S l = none → da ρ (S.set l (.dic [] [])) fun vs S2 => vs.length = ks.length ∧ S2 l = some (.dic [] []) ∧ Q (.ref l) (S2.set l (.dic (ks.map Sum.inr) vs))
section
variable {M : Md} {X : Cx} {pos p2 : Pos} {j : Nat} {keys : List (Option Expr)} {values : List Expr} {ks : List Str} {da : DA} {d : DE} {k : Str} {v : Expr}
end
end L3
end
section
set_option Elab.async false
set_option linter.all false
set_option maxRecDepth 100000
set_option maxHeartbeats 1000000
namespace L3
open PySem PySem.Spec PyProof.Rows L2
section
variable {α : Type} [DecidableEq α]
def getT (ks : List α) (ds : List D) (k : α) : Option D := ((ks.zip ds).find? fun p => decide (p.1 = k)).map (·.2)
def putTs (ks : List α) (k : α) : List α := if (ks.any fun x => decide (x = k)) = true then ks else ks ++ [k]
def putTd (ks : List α) (es : List D) (k : α) (z : D) : List D := if (ks.any fun x => decide (x = k)) = true then (ks.zip es).map fun p => if p.1 = k then z else p.2 else es ++ [z]
end
section
variable {M : Md} {X : Cx} {io : Pl} {H : Hp} {S : Sto}
theorem RS.dit (r : RS M io H S) {l : Nat} {x : V} {ks : List (List Key)} {ds : List D} (e : S l = some (.dit ks ds)) (h : RD M.K io H (.ref l) x) :
    ∃ a kvs, x = .ref a ∧ io[l]? = some (a, a) ∧ H a = some (.dT kvs) ∧ kvs.map (·.1) = ks ∧ RDs M.K io H ds (kvs.map (·.2)) := by
  obtain ⟨p, e1, h1⟩ := r.ob l _ e
  obtain ⟨q, e2, rfl⟩ := h
  rw [e1] at e2; cases e2
  obtain ⟨e3, xs, h2, h3, h4⟩ := h1
  obtain ⟨p1, p2⟩ := p
  have e3 : p2 = p1 := e3
  subst e3
  exact ⟨_, xs, rfl, e1, h2, h3, h4⟩
variable {a b : Expr} {da db : DE} {pos p2 : Pos}
end
end L3
end
section
set_option Elab.async false
set_option linter.all false
set_option maxRecDepth 100000
set_option maxHeartbeats 2000000
namespace L3
open PySem PySem.Spec PyProof.Rows L2
def numD (ds : List D) : List D := ((List.range ds.length).zip ds).map fun p => D.tup [.int (p.1 : Nat), p.2]
section
variable {M : Md} {io : Pl} {H : Hp} {S : Sto}
end
def iEnS (d : DA) : DI := fun ρ S R => d ρ S fun vs S' => ∃ v ds, vs = [v] ∧ seqD S' v = some ds ∧ R (numD ds) (gsOf v (.lst ds)) S'
section
variable {M : Md} {X : Cx} {e : Expr} {da : DA} {p pos tpos : Pos} {elts : List Expr} {kk : Nat}
end
end L3
end
section
set_option Elab.async false
set_option linter.all false
set_option maxRecDepth 100000
set_option maxHeartbeats 1000000
namespace L3
open PySem PySem.Spec PyProof.Rows L2
def dEi (a b : DE) : DE := fun ρ S Q => a ρ S Q ∨ b ρ S Q
end L3
end
section
set_option Elab.async false
set_option linter.all false
set_option maxRecDepth 100000
set_option maxHeartbeats 2000000
namespace L3
open PySem PySem.Spec PyProof.Rows L2
theorem tup_once (a : Addr) (xs : Array Value) (n : Nat) (dc : Option Addr) (sl : Array (Option Value)) (u : Tok) :
    Meets (Builtin.«tuple.__mul__» ⟨[.ref a, .int 1 u], []⟩) fun _ R s => s.heap.get? a = some { cls := .type "tuple", dict := dc, data := .seq xs n, slots := sl } ∧ R (.ok (.ret (.ref a))) s := by
  refine .of_wp fun prog w A R s ⟨ha, hr⟩ => ?_
  obtain ⟨hp, gs, dr, tk, os⟩ := s
  have ix := AutoSeq1.idx_int
  wp_walk using AutoSeq1.wpAny_loadPart' ha
  all_goals exact ⟨_, rfl, hr⟩
def rOnce (K : PySem.W.Frag) : R2 := fun x y H Q => ∃ a xs, x = .ref a ∧ y = .int 1 ∧ SqT K H a xs ∧ Q (.ref a) H
theorem op_once {X : Cx} : OpR X (binaryOp .Mult) (rOnce X.K) := by
  intro pins s σ H x y v u Q I rx ry h
  obtain ⟨a, xs, rfl, rfl, hT, q⟩ := h
  cases rx
  obtain ⟨t, rfl⟩ := ry
  obtain ⟨its, r, ⟨⟨cl, dc, da, sl⟩, ho, hc, n, hd⟩, _⟩ := I.tuple hT
  simp only at hc hd
  subst hc hd
  exact wpAny_binaryOp_repeat_ref (T := "tuple") (U := "int") (by decide) ⟨_, ho, rfl⟩ (fun z => typeIs_int z 1 t) noFill_tuple_mul F.fills_int_mul F.slot_int_rmul repeat_tuple F.slot_int_index.lookup
    (call_meets F.slot_int_rmul (typeIs_int s 1 t) F.entry_int_rmul (F.args_int_rmul_2 _ _) (int_rmul_tuple 1 t a its.toArray n dc sl)
      ⟨ho, rfl, ⟨_, ho, rfl⟩, call_meets F.slot_tuple_mul ⟨_, ho, rfl⟩ F.entry_tuple_mul (F.args_tuple_mul_2 _ _) (tup_once a its.toArray n dc sl t) ⟨ho, .ref a, H, I, rfl, q⟩⟩)
def rTimes (K : PySem.W.Frag) : R2 := fun x y H Q => rOnce K x y H Q ∨ rRepT K x y H Q
theorem op_times {X : Cx} : OpR X (binaryOp .Mult) (rTimes X.K) := fun pins s σ H x y v u Q I rx ry h => h.elim (op_once pins s σ H x y v u Q I rx ry) (op_repT pins s σ H x y v u Q I rx ry)
def oTimes : DR2 := fun v w S Q => ∃ ds k, v = .tup ds ∧ w = .int k ∧ ((k = 1 ∧ Q (.tup ds) S) ∨ (ds ≠ [] ∧ 2 ≤ k ∧ k ≤ 1000 ∧ ds.length ≤ 1000 ∧ Q (.tup (List.replicate k.toNat ds).flatten) S))
theorem sim_times {M : Md} {X : Cx} (hM : M.K = X.K) : Sim2 M (rTimes X.K) oTimes := fun io H S x y v w Qd Q r dv dw ⟨ds, k, e1, e2, h⟩ c => by
  subst e1 e2
  have dv' := dv
  obtain ⟨a, xs, rfl, hT, d1⟩ := dv
  have dw : y = .int k := dw
  subst dw
  have sq : SqT X.K H a xs := SqT.of hT
  rcases h with ⟨rfl, q⟩ | ⟨hne, h2, hk, hz, q⟩
  · exact .inl ⟨a, xs, rfl, rfl, sq, c.here r dv' q⟩
  · have hl := d1.len
    refine .inr ⟨a, k, xs, rfl, rfl, sq, fun e => hne (List.length_eq_zero_iff.mp (by rw [← hl, e]; rfl)), h2, hk, by omega, fun p hp => ?_⟩
    have hz2 : (List.replicate k.toNat xs).flatten.length ≤ sizeLine := by
      rw [PyProof.Rows.lm_len_rep_flat, sizeLine_eq]
      have := Nat.mul_le_mul (show k.toNat ≤ 1000 by omega) (show xs.length ≤ 1000 by omega)
      omega
    obtain ⟨r2, s2⟩ := r.keepNew (u := .tup (List.replicate k.toNat xs).flatten) hp hz2
    exact c io _ S (.tup (List.replicate k.toNat ds).flatten) (.ref p) s2 r2 ⟨p, _, rfl, upd_same, (d1.mono s2).rep k.toNat⟩ q
end L3
end
section
set_option Elab.async false
set_option linter.all false
set_option maxRecDepth 100000
namespace L3
open PySem PySem.Spec PyProof.Rows L2
mutual
def pyO (S : Sto) : Nat → D → Option PyData
  | 0, _ => none
  | n + 1, d => match d with
    | .non => some .none
    | .bl b => some (.bool b)
    | .int i => some (.int i)
    | .str x => some (.str x)
    | .tup ds => (pyOs S n ds).map .tuple
    | .lst ds => (pyOs S n ds).map .list
    | .kt ds => (pyOs S n ds).map .tuple
    | .ref l => (match S l with
      | some (.lst ds) => (pyOs S n ds).map .list
      | _ => none)
    | _ => none
def pyOs (S : Sto) : Nat → List D → Option (List PyData)
  | _, [] => some []
  | n, d :: ds => (pyO S n d).bind fun p => (pyOs S n ds).map fun ps => p :: ps
end
section
variable {M : Md} {io : Pl} {H : Hp}
end
def oEqO : DR2 := fun v w S Q => ∃ p q, pyO S 16 v = some p ∧ pyO S 16 w = some q ∧ SeqAt.shaped p = true ∧ SeqAt.shaped q = true ∧ Q (.bl (PyData.eqv p q)) S
def oNeO : DR2 := fun v w S Q => ∃ p q, pyO S 16 v = some p ∧ pyO S 16 w = some q ∧ SeqAt.shaped p = true ∧ SeqAt.shaped q = true ∧ Q (.bl (!PyData.eqv p q)) S
end L3
end
section
set_option Elab.async false
set_option linter.all false
set_option maxRecDepth 100000
namespace L3
open PySem PySem.Spec PyProof.Rows L2
section
variable {M : Md}
def mClear : DRB := fun v ds S Q => ∃ l es, v = .ref l ∧ ds = [] ∧ S l = some (.lst es) ∧ Q .non (S.set l (.lst []))
def mReverse : DRB := fun v ds S Q => ∃ l es, v = .ref l ∧ ds = [] ∧ S l = some (.lst es) ∧ es.length ≤ sizeLine ∧ Q .non (S.set l (.lst es.reverse))
end
end L3
end
section
set_option Elab.async false
set_option linter.all false
set_option maxRecDepth 100000
namespace L3
open PySem PySem.Spec PyProof.Rows L2
def dMethP (C : Addr) (m : Str) (n : Nat) (sp : DSp) (Ed : DXK) (is : List Nat) (d : DE) (t : DA) : DE := fun ρ S Q => d ρ S fun v S1 => ∃ l fs vs, v = .ref l ∧ S1 l = some (.ins C fs vs) ∧ m ∉ fs ∧ t ρ S1 fun ds S2 => ds.length = n ∧ sp (v :: pick is ds) S2 Q Ed
def dMethSlP (C : Addr) (n : Nat) (sp : DSp) (Ed : DXK) (is : List Nat) (d : DE) (t : DA) : DE := fun ρ S Q => d ρ S fun v S1 => ∃ l vs, v = .ref l ∧ S1 l = some (.slt C vs) ∧ t ρ S1 fun ds S2 => ds.length = n ∧ sp (v :: pick is ds) S2 Q Ed
def dMakeP (C : Addr) (n : Nat) (sp : DSp) (Ed : DXK) (is : List Nat) (t : DA) : DE := fun ρ S Q => t ρ S fun ds S1 => ds.length = n ∧ ∀ l, S1 l = none → sp (.ref l :: pick is ds) (S1.set l (.ins C [] [])) (fun v S2 => v = .non ∧ Q (.ref l) S2) Ed
def dMakeSlP (C : Addr) (n : Nat) (sp : DSp) (Ed : DXK) (is : List Nat) (t : DA) : DE := fun ρ S Q => t ρ S fun ds S1 => ds.length = n ∧ ∀ l, S1 l = none → sp (.ref l :: pick is ds) (S1.set l (.slt C [])) (fun v S2 => v = .non ∧ Q (.ref l) S2) Ed
section
variable {M : Md} {X : Cx} {CX : CXT} {k : Nat} {f C : Addr} {params : Arguments} {ps ks : List Str} {sp : DSp} {Ed : DXK} {E : XK} {x m : Str} {p pos apos kpos : Pos} {e o : Expr} {kws : List Keyword} {d : DE} {t : DA} {is : List Nat} {nm : Option Str}
end
end L3
end
section
set_option Elab.async false
set_option linter.all false
set_option maxRecDepth 100000
set_option maxHeartbeats 2000000
namespace PySem
namespace OwnX
open PySem.W PySem.Calls PyProof.Rows PySem.HandSPX
def iB (fld : Str) (q0 q1 q2 q3 q4 q5 q6 q7 q8 q9 : Pos) : List Stmt :=
  [.Expr (.Call (.Attribute (.Call (.Name "super" q0) [] [] q1) "__init__" q2) [.Name fld q3] [] q4) q5, .Assign [.Attribute (.Name "self" q6) fld q7] (.Name fld q8) q9]
def iS (fld : Str) : Scope := { kind := .function, names := [(PySem.Str.ofString "self", .local), (fld, .local), (PySem.Str.ofString "__class__", .free), (PySem.Str.ofString "super", .globalImplicit)], isGenerator := false, isCoroutine := false, more := [] }
theorem he_of {o : Expr} {name x : Str} {xp apos pos : Pos} {env : Env} (hline : (apos.endLine == pos.line) = true) : eval (.Call (.Attribute o name apos) [.Name x xp] [] pos) env = (do
    let ov ← attributeBase o name env (eval o env)
    standAt apos.atName
    let (f, first) ← holding [ov] (getMethod ov name (do return (← importBound o env).getD true))
    callWith pos f first (backTo pos (starEach [.Name x xp] env)) []) := by
  show (do
    let ov ← attributeBase o name env (eval o env)
    standAt apos.atName
    methodCall o name apos pos env ov 1 (backTo pos (starEach [.Name x xp] env)) []) = _
  have h1 : methodCallPos true o env apos pos = pure pos := by
    unfold methodCallPos
    simp [hline]
  have h2 : methodCallForm 1 (backTo pos (starEach [.Name x xp] env)) [] = true := by rfl
  unfold methodCall
  rw [h2, h1]
  rfl
structure InitEnd (h h' : Heap) (x C dx t1 : Addr) (fld : Str) (v : Value) : Prop where
  keep : ∀ b o, b ≠ x → h.get? b = some o → h'.get? b = some o
  obj : h'.get? x = some { cls := .ref C, dict := some dx, data := .fields #[.ref t1, .none, .none, .none, .bool false, .none] }
  dbig : h.objs.size ≤ dx
  dne : dx ≠ x
  ns : h'.Ns1 dx (fun y => if y = fld then some v else none)
section
variable {prog : Program} {w : World} {A : Around} {E : Value → Shared → Prop} {R : Result → Shared → Prop} {s : Shared} {K : Frag} {mg mb : Str → Option Value} {C fI : Addr} {fld : Str}
section
open Builtin Builtin.ObjectAttr
variable {hp : Heap} {g : Array GenState} {d : Drawn} {t : Nat} {os : OsState}
end
structure OwnMade (h h' : Heap) (e C d : Addr) (fld : Str) (v : Value) : Prop where
  keep : ∀ b o, h.get? b = some o → h'.get? b = some o
  new : h.objs.size ≤ e
  obj : ∃ oe vs, h'.get? e = some oe ∧ oe.cls = .ref C ∧ oe.dict = some d ∧ oe.data = .fields vs ∧ vs[1]? = some .none
  dbig : h.objs.size ≤ d
  dne : d ≠ e
  ns : h'.Ns1 d (fun y => if y = fld then some v else none)
end
end OwnX
end PySem
namespace L3
open PySem PySem.Spec PyProof.Rows L2
section
variable {M : Md} {X : Cx} {C fI : Addr} {fld x : Str} {k : Nat}
def dRaise (Ed : DXK) (C : Addr) (fld : Str) (t : DA) : DS := fun _ ρ S => t ρ S fun ds S1 => ∃ v, ds = [v] ∧ Ed (.ref C) [fld] [v] S1
end
end L3
end
section
set_option Elab.async false
set_option linter.all false
set_option maxRecDepth 100000
set_option maxHeartbeats 2000000
namespace PySem
namespace OwnX
open PySem.W PySem.Calls PyProof.Rows PySem.HandSPX
end OwnX
end PySem
end
section
set_option Elab.async false
set_option linter.all false
set_option maxRecDepth 100000
set_option maxHeartbeats 2000000
namespace L3
namespace Catch
open PySem PySem.Spec PyProof.Rows L2
section
variable {X : Cx} {x x1 x2 x3 x4 x5 : Str} {c c1 c2 c3 c4 c5 : Value} {np p1 p2 p3 p4 p5 tp : Pos} {kk : Nat}
end
structure Caught (X : Cx) (pins : List (Addr × Obj)) (σ : L2.St) (H : Hp) (B : Heap) (a : Addr) (cls : Value) (d : Option Addr) (s : Shared) : Prop where
  was : ∃ sI, Inv X pins σ H sI ∧ (∀ b o, sI.heap.get? b = some o → b ∉ frs X.stack → B.get? b = some o) ∧ sI.heap.UpToSlots s.heap ∧ s.os = sI.os
  fly : HandSPX.FlyingZ B (X.env :: X.outer) a (Zc cls d) s.heap
  na : H a = none
  bare : AllBare s.gens
section
variable {X : Cx} {pins : List (Addr × Obj)} {σ : L2.St} {H : Hp} {B : Heap} {a : Addr} {cls : Value} {d : Option Addr} {s : Shared}
theorem Caught.go (c : Caught X pins σ H B a cls d s) {h' : Heap} (f : HandSPX.FlyingZ B (X.env :: X.outer) a (Zc cls d) h') (u : s.heap.UpToSlots h') : Caught X pins σ H B a cls d { s with heap := h' } :=
  let ⟨sI, I, nb, up, os⟩ := c.was
  ⟨⟨sI, I, nb, up.trans u, os⟩, f, c.na, c.bare⟩
theorem Caught.more (c : Caught X pins σ H B a cls d s) {h' : Heap} (k : s.heap.StaysIn h') : Caught X pins σ H B a cls d { s with heap := h' } := by
  obtain ⟨f1, f2, f3, oe, vs, T, oT, ts, e1, e2, e3, e4, e5, e6, e7, e8⟩ := c.fly
  exact c.go ⟨fun b o e => k b o (f1 b o e), f2, f3.of_keeps fun b o e _ => ⟨o, k b o e, rfl⟩, oe, vs, T, oT, ts, k _ _ e1, e2, e3, e4, e5, e6, k _ _ e7, e8⟩ (Heap.UpToSlots.of_keeps k)
theorem found {oe : Obj} {o : HO} (I : Inv X (pins ++ [(a, oe)]) σ H s) (n0 : X.s_0.heap.get? a = none) (np : ∀ p ∈ X.pn ++ pins, p.1 ≠ a) (new : ObjOk X.prog X.w (upd H a o) s.heap a o) : Inv X pins σ (upd H a o) s := by
  have at_ := I.pin (a, oe) (List.mem_append_right _ (List.mem_append_right _ (List.mem_singleton.mpr rfl)))
  have ha : s.heap.get? a = some oe := at_.1
  have hn : H a = none := at_.2.1
  have keep : ∀ {b : Addr} {u : HO}, H b = some u → upd H a o b = some u := fun {b u} e => by
    rw [upd_ne (ne_of_none e hn)]
    exact e
  have none_ : ∀ {b : Addr}, b ≠ a → H b = none → upd H a o b = none := fun {b} z e => by
    rw [upd_ne z]
    exact e
  refine { ok := I.ok, os := I.os, bare := I.bare, loc := I.loc, cell := I.cell, len := I.len, free := none_ (Ne.symm at_.2.2.1) I.free, hok := I.hok.laidN (fun _ _ z => z) hn new, freeC := ?_, pin := ?_, base := ?_ }
  · refine ⟨I.base.keep, I.base.slot, fun b ob e n hb => none_ (fun z => ?_) (I.base.free b ob e n hb), I.base.there, fun b xs e => keep (I.base.tups b xs e), fun b ob u e => keep (I.base.frzs b ob u e), fun b ps e => ?_⟩
    · rw [z, n0] at e
      cases e
    · obtain ⟨m, q⟩ := I.base.tbls b ps e
      exact ⟨m, keep q⟩
  · refine fun x c e => none_ (fun z => ?_) (I.freeC x c e)
    obtain ⟨v, o', e1, e2⟩ := I.cell x c e
    rw [z, ha] at e1
    cases e1
    exact at_.2.2.2.2 v e2
  · intro p hp
    have q := I.pin p ((List.mem_append.mp hp).elim (List.mem_append_left _) fun h => List.mem_append_right _ (List.mem_append_left _ h))
    exact ⟨q.1, none_ (np p hp) q.2.1, q.2.2⟩
end
section
variable {X : Cx} {x n : Str} {i j : Nat} {body : List Stmt} {t : Expr} {T : Value → Option Bool} {pos pos' q1 q2 q3 : Pos} {tb : WX → TS}
end
end Catch
end L3
end
section
set_option Elab.async false
set_option linter.all false
set_option maxRecDepth 100000
set_option maxHeartbeats 2000000
namespace L3
open PySem PySem.Spec PyProof.Rows L2
theorem RX.sub {K : PySem.W.Frag} {io : Pl} {H : Hp} {S S' : Sto} {d : Option Addr} {ns : List Str} {ds : List D} (x : RX K io H S d ns ds) (h : S'.sub S) : RX K io H S' d ns ds := by
  cases d with
  | none => exact x
  | some a => exact ⟨fun l o p e1 e2 => x.1 l o p (h l o e1) e2, x.2⟩
abbrev DXS := En → DXK
def dCallS (sp : DSp) (Ed : DXS) (t : DA) : DE := fun ρ S Q => t ρ S fun ds S1 => sp ds S1 Q (Ed ρ)
def dMethS (C : Addr) (m : Str) (sp : DSp) (Ed : DXS) (d : DE) (t : DA) : DE := fun ρ S Q => d ρ S fun v S1 => ∃ l fs vs, v = .ref l ∧ S1 l = some (.ins C fs vs) ∧ m ∉ fs ∧ t ρ S1 fun ds S2 => sp (v :: ds) S2 Q (Ed ρ)
def dMethSlS (C : Addr) (sp : DSp) (Ed : DXS) (d : DE) (t : DA) : DE := fun ρ S Q => d ρ S fun v S1 => ∃ l vs, v = .ref l ∧ S1 l = some (.slt C vs) ∧ t ρ S1 fun ds S2 => sp (v :: ds) S2 Q (Ed ρ)
section
variable {X : Cx} {CX : CXT} {k : Nat} {f C : Addr} {sp0 : Sp} {W : WX} {m : Str} {pos apos : Pos} {e o : Expr} {es : List Expr} {ta : TE} {t : TA} {pl : Sem Bool}
theorem runAt {pins : List (Addr × Obj)} {σ : L2.St} {H : Hp} {s : Shared} {Q : VK} {us : List Value} {vs : List V} (F : FnR X.prog X.w X.K X.mg X.base (L2.CX X.prog X.w) k f sp0) (hr : Room k X.A) (tk : Takes X W) (I : Inv X pins σ H s) (r : Vals vs us) (h : sp0 vs H Q (WE W σ)) :
    wpAny (model X.prog X.w) X.A (call (.ref f) us) (EP X pins σ Q) X.xe s := by
  refine wpAny_call (codeAny_mono (F X.A X.stack s H us vs Q (WE W σ) hr I.env0 r h) fun z s' q => ?_)
  match z, q with
  | .error e, q => exact passAt tk σ pins H s e s' I q
  | .ok (.ret u), q => exact I.after q
  | .ok .next, q => exact q.elim
  | .ok .brk, q => exact q.elim
  | .ok .cont, q => exact q.elim
end
section
variable {M : Md} {X : Cx} {k : Nat} {f C : Addr} {params : Arguments} {ps : List Str} {sp : DSp} {Ed : DXS} {W : WX} {x m : Str} {p pos apos : Pos} {e o : Expr} {es : List Expr} {d : DE} {t : DA}
end
theorem RE.clear {K : PySem.W.Frag} {io : Pl} {H : Hp} {ρ : En} {σ : L2.St} (r : RE K io H ρ σ) (i : Nat) : RE K io H (ρ.set i none) (σ.set i none) := by
  refine ⟨by simp [r.1], fun j e q => ?_⟩
  by_cases hj : j = i
  · subst hj
    by_cases hl : j < ρ.length
    · rw [List.getElem?_set_self hl] at q
      cases q
    · rw [List.getElem?_eq_none (by simpa using hl)] at q
      cases q
  · rw [List.getElem?_set_ne (Ne.symm hj)] at q
    obtain ⟨y, e1, h1⟩ := r.2 j e q
    exact ⟨y, by rw [List.getElem?_set_ne (Ne.symm hj)]; exact e1, h1⟩
theorem RS.exc {M : Md} {io : Pl} {H : Hp} {S : Sto} (r : RS M io H S) {a dd : Addr} {cls : Value} {ns : List Str} {ds : List D} (ha : H a = none) (x : RX M.K io H S (some dd) ns ds) :
    RS M (io ++ [(a, dd)]) (upd H a (ExD cls dd a)) (S.set io.length (.exc cls ns ds)) ∧ Stp io H (io ++ [(a, dd)]) (upd H a (ExD cls dd a)) ∧ S io.length = none ∧ (io ++ [(a, dd)])[io.length]? = some (a, dd) := by
  obtain ⟨sp, vs, hd, hl, rv⟩ := x
  have nda : dd ≠ a := ne_of_none hd ha
  have at_ : ∀ b, b ≠ a → upd H a (ExD cls dd a) b = H b := fun b h => upd_ne h
  have nx : ∀ {b : Addr} {u : HO}, H b = some u → b ≠ a := fun h => ne_of_none h ha
  have st : Stp io H (io ++ [(a, dd)]) (upd H a (ExD cls dd a)) := ⟨⟨_, rfl⟩, fun b xs h => by rw [at_ b (nx h)]; exact h, fun b ob u h => by rw [at_ b (nx h)]; exact h⟩
  have hat : (io ++ [(a, dd)])[io.length]? = some (a, dd) := by simp
  have hS : S io.length = none := by
    cases e : S io.length with
    | none => rfl
    | some o =>
      obtain ⟨p, e1, _⟩ := r.ob _ _ e
      rw [List.getElem?_eq_none (Nat.le_refl _)] at e1; cases e1
  have old : ∀ l o', S l = some o' → l ≠ io.length ∧ ∃ p, io[l]? = some p ∧ (io ++ [(a, dd)])[l]? = some p ∧ RO M.K M.w io H p o' ∧ (p.1 ≠ a ∧ p.2 ≠ a) ∧ p.1 ≠ dd ∧ p.2 ≠ dd := fun l o' e => by
    obtain ⟨p, e1, h1⟩ := r.ob l o' e
    obtain ⟨⟨_, a1, _⟩, ⟨_, a2, _⟩⟩ := h1.there
    exact ⟨fun z => (by subst z; rw [hS] at e; exact nomatch e), p, e1, st.at_ e1, h1, ⟨nx a1, nx a2⟩, sp l o' p e e1⟩
  refine ⟨⟨fun l o' e => ?_, fun l m o1 o2 p1 p2 e1 e2 hn h1 h2 => ?_, fun P hP => ?_, sz_upd r.sz trivial, r.bs.trans st⟩, st, hS, hat⟩
  · by_cases hl' : l = io.length
    · subst hl'; rw [Sto.set_same] at e; cases e
      exact ⟨_, hat, nda, upd_same, vs, by rw [at_ dd nda]; exact hd, hl, rv.mono st⟩
    · rw [Sto.set_ne hl'] at e
      obtain ⟨_, p, e1, e2, h1, ⟨n1, n2⟩, _⟩ := old l o' e
      exact ⟨p, e2, h1.keep st (at_ _ n1) (at_ _ n2)⟩
  · by_cases hl' : l = io.length
    · subst hl'
      rw [hat] at h1; cases h1
      have hm : m ≠ io.length := fun z => hn z.symm
      rw [Sto.set_ne hm] at e2
      obtain ⟨_, p, z1, z2, _, ⟨n1, n2⟩, n3, n4⟩ := old m o2 e2
      rw [z2] at h2; cases h2
      exact ⟨n1.symm, n2.symm, n3.symm, n4.symm⟩
    · rw [Sto.set_ne hl'] at e1
      obtain ⟨_, p, z1, z2, _, ⟨n1, n2⟩, n3, n4⟩ := old l o1 e1
      rw [z2] at h1; cases h1
      by_cases hm : m = io.length
      · subst hm
        rw [hat] at h2; cases h2
        exact ⟨n1, n3, n2, n4⟩
      · rw [Sto.set_ne hm] at e2
        obtain ⟨_, p', z1', z2', _⟩ := old m o2 e2
        rw [z2'] at h2; cases h2
        exact r.sep l m o1 o2 _ _ e1 e2 hn z1 z1'
  · exact (r.tab P hP).keep st.frz fun ps h => by rw [at_ _ (nx h)]; exact h
def dCatch (ok : List Value) (i j : Nat) (db : DXS → DS) : DS := fun E ρ S =>
  db (fun ρ1 cls ns ds S1 => cls ∈ ok ∧ ns ≠ [] ∧ ∀ l, S1 l = none → E.nx (((ρ1.set i (some (.ref l))).set j (some (.ref l))).set i none) (S1.set l (.exc cls ns ds))) E ρ S
def dIsX (tab : List (Value × Bool)) (d : DE) : DE := fun ρ S Q => d ρ S fun v S1 => (v = .non ∧ Q (.bl false) S1) ∨ ∃ l cls ns ds b, v = .ref l ∧ S1 l = some (.exc cls ns ds) ∧ (cls, b) ∈ tab ∧ Q (.bl b) S1
def dXf (ok : List Value) (f : Str) (d : DE) : DE := fun ρ S Q => d ρ S fun v S1 => ∃ l cls ns ds w, v = .ref l ∧ S1 l = some (.exc cls ns ds) ∧ cls ∈ ok ∧ (ns.zip ds).lookup f = some w ∧ Q w S1
section
variable {X : Cx} {pins : List (Addr × Obj)} {σ : L2.St} {H : Hp} {s : Shared}
end
section
variable {M : Md} {X : Cx} {e : Expr} {d : DE} {p q pos : Pos} {x f : Str} {c : Value} {tab : List (Value × Bool)} {ok : List Value}
end
section
variable {P : Program} {w : World} {K : PySem.W.Frag} {mg : Str → Option Value} {base : Heap} {x qual : Str} {params : Arguments} {body : List Stmt} {scope : Scope} {f : Addr} {fd : FuncData} {N ps : List Str} {k : Nat} {sp : DSp} {tabs : List (Addr × Str)}
end
end L3
end
section
set_option Elab.async false
set_option linter.all false
set_option maxRecDepth 100000
set_option maxHeartbeats 2000000
namespace L3
open PySem PySem.Spec PyProof.Rows L2
def nmB (x y : Str) : Bool := decide (x = y)
end L3
end
section
set_option Elab.async false
set_option linter.all false
set_option maxRecDepth 100000
set_option maxHeartbeats 1000000
namespace L3
open PySem PySem.Spec PyProof.Rows L2
def dIsX2 (tab : List (Value × Bool)) (d : DE) : DE := fun ρ S Q => d ρ S fun v S1 => ∃ l cls ns ds b, v = .ref l ∧ S1 l = some (.exc cls ns ds) ∧ (cls, b) ∈ tab ∧ Q (.bl b) S1
section
variable {X : Cx} {T U : String}
end
section
variable {M : Md} {X : Cx} {e : Expr} {d : DE} {p q pos p1 p2 : Pos} {x y : Str} {T U : String} {tab : List (Value × Bool)}
end
end L3
end
section
set_option Elab.async false
set_option linter.all false
set_option maxRecDepth 100000
set_option maxHeartbeats 1000000
namespace L3
open PySem PySem.Spec PyProof.Rows L2
def bMinG : DRA := fun ds S Q => ∃ (v : D) (b : DP) (bs : List DP), ds = [v] ∧ lstD S v = some ((b :: bs).map (·.1)) ∧
  (∀ p ∈ b :: bs, pyR S p.1 = some p.2 ∧ p.2.depth ≤ 8 ∧ p.2 ≠ .none) ∧ (∀ p ∈ b :: bs, ∀ q ∈ b :: bs, PySem.W.alike p.2 q.2 = true) ∧
  ∀ p ∈ b :: bs, p.2 = PySem.W.minD b.2 (bs.map (·.2)) → Q p.1 S
end L3
end
section
set_option Elab.async false
set_option linter.all false
set_option maxRecDepth 100000
set_option maxHeartbeats 1000000
namespace L3
open PySem PySem.Spec PyProof.Rows L2
section
variable {M : Md} {X : Cx} {a b c : Expr} {da db dc : DE} {pos pos' : Pos}
def dChain (r r' : DR2) (a b c : DE) : DE := fun ρ S Q => a ρ S fun x S1 => b ρ S1 fun y S2 => r x y S2 fun z S3 => ∃ k, z = .bl k ∧ (if k = true then c ρ S3 fun w S4 => r' y w S4 Q else Q (.bl false) S3)
theorem seqChain {r r' : R2} {dr dr' : DR2} (hs : Sim2 M r dr) (hs' : Sim2 M r' dr') : ∀ σ H Q, lift M (dChain dr dr' da db dc) σ H Q → tChain r r' (lift M da) (lift M db) (lift M dc) σ H Q :=
  fun σ H Q ⟨io, S, ρ, Qd, r1, re, h, c⟩ => ⟨io, S, ρ, _, r1, re, h, fun i1 H1 S1 v x s1 r1 d1 h1 => ⟨i1, S1, ρ, _, r1, re.mono s1, h1, fun i2 H2 S2 w y s2 r2 d2 h2 =>
    hs i2 H2 S2 x y v w _ _ r2 (d1.mono s2) d2 h2 fun i3 H3 S3 z zv s3 r3 d3 ⟨k, ek, h3⟩ => by
      subst ek
      refine ⟨k, d3, ?_⟩
      cases k with
      | false =>
        rw [if_neg (by decide)] at h3 ⊢
        exact c i3 H3 S3 (.bl false) (.bl false) (s1.trans (s2.trans s3)) r3 rfl h3
      | true =>
        rw [if_pos rfl] at h3 ⊢
        exact ⟨i3, S3, ρ, _, r3, re.mono (s1.trans (s2.trans s3)), h3, fun i4 H4 S4 u z' s4 r4 d4 h4 =>
          hs' i4 H4 S4 y z' w u Qd Q r4 (d2.mono (s3.trans s4)) d4 h4 (c.to (s1.trans (s2.trans (s3.trans s4))))⟩⟩⟩
theorem q_chain {op op' : CmpOp} {r r' : R2} {dr dr' : DR2} (ho : OpR X (compareOp op) r) (hs : Sim2 M r dr) (ho' : OpR X (compareOp op') r') (hs' : Sim2 M r' dr') (ha : QE M X a da) (hb : QE M X b db) (hc : QE M X c dc)
    (hm : lastMarks [op, op'] [b, c] = false := by with_unfolding_all rfl) : QE M X (.Compare a [op, op'] [b, c] pos) (dChain dr dr' da db dc) :=
  PE.imp (pe_chain ho ho' ha hb hc hm) (seqChain hs hs')
def dAug (i : Nat) (f : Int → Int → Int) (d : DE) : DS := fun E ρ S => ∃ u, ρ[i]? = some (some (.int u)) ∧ d ρ S fun v S1 => ∃ k, v = .int k ∧ E.nx (ρ.set i (some (.int (f u k)))) S1
end
end L3
end
section
set_option Elab.async false
set_option linter.all false
set_option maxRecDepth 100000
set_option maxHeartbeats 1000000
namespace L3
open PySem PySem.Spec PyProof.Rows L2
def signs (x : Str) : List D := x.cps.toList.map fun c => .str ⟨#[c]⟩
section
variable {M : Md} {X : Cx} {tg e : Expr} {d : DE}
def iTxt (d : DE) : DI := fun ρ S R => d ρ S fun v S1 => ∃ x : Str, v = .str x ∧ R (signs x) [] S1
theorem its_ok {io : Pl} {H : Hp} (x : Str) : ItOk M (Its x) (signs x) [] io H where
  go := fun io2 H2 S2 i d st r g e => by
    unfold signs at e
    rw [List.getElem?_map] at e
    obtain ⟨c, hc, rfl⟩ := Option.map_eq_some_iff.mp e
    have hi : i < x.cps.size := by
      have := (List.getElem?_eq_some_iff.mp hc).1
      simpa using this
    refine ⟨hi, fun y H3 ⟨e1, c', h1, h2⟩ => ?_⟩
    subst e1 h2
    rw [Array.getElem?_toList] at hc
    rw [hc] at h1
    cases h1
    exact ⟨io2, Stp.refl _ _, r, rfl⟩
  stop := fun io2 H2 S2 st r g => by
    show x.cps.size ≤ (signs x).length
    unfold signs
    rw [List.length_map, Array.length_toList]
    exact Nat.le_refl _
theorem q_txt (he : QE M X e d) : QI M X tg e (iTxt d) :=
  PI.imp (pi_str he) fun σ H R ⟨io, S, ρ, Rd, r, re, h, c⟩ => ⟨io, S, ρ, _, r, re, h, fun i1 H1 S1 v x s1 r1 d1 ⟨z, ez, h1⟩ => by
    subst ez
    exact ⟨z, d1, c i1 H1 S1 _ _ _ s1 r1 (its_ok z) h1⟩⟩
def oInS : DR2 := fun v w S Q => ∃ (c : Nat) (z : Str), v = .str ⟨#[c]⟩ ∧ w = .str z ∧ Q (.bl (decide (c ∈ z.cps.toList))) S
theorem sim_inS : Sim2 M rInS oInS := fun io H S x y v w Qd Q r dv dw ⟨c, z, e1, e2, q⟩ k => by
  subst e1 e2
  exact ⟨c, z, dv, dw, k.here r (v := .bl _) rfl q⟩
def oLtS : DR2 := fun v w S Q => ∃ a b : Str, v = .str a ∧ w = .str b ∧ Q (.bl (decide (a.cps.toList < b.cps.toList))) S
theorem sim_ltS : Sim2 M (fun x y H Q => ∃ i j, x = .str i ∧ y = .str j ∧ Q (.bl (decide (i.cps.toList < j.cps.toList))) H) oLtS := fun io H S x y v w Qd Q r dv dw ⟨a, b, e1, e2, q⟩ k => by
  subst e1 e2
  exact ⟨a, b, dv, dw, k.here r (v := .bl _) rfl q⟩
end
end L3
end
section
set_option Elab.async false
set_option linter.all false
set_option maxRecDepth 100000
set_option maxHeartbeats 1000000
namespace L3
open PySem PySem.Spec PyProof.Rows L2
section
variable {M : Md} {X : Cx} {a b : Expr} {da db : DE} {pos : Pos}
def oIxS : DR2 := fun v w S Q => ∃ (z : Str) (i : Int) (c : Nat), v = .str z ∧ w = .int i ∧ z.length ≤ sizeLine ∧ atI z.cps.toList i = some c ∧ Q (.str ⟨#[c]⟩) S
end
end L3
end
section
set_option Elab.async false
set_option linter.all false
set_option maxRecDepth 100000
set_option maxHeartbeats 1000000
namespace L3
open PySem PySem.Spec PyProof.Rows L2
section
variable {M : Md} {X : Cx}
end
end L3
end
section
set_option Elab.async false
set_option linter.all false
set_option maxRecDepth 100000
set_option maxHeartbeats 1000000
namespace L3
open PySem PySem.Spec PyProof.Rows L2
section
variable {prog : Program} {w : World} {A : Around} {E : Value → Shared → Prop} {s : Shared}
end
section
variable {X : Cx} {pos p : Pos}
end
def gdTail (t : DGs) : DG := fun v ρ S Q => ∃ d ds, lstD S v = some (d :: ds) ∧ ∀ l, S l = none → t [d, .ref l] ρ (S.set l (.lst ds)) Q
section
variable {M : Md} {X : Cx} {pos p : Pos}
end
end L3
end
section
set_option Elab.async false
set_option linter.all false
set_option maxRecDepth 100000
set_option maxHeartbeats 1000000
namespace L3
open PySem PySem.Spec PyProof.Rows L2
section
variable {X : Cx} {body : List Stmt} {h₀ : ExceptHandler} {hds : List ExceptHandler} {pos : Pos} {tb : WX → TS}
end
def dTry0 (db : DXS → DS) : DS := fun E ρ S => db (fun _ _ _ _ _ => False) E ρ S
end L3
end
section
set_option Elab.async false
set_option linter.all false
set_option maxRecDepth 100000
set_option maxHeartbeats 1000000
namespace L3
open PySem PySem.Spec PyProof.Rows L2
section
variable {prog : Program} {w : World} {A : Around} {E : Value → Shared → Prop} {s : Shared}
end
def dMaxK (d : DE) (z : Str) : DE := fun ρ S Q => d ρ S fun v S1 => ∃ (ks : List Str) (es : List D), dicD S1 v = some (ks.map Sum.inr, es) ∧ (ks = [] → Q (.str z) S1) ∧ ∀ m, m ∈ ks → (∀ k ∈ ks, ¬ m.cps.toList < k.cps.toList) → Q (.str m) S1
section
variable {M : Md} {X : Cx} {e ze : Expr} {d : DE} {p pos kpos : Pos} {z : Str}
end
end L3
end
section
set_option Elab.async false
set_option linter.all false
set_option maxRecDepth 100000
set_option maxHeartbeats 1000000
namespace L3
open PySem PySem.Spec PyProof.Rows L2
section
variable {prog : Program} {w : World} {A : Around} {E : Value → Shared → Prop} {s : Shared}
end
section
variable {M : Md} {X : Cx}
def dTupI (d : DE) : DE := fun ρ S Q => d ρ S fun v S1 => ∃ (ks : List Key) (es : List D), dicD S1 v = some (ks, es) ∧ Q (.tup ((ks.zip es).map fun p => D.tup [kD p.1, p.2])) S1
end
end L3
end
section
set_option Elab.async false
set_option linter.all false
set_option maxRecDepth 100000
set_option maxHeartbeats 1000000
namespace L3
open PySem PySem.Spec PyProof.Rows L2
section
variable {M : Md} {di : DI} {td : D → En → (En → Prop) → Prop} {g : TG} {tt : DT} {te : DE} {vs : List Nat} {K : PySem.W.Frag}
end
section
variable {M : Md} {X : Cx} {elt tg iter : Expr} {ifs : List Expr} {scope : Scope} {own : List (Str × Nat)} {pos : Pos} {di : DI} {td : D → En → (En → Prop) → Prop} {g : TG} {tt : DT} {te : DE}
end
end L3
end
section
set_option Elab.async false
set_option linter.all false
set_option maxRecDepth 100000
set_option maxHeartbeats 1000000
namespace L3
open PySem PySem.Spec PyProof.Rows L2
section
variable {M : Md} {X : Cx}
def oLeS : DR2 := fun v w S Q => ∃ a b : Str, v = .str a ∧ w = .str b ∧ Q (.bl (!decide (b.cps.toList < a.cps.toList))) S
end
end L3
end
section
set_option Elab.async false
set_option linter.all false
set_option maxRecDepth 100000
set_option maxHeartbeats 1000000
namespace L3
open PySem PySem.Spec PyProof.Rows L2
section
variable {M : Md} {X : Cx} {CX : CXT} {k : Nat} {f C : Addr} {params : Arguments} {ps : List Str} {sp : DSp} {Ed : DXK} {E : XK} {x : Str} {p pos : Pos}
end
end L3
end
section
set_option Elab.async false
set_option linter.all false
set_option maxRecDepth 100000
set_option maxHeartbeats 2000000
namespace L3
namespace Zk
open PySem PySem.Spec PyProof.Rows L2
def IsZipF (h : Heap) (z TI TO T : Addr) (f : Bool) : Prop :=
  h.get? z = some { cls := .type "zip", dict := none, data := .fields #[rawInt T, .bool f, .bool false, .ref TI, .ref TO], slots := #[] }
section
variable {prog : Program} {w : World} {A : Around} {E : Value → Shared → Prop} {s : Shared} {z TI TO i1 i2 : Addr} {fp1 fp2 : List Addr} {n1 n2 i : Nat} {P1 P2 : Nat → Value → Prop} {St1 St2 : Nat → Heap → Prop}
structure ZS (z TI TO i1 i2 : Addr) (St1 St2 : Nat → Heap → Prop) (i : Nat) (h : Heap) : Prop where
  zip : IsZip h z TI TO .none ∨ ∃ T f, IsZipF h z TI TO T f ∧ ∃ o, h.get? T = some o
  src : IsTupOf2 h TI (.ref i1) (.ref i2)
  own : ∃ a1 a2, IsTupOf2 h TO a1 a2
  st1 : St1 i h
  st2 : St2 i h
theorem ZS.keep {h h' : Heap} {Sl : Addr} (S : ZipSep2 z TI TO i1 i2 fp1 fp2) (D1 : Draws prog w A i1 fp1 n1 P1 St1) (D2 : Draws prog w A i2 fp2 n2 P2 St2) (st : ZS z TI TO i1 i2 St1 St2 i h) (nz : Sl ≠ z) (nTI : Sl ≠ TI) (nTO : Sl ≠ TO) (n1' : Sl ∉ fp1) (n2' : Sl ∉ fp2)
    (k : ∀ b o, b ≠ Sl → h.get? b = some o → h'.get? b = some o) (hs : ∃ o, h'.get? Sl = some o) : ZS z TI TO i1 i2 St1 St2 i h' := by
  obtain ⟨hz, hTI, ⟨a1, a2, hTO⟩, st1, st2⟩ := st
  refine ⟨?_, k _ _ (Ne.symm nTI) hTI, ⟨a1, a2, k _ _ (Ne.symm nTO) hTO⟩, D1.frame _ _ _ st1 fun b hb o e => k b o (fun q => n1' (q ▸ hb)) e, D2.frame _ _ _ st2 fun b hb o e => k b o (fun q => n2' (q ▸ hb)) e⟩
  rcases hz with hz | ⟨T, f, hz, oT, hT⟩
  · exact .inl (k _ _ (Ne.symm nz) hz)
  · refine .inr ⟨T, f, k _ _ (Ne.symm nz) hz, ?_⟩
    by_cases e : T = Sl
    · rw [e]; exact hs
    · exact ⟨oT, k _ _ e hT⟩
end
structure MadeZ (P1 P2 : Nat → Value → Prop) (lo : Addr) (h : Heap) (as : List Addr) : Prop where
  rise : as.Pairwise (· < ·)
  above : ∀ a ∈ as, lo < a
  pairs : ∀ (j : Nat) (a : Addr), as[j]? = some a → ∃ x1 x2, P1 j x1 ∧ P2 j x2 ∧ IsTupOf2 h a x1 x2
theorem MadeZ.there {P1 P2 : Nat → Value → Prop} {lo : Addr} {h : Heap} {as : List Addr} (g : MadeZ P1 P2 lo h as) {a : Addr} (ha : a ∈ as) : a < h.objs.size := by
  obtain ⟨j, hj⟩ := List.mem_iff_getElem?.mp ha
  obtain ⟨_, _, _, _, e⟩ := g.pairs j a hj
  exact Heap.lt_size e
section
variable {prog : Program} {w : World} {A : Around} {s : Shared} {R : Result → Shared → Prop} {z TI TO i1 i2 Sl : Addr} {fp1 fp2 : List Addr} {n1 n2 : Nat} {P1 P2 : Nat → Value → Prop} {St1 St2 : Nat → Heap → Prop}
end
section
variable {prog : Program} {w : World} {A : Around} {E : Value → Shared → Prop} {s : Shared} {z TI TO i1 i2 : Addr} {fp1 fp2 : List Addr} {n1 n2 : Nat} {P1 P2 : Nat → Value → Prop} {St1 St2 : Nat → Heap → Prop}
end
end Zk
open PySem PySem.Spec PyProof.Rows L2
def dListZip (d : DA) : DE := fun ρ S Q => d ρ S fun vs S' => ∃ u v a b, vs = [u, v] ∧ seqD S' u = some a ∧ seqD S' v = some b ∧ ∀ l, S' l = none → Q (.ref l) (S'.set l (.lst (rows2 a b)))
theorem IsB.up {b : Bool} {h h' : Heap} {a : Addr} {its : Array Value} (s : IsB b h a its) (k : ∀ b o, h.get? b = some o → h'.get? b = some o) : IsB b h' a its := by
  cases b <;> exact let ⟨o, e, r⟩ := s; ⟨o, k _ o e, r⟩
section
variable {M : Md} {X : Cx} {e e2 : Expr} {da : DA} {p p2 pos cpos : Pos}
end
end L3
end
section
set_option Elab.async false
set_option linter.all false
set_option maxRecDepth 100000
set_option maxHeartbeats 2000000
namespace L3
open PySem PySem.Spec PyProof.Rows L2
section
variable {prog : Program} {w : World} {A : Around} {E : Value → Shared → Prop} {s : Shared} {β : Type} {R : Value → β → Prop} {T : String} {r d : Addr} {n : Nat} {P : Nat → Value → Prop} {OK : Heap → Prop}
end
section
variable {X : Cx} {pins : List (Addr × Obj)} {σ : L2.St} {H : Hp} {s : Shared}
end
def txK (b : List Str) : List Key := b.map Sum.inr
section
variable {M : Md} {X : Cx} {e : Expr} {d : DE} {x : Str} {params : Arguments} {scope : Scope} {p lpos kpos pos p1 p2 p3 p4 p5 : Pos} {kk k : Nat} {c P : Addr}
end
end L3
end
section
set_option Elab.async false
set_option linter.all false
set_option maxRecDepth 100000
set_option maxHeartbeats 2000000
namespace L3
open PySem PySem.Spec PyProof.Rows L2
section
variable {M : Md} {X : Cx} {pos : Pos}
end
end L3
end
section
set_option Elab.async false
set_option linter.all false
set_option maxRecDepth 100000
set_option maxHeartbeats 2000000
namespace L3
open PySem PySem.Spec PyProof.Rows L2
section
variable {P : Program} {w : World} {A : Around} {kx vx t1 i1 : Expr} {ifs1 : List Expr} {scope : Scope} {pos : Pos} {D : Addr} {env : Env} {it : Value}
end
section
variable {X : Cx} {kx vx tg iter : Expr} {ifs : List Expr} {scope : Scope} {own : List (Str × Nat)} {pos : Pos} {wi : TI} {g : TG} {tt : TT} {tk tv : TE}
end
def dicTW (gs : Gs) (t : Tg) (tt : DT) (tk tv : DE) (ρ : En) (Q : List (List Key) → List D → Sto → Prop) : List D → List (List Key) → List D → Sto → Prop
  | [], ks, es, S => gs.ok S ∧ Q ks es S
  | d :: ds, ks, es, S => gs.ok S ∧ ks.length < sizeLine ∧ ∀ l o, S l = none → t.d d ρ fun ρ1 => tt ρ1 (S.set l o) fun b S2 =>
      if b = true then tk ρ1 S2 fun y S3 => tv ρ1 S3 fun z S4 => ∃ k, y = .tup (k.map kD) ∧ S4 l = some o ∧ ∃ S5, S5.sub (S4.del l) ∧ dicTW gs t tt tk tv ρ Q ds (putTs ks k) (putTd ks es k z) S5
      else S2 l = some o ∧ ∃ S4, S4.sub (S2.del l) ∧ dicTW gs t tt tk tv ρ Q ds ks es S4
def dDcT (di : DI) (t : Tg) (tt : DT) (tk tv : DE) (vs : List Nat) : DE := fun ρ S Q => di ρ S fun ds gs S1 => dicTW gs t tt tk tv (wipeD ρ vs) (fun ks es S2 => ∀ l, S2 l = none → Q (.ref l) (S2.set l (.dit ks es))) ds [] [] S1
section
variable {M : Md} {di : DI} {t : Tg} {tt : DT} {tk tv : DE} {vs : List Nat} {K : PySem.W.Frag}
end
section
variable {M : Md} {X : Cx} {kx vx tg iter : Expr} {ifs : List Expr} {scope : Scope} {own : List (Str × Nat)} {pos : Pos} {di : DI} {t : Tg} {tt : DT} {tk tv : DE}
end
def dSortKDF (d : DE) : DE := fun ρ S Q => d ρ S fun v S1 => ∃ (l : Nat) (bs : List (List Str)) (es : List D), v = .ref l ∧ S1 l = some (.dit (bs.map txK) es) ∧ bs.length ≤ 1000 ∧ (∀ b ∈ bs, b.length ≤ 1000) ∧ Q (.lst ((bs.mergeSort lnLe).map tS)) S1
end L3
end
section
set_option Elab.async false
set_option linter.all false
set_option maxRecDepth 100000
set_option maxHeartbeats 2000000
namespace L3
open PySem PySem.Spec PyProof.Rows L2
section
variable {P : Program} {w : World} {A : Around} {E : Value → Shared → Prop} {s : Shared}
abbrev hTx (P : Program) (w : World) (k : List Str) : Int := tupleKeyHash (PySem.strKind P w) k
abbrev AtTx (P : Program) (w : World) (h : Heap) (k : List Str) (b : Addr) : Prop := IsTupleKey (PySem.strKind P w) h k b
end
structure SetTx (P : Program) (w : World) (h : Heap) (a : Addr) (L : List (Addr × List Str)) (es : Array (Int × Value)) (ep : Nat) (t : SetTable) : Prop where
  obj : ∃ ob, h.get? a = some ob ∧ ob.ExactSet ∧ ob.data = .set es ep t
  ent : es.toList = L.map fun y => (hTx P w y.2, Value.ref y.1)
  tbl : L2.TabOk t (L.map fun y => hTx P w y.2)
  one : (L.map (·.2)).Nodup
  key : ∀ y ∈ L, AtTx P w h y.2 y.1
  led : w.params.followText "set-order" = true ∨ t.led = true
  gap : L.length * 5 < t.mask * 3
  few : L.length < 64
section
variable {P : Program} {w : World} {A : Around} {E : Value → Shared → Prop} {s : Shared} {a : Addr} {L : List (Addr × List Str)} {es : Array (Int × Value)} {ep : Nat} {t : SetTable}
theorem SetTx.size {h : Heap} (R : SetTx P w h a L es ep t) : es.size = L.length := by
  rw [← Array.length_toList, R.ent, List.length_map]
theorem SetTx.ok {h : Heap} (R : SetTx P w h a L es ep t) : t.fits es.size = true := by
  have n1 := R.tbl.sz
  have n2 := R.size
  have n3 := R.gap
  rw [List.length_map] at n1
  unfold SetTable.fits SetTable.fill
  rw [R.tbl.dm]
  simp only [Bool.and_eq_true, beq_iff_eq, decide_eq_true_eq]
  refine ⟨by rw [n1, n2], ?_⟩
  show t.place.size + 0 ≤ t.mask
  omega
theorem SetTx.at_ {h : Heap} (R : SetTx P w h a L es ep t) {i : Nat} {y : Addr × List Str} (e : L[i]? = some y) : es[i]? = some (hTx P w y.2, Value.ref y.1) := by
  have z : es.toList[i]? = some (hTx P w y.2, Value.ref y.1) := by rw [R.ent, List.getElem?_map, e]; rfl
  rwa [Array.getElem?_toList] at z
abbrev step (t : SetTable) (H : Int) (c : Nat) : SetTable.Probe := nth t.mask (L2.runAt t.mask (SetTable.bits H % (t.mask + 1)) (SetTable.bits H)) c
end
section
variable {P : Program} {w : World} {A : Around} {E : Value → Shared → Prop} {s : Shared} {a : Addr} {L : List (Addr × List Str)} {es : Array (Int × Value)} {ep : Nat} {t : SetTable}
end
section
variable {P : Program} {w : World} {A : Around} {E : Value → Shared → Prop} {s : Shared}
theorem AtTx.keep {h h' : Heap} {k : List Str} {b : Addr} (x : AtTx P w h k b) (e : ∀ c o, h.get? c = some o → h'.get? c = some o) : AtTx P w h' k b :=
  let ⟨o, its, n, e1, r⟩ := x
  ⟨o, its, n, e b o e1, r⟩
end
section
variable {P : Program} {w : World} {A : Around} {E : Value → Shared → Prop} {s : Shared}
end
def dLenSetT (d : DE) : DE := fun ρ S Q => d ρ S fun v S1 => ∃ xs : List (List Str), lstD S1 v = some (xs.map fun b => .tup (b.map .str)) ∧ xs.length < 64 ∧ ∀ ys : List (List Str), ys.Nodup → (∀ b, b ∈ ys ↔ b ∈ xs) → Q (.int (ys.length : Nat)) S1
def dLenSetS (d : DE) : DE := fun ρ S Q => d ρ S fun v S1 => ∃ xs : List Str, lstD S1 v = some (xs.map .str) ∧ xs.length < 1000 ∧ ∀ ys : List Str, ys.Nodup → (∀ b, b ∈ ys ↔ b ∈ xs) → Q (.int (ys.length : Nat)) S1
section
variable {M : Md} {X : Cx} {e : Expr} {d : DE} {p p2 pos pos2 : Pos}
theorem q_lenSetS (hM : M.K = X.K) (hc : X.calm = true) (hg : Gl X "len") (hm : X.mg "len" = none) (hg2 : Gl X "set") (hm2 : X.mg "set" = none) (he : QE M X e d)
    (hst : starEach [.Call (.Name "set" p2) [e] [] pos2] X.env = [(false, eval (.Call (.Name "set" p2) [e] [] pos2) X.env)] := by rfl) (hst2 : starEach [e] X.env = [(false, eval e X.env)] := by rfl) :
    QE M X (.Call (.Name "len" p) [.Call (.Name "set" p2) [e] [] pos2] [] pos) (dLenSetS d) := by
  refine ⟨fun pins s σ H Q I ⟨io, S, ρ, Qd, r, re, h, co⟩ => ?_⟩
  refine Call_ (ld_blt I hg hm boot_len ?_)
  refine PyProof.Rows.callWith_builtin1 ?_ (by rw [hst]; rfl) (by rfl)
  rw [hst]
  show wpAny _ _ (spliced [(false, eval (.Call (.Name "set" p2) [e] [] pos2) X.env)]) _ _ s
  refine Calls.spliced_cons (Call_ (ld_blt I hg2 hm2 boot_set ?_))
  refine PyProof.Rows.callWith_type1 ?_ (by rw [hst2]; rfl) (by rfl)
  rw [hst2]
  show wpAny _ _ (spliced [(false, eval e X.env)]) _ _ s
  refine Calls.spliced_cons ?_
  refine thn (he.run pins s σ H (fun x H1 => ∃ io1 S1 v, Stp io H io1 H1 ∧ RS M io1 H1 S1 ∧ RD M.K io1 H1 v x ∧ ∃ xs : List Str, lstD S1 v = some (xs.map .str) ∧ xs.length < 1000 ∧ ∀ ys : List Str, ys.Nodup → (∀ b, b ∈ ys ↔ b ∈ xs) → Qd (.int (ys.length : Nat)) S1) I
    ⟨io, S, ρ, _, r, re, h, fun i1 H1 S1 v x s1 r1 d1 q => ⟨i1, S1, v, s1, r1, d1, q⟩⟩) fun u s1 ⟨x, H1, I1, rx, i1, S1, v, st1, r1, d1, xs, e1, few, q⟩ => Calls.spliced_nil ?_
  obtain ⟨a, zs, rfl, sq, rr⟩ := lst_of r1 d1 e1
  have ez := rr.strs
  subst ez
  rw [hM] at sq
  obtain rfl : u = Value.ref a := rx
  obtain ⟨its, rv, pl, _⟩ := I1.list sq
  have bd : (4003 : Nat) < scanBound := by decide
  have lz := foldK_len xs []
  have lz0 : ([] : List Str).length = 0 := rfl
  refine set_of_list (I1.ok.hd hc) pl.isList rv (by omega) fun h2 tk k2 t2 => Calls.spliced_nil ?_
  obtain ⟨o, es, ep, t, o1, ox, o2, _, hp, T⟩ := t2
  have ez : es.size = (foldK [] xs).length := by have := hp.length_eq; simpa using this
  have I2 : Inv X pins σ H1 { s1 with heap := h2, toks := tk } := I1.kept (t' := tk) k2
  refine call_len_set o1 ox o2 T.fits (by rw [ez]; omega) ⟨.int ((foldK [] xs).length : Nat), H1, I2.tok _, ⟨_, by rw [ez]⟩, ?_⟩
  exact (co.to st1).here r1 (v := .int _) rfl (q (foldK [] xs) (foldK_nd xs [] .nil) fun b => by rw [foldK_mem]; simp)
end
end L3
end
section
set_option Elab.async false
set_option linter.all false
set_option maxRecDepth 100000
set_option maxHeartbeats 2000000
namespace L3
open PySem PySem.Spec PyProof.Rows L2
section
variable {P : Program} {w : World} {A : Around} {E : Value → Shared → Prop} {s : Shared}
end
section
variable {P : Program} {w : World} {A : Around} {E : Value → Shared → Prop} {s : Shared}
end
section
variable {P : Program} {w : World} {A : Around} {E : Value → Shared → Prop} {s : Shared}
end
section
variable {P : Program} {w : World} {A : Around} {E : Value → Shared → Prop} {s : Shared}
end
section
variable {P : Program} {w : World} {A : Around} {E : Value → Shared → Prop} {s : Shared}
end
def dSortSetX (d : DE) : DE := fun ρ S Q => d ρ S fun v S1 => ∃ xs : List (List Str), lstD S1 v = some (xs.map tS) ∧ (∀ ys : List (List Str), ys.Nodup → (∀ b ∈ ys, b ∈ xs) → ys.length < 63) ∧ (∀ b ∈ xs, b ≠ []) ∧ ∀ (ys : List (List Str)) (l : Nat), ys.Nodup → (∀ b, b ∈ ys ↔ b ∈ xs) → ys.Pairwise (fun a b => tLe a b = true) → S1 l = none → Q (.ref l) (S1.set l (.lst (ys.map tS)))
def dSortSetXF (d : DE) : DE := fun ρ S Q => d ρ S fun v S1 => ∃ xs : List (List Str), lstD S1 v = some (xs.map tS) ∧ (∀ ys : List (List Str), ys.Nodup → (∀ b ∈ ys, b ∈ xs) → ys.length < 63) ∧ (∀ b ∈ xs, b ≠ []) ∧ ∀ ys : List (List Str), ys.Nodup → (∀ b, b ∈ ys ↔ b ∈ xs) → ys.Pairwise (fun a b => tLe a b = true) → Q (.lst (ys.map tS)) S1
section
variable {M : Md} {X : Cx} {e : Expr} {d : DE} {p p2 pos pos2 : Pos}
end
def dSortSetXT (d : DE) : DE := fun ρ S Q => d ρ S fun v S1 => ∃ xs : List (List Str), v = .tup (xs.map tS) ∧ (∀ ys : List (List Str), ys.Nodup → (∀ b ∈ ys, b ∈ xs) → ys.length < 63) ∧ (∀ b ∈ xs, b ≠ []) ∧ ∀ (ys : List (List Str)) (l : Nat), ys.Nodup → (∀ b, b ∈ ys ↔ b ∈ xs) → ys.Pairwise (fun a b => tLe a b = true) → S1 l = none → Q (.ref l) (S1.set l (.lst (ys.map tS)))
def dSortSetXTF (d : DE) : DE := fun ρ S Q => d ρ S fun v S1 => ∃ xs : List (List Str), v = .tup (xs.map tS) ∧ (∀ ys : List (List Str), ys.Nodup → (∀ b ∈ ys, b ∈ xs) → ys.length < 63) ∧ (∀ b ∈ xs, b ≠ []) ∧ ∀ ys : List (List Str), ys.Nodup → (∀ b, b ∈ ys ↔ b ∈ xs) → ys.Pairwise (fun a b => tLe a b = true) → Q (.lst (ys.map tS)) S1
section
variable {M : Md} {X : Cx} {e : Expr} {d : DE} {p p2 pos pos2 : Pos}
end
end L3
end
section
set_option Elab.async false
set_option linter.all false
set_option maxRecDepth 100000
set_option maxHeartbeats 2000000
namespace L3
open PySem PySem.Spec PyProof.Rows L2
section
variable {X : Cx} {kx vx tg iter tg1 iter1 : Expr} {ifs ifs1 : List Expr} {scope : Scope} {own : List (Str × Nat)} {vs1 : List Nat} {pos : Pos} {wi wi1 : TI} {g g1 : TG} {tt tt1 : TT} {tk tv : TE}
end
def dic2TW (gs : Gs) (t : Tg) (tt : DT) (di1 : DI) (t1 : Tg) (tt1 : DT) (tk tv : DE) (vs1 : List Nat) (ρ : En) (Q : List (List Key) → List D → Sto → Prop) : List D → List (List Key) → List D → Sto → Prop
  | [], ks, es, S => gs.ok S ∧ Q ks es S
  | d :: ds, ks, es, S => gs.ok S ∧ ∀ l o, S l = none → t.d d ρ fun ρ1 => tt ρ1 (S.set l o) fun b S2 =>
      if b = true then di1 ρ1 S2 fun ds1 gs1 S3 => S3 l = some o ∧ ∃ S4, S4.sub (S3.del l) ∧ dicTW gs1 t1 tt1 tk tv (wipeD ρ1 vs1) (fun ks' es' S5 => ∃ S6, S6.sub S5 ∧ dic2TW gs t tt di1 t1 tt1 tk tv vs1 ρ Q ds ks' es' S6) ds1 ks es S4
      else S2 l = some o ∧ ∃ S4, S4.sub (S2.del l) ∧ dic2TW gs t tt di1 t1 tt1 tk tv vs1 ρ Q ds ks es S4
def dDc2T (di : DI) (t : Tg) (tt : DT) (di1 : DI) (t1 : Tg) (tt1 : DT) (tk tv : DE) (vs vs1 : List Nat) : DE := fun ρ S Q => di ρ S fun ds gs S1 =>
  dic2TW gs t tt di1 t1 tt1 tk tv vs1 (wipeD ρ vs) (fun ks es S2 => ∀ l, S2 l = none → Q (.ref l) (S2.set l (.dit ks es))) ds [] [] S1
section
variable {M : Md} {di di1 : DI} {t t1 : Tg} {tt tt1 : DT} {tk tv : DE} {vs vs1 : List Nat} {K : PySem.W.Frag}
end
section
variable {M : Md} {X : Cx} {kx vx tg iter tg1 iter1 : Expr} {ifs ifs1 : List Expr} {scope : Scope} {own : List (Str × Nat)} {vs1 : List Nat} {pos : Pos} {di di1 : DI} {t t1 : Tg} {tt tt1 : DT} {tk tv : DE}
end

section
variable {prog : Program} {w : World} {A : Around} {E : Value → Shared → Prop} {s : Shared} {β : Type} {R : Value → β → Prop} {T : String} {r d : Addr} {n : Nat} {P : Nat → Value → Prop} {OK : Heap → Prop}
end
def dSortDTF (d : DE) : DE := fun ρ S Q => d ρ S fun v S1 => ∃ (l : Nat) (bs : List (List Str)) (es : List D), v = .ref l ∧ S1 l = some (.dit (bs.map txK) es) ∧ bs.length ≤ 1000 ∧ (∀ b ∈ bs, b.length ≤ 1000 ∧ b ≠ []) ∧ Q (.lst ((bs.mergeSort tLe).map tS)) S1
section
variable {M : Md} {X : Cx} {e : Expr} {d : DE} {p pos : Pos} {k : Nat}
end
end L3
end
section
set_option Elab.async false
set_option linter.all false
set_option maxRecDepth 100000
set_option maxHeartbeats 2000000
namespace L3
open PySem PySem.Spec PyProof.Rows L2
section
variable {M : Model} {A : Around} {E : Value → Shared → Prop} {s : Shared} {env : Env}
end
section
variable {X : Cx} {pins pinsB : List (Addr × Obj)} {σ σB : L2.St} {H3 H' : Hp} {s3 sI : Shared} {scope : Scope} {ce : Env} {fp : List Addr} {B : Heap} {W0 : WX} {a : Addr} {cls : Value} {d : Option Addr}
end
section
variable {X : Cx}
end
section
variable {M : Md} {di : DI} {t : Tg} {tt : DT} {te : DXS → DE} {vs : List Nat} {K : PySem.W.Frag} {Ed : DXS} {W0 : WX}
end
section
variable {M : Md} {X : Cx} {elt tg iter : Expr} {ifs : List Expr} {scope : Scope} {own : List (Str × Nat)} {pos spos py : Pos} {di : DI} {t : Tg} {tt : DT} {te : DXS → DE} {y : Str} {i : Nat} {Ed : DXS} {W : WX}
end
section
variable {M : Md} {X : Cx} {e : Expr} {di : DI} {t : Tg} {tt : DT} {te : DXS → DE} {vs : List Nat} {Ed : DXS}
end
section
variable {P : Program} {w : World} {K : PySem.W.Frag} {mg : Str → Option Value} {base : Heap} {x qual : Str} {params : Arguments} {body : List Stmt} {scope : Scope} {p : He.Defn} {fd : FuncData} {N ps : List Str} {k : Nat} {sp : DSp} {tabs : List (Addr × Str)}
end
end L3
end
section
set_option Elab.async false
set_option linter.all false
set_option maxRecDepth 100000
set_option maxHeartbeats 2000000
namespace PySem.SeqAt
open AutoSeq1 (wpAny_loadPart')
open MeetsSeq MeetsSeq2 MeetsSeq3 SeqRoads2
theorem call_tuple_lt {A : Around} {s : Shared} {prog : Program} {w : World} {E : Value → Shared → Prop} {Q : Value → Shared → Prop} {l b : Addr} {items items2 : Array Value} {e r : Nat → Bool} (hl : s.heap.IsTuple l items) (hb : s.heap.IsTuple b items2)
    (he : ∀ j (h1 : j < items.size) (h2 : j < items2.size), EqAt A.in1 s items[j] items2[j] (e j)) (hr : ∀ j (h1 : j < items.size) (h2 : j < items2.size), e j = false → RcLt A.in1 s items[j] items2[j] (r j))
    (h : Q (.bool (firstLt e r (decide (items.size < items2.size)) (List.range (min items.size items2.size)))) s) : wpAny (model prog w) A (call (.builtin "tuple.__lt__") [.ref l, .ref b]) Q E s := by
  obtain ⟨⟨cls, dd, data, sl⟩, ho, hc, n, hd⟩ := id hl
  obtain ⟨⟨cls2, dd2, data2, sl2⟩, ho2, hc2, n2, hd2⟩ := id hb
  simp only at hc hd hc2 hd2
  subst hc hd hc2 hd2
  exact call_meets F.slot_tuple_lt ⟨_, ho, rfl⟩ F.entry_tuple_lt (F.args_tuple_lt_2 _ _) (tuple_ltAt l b items items2 n n2 dd dd2 sl sl2 e r) ⟨ho, ho2, he, hr, h⟩
end PySem.SeqAt
namespace PySem.W
open PySem PySem.Calls PySem.SeqAt PyProof.Rows
section
variable {prog : Program} {w : World} {A : Around} {E : Value → Shared → Prop} {s : Shared}
theorem oneLt_tup {xs ys : List PyData} {a b : Value} {as bs : List Addr} {Q : Bool → Shared → Prop} (ra : Reads s.heap a (.tuple xs) as) (rb : Reads s.heap b (.tuple ys) bs) (h : alike (.tuple xs) (.tuple ys) = true)
    (hu : A.units + min (PyData.tuple xs).depth (PyData.tuple ys).depth < cLine) (hq : Q (dataLt (.tuple xs) (.tuple ys)) s) : wpAny (model prog w) A (oneLt' true a b) Q E s := by
  have hal : alikeAll xs ys = true := by simpa [alike] using h
  cases ra with
  | @tuple l o vs n _ as₁ h1 h2 h3 h4 =>
    cases rb with
    | @tuple l' o' vs' n' _ bs₁ k1 k2 k3 k4 =>
      have n1 : vs.size = xs.length := by simpa using ReadsAll.length _ _ _ h4
      have n2 : vs'.size = ys.length := by simpa using ReadsAll.length _ _ _ k4
      rw [dataLt_tuple, ← firstLt_toks xs ys hal, ← n1, ← n2] at hq
      rw [oneLt'_eq]
      simp only [if_true]
      refine wpAny_bind (wpAny_cRoomFor (room_here hu) ?_)
      refine wpAny_bind (wpAny_callSpecialIfBound?_slot (T := "tuple") ⟨_, h1, h2⟩ F.slot_tuple_lt (call_tuple_lt (e := pairEq xs ys) (r := fun j => dataLt (xs.getD j .none) (ys.getD j .none)) ⟨_, h1, h2, _, h3⟩ ⟨_, k1, k2, _, k3⟩ (fun j j1 j2 => ?_) (fun j j1 j2 hj => ?_) ?_))
      · have := eqAt_alikeAll xs ys A.in1 s vs.toList vs'.toList _ _ h4 k4 hal (room_in hu) j (by simpa using j1) (by simpa using j2)
        simpa using this
      · have := rcLt_alikeAll xs ys A.in1 s vs.toList vs'.toList _ _ h4 k4 hal (room_in hu) j (by simpa using j1) (by simpa using j2) hj
        simpa using this
      · exact wpAny_truthy_bool hq
end
section
variable {M : Model} {A : Around} {E : Value → Shared → Prop} {s : Shared}
def isE0 : PyData → Bool
  | .tuple [] => true
  | _ => false
def hdsO : List PyData → List Bool
  | [] => []
  | .tuple (_ :: _) :: ds => true :: hdsO ds
  | _ :: ds => false :: hdsO ds
theorem firsts_tups : ∀ {vs : List Value} {ds : List PyData} {Q : List (Option Value) → Shared → Prop}, EachIs (fun v d => ∃ as, Reads s.heap v d as) vs ds → (∀ d, d ∈ ds → ∃ xs, d = .tuple xs) →
    (∀ fs : List (Option Value), fs.map Option.isSome = hdsO ds → Q fs s) → wpAny M A (vs.mapM firstOfTuple') Q E s
  | _, _, Q, .nil, _, h => by rw [List.mapM_nil]; exact wpAny_pure (h [] rfl)
  | v :: vs, d :: ds, Q, .cons ⟨as, r⟩ t, ht, h => by
    obtain ⟨xs, rfl⟩ := ht _ (List.mem_cons_self ..)
    cases r with
    | @tuple a o vs' n _ _ ho hc hd hr =>
      rw [List.mapM_cons]
      refine wpAny_bind ?_
      rw [kas_first_eq]
      refine wpAny_bind (Looks.here (show Looks M s.heap (typeOf (.ref a)) o.cls from (Looks.ld ho).andThen .now) ?_)
      rw [hc, if_neg (by first | decide | simp)]
      refine wpAny_bind (listItems_at ho hd (wpAny_pure ?_))
      refine wpAny_bind (firsts_tups (Q := fun bs s' => wpAny M A (pure (vs'[0]? :: bs)) Q E s') t (fun d hd => ht d (List.mem_cons_of_mem _ hd)) fun fs hfs => wpAny_pure (h _ ?_))
      cases xs with
      | nil =>
        cases hq : vs'.toList with
        | nil =>
          have : vs'[0]? = none := by rw [← Array.getElem?_toList, hq]; rfl
          rw [this]
          simp [hdsO, hfs]
        | cons f fr => rw [hq] at hr; cases hr
      | cons x xs =>
        cases hq : vs'.toList with
        | nil => rw [hq] at hr; cases hr
        | cons f fr =>
          have : vs'[0]? = some f := by rw [← Array.getElem?_toList, hq]; rfl
          rw [this]
          simp [hdsO, hfs]
theorem hdsO_all : ∀ {ds : List PyData}, (∀ b ∈ hdsO ds, b = true) → (∀ d, d ∈ ds → ∃ xs, d = .tuple xs) → ∀ d, d ∈ ds → ∃ x r, d = .tuple (x :: r)
  | [], _, _, d, hd => absurd hd (by simp)
  | d₀ :: ds, h, ht, d, hd => by
    obtain ⟨xs, rfl⟩ := ht d₀ (List.mem_cons_self ..)
    cases xs with
    | nil => exact absurd (h false (by simp [hdsO])) (by simp)
    | cons x xs =>
      rcases List.mem_cons.mp hd with rfl | hd
      · exact ⟨_, _, rfl⟩
      · exact hdsO_all (fun b hb => h b (by simp [hdsO, hb])) (fun d hd => ht d (List.mem_cons_of_mem _ hd)) d hd
theorem kind_tups {vs : List Value} {d₀ : PyData} {ds : List PyData} {Q : SortKind → Shared → Prop} (e : EachIs (fun v d => ∃ as, Reads s.heap v d as) vs (d₀ :: ds)) (ht : ∀ d, d ∈ d₀ :: ds → ∃ xs, d = .tuple xs) (hn : ¬ ∀ b ∈ hdsO (d₀ :: ds), b = true)
    (h : Q (if isE0 d₀ = true then oneType' else general') s) : wpAny M A (keyKind' vs.toArray) Q E s := by
  rw [keyKind'_eq, List.mapM_toArray, map_eq_pure_bind]
  refine wpAny_bind (wpAny_bind (firsts_tups e ht fun fs hfs => wpAny_pure ?_))
  have hna : ¬ ((fs.toArray.all fun x => x.isSome) = true) := by
    intro q
    refine hn fun b hb => ?_
    rw [← hfs] at hb
    obtain ⟨o, ho, rfl⟩ := List.mem_map.mp hb
    simp only [List.all_toArray, List.all_eq_true] at q
    exact q o ho
  rw [if_neg hna]
  obtain ⟨xs, rfl⟩ := ht d₀ (List.mem_cons_self ..)
  cases fs with
  | nil => cases xs <;> simp [hdsO] at hfs
  | cons f fs =>
    cases xs with
    | cons x xs =>
      have hf : f.isSome = true := by rw [List.map_cons] at hfs; exact (List.cons.inj hfs).1
      have h0 : ((f :: fs).toArray[0]?.bind id).isSome = true := by simpa using hf
      rw [if_pos h0]
      rw [if_neg (by simp [isE0])] at h
      exact wpAny_pure h
    | nil =>
      have hf : f.isSome = false := by rw [List.map_cons] at hfs; exact (List.cons.inj hfs).1
      have h0 : ¬ ((f :: fs).toArray[0]?.bind id).isSome = true := by cases f <;> simp at hf ⊢
      rw [if_neg h0]
      rw [if_pos (by rfl)] at h
      rw [oneTypeOnly'_eq, List.mapM_toArray, map_eq_pure_bind]
      refine wpAny_bind (wpAny_bind (wpAny_bind (kas_mapM (r := Value.type "tuple") _ (fun v hv Q' hq => ?_) (wpAny_pure ?_))))
      · obtain ⟨d, hd, as, r⟩ := e.left v hv
        obtain ⟨ys, rfl⟩ := ht d hd
        exact (looks_reads r).here hq
      · cases e with
        | cons _ _ =>
          rename_i v vs _ _
          have hall : ((List.map (fun _ => Value.type "tuple") (v :: vs)).toArray.all fun x => x == Value.type "tuple") = true := by
            simp only [List.all_toArray, List.all_map, List.all_eq_true]
            intro _ _
            rfl
          have h0 : (List.map (fun _ => Value.type "tuple") (v :: vs)).toArray[0]? = some (Value.type "tuple") := by simp
          rw [h0]
          simp only [hall, if_true]
          exact wpAny_pure (wpAny_pure h)
end
section
variable {prog : Program} {w : World} {A : Around} {s : Shared}
theorem SortsAt.tups {vs : List Value} {ds : List PyData} (e : EachIs (fun v d => ∃ as, Reads s.heap v d as) vs ds) (hal : AllAlike ds) (ht : ∀ d, d ∈ ds → ∃ xs, d = .tuple xs) (hu : ∀ d, d ∈ ds → A.units + d.depth < cLine) : SortsAt prog w A s (dataKind s.heap ds) vs := by
  by_cases hn : ∀ b ∈ hdsO ds, b = true
  · exact SortsAt.data e hal (.inl (hdsO_all hn ht)) hu
  have room : ∀ {d d' : PyData}, d ∈ ds → A.units + min d.depth d'.depth < cLine := fun {d d'} hd => Nat.lt_of_le_of_lt (Nat.add_le_add_left (Nat.min_le_left _ _) _) (hu d hd)
  refine ⟨fun v hv => ?_, ?_⟩
  · obtain ⟨d, hd, as, r⟩ := e.left v hv
    exact ⟨_, dataKind_some hal hd r⟩
  cases ds with
  | nil => exact absurd (fun b hb => absurd hb (by simp [hdsO])) hn
  | cons d₀ ds =>
    refine ⟨if isE0 d₀ = true then oneType' else general', ?_, fun h2 E Q hq => kind_tups e ht hn hq⟩
    intro E x y a b Q ha hb hq
    obtain ⟨d, as, hd, ra, rfl⟩ := dataKind_inv ha
    obtain ⟨d', as', hd', rb, rfl⟩ := dataKind_inv hb
    obtain ⟨xs, rfl⟩ := ht d hd
    obtain ⟨ys, rfl⟩ := ht d' hd'
    split
    · rw [keyLt'_oneType]
      exact oneLt_tup ra rb (hal _ hd _ hd') (room hd) hq
    · show wpAny (model prog w) A (oneLt' false x y) Q E s
      exact oneLt_alike (fun q => absurd q (by simp)) ra rb (hal _ hd _ hd') (by simp) (room hd) hq
end
section
variable {prog : Program} {w : World} {A : Around} {E : Value → Shared → Prop} {s : Shared} {β : Type} {vs : List Value} {bs : List β} {enc : β → PyData} {R : Value → β → Prop}
end
end PySem.W
namespace L3
open PySem PySem.Spec PyProof.Rows L2
section
variable {P : Program} {w : World} {A : Around} {E : Value → Shared → Prop} {s : Shared}
end
def dSortSetX0 (d : DE) : DE := fun ρ S Q => d ρ S fun v S1 => ∃ xs : List (List Str), lstD S1 v = some (xs.map tS) ∧ (∀ ys : List (List Str), ys.Nodup → (∀ b ∈ ys, b ∈ xs) → ys.length < 63) ∧ ∀ (ys : List (List Str)) (l : Nat), ys.Nodup → (∀ b, b ∈ ys ↔ b ∈ xs) → ys.Pairwise (fun a b => tLe a b = true) → S1 l = none → Q (.ref l) (S1.set l (.lst (ys.map tS)))
def dSortSetX0F (d : DE) : DE := fun ρ S Q => d ρ S fun v S1 => ∃ xs : List (List Str), lstD S1 v = some (xs.map tS) ∧ (∀ ys : List (List Str), ys.Nodup → (∀ b ∈ ys, b ∈ xs) → ys.length < 63) ∧ ∀ ys : List (List Str), ys.Nodup → (∀ b, b ∈ ys ↔ b ∈ xs) → ys.Pairwise (fun a b => tLe a b = true) → Q (.lst (ys.map tS)) S1
section
variable {M : Md} {X : Cx} {e : Expr} {d : DE} {p p2 pos pos2 : Pos}
end
end L3
end
section
set_option Elab.async false
set_option linter.all false
set_option maxRecDepth 100000
set_option maxHeartbeats 2000000
namespace L3
open PySem PySem.Spec PyProof.Rows L2 LamX
abbrev Calm (A : Around) : Prop := A.guards = some []
structure FnG (P : Program) (w : World) (K : PySem.W.Frag) (mg : Str → Option Value) (base : Heap) (CX : CXT) (k : Nat) (f : Addr) (fd : FuncData) (ps : List Str) (sp : Sp) : Prop where
  len : ∀ vs H Q E, sp vs H Q E → vs.length = ps.length
  go : ∀ (A : Around) (up : List Env) (s : Shared) (H : Hp) (args : Args) (us : List Value) (vs : List V) (Q : VK) (E : XK), Room k A → Calm A → Env0 P w K mg base A up s H → BindsTo s fd args (ps.zip us) → Vals vs us → sp vs H Q E →
    codeAny (model P w) A (.call (.ref f) args) (CR CX up P w H s Q E) s
theorem FnG.mono {P : Program} {w : World} {K : PySem.W.Frag} {mg : Str → Option Value} {base : Heap} {CX : CXT} {i j : Nat} {f : Addr} {fd : FuncData} {ps : List Str} {sp : Sp} (F : FnG P w K mg base CX i f fd ps sp) (h : i ≤ j) : FnG P w K mg base CX j f fd ps sp :=
  ⟨F.len, fun A up s H args us vs Q E r => F.go A up s H args us vs Q E (r.mono h)⟩
section
variable {P : Program} {w : World} {K : PySem.W.Frag} {mg : Str → Option Value} {base : Heap} {CX : CXT} {k : Nat}
theorem fnG_of {fa : Addr} {nm qn : Str} {pm : Arguments} {bd : List Stmt} {sc : Scope} {d1 d2 d3 d4 cv d5 oc : Value} {an od : Option Addr} {sl : Array (Option Value)} {N ps : List Str} {sp : Sp}
    (look : K.lookup fa = some ⟨oc, od, .func (PySem.W.fnOf nm qn pm bd sc d1 d2 d3 d4 an cv d5), sl⟩) (code : PySem.W.codeIn K cv qn = true) (Sc : FnScope N ps sc) (len : ∀ vs H Q E, sp vs H Q E → vs.length = ps.length)
    (hb : ∀ (A : Around) (up : List Env) (s : Shared) (H : Hp) (vs : List V) (Q : VK) (E : XK), Room k (A.deeper (envOfC qn sc s.heap.objs.size fa cv)) → Calm A → sp vs H Q E →
      ∃ t, PSs (cxOf CX P w K mg base N qn sc fa cv A up s H E) bd t ∧ t { nx := fun _ H2 => Q .non H2, rt := Q } (start N vs) H) :
    FnG P w K mg base CX (k + 1) fa (PySem.W.fnOf nm qn pm bd sc d1 d2 d3 d4 an cv d5) ps sp where
  len := len
  go := fun A up s H args us vs Q E room calm e bind rel asked => by
    have inK : K.In s.heap := e.mod.kin.keeps fun b o z => (e.bs b o z).1
    have free : s.heap.NoLimit := e.mod.nolimit.keeps fun b o z => (e.bs b o z).1
    refine codeAny_call_function room.depth (inK _ _ look) rfl Sc.co Sc.gen rfl (PySem.W.codeRec_of inK code) (bind _ _ _ _ ?_)
    refine wpAny_newFunctionEnv_cells Sc.kind (fun pr hp => ?_) fun env ee s2 laid => ?_
    · rcases Sc.par pr.1 (List.of_mem_zip (show (pr.1, pr.2) ∈ ps.zip us from hp)).1 with h | h
      · exact Or.inl h
      · exact Or.inr ⟨h, PySem.W.cellsFrom_some _ _ _ (Or.inl h)⟩
    · subst ee
      obtain ⟨t, der, holds⟩ := hb A up s H vs Q E (room.deeper _) calm asked
      have J0 : Inv (cxOf CX P w K mg base N qn sc fa cv A up s H E) [] (start N vs) H s2 := inv_start Sc room.hd e (len _ _ _ _ asked) rel laid
      refine ⟨free.keeps laid.toInCall.keep, codeAny_func (wpAny_mono (der.run [] s2 (start N vs) H _ J0 holds) (fun way s3 z => ?_) fun _ _ z => z)⟩
      match way, z with
      | .ret u, ⟨v, _, H3, J, rv, q⟩ => exact ⟨v, H3, J.os, J.bare, J.base, J.hok, rv, q⟩
      | .next, ⟨_, H3, J, q⟩ => exact ⟨V.non, H3, J.os, J.bare, J.base, J.hok, rfl, q⟩
      | .brk, ⟨_, _, _, q⟩ => exact q.elim
      | .cont, ⟨_, _, _, q⟩ => exact q.elim
end
section
variable {P : Program} {w : World} {K : PySem.W.Frag} {mg : Str → Option Value} {base : Heap} {x qual : Str} {params : Arguments} {body : List Stmt} {scope : Scope} {p : He.Defn} {fd : FuncData} {N ps : List Str} {k : Nat} {sp : DSp} {tabs : List (Addr × Str)}
theorem calm_in {A : Around} (h : Calm A) (env : Env) : Calm (A.deeper env) := h
theorem fnG_body (F : FunD K x qual params body scope [] [] (He.fAd K p) fd) (Sc : FnScope N ps scope) (len : ∀ ds S Q E, sp ds S Q E → ds.length = ps.length)
    (hb : ∀ (A : Around) (up : List Env) (s : Shared) (H : Hp) (E : XK) (io : Pl), Room k (A.deeper (envOfC qual scope s.heap.objs.size (He.fAd K p) (.ref (He.codeOf K p)))) → Calm (A.deeper (envOfC qual scope s.heap.objs.size (He.fAd K p) (.ref (He.codeOf K p)))) →
      ∃ d : DS, QSs ⟨K, tabs, io, H, some w⟩ (cxOf C8.CX0 P w K mg base N qual scope (He.fAd K p) (.ref (He.codeOf K p)) A up s H E).nox body d ∧ ∀ ds S Q Ed, sp ds S Q Ed → d (EndsD Q) (startD N ds) S) :
    FnG P w K mg base C8.CX0 (k + 1) (He.fAd K p) fd ps (liftSp K tabs (some w) sp) := by
  obtain ⟨oc, od, d1, d2, d3, d4, an, cv, ct, sl, rfl, look, code, hD, hK⟩ := F.ex
  obtain ⟨c, rfl⟩ := He.codeIn_ref code
  cases (He.codeOf_eq look rfl : He.codeOf K p = c)
  refine fnG_of look code Sc (fun vs H Q E ⟨io, S, ds, _, Ed, _, d, h, _, _⟩ => d.len.trans (len ds S _ Ed h)) fun A up s H vs Q E room calm ⟨io, S, ds, Qd, Ed, r, d, h, c, _⟩ => ?_
  obtain ⟨rd, der, law⟩ := hb A up s H E io room (calm_in calm _)
  exact ⟨_, der.nox, body_sim r d c (law ds S Qd Ed h)⟩
structure FNG (P : Program) (w : World) (K : PySem.W.Frag) (mg : Str → Option Value) (base : Heap) (CX : CXT) (tabs : List (Addr × Str)) (k : Nat) (f : Addr) (ps : List Str) (sp : DSp) : Prop where
  ex : ∃ fd, FnG P w K mg base CX k f fd ps (liftSp K tabs (some w) sp) ∧ Binds K fd ps [] ∧ PySem.W.keepIn K (.ref f) = true
theorem FNG.mono {CX : CXT} {f : Addr} {j : Nat} (F : FNG P w K mg base CX tabs k f ps sp) (h : k ≤ j) : FNG P w K mg base CX tabs j f ps sp :=
  let ⟨fd, a, b⟩ := F.ex
  ⟨fd, a.mono h, b⟩
theorem fnG_def (F : FunD K x qual params body scope [] [] (He.fAd K p) fd) (Sc : FnScope N ps scope)
    (bn : ∀ (kV doc pm : Value) (an : Option Addr) (cdv ct : Value) (us : List Value), us.length = ps.length → bindArgs (PySem.W.fnOf x qual params body scope .none kV doc pm an cdv ct) ⟨us, []⟩ = pure (ps.zip us)) (len : ∀ ds S Q E, sp ds S Q E → ds.length = ps.length)
    (hb : ∀ (A : Around) (up : List Env) (s : Shared) (H : Hp) (E : XK) (io : Pl), Room k (A.deeper (envOfC qual scope s.heap.objs.size (He.fAd K p) (.ref (He.codeOf K p)))) → Calm (A.deeper (envOfC qual scope s.heap.objs.size (He.fAd K p) (.ref (He.codeOf K p)))) →
      ∃ d : DS, QSs ⟨K, tabs, io, H, some w⟩ (cxOf C8.CX0 P w K mg base N qual scope (He.fAd K p) (.ref (He.codeOf K p)) A up s H E).nox body d ∧ ∀ ds S Q Ed, sp ds S Q Ed → d (EndsD Q) (startD N ds) S) :
    FNG P w K mg base C8.CX0 tabs (k + 1) (He.fAd K p) ps sp := ⟨fd, fnG_body F Sc len hb, F.bindsN bn, F.kp⟩
end
section
variable {M : Md} {X : Cx} {CX : CXT} {k : Nat} {f : Addr} {ps : List Str} {sp : DSp} {Ed : DXK} {E : XK} {x : Str} {p pos : Pos} {e : Expr} {es : List Expr} {t : DA}
theorem runG {fd : FuncData} {sp : Sp} {pins : List (Addr × Obj)} {σ : L2.St} {H : Hp} {s : Shared} {Q : VK} {us : List Value} {vs : List V} (F : FnG X.prog X.w X.K X.mg X.base CX k f fd ps sp) (room : Room k X.A) (calm : Calm X.A) (hb : Binds X.K fd ps []) (pass : Passes CX X E)
    (J : Inv X pins σ H s) (r : Vals vs us) (h : sp vs H Q E) : wpAny (model X.prog X.w) X.A (call (.ref f) us) (EP X pins σ Q) X.xe s := by
  have n : (us ++ []).length = ps.length := by rw [List.append_nil, ← r.length]; exact F.len _ _ _ _ h
  have b := hb s us J.kIn n
  rw [List.append_nil] at b
  refine wpAny_call (codeAny_mono (F.go X.A X.stack s H _ us vs Q E room calm J.env0 b r h) fun way s2 z => ?_)
  match way, z with
  | .error y, z => exact pass pins σ H s y s2 J z
  | .ok (.ret u), z => exact J.after z
  | .ok .next, z => exact z.elim
  | .ok .brk, z => exact z.elim
  | .ok .cont, z => exact z.elim
theorem q_callG (hK : M.kw = (X.K, some X.w)) (F : FNG X.prog X.w X.K X.mg X.base CX M.tabs k f ps sp) (room : Room k X.A) (calm : Calm X.A) (glob : Gl X x) (hm : X.mg x = some (.ref f)) (pass : Passes CX X E) (hE : ExOk M Ed E)
    (ha : QA M X (e :: es) t) (hdb : (x == ("__debug__" : Str)) = false := by decide) (he : starEach (e :: es) X.env = (false, eval e X.env) :: starEach es X.env := by rfl) (hpl : (backTo pos (starEach es X.env)).any (·.1) = false := by rfl) :
    QE M X (.Call (.Name x p) (e :: es) [] pos) (dCall sp Ed t) := by
  obtain ⟨fd, a, b, kp⟩ := F.ex
  have pe : ∀ {ta : TA}, PA X (e :: es) ta → PE X (.Call (.Name x p) (e :: es) [] pos) fun σ H Q => ta σ H fun vs H1 => liftSp X.K M.tabs (some X.w) sp vs H1 Q E := fun {ta} pa => ⟨fun pins s σ H Q J h =>
    wpAny_Call_Name_kw (ld_glob J glob hm (PySem.W.callWith_K (h₀ := X.base) J.ok.mod.kin kp (thn (pa.run pos pins s σ H _ J h) fun us s2 ⟨vs, H2, J2, r, q⟩ => ⟨J2.kIn, runG a room calm b pass J2 r q⟩) he hpl) hdb)⟩
  exact PE.imp (pe ha) fun σ H Q ⟨io, S, ρ, Qd, r, re, h, c⟩ => ⟨io, S, ρ, _, r, re, h, fun i1 H1 S1 ds xs s1 r1 d1 h1 => by
    rw [← kw_k hK, ← kw_w hK]
    exact call_sim r1 d1 h1 (c.to s1) hE⟩
end
end L3
end
section
set_option Elab.async false
set_option linter.all false
set_option maxRecDepth 100000
set_option maxHeartbeats 2000000
namespace L3
open PySem PySem.Spec PyProof.Rows L2 LamX
def tabO : Obj := { cls := .none, data := .fields #[] }
def lstO (vs : List Value) : Obj := { cls := .type "list", data := .seq vs.toArray }
section
variable {P : Program} {w : World} {K : PySem.W.Frag} {mg mb : Str → Option Value} {CX : CXT} {k : Nat} {fa a : Addr} {cs : List (Addr × Addr)} {fd : FuncData} {x : Str} {sp : Sp} {s : Shared} {vs : List Value} {ns : List Int} {H : Hp}
structure Hides (K : PySem.W.Frag) (s : Shared) (a : Addr) (cs : List (Addr × Addr)) (H : Hp) : Prop where
  few : ∀ b, H b ≠ none → b = a ∨ ∃ p ∈ cs, b = p.2
  out : H a ≠ none → K.lookup a = none
theorem Hides.at (h : Hides K s a cs H) (ha : s.heap.get? a = some (lstO vs)) (ht : ∀ p ∈ cs, s.heap.get? p.2 = some tabO) {b : Addr} {o : Obj} (e : s.heap.get? b = some o) (n1 : ∀ u n, o.data ≠ .seq u n) (n2 : o.data ≠ .fields #[]) : (hidT s.heap H).get? b = some o := by
  refine hidT_get e (Classical.byContradiction fun nn => ?_)
  rcases h.few b nn with q | ⟨p, hp, q⟩
  · rw [q, ha] at e
    exact n1 _ _ (congrArg Obj.data (Option.some.inj e)).symm
  · rw [q, ht p hp] at e
    exact n2 (congrArg Obj.data (Option.some.inj e)).symm
theorem Hides.dct (h : Hides K s a cs H) (ha : s.heap.get? a = some (lstO vs)) (ht : ∀ p ∈ cs, s.heap.get? p.2 = some tabO) {b : Addr} {m : Str → Option Value} (n : s.heap.Ns b m) : (hidT s.heap H).Ns b m :=
  let ⟨o, es, ep, e, d, r⟩ := n
  ⟨o, es, ep, h.at ha ht e (fun u i z => by rw [d] at z; exact nomatch z) (fun z => by rw [d] at z; exact nomatch z), d, r⟩
theorem Hides.kin (h : Hides K s a cs H) (inK : K.In s.heap) (no : ∀ p ∈ cs, K.lookup p.2 = none) : K.In (hidT s.heap H) := fun b o e => hidT_get (inK b o e) (Classical.byContradiction fun nn => by
  rcases h.few b nn with q | ⟨p, hp, q⟩
  · rw [q] at e nn
    rw [h.out nn] at e
    exact nomatch e
  · rw [q, no p hp] at e
    exact nomatch e)
theorem Hides.tab (h : Hides K s a cs H) (ha : s.heap.get? a = some (lstO vs)) (ht : ∀ p ∈ cs, s.heap.get? p.2 = some tabO) (hns : s.heap.Ns mainGlobals mg) (C : ∀ p ∈ cs, PySem.W.CodeHd s.heap p.1 p.2)
    (bm : ∃ (bm : Addr) (ob : Obj), mg "__builtins__" = some (.ref bm) ∧ bm ≠ builtinsNs ∧ s.heap.get? bm = some ob ∧ ob.cls = .type "module" ∧ ob.dict = some builtinsNs ∧ ob.data = .plain) : ∀ p ∈ cs, TabB (hidT s.heap H) mg p.1 p.2 := fun p hp => by
  have tp := ht p hp
  obtain ⟨go, ges, gep, ge, gd, _⟩ := hns
  refine ⟨?_, ?_, fun z => ?_⟩
  · obtain ⟨o, us, file, tf, flags, tg, inF, text, tt, e1, r1, r2, r3, r4, r5, r6, r7, r8, r9⟩ := C p hp
    refine ⟨o, us, file, tf, flags, tg, inF, text, tt, h.at ha ht e1 (fun u n z => ?_) (fun z => ?_), r1, r2, r3, r4, r5, r6, r7, r8, r9⟩
    · exact nomatch r2.symm.trans z
    · have q := r2.symm.trans z
      cases q
      exact absurd r3 (by simp)
  · obtain ⟨m, ob, b1, b2, b3, b4, b5, b6⟩ := bm
    refine ⟨m, ob, b1, b2, fun q => ?_, fun q => ?_, h.at ha ht b3 (fun u n z => nomatch b6.symm.trans z) (fun z => nomatch b6.symm.trans z), b4, b5, b6⟩
    · rw [q, ge] at b3
      cases b3
      exact nomatch gd.symm.trans b6
    · rw [q, tp] at b3
      cases b3
      exact nomatch b6
  · rw [z, tp] at ge
    cases ge
    exact nomatch gd
theorem calm_run (inK : K.In s.heap) (hns : s.heap.Ns mainGlobals mg) (hb : s.heap.Ns builtinsNs mb) (hbb : ∀ x : Str, x ≠ "__name__" → mb x = bootBuiltins x) (lim : s.heap.NoLimit) (hg : s.gens = #[]) (ht : ∀ p ∈ cs, s.heap.get? p.2 = some tabO) (no : ∀ p ∈ cs, K.lookup p.2 = none)
    (C : ∀ p ∈ cs, PySem.W.CodeHd s.heap p.1 p.2) (bm : ∃ (bm : Addr) (ob : Obj), mg "__builtins__" = some (.ref bm) ∧ bm ≠ builtinsNs ∧ s.heap.get? bm = some ob ∧ ob.cls = .type "module" ∧ ob.dict = some builtinsNs ∧ ob.data = .plain) (ha : s.heap.get? a = some (lstO vs)) (room : Room k callerA)
    (F : ∀ base : Heap, K.In base → base.Ns mainGlobals mg → (∀ p ∈ cs, TabB base mg p.1 p.2) → FnG P w K mg base CX k fa fd [x] sp) (bind : ∀ (s : Shared) (u : Value), BindsTo s fd ⟨[u], []⟩ [(x, u)]) (hCX : ∀ e s2, CX [] H s (fun _ _ _ => False) e s2 → False)
    (hH : ∀ p ∈ cs, H p.2 = some (.tbl #[])) (kinds : ∀ b u, H b = some u → (∃ p ∈ cs, b = p.2) ∨ ∃ o xs, u = .frz o (.lst xs)) (ok : HOk P w H s.heap) (hid : Hides K s a cs H) (asked : sp [.ref a] H (fun v _ => v = .bl true) fun _ _ _ => False) :
    codeAny (model P w) callerA (.call (.ref fa) ⟨[.ref a], []⟩) (fun r s2 => r = .ok (.ret (.bool true)) ∧ OldK s.heap s2.heap ∧ s2.os = s.os ∧ AllBare s2.gens) s := by
  have md : L2.Mod K mg (hidT s.heap H) := ⟨hid.kin inK no, hid.dct ha ht hns, ⟨mb, hid.dct ha ht hb, hbb⟩, let ⟨m, l1, l2⟩ := lim; ⟨m, hid.dct ha ht l1, l2⟩⟩
  have env : Env0 P w K mg (hidT s.heap H) callerA [] s H := { frames := rfl, mod := md, bs := fun b o e => of_hidT e, bsz := Nat.le_of_eq (hidT_size _ _), funs := trivial, frf := (fun b hb => nomatch (show b ∈ ([] : List Addr) from hb)), hok := ok, bare := .of_eq hg }
  refine codeAny_mono ((F _ md.kin (hid.dct ha ht hns) (hid.tab ha ht hns C bm)).go callerA [] s H _ [.ref a] [.ref a] _ _ room rfl env (bind s (.ref a)) (.cons rfl .nil) asked) fun way s2 z => ?_
  match way, z with
  | .error y, z => exact (hCX y s2 z).elim
  | .ok .next, z => exact z.elim
  | .ok .brk, z => exact z.elim
  | .ok .cont, z => exact z.elim
  | .ok (.ret u), ⟨v, H2, os, bare, un, ok2, rel, (q : v = .bl true)⟩ =>
    subst q
    cases (rel : u = Value.bool true)
    -- what was there, but the tables, is there as it was
    have old : ∀ b o, (¬ ∃ p ∈ cs, b = p.2) → s.heap.get? b = some o → s2.heap.get? b = some o := fun b o nt e => by
      match hb : H b with
      | none => exact un.keep b o e hb (fun z => nomatch (show b ∈ ([] : List Addr) from z)) (fun z => nomatch z)
      | some u =>
        rcases kinds b u hb with q | ⟨ob, xs, q⟩
        · exact absurd q nt
        · rw [q] at hb
          have o1 := (ok b _ hb).1
          rw [e] at o1
          cases o1
          exact (ok2 b _ (un.frzs b _ _ hb)).1
    have tab : ∀ p ∈ cs, ∃ more : Array Value, s2.heap.get? p.2 = some { cls := .none, data := .fields more } := fun p hp =>
      let ⟨_, z⟩ := un.tbls p.2 #[] (hH p hp)
      ⟨_, ok2 p.2 _ z⟩
    refine ⟨rfl, ⟨fun b o e => ?_, fun b o e => ?_⟩, os, bare⟩
    · by_cases nt : ∃ p ∈ cs, b = p.2
      · obtain ⟨p, hp, q⟩ := nt
        obtain ⟨more, hm⟩ := tab p hp
        subst q
        rw [ht p hp] at e
        cases e
        exact Or.inr (Or.inl ⟨((C p hp).tab (ht p hp)).isCodeTable, rfl, #[], more, rfl, by rw [Array.empty_append]; exact hm⟩)
      · exact Or.inl (old b o nt e)
    · by_cases nt : ∃ p ∈ cs, b = p.2
      · obtain ⟨p, hp, q⟩ := nt
        obtain ⟨more, hm⟩ := tab p hp
        subst q
        exact ⟨_, hm⟩
      · exact ⟨o, old b o nt e⟩
def hideH (K : PySem.W.Frag) (a : Addr) (cs : List (Addr × Addr)) (vs : List Value) (ns : List Int) : Hp := fun b =>
  if b ∈ cs.map (·.2) then some (.tbl #[]) else if b = a ∧ K.lookup a = none then some (.frz (lstO vs) (.lst (ns.map V.int))) else none
theorem hide_tab {p : Addr × Addr} (hp : p ∈ cs) : hideH K a cs vs ns p.2 = some (.tbl #[]) := if_pos (List.mem_map.mpr ⟨p, hp, rfl⟩)
theorem hide_not {b : Addr} (h : b ∉ cs.map (·.2)) : hideH K a cs vs ns b = if b = a ∧ K.lookup a = none then some (.frz (lstO vs) (.lst (ns.map V.int))) else none := if_neg h
theorem hide_ok (ht : ∀ p ∈ cs, s.heap.get? p.2 = some tabO) (ha : s.heap.get? a = some (lstO vs)) (rel : Vals (ns.map V.int) vs) (hl : ns.length ≤ sizeLine) : HOk P w (hideH K a cs vs ns) s.heap := fun b u e => by
  by_cases h : b ∈ cs.map (·.2)
  · obtain ⟨p, hp, q⟩ := List.mem_map.mp h
    subst q
    rw [hide_tab hp] at e
    cases e
    exact ht p hp
  · rw [hide_not h] at e
    by_cases h2 : b = a ∧ K.lookup a = none
    · rw [if_pos h2] at e
      cases e
      rw [h2.1]
      exact ⟨ha, by rw [List.length_map]; exact hl, vs, _, rel, ha⟩
    · rw [if_neg h2] at e
      exact nomatch e
theorem hide_kinds {b : Addr} {u : HO} (e : hideH K a cs vs ns b = some u) : (∃ p ∈ cs, b = p.2) ∨ ∃ o xs, u = .frz o (.lst xs) := by
  by_cases h : b ∈ cs.map (·.2)
  · obtain ⟨p, hp, q⟩ := List.mem_map.mp h
    exact Or.inl ⟨p, hp, q.symm⟩
  · rw [hide_not h] at e
    split at e
    · cases e
      exact Or.inr ⟨_, _, rfl⟩
    · exact nomatch e
theorem hide_hides (aT : a ∉ cs.map (·.2)) : Hides K s a cs (hideH K a cs vs ns) where
  few := fun b nn => by
    by_cases h : b ∈ cs.map (·.2)
    · obtain ⟨p, hp, q⟩ := List.mem_map.mp h
      exact Or.inr ⟨p, hp, q.symm⟩
    · rw [hide_not h] at nn
      split at nn
      · rename_i h2
        exact Or.inl h2.1
      · exact absurd rfl nn
  out := fun nn => by
    rw [hide_not aT] at nn
    split at nn
    · rename_i h2
      exact h2.2
    · exact absurd rfl nn
theorem hide_script (inK : K.In s.heap) (ha : s.heap.get? a = some (lstO vs)) (aT : a ∉ cs.map (·.2)) (rel : Vals (ns.map V.int) vs) (hl : ns.length ≤ sizeLine) (lenV : vs.length = ns.length) : SqL K (hideH K a cs vs ns) a (ns.map V.int) := by
  match hk : K.lookup a with
  | none => exact Or.inl (Or.inr ⟨lstO vs, (hide_not aT).trans (if_pos ⟨rfl, hk⟩)⟩)
  | some o =>
    have e := inK a o hk
    rw [ha] at e
    cases e
    exact Or.inr ⟨_, vs.toArray, _, hk, rfl, rfl, rfl, by rw [List.size_toArray, lenV]; exact hl, by simpa using rel⟩
end
def LawAtG (l : PySem.W.OpenLaw) (w : World) (K : PySem.W.Frag) (CX : CXT) (k n : Nat) (x : Str) (mg : Str → Option Value) (fa : Addr) (h : Heap) : Prop :=
  ∃ (fd : FuncData) (cs : List (Addr × Addr)) (sp : Sp), (∀ p ∈ cs, h.get? p.2 = some tabO) ∧ (∀ p ∈ cs, K.lookup p.2 = none) ∧ (∀ p ∈ cs, PySem.W.CodeHd h p.1 p.2) ∧ (∀ (s : Shared) (u : Value), BindsTo s fd ⟨[u], []⟩ [(x, u)]) ∧
    (∀ (H : Hp) (b : Addr) (ns : List Int), ns.length ≤ n → (∀ z ∈ ns, Builtin.Int.intBits z ≤ 1048576) → (∀ p ∈ cs, H p.2 = some (.tbl #[])) → SqL K H b (ns.map V.int) → sp [.ref b] H (fun v _ => v = .bl true) fun _ _ _ => False) ∧
    ∀ base : Heap, K.In base → base.Ns mainGlobals mg → (∀ p ∈ cs, TabB base mg p.1 p.2) → FnG l.prog w K mg base CX k fa fd [x] sp
theorem walk_calm {l : PySem.W.OpenLaw} {n k : Nat} {q : Program} {loose : List Str} {XP : (Str → Option Value) → Heap → Prop} {YP : World → Heap → Prop} {d : DefRec} {CX : World → CXT} {x : Str}
    (most : l.most = some n) (small : n ≤ sizeLine) (plain : d.params.defaults = []) (room : Room k callerA)
    (F : ∀ (w : World) (mg : Str → Option Value) (fa : Addr) (h : Heap), YP w h → h.Ns mainGlobals mg → mg d.name = some (.ref fa) → ∃ K : PySem.W.Frag, K.In h ∧ LawAtG l w K (CX w) k n x mg fa h)
    (hCX : ∀ (w : World) (H : Hp) (s : Shared) (e : Value) (s2 : Shared), CX w [] H s (fun _ _ _ => False) e s2 → False) : PySem.W.WalkO q loose XP YP l.row.toRowW d [] (fun f vs => PySem.call f vs) := by
  refine Att.attach_callB most plain fun w s0 s mg mb fa o pm cd doc a vs ns G Y _ _ _ name script whole few bits gens => ?_
  obtain ⟨K, inK, fd, cs, sp, ht, no, C, bind, asked, run⟩ := F w mg fa _ Y G.T.g name
  have aT : a ∉ cs.map (·.2) := fun z => by
    obtain ⟨p, hp, e⟩ := List.mem_map.mp z
    have t := ht p hp
    rw [e, script] at t
    exact nomatch congrArg Obj.data (Option.some.inj t)
  have hl := Nat.le_trans few small
  have rel := vals_ints whole
  exact calm_run (H := hideH K a cs vs ns) inK G.T.g G.T.b G.T.builtins G.T.nolimit gens ht no C G.T.bmain script room run bind (fun e s2 => hCX w _ s e s2) (fun p hp => hide_tab hp) (fun b u => hide_kinds) (hide_ok ht script rel hl) (hide_hides aT)
    (asked _ a ns few bits (fun p hp => hide_tab hp) (hide_script inK script aT rel hl whole.length))
theorem law_calm {l : PySem.W.OpenLaw} {w : World} {K : PySem.W.Frag} {mg : Str → Option Value} {fa : Addr} {h : Heap} {fd : FuncData} {fas : List He.Fa} {fn : List He.DefD} {tf : List He.Defn} {tn : List Str} {ex : PySem.W.Frag → Bool} {sp : DSp} {k n : Nat} {x : Str}
    (hIn : K.In h) (c : He.SaysX fas fn [] tf ex w h K) (hb : ∀ (s : Shared) (u : Value), BindsTo s fd ⟨[u], []⟩ [(x, u)])
    (hF : ∀ base : Heap, K.In base → base.Ns mainGlobals mg → (∀ p ∈ tf, GxR.TabB base mg (He.cT K p).1 (He.cT K p).2) → FnG l.prog w K mg base C8.CX0 k fa fd [x] (liftSp K ((tf.zip tn).map fun p => ((He.cT K p.1).2, p.2)) (some w) sp))
    (hsp : ∀ (S : Sto) (v : D) (ns : List Int), ns.length ≤ n → (∀ z ∈ ns, Builtin.Int.intBits z ≤ 1048576) → lstD S v = some (ns.map .int) → sp [v] S (fun r _ => r = .bl true) noX) : LawAtG l w K C8.CX0 k n x mg fa h := by
  have tabs : ∀ {H : Hp}, (∀ p ∈ tf.map fun p => He.cT K p, H p.2 = some (.tbl #[])) → ∀ T ∈ (tf.zip tn).map fun p => ((He.cT K p.1).2, p.2), TabOk H T := fun hT T hm => by
    obtain ⟨q, hq, rfl⟩ := List.mem_map.mp hm
    refine ⟨#[], hT _ (List.mem_map.mpr ⟨q.1, (List.of_mem_zip hq).1, rfl⟩), True.intro, fun _ pos cv z => ?_⟩
    have z : codeAmong pos [] = some cv := z
    simp [codeAmong] at z
  refine ⟨fd, tf.map fun p => He.cT K p, fun vs H Q E => (∃ a, vs = [V.ref a]) ∧ ((∀ a u, H a = some u → SzO u) → liftSp K ((tf.zip tn).map fun p => ((He.cT K p.1).2, p.2)) (some w) sp vs H Q E), fun p hp => ?_, fun p hp => ?_, fun p hp => ?_, hb, fun H b ns few bits hT hS => ⟨⟨b, rfl⟩, fun sz => ?_⟩, fun base inK g hT => ?_⟩
  · obtain ⟨q, m, rfl⟩ := List.mem_map.mp hp
    exact c.empty q m
  · obtain ⟨q, m, rfl⟩ := List.mem_map.mp hp
    exact c.out q m
  · obtain ⟨q, m, rfl⟩ := List.mem_map.mp hp
    exact PySem.W.codeHd_of_K hIn (c.hd q m)
  · have T := tabs hT
    have co : ∀ io, Co ⟨K, (tf.zip tn).map fun p => ((He.cT K p.1).2, p.2), io, H, some w⟩ io H (fun r _ => r = .bl true) (fun v _ => v = .bl true) := fun io i1 H1 S1 v y _ _ d q => by
      subst q
      exact d
    have nil : ∀ io, RS ⟨K, (tf.zip tn).map fun p => ((He.cT K p.1).2, p.2), io, H, some w⟩ io H (fun _ => none) := fun io => ⟨fun _ _ e => (nomatch e), fun _ _ _ _ _ _ e => (nomatch e), T, sz, Stp.refl _ _⟩
    match hS with
    | .inl (.inl hS) =>
      refine ⟨[(b, b)], fun l => if l = 0 then some (.lst (ns.map .int)) else none, [.ref 0], _, noX, ⟨fun l o e => ?_, fun l m o1 o2 p q e1 e2 hn => ?_, T, sz, Stp.refl _ _⟩, RDs.one ⟨_, rfl, rfl⟩, hsp _ _ ns few bits rfl, co _, exOk_no _ _⟩
      · by_cases z : l = 0
        · subst z
          cases e
          exact ⟨(b, b), rfl, rfl, _, hS, RDs.ints⟩
        · simp [z] at e
      · by_cases z : l = 0
        · by_cases zm : m = 0
          · exact absurd (z.trans zm.symm) hn
          · simp [zm] at e2
        · simp [z] at e1
    | .inl (.inr ⟨o, hS⟩) => exact ⟨[], fun _ => none, [.lst (ns.map .int)], _, noX, nil _, RDs.one ⟨b, _, rfl, ⟨o, hS⟩, RDs.ints⟩, hsp _ _ ns few bits rfl, co _, exOk_no _ _⟩
    | .inr hS => exact ⟨[], fun _ => none, [.kl (ns.map .int)], _, noX, nil _, RDs.one ⟨b, _, rfl, hS, RDs.ints⟩, hsp _ _ ns few bits rfl, co _, exOk_no _ _⟩
  · have F := hF base inK g fun p hp =>
      let t := hT (He.cT K p) (List.mem_map.mpr ⟨p, hp, rfl⟩)
      ⟨t.code, t.bm, t.gP⟩
    exact ⟨fun vs H Q E ⟨⟨_, e⟩, _⟩ => by rw [e]; rfl, fun A up s H args us vs Q E room calm e bind rel q => F.go A up s H args us vs Q E room calm e bind rel (q.2 fun a u z => szo_of (e.hok a u z))⟩
end L3
end
section
set_option Elab.async false
set_option linter.all false
set_option maxRecDepth 100000
set_option maxHeartbeats 1000000
namespace L3
open PySem PySem.Spec PyProof.Rows L2
structure Shw (p : PyData) : Prop where
  sh : p.showable = true
  nd : p.hasDict = false
  dep : p.depth ≤ 60
  len : p.shown.length ≤ sizeLine
def rRepr (K : PySem.W.Frag) : List V → Hp → VK → Prop := fun xs H Q => ∃ v p, xs = [v] ∧ Dp K H v p ∧ Shw p ∧ Q (.str p.shown) H
theorem cr_repr {X : Cx} {k : Nat} (room : Room k X.A) (calm : Calm X.A) : CallR X (.builtin "repr") (rRepr X.K) := by
  intro pins s σ H xs us Q I r h
  obtain ⟨v, p, rfl, dp, sw, q⟩ := h
  cases r with
  | cons ru rest =>
    cases rest
    rename_i u
    obtain ⟨as, rd⟩ := Dp.reads I _ _ _ dp ru
    have hz := sw.len
    cases u with
    | ref a => exact repr_of_reads' rd sw.sh (PyData.noDict_hsm sw.nd) calm (by have := room.un; have := sw.dep; omega) (fun _ _ e => e) (fun h2 t tk kp => ⟨.str p.shown, H, I.kept kp, ⟨t, rfl⟩, q⟩) hz
    | none =>
      cases rd
      exact PySem.P.repr_of_none ⟨.str _, H, I.tok _, ⟨_, rfl⟩, q⟩
    | bool b =>
      cases rd
      exact PySem.P.repr_of_bool ⟨.str _, H, I.tok _, ⟨_, rfl⟩, q⟩
    | int i t =>
      cases rd
      exact PySem.P.repr_of_int (of_decide_eq_true sw.sh) ⟨.str _, H, I.tok _, ⟨_, rfl⟩, q⟩
    | str x t =>
      cases rd
      exact PySem.P.repr_of_str ⟨.str _, H, I.tok _, ⟨_, rfl⟩, q⟩ hz
    | _ => cases rd
def bRepr : DRA := fun ds S Q => ∃ v p, ds = [v] ∧ pyR S v = some p ∧ Shw p ∧ Q (.str p.shown) S
theorem sim_repr {M : Md} {K : PySem.W.Frag} (hM : M.K = K) : SimA M (rRepr K) bRepr := fun io H S xs ds Qd Q r dd ⟨v, p, e1, e2, sw, q⟩ c => by
  subst e1 hM
  obtain ⟨x, rfl, dx⟩ := dd.inj1
  exact ⟨x, p, rfl, dpr_of r dx e2, sw, c.here r (v := .str _) rfl q⟩
end L3
end
section
set_option Elab.async false
set_option linter.all false
set_option maxRecDepth 100000
set_option maxHeartbeats 1000000
namespace L3
open PySem PySem.Spec PyProof.Rows L2
section
variable {M : Md} {X : Cx}
def oNeS : DR2 := fun v w S Q => ∃ a b : Str, v = .str a ∧ w = .str b ∧ Q (.bl (!decide (a = b))) S
theorem sim_neS : Sim2 M rNe oNeS := fun io H S x y v w Qd Q r dv dw ⟨a, b, e1, e2, q⟩ k => by
  subst e1 e2
  cases dv
  cases dw
  refine ⟨rfl, ?_⟩
  have e : decide (V.str a = V.str b) = decide (a = b) := by simp
  show Q (.bl (!decide (V.str a = V.str b))) H
  rw [e]
  exact k.here r (v := .bl _) rfl q
end
end L3
end
section
set_option Elab.async false
set_option linter.all false
set_option maxRecDepth 100000
set_option maxHeartbeats 1000000
namespace L3
open PySem PySem.Spec PyProof.Rows L2
section
variable {M : Md} {X : Cx}
def oInC (xs : List Str) : DR1 := fun v S Q => ∃ x, v = .str x ∧ Q (.bl (decide (x ∈ xs))) S
variable {pos pos' : Pos} {e : Expr} {da : DE}
def bStrI : DRA := fun ds S Q => ∃ i, ds = [.int i] ∧ i.natAbs.log2 < 1920 ∧ Q (.str (toString i)) S
def bIntS : DRA := fun ds S Q => ∃ a n, ds = [.str a] ∧ PySem.intText? a = some n ∧ a.length ≤ 640 ∧ Q (.int n) S
end
end L3
end
section
set_option Elab.async false
set_option linter.all false
set_option maxRecDepth 100000
set_option maxHeartbeats 1000000
namespace L3
open PySem PySem.Spec PyProof.Rows L2
section
variable {prog : Program} {w : World} {A : Around} {E : Value → Shared → Prop} {s : Shared}
end
section
variable {X : Cx} {pos p : Pos}
end
def gdTailT (t : DGs) : DG := fun v ρ S Q => ∃ d ds, v = .tup (d :: ds) ∧ ∀ l, S l = none → t [d, .ref l] ρ (S.set l (.lst ds)) Q
section
variable {M : Md} {X : Cx} {pos p : Pos}
end
end L3
end
section
set_option Elab.async false
set_option linter.all false
set_option maxRecDepth 100000
set_option maxHeartbeats 1000000
namespace L3
open PySem PySem.Spec PyProof.Rows L2
def bMaxG : DRA := fun ds S Q => ∃ (v : D) (b : DP) (bs : List DP), ds = [v] ∧ lstD S v = some ((b :: bs).map (·.1)) ∧
  (∀ p ∈ b :: bs, pyR S p.1 = some p.2 ∧ p.2.depth ≤ 8 ∧ p.2 ≠ .none) ∧ (∀ p ∈ b :: bs, ∀ q ∈ b :: bs, PySem.W.alike p.2 q.2 = true) ∧
  ∀ p ∈ b :: bs, p.2 = PySem.W.maxD b.2 (bs.map (·.2)) → Q p.1 S
end L3
end
section
set_option Elab.async false
set_option linter.all false
set_option maxRecDepth 100000
set_option maxHeartbeats 1000000
namespace L3
open PySem PySem.Spec PyProof.Rows L2
def dCatch2 (okA okB : List Value) (j : Nat) (tA tB : Str) (db : DXS → DS) : DS := fun E ρ S =>
  db (fun ρ1 cls _ _ S1 => (cls ∈ okA ∧ E.nx (ρ1.set j (some (.str tA))) S1) ∨ (cls ∈ okB ∧ E.nx (ρ1.set j (some (.str tB))) S1)) E ρ S
def dRaise0 (Ed : DXK) (C : Addr) : DS := fun _ _ S => Ed (.ref C) [] [] S
section
variable {M : Md} {X : Cx} {C : Addr} {x : Str} {p pos pos2 : Pos}
end
end L3
end
section
set_option Elab.async false
set_option linter.all false
set_option maxRecDepth 100000
set_option maxHeartbeats 1000000
namespace L3
open PySem PySem.Spec PyProof.Rows L2
end L3
end
section
set_option Elab.async false
set_option linter.all false
set_option maxRecDepth 100000
set_option maxHeartbeats 1000000
namespace L3
open PySem PySem.Spec PyProof.Rows L2
section
variable {M : Md} {X : Cx} {e : Expr} {lo hi : Option Expr} {d : DE} {l h : DO} {pos p2 : Pos}
def dSlS (d : DE) (l h : DO) : DE := fun ρ S Q => d ρ S fun v S1 => l ρ S1 fun lo S2 => h ρ S2 fun hi S3 => ∃ z : Str, v = .str z ∧ z.length ≤ sizeLine ∧ Q (.str (cutS z lo hi)) S3
theorem q_slS (he : QE M X e d) (hl : QO M X lo l) (hh : QO M X hi h) : QE M X (.Subscript e (.Slice lo hi none p2) pos) (dSlS d l h) :=
  PE.imp (pe_slice sl_str he hl hh) fun σ H Q ⟨io, S, ρ, Qd, r, re, hh, c⟩ => ⟨io, S, ρ, _, r, re, hh, fun i1 H1 S1 v x s1 r1 d1 h1 => ⟨i1, S1, ρ, _, r1, re.mono s1, h1, fun i2 H2 S2 lo s2 r2 h2 => ⟨i2, S2, ρ, _, r2, re.mono (s1.trans s2), h2,
    fun i3 H3 S3 hi s3 r3 ⟨z, e, hz, q⟩ => by
      subst e
      exact ⟨z, d1.mono (s2.trans s3), hz, (c.to (s1.trans (s2.trans s3))).here r3 (v := .str (cutS z lo hi)) rfl q⟩⟩⟩⟩
end
end L3
end
section
set_option Elab.async false
set_option linter.all false
set_option maxRecDepth 100000
set_option maxHeartbeats 2000000
namespace PySem
namespace OwnV
open PySem.W PySem.Calls PyProof.Rows PySem.HandSPX
open PySem.OwnX (iB iS he_of InitEnd OwnMade)
section
variable {prog : Program} {w : World} {A : Around} {E : Value → Shared → Prop} {R : Result → Shared → Prop} {s : Shared} {K : Frag} {mg mb : Str → Option Value} {C fI : Addr} {fld : Str}
section
open Builtin Builtin.ObjectAttr
variable {hp : Heap} {g : Array GenState} {d : Drawn} {t : Nat} {os : OsState}
end
end
end OwnV
end PySem
namespace L3
open PySem PySem.Spec PyProof.Rows L2
section
variable {M : Md} {X : Cx} {C fI : Addr} {fld x : Str} {k : Nat}
end
end L3
end
section
set_option Elab.async false
set_option linter.all false
set_option maxRecDepth 100000
set_option maxHeartbeats 2000000
namespace L3
namespace Catch
open PySem PySem.Spec PyProof.Rows L2
section
variable {X : Cx} {x n : Str} {i j : Nat} {body : List Stmt} {t : Expr} {T : Value → Option Bool} {pos pos' q1 q2 q3 : Pos} {tb : WX → TS}
end
end Catch
end L3
namespace L3
open PySem PySem.Spec PyProof.Rows L2
def dCatchN (ok : List Value) (i j : Nat) (db : DXS → DS) : DS := fun E ρ S =>
  db (fun ρ1 cls ns ds S1 => cls ∈ ok ∧ ((ns ≠ [] ∧ ∀ l, S1 l = none → E.nx (((ρ1.set i (some (.ref l))).set j (some (.ref l))).set i none) (S1.set l (.exc cls ns ds))) ∨
    (ns = [] ∧ ∀ l o, S1 l = none → (o = .exn cls ∨ o = .exc cls ns ds) → E.nx (((ρ1.set i (some (.ref l))).set j (some (.ref l))).set i none) (S1.set l o)))) E ρ S
theorem RS.exn {M : Md} {io : Pl} {H : Hp} {S : Sto} (r : RS M io H S) {a : Addr} {cls : Value} (ha : H a = none) :
    RS M (io ++ [(a, a)]) (upd H a (ExN cls a)) (S.set io.length (.exn cls)) ∧ Stp io H (io ++ [(a, a)]) (upd H a (ExN cls a)) ∧ S io.length = none ∧ (io ++ [(a, a)])[io.length]? = some (a, a) :=
  r.new ha trivial ⟨rfl, upd_same⟩
def dIsXN (tab : List (Value × Bool)) (d : DE) : DE := fun ρ S Q => d ρ S fun v S1 => (v = .non ∧ Q (.bl false) S1) ∨ ∃ l cls b, v = .ref l ∧ ((∃ ns ds, S1 l = some (.exc cls ns ds)) ∨ S1 l = some (.exn cls)) ∧ (cls, b) ∈ tab ∧ Q (.bl b) S1
section
variable {X : Cx} {pins : List (Addr × Obj)} {σ : L2.St} {H : Hp} {s : Shared}
end
section
variable {M : Md} {X : Cx} {e : Expr} {d : DE} {p q pos : Pos} {x f : Str} {c : Value} {tab : List (Value × Bool)} {ok : List Value}
end
end L3
end
section
set_option Elab.async false
set_option linter.all false
set_option maxRecDepth 100000
set_option maxHeartbeats 2000000
namespace LK
open PySem PySem.Spec PyProof.Rows L2 L3
abbrev R : PySem.W.OpenRow := PySem.W.OpenLaw.row PySem.Challenge.rw_variesby_k10_worlds_or_none
def top (i : Nat) : Stmt := PySem.Challenge.pw_variesby_k10_worlds_or_none.main.body.getD i (.Pass ⟨0, 0, 0, 0⟩)
abbrev s__law_box : Stmt := top 15
abbrev s__law_cells : Stmt := top 17
abbrev s__law_take : Stmt := top 16
abbrev s__law_of : Stmt := top 18
abbrev s__law_bent : Stmt := top 23
abbrev s__law_by_hand : Stmt := top 28
abbrev s__law_goes_up : Stmt := top 25
abbrev s__law_is_name : Stmt := top 24
abbrev s__law_is_net : Stmt := top 26
abbrev s__law_lists : Stmt := top 19
abbrev s__law_same : Stmt := top 20
abbrev s__law_sizes : Stmt := top 27
abbrev s__law_pick : Stmt := top 21
abbrev s__law_world : Stmt := top 22
abbrev s_is_name : Stmt := top 3
abbrev s_is_tuple : Stmt := top 4
abbrev s_rises : Stmt := top 5
abbrev s_is_header : Stmt := top 10
abbrev s_is_test : Stmt := top 11
abbrev s_is_rule : Stmt := top 12
abbrev s_is_world : Stmt := top 13
abbrev s__law_right : Stmt := top 29
abbrev s_law : Stmt := top 30
abbrev N1__law_box : List Str := ["_law_script", "_law_k", "_law_cell"]
abbrev p1__law_box : List Str := ["_law_script", "_law_k"]
abbrev N1__law_cells : List Str := ["_law_script", "_law_most", "_law_cells_here", "_law_k", "_law_cell", "_law_at_so"]
abbrev p1__law_cells : List Str := ["_law_script", "_law_most"]
abbrev N1__law_take : List Str := ["_law_box_here", "_law_below", "_law_once", "_law_far", "_law_twice", "_law_drawn"]
abbrev p1__law_take : List Str := ["_law_box_here", "_law_below"]
abbrev N1__law_of : List Str := ["_law_box_here", "_law_some"]
abbrev p1__law_of : List Str := ["_law_box_here", "_law_some"]
abbrev N1__law_bent : List Str := ["_law_box_here", "_law_part", "_law_more", "_law_some", "_law_k"]
abbrev p1__law_bent : List Str := ["_law_box_here", "_law_part", "_law_more"]
abbrev N1__law_by_hand : List Str := ["_law_some", "_law_heads", "_law_tests", "_law_own", "_law_wide", "_law_head", "_law_rule", "_law_sign"]
abbrev p1__law_by_hand : List Str := []
abbrev N1__law_goes_up : List Str := ["_law_some", "_law_own", "_law_its"]
abbrev p1__law_goes_up : List Str := ["_law_some"]
abbrev N1__law_is_name : List Str := ["_law_matter_so", "_law_letters", "_law_sign"]
abbrev p1__law_is_name : List Str := ["_law_matter_so"]
abbrev N1__law_is_net : List Str := ["_law_mat", "_law_head", "_law_tags", "_law_deed", "_law_seen", "_law_test", "_law_part", "_law_own"]
abbrev p1__law_is_net : List Str := ["_law_mat"]
abbrev N1__law_lists : List Str := ["_law_matter_so", "_law_bit"]
abbrev p1__law_lists : List Str := ["_law_matter_so"]
abbrev N1__law_same : List Str := ["_law_got", "_law_due", "_law_own", "_law_mine", "_law_its"]
abbrev p1__law_same : List Str := ["_law_got", "_law_due"]
abbrev N1__law_sizes : List Str := ["_law_box_here"]
abbrev p1__law_sizes : List Str := ["_law_box_here"]
abbrev N1__law_pick : List Str := ["_law_box_here", "_law_names_so", "_law_many_so", "_law_turn", "_law_rest", "_law_some"]
abbrev p1__law_pick : List Str := ["_law_box_here", "_law_names_so", "_law_many_so"]
abbrev N1__law_world : List Str := ["_law_box_here", "_law_sizes_here", "_law_names_so", "_law_heads", "_law_k", "_law_rules_so", "_law_turn", "_law_some", "_law_tests", "_law_name_so", "_law_values_so"]
abbrev p1__law_world : List Str := ["_law_box_here", "_law_sizes_here"]
abbrev N1_is_name : List Str := ["thing", "sign"]
abbrev p1_is_name : List Str := ["thing"]
abbrev N1_is_tuple : List Str := ["thing", "many"]
abbrev p1_is_tuple : List Str := ["thing", "many"]
abbrev N1_rises : List Str := ["some", "rows", "one", "other"]
abbrev p1_rises : List Str := ["some"]
abbrev N1_is_header : List Str := ["thing", "value"]
abbrev p1_is_header : List Str := ["thing"]
abbrev N1_is_test : List Str := ["thing", "names"]
abbrev p1_is_test : List Str := ["thing", "names"]
abbrev N1_is_rule : List Str := ["thing", "names", "test"]
abbrev p1_is_rule : List Str := ["thing", "names"]
abbrev N1_is_world : List Str := ["thing", "names", "header", "rule"]
abbrev p1_is_world : List Str := ["thing"]
abbrev N1__law_right : List Str := ["_law_box_here", "_law_deep", "_law_turn", "_law_some", "_law_part", "_law_net", "_law_more", "_law_again", "_law_was", "_law_due"]
abbrev p1__law_right : List Str := ["_law_box_here"]
abbrev N1_law : List Str := ["_law_script", "_law_cells_here", "_law_k"]
abbrev p1_law : List Str := ["_law_script"]
def df__law_box : He.DefD := ⟨("_law_box", none), "_law_box", "_law_box", defArgs s__law_box, defBody s__law_box, defScope s__law_box, [], []⟩
def df__law_cells : He.DefD := ⟨("_law_cells", none), "_law_cells", "_law_cells", defArgs s__law_cells, defBody s__law_cells, defScope s__law_cells, [], []⟩
def df__law_take : He.DefD := ⟨("_law_take", none), "_law_take", "_law_take", defArgs s__law_take, defBody s__law_take, defScope s__law_take, [], []⟩
def df__law_of : He.DefD := ⟨("_law_of", none), "_law_of", "_law_of", defArgs s__law_of, defBody s__law_of, defScope s__law_of, [], []⟩
def df__law_bent : He.DefD := ⟨("_law_bent", none), "_law_bent", "_law_bent", defArgs s__law_bent, defBody s__law_bent, defScope s__law_bent, [], []⟩
def df__law_by_hand : He.DefD := ⟨("_law_by_hand", none), "_law_by_hand", "_law_by_hand", defArgs s__law_by_hand, defBody s__law_by_hand, defScope s__law_by_hand, [], []⟩
def df__law_goes_up : He.DefD := ⟨("_law_goes_up", none), "_law_goes_up", "_law_goes_up", defArgs s__law_goes_up, defBody s__law_goes_up, defScope s__law_goes_up, [], []⟩
def df__law_is_name : He.DefD := ⟨("_law_is_name", none), "_law_is_name", "_law_is_name", defArgs s__law_is_name, defBody s__law_is_name, defScope s__law_is_name, [], []⟩
def df__law_is_net : He.DefD := ⟨("_law_is_net", none), "_law_is_net", "_law_is_net", defArgs s__law_is_net, defBody s__law_is_net, defScope s__law_is_net, [], []⟩
def df__law_lists : He.DefD := ⟨("_law_lists", none), "_law_lists", "_law_lists", defArgs s__law_lists, defBody s__law_lists, defScope s__law_lists, [], []⟩
def df__law_same : He.DefD := ⟨("_law_same", none), "_law_same", "_law_same", defArgs s__law_same, defBody s__law_same, defScope s__law_same, [], []⟩
def df__law_sizes : He.DefD := ⟨("_law_sizes", none), "_law_sizes", "_law_sizes", defArgs s__law_sizes, defBody s__law_sizes, defScope s__law_sizes, [], []⟩
def df__law_pick : He.DefD := ⟨("_law_pick", none), "_law_pick", "_law_pick", defArgs s__law_pick, defBody s__law_pick, defScope s__law_pick, [], []⟩
def df__law_world : He.DefD := ⟨("_law_world", none), "_law_world", "_law_world", defArgs s__law_world, defBody s__law_world, defScope s__law_world, [], []⟩
def df_is_name : He.DefD := ⟨("is_name", none), "is_name", "is_name", defArgs s_is_name, defBody s_is_name, defScope s_is_name, [], []⟩
def df_is_tuple : He.DefD := ⟨("is_tuple", none), "is_tuple", "is_tuple", defArgs s_is_tuple, defBody s_is_tuple, defScope s_is_tuple, [], []⟩
def df_rises : He.DefD := ⟨("rises", none), "rises", "rises", defArgs s_rises, defBody s_rises, defScope s_rises, [], []⟩
def df_is_header : He.DefD := ⟨("is_header", none), "is_header", "is_header", defArgs s_is_header, defBody s_is_header, defScope s_is_header, [], []⟩
def df_is_test : He.DefD := ⟨("is_test", none), "is_test", "is_test", defArgs s_is_test, defBody s_is_test, defScope s_is_test, [], []⟩
def df_is_rule : He.DefD := ⟨("is_rule", none), "is_rule", "is_rule", defArgs s_is_rule, defBody s_is_rule, defScope s_is_rule, [], []⟩
def df_is_world : He.DefD := ⟨("is_world", none), "is_world", "is_world", defArgs s_is_world, defBody s_is_world, defScope s_is_world, [], []⟩
def df__law_right : He.DefD := ⟨("_law_right", none), "_law_right", "_law_right", defArgs s__law_right, defBody s__law_right, defScope s__law_right, [], []⟩
def df_law : He.DefD := ⟨("law", none), "law", "law", defArgs s_law, defBody s_law, defScope s_law, [], []⟩
def fn : List He.DefD := [df__law_box, df__law_cells, df__law_take, df__law_of, df__law_bent, df__law_by_hand, df__law_goes_up, df__law_is_name, df__law_is_net, df__law_lists, df__law_same, df__law_sizes, df__law_pick, df__law_world, df_is_name, df_is_tuple, df_rises, df_is_header, df_is_test, df_is_rule, df_is_world, df__law_right, df_law]
def fa : List He.Fa := [.glo "_law_cells", .free "range", .free "len", .glo "_law_box", .glo "_law_right", .free "all", .free "int", .free "abs", .free "list", .free "enumerate", .glo "_law_by_hand", .glo "_law_sizes", .glo "_law_world", .glo "_law_lists", .glo "_law_bent", .glo "_law_is_net", .free "repr", .glo "is_world", .glo "_law_same", .free "isinstance", .free "tuple", .glo "_law_take", .free "str", .glo "_law_of", .glo "_law_is_name", .glo "_law_goes_up", .free "zip", .free "dict", .free "bool", .glo "_law_pick", .free "sorted", .free "min", .int "PAIR" 2, .glo "is_tuple", .glo "is_header", .glo "rises", .glo "is_rule", .glo "is_name", .int "MOST_VALUES" 3, .int "LONGEST" 8, .str "LETTERS" "abcdefghijklmnopqrstuvwxyz", .glo "is_test", .free "set", .str "NOTHING" "", .glo "law"]
def tf : List He.Defn := []
def tn : List Str := []
abbrev tabs (K : PySem.W.Frag) : List (Addr × Str) := (tf.zip tn).map fun p => ((He.cT K p.1).2, p.2)
def exs (K : PySem.W.Frag) : List Bool := []
def ex (K : PySem.W.Frag) : Bool := (exs K).all id
abbrev Gx (w : World) (K : PySem.W.Frag) (mg : Str → Option Value) (base : Heap) : Prop := GFx fa fn tf exs w K mg base
def names : List Str := (["LETTERS", "LONGEST", "is_name", "is_tuple", "rises", "PAIR", "MOST_VALUES", "NOTHING", "is_header", "is_test", "is_rule", "is_world", "_law_box", "_law_take", "_law_cells", "_law_of", "_law_lists", "_law_same", "_law_pick", "_law_world"] : List Str) ++ (["_law_bent", "_law_is_name", "_law_goes_up", "_law_is_net", "_law_sizes", "_law_by_hand", "_law_right"] : List Str)
abbrev hk : PySem.W.Hook := He.hookX 4 fa fn [] tf ex
def ob (s : PySem.W.SharedT) : He.AlX := He.obsX 4 fa fn [] tf ex (HandSHeadRun.getT s)
theorem ob_eq (s : PySem.W.SharedT) : ob s = hk.obs s.abs := He.obsX_eq (HandSHeadRun.getT_eq s)
theorem run (w : World) : HandSHeadRun.RunEq R (PySem.W.view R.prog [30]) hk ob 4000 names w := by
  intro os
  kernel_rfl
end LK
end
section
set_option Elab.async false
set_option linter.all false
set_option maxRecDepth 100000
set_option maxHeartbeats 2000000
namespace LK
open PySem PySem.Spec PyProof.Rows L2 L3
def slt (a b : Str) : Prop := a.cps.toList < b.cps.toList
instance (a b : Str) : Decidable (slt a b) := by unfold slt; infer_instance
theorem slt_irrefl (a : Str) : ¬ slt a a := fun h => List.lt_irrefl _ h
theorem slt_asymm {a b : Str} (h : slt a b) : ¬ slt b a := List.lt_asymm h
theorem str_ext {a b : Str} (h : a.cps.toList = b.cps.toList) : a = b := by
  cases a; cases b
  simp only at h
  congr 1
  exact Array.toList_inj.mp h
theorem slt_total {a b : Str} (h : ¬ slt a b) (k : ¬ slt b a) : a = b := str_ext (List.le_antisymm (List.not_lt.mp k) (List.not_lt.mp h))
theorem slt_ne {a b : Str} (h : slt a b) : a ≠ b := fun e => by subst e; exact slt_irrefl _ h
theorem slt_of_nle {a b c : Str} (h : ¬ slt b a) (k : ¬ slt c b) : ¬ slt c a := fun z => by
  have h1 : a.cps.toList ≤ b.cps.toList := List.not_lt.mp h
  have h2 : b.cps.toList ≤ c.cps.toList := List.not_lt.mp k
  exact (List.not_lt.mpr (List.le_trans h1 h2)) z
theorem rising_pw : ∀ (p : Str) (l : List Str), risingS p l = true → (∀ x ∈ l, ¬ slt x p) ∧ l.Pairwise fun a b => ¬ slt b a
  | p, [], _ => ⟨(fun _ h => nomatch h), List.Pairwise.nil⟩
  | p, x :: r, h => by
    have h' : (!ltCps x.cps.toList p.cps.toList && risingS x r) = true := h
    rw [Bool.and_eq_true] at h'
    obtain ⟨h1, h2⟩ := rising_pw x r h'.2
    have h0 : ¬ slt x p := fun z => by
      have : ltCps x.cps.toList p.cps.toList = true := by rw [ltCps_eq]; exact decide_eq_true z
      rw [this] at h'
      exact absurd h'.1 (by decide)
    refine ⟨fun y hy => ?_, List.pairwise_cons.mpr ⟨h1, h2⟩⟩
    rcases List.mem_cons.mp hy with e | hy
    · rw [e]; exact h0
    · exact slt_of_nle h0 (h1 y hy)
theorem sortedS_pw : ∀ {l : List Str}, sortedS l = true → l.Pairwise fun a b => ¬ slt b a
  | [], _ => .nil
  | x :: r, h => by
    obtain ⟨h1, h2⟩ := rising_pw x r h
    exact List.pairwise_cons.mpr ⟨h1, h2⟩
theorem pw_up : ∀ {l : List Str}, (l.Pairwise fun a b => ¬ slt b a) → l.Nodup → l.Pairwise slt
  | [], _, _ => .nil
  | x :: r, h, n => by
    obtain ⟨h1, h2⟩ := List.pairwise_cons.mp h
    obtain ⟨n1, n2⟩ := List.nodup_cons.mp n
    refine List.pairwise_cons.mpr ⟨fun y hy => ?_, pw_up h2 n2⟩
    by_cases z : slt x y
    · exact z
    · exact absurd (by rw [slt_total z (h1 y hy)]; exact hy : x ∈ r) n1
theorem up_nodup {l : List Str} (h : l.Pairwise slt) : l.Nodup := h.imp fun h => slt_ne h
theorem up_eq : ∀ {l m : List Str}, l.Pairwise slt → m.Pairwise slt → (∀ x, x ∈ l ↔ x ∈ m) → l = m
  | [], [], _, _, _ => rfl
  | [], y :: m, _, _, h => absurd ((h y).mpr List.mem_cons_self) (by simp)
  | x :: l, [], _, _, h => absurd ((h x).mp List.mem_cons_self) (by simp)
  | x :: l, y :: m, hl, hm, h => by
    obtain ⟨l1, l2⟩ := List.pairwise_cons.mp hl
    obtain ⟨m1, m2⟩ := List.pairwise_cons.mp hm
    have e : x = y := by
      rcases List.mem_cons.mp ((h x).mp List.mem_cons_self) with e | hx
      · exact e
      · rcases List.mem_cons.mp ((h y).mpr List.mem_cons_self) with e | hy
        · exact e.symm
        · exact absurd (l1 y hy) (slt_asymm (m1 x hx))
    subst e
    have nx : ∀ {k : List Str}, (∀ y ∈ k, slt x y) → x ∉ k := fun h z => slt_irrefl _ (h x z)
    rw [up_eq l2 m2 fun z => ⟨fun hz => ?_, fun hz => ?_⟩]
    · rcases List.mem_cons.mp ((h z).mp (List.mem_cons_of_mem _ hz)) with e | hz'
      · subst e; exact absurd hz (nx l1)
      · exact hz'
    · rcases List.mem_cons.mp ((h z).mpr (List.mem_cons_of_mem _ hz)) with e | hz'
      · subst e; exact absurd hz (nx m1)
      · exact hz'
def isNm (x : Str) : Bool := decide (1 ≤ x.cps.size) && (decide (x.cps.size ≤ 8) && x.cps.all fun c => decide (97 ≤ c) && decide (c ≤ 122))
theorem nm_ok {x : Str} (h : isNm x = true) : PyData.strOk x = true := by
  unfold isNm at h
  rw [Bool.and_eq_true, Bool.and_eq_true] at h
  unfold PyData.strOk
  rw [Array.all_eq_true] at h ⊢
  intro i hi
  have := h.2.2 i hi
  rw [Bool.and_eq_true, decide_eq_true_eq, decide_eq_true_eq] at this
  rw [decide_eq_true_eq]
  omega
abbrev Head := Str × List Str
abbrev Rule := List (Str × Str) × Str
structure Wd where
  hs : List Head
  rs : List Rule
def headD (h : Head) : D := .tup [.str h.1, .tup (h.2.map .str)]
def testD (t : Str × Str) : D := .tup [.str t.1, .str t.2]
def ruleD (r : Rule) : D := .tup [.tup (r.1.map testD), .str r.2]
def Wd.d (w : Wd) : D := .tup [.tup (w.hs.map headD), .tup (w.rs.map ruleD)]
def headL (h : Head) : D := .lst [.str h.1, .lst (h.2.map .str)]
def testL (t : Str × Str) : D := .lst [.str t.1, .str t.2]
def ruleL (r : Rule) : D := .lst [.lst (r.1.map testL), .str r.2]
def Wd.l (w : Wd) : List D := [.lst (w.hs.map headL), .lst (w.rs.map ruleL)]
def Wd.names (w : Wd) : List Str := w.hs.map (·.1)
structure WOk (w : Wd) : Prop where
  nd : w.names.Nodup
  hl : w.hs.length ≤ 6
  vl : ∀ h ∈ w.hs, h.2.length ≤ 5
  rl : w.rs.length ≤ 100
  tl : ∀ r ∈ w.rs, r.1.length ≤ 100
  tn : ∀ r ∈ w.rs, ∀ t ∈ r.1, t.1 ∈ w.names
  so : ∀ h ∈ w.hs, PyData.strOk h.1 = true ∧ ∀ v ∈ h.2, PyData.strOk v = true
  ro : ∀ r ∈ w.rs, PyData.strOk r.2 = true ∧ ∀ t ∈ r.1, PyData.strOk t.1 = true ∧ PyData.strOk t.2 = true
structure WS (w : Wd) : Prop extends WOk w where
  up : w.names.Pairwise slt
  h4 : w.hs.length ≤ 4
  nm : ∀ h ∈ w.hs, isNm h.1 = true
  v3 : ∀ h ∈ w.hs, h.2.length ≤ 3
  vup : ∀ h ∈ w.hs, h.2.Pairwise slt
  vnm : ∀ h ∈ w.hs, ∀ v ∈ h.2, isNm v = true
  r9 : w.rs.length ≤ 9
  tnd : ∀ r ∈ w.rs, (r.1.map (·.1)).Nodup
  tv : ∀ r ∈ w.rs, ∀ t ∈ r.1, t.2 = "" ∨ isNm t.2 = true
  an : ∀ r ∈ w.rs, isNm r.2 = true
abbrev Row := List Str
structure ROk (w : Wd) (r : Row) : Prop where
  len : r.length = w.hs.length
  so : ∀ v ∈ r, PyData.strOk v = true
def rowD (r : Row) : D := .tup (r.map .str)
def grow (rs : List Row) (h : Head) : List Row := rs.flatMap fun r => (("" : Str) :: h.2).map fun v => r ++ [v]
def rowsOf (hs : List Head) : List Row := hs.foldl grow [[]]
def Wd.rows (w : Wd) : List Row := rowsOf w.hs
def Wd.val (w : Wd) (r : Row) (n : Str) : Str := r.getD (w.names.idxOf n) ""
def Wd.fits (w : Wd) (r : Row) (ts : List (Str × Str)) : Bool := ts.all fun t => decide (w.val r t.1 = t.2)
def Wd.ans (w : Wd) (r : Row) : Str := ((w.rs.filter fun x : Rule => w.fits r x.1).map (·.2) ++ [("" : Str)]).headD ""
def mapO {α β : Type} (f : α → Option β) : List α → Option (List β)
  | [] => some []
  | a :: as => match f a, mapO f as with
    | some b, some bs => some (b :: bs)
    | _, _ => none
def topO (S : Sto) : Nat → D → Option D
  | 0, _ => none
  | n + 1, d => match d with
    | .tup ds => if ds.length ≤ sizeLine then (mapO (topO S n) ds).map .tup else none
    | .lst ds => if ds.length ≤ sizeLine then (mapO (topO S n) ds).map .tup else none
    | .kt ds => if ds.length ≤ sizeLine then (mapO (topO S n) ds).map .tup else none
    | .ref l => (match S l with
      | some (.lst ds) => if ds.length ≤ sizeLine then (mapO (topO S n) ds).map .tup else none
      | _ => none)
    | .non => some .non
    | .bl b => some (.bl b)
    | .int i => some (.int i)
    | .str x => some (.str x)
    | _ => none
def lisO : Nat → D → Option D
  | 0, _ => none
  | n + 1, d => match d with
    | .tup ds => if ds.length ≤ sizeLine then (mapO (lisO n) ds).map .lst else none
    | .lst ds => if ds.length ≤ sizeLine then (mapO (lisO n) ds).map .lst else none
    | .non => some .non
    | .bl b => some (.bl b)
    | .int i => some (.int i)
    | .str x => some (.str x)
    | _ => none
def sameP : Nat → Sto → D → D → Prop
  | 0, _, _, _ => False
  | n + 1, S, g, d => match d with
    | .lst ds => ds.length ≤ sizeLine ∧ ∃ gs, lstD S g = some gs ∧ tyD S g = some "list" ∧ gs.length = ds.length ∧ ∀ p ∈ gs.zip ds, sameP n S p.1 p.2
    | .tup ds => ds.length ≤ sizeLine ∧ ∃ gs, g = .tup gs ∧ gs.length = ds.length ∧ ∀ p ∈ gs.zip ds, sameP n S p.1 p.2
    | .ref l => ∃ ds, S l = some (.lst ds) ∧ ds.length ≤ sizeLine ∧ ∃ gs, lstD S g = some gs ∧ tyD S g = some "list" ∧ gs.length = ds.length ∧ ∀ p ∈ gs.zip ds, sameP n S p.1 p.2
    | .non => g = .non
    | .bl b => g = .bl b
    | .int i => g = .int i
    | .str x => g = .str x ∧ PyData.strOk x = true
    | _ => False
def BxO (o : Ob) (c : Int) : Prop := ∃ a b k : Int, o = .lst [.int a, .int b, .int k] ∧ 0 ≤ a ∧ 0 ≤ b ∧ b ≤ 2 ^ 62 ∧ 0 ≤ k ∧ k ≤ c
def Bx (S : Sto) (l : Nat) (c : Int) : Prop := ∃ o, S l = some o ∧ BxO o c
def sp__law_lists (n : Nat) : DSp := fun ds S Q _ => ∃ v w, ds = [v] ∧ lisO n v = some w ∧ Q w S
def sp__law_same (n : Nat) : DSp := fun ds S Q _ => ∃ g d, ds = [g, d] ∧ sameP n S g d ∧ Q (.bl true) S
def sp__law_box : DSp := fun ds S Q _ => ∃ (v : D) (ns : List Int) (k : Int), ds = [v, .int k] ∧ lstD S v = some (ns.map .int) ∧ ns.length ≤ sizeLine ∧ 0 ≤ k ∧ k ≤ 1000 ∧ ∀ o l, BxO o 0 → S l = none → Q (.ref l) (S.set l o)
def sp__law_take : DSp := fun ds S Q _ => ∃ (l : Nat) (m c : Int), ds = [.ref l, .int m] ∧ 0 < m ∧ m < 2 ^ 30 ∧ Bx S l c ∧ c ≤ 2 ^ 40 ∧ ∀ (r : Int) (o : Ob), 0 ≤ r → r < m → BxO o (c + 1) → Q (.int r) (S.set l o)
def sp__law_cells : DSp := fun ds S Q _ => ∃ (v : D) (ns : List Int) (m : Nat), ds = [v, .int m] ∧ 1 ≤ m ∧ m ≤ 3 ∧ lstD S v = some (ns.map .int) ∧ ns.length ≤ 63 ∧ ∀ (cs : List Int) (l : Nat), cs.length ≤ 3 → S l = none → Q (.ref l) (S.set l (.lst (cs.map .int)))
def sp__law_of : DSp := fun ds S Q _ => ∃ (l : Nat) (v : D) (es : List D) (c : Int), ds = [.ref l, v] ∧ (∀ o, seqD (S.set l o) v = some es) ∧ seqD S v = some es ∧ es ≠ [] ∧ es.length < 1000 ∧ Bx S l c ∧ c ≤ 2 ^ 40 ∧ ∀ e o, e ∈ es → BxO o (c + 1) → Q e (S.set l o)
def sp__law_pick : DSp := fun ds S Q _ => ∃ (l : Nat) (v : D) (es : List D) (m c : Int), ds = [.ref l, v, .int m] ∧ seqD S v = some es ∧ es.length ≤ 1000 ∧ 0 ≤ m ∧ m < 2 ^ 30 ∧ Bx S l c ∧ c ≤ 2 ^ 39 ∧
  ∀ (ps rest : List D) (o : Ob) (l' : Nat), (ps ++ rest).Perm es → ps.length = min m.toNat es.length → BxO o (c + 1000) → S l' = none → l' ≠ l → Q (.ref l') ((S.set l o).set l' (.lst ps))
structure WX (w : Wd) : Prop where
  six : ∀ h ∈ w.hs, h.1 ∈ [Str.ofString "a", Str.ofString "dev", Str.ofString "enc", Str.ofString "lang", Str.ofString "q", Str.ofString "zip"]
  five : ∀ h ∈ w.hs, ∀ v ∈ h.2, v ∈ [Str.ofString "de", Str.ofString "fr", Str.ofString "m", Str.ofString "x", Str.ofString "y"]
  four : ∀ r ∈ w.rs, r.2 ∈ [Str.ofString "eng", Str.ofString "fra", Str.ofString "mob", Str.ofString "old"]
  tvf : ∀ r ∈ w.rs, ∀ t ∈ r.1, t.2 ∈ [Str.ofString "", Str.ofString "none", Str.ofString "de", Str.ofString "fr", Str.ofString "m", Str.ofString "x", Str.ofString "y"]
def sp__law_world : DSp := fun ds S Q _ => ∃ (l : Nat) (sv : D) (ss : List Int) (c : Int), ds = [.ref l, sv] ∧ (∀ S, seqD S sv = some (ss.map .int)) ∧ ss.length ≤ 4 ∧ (∀ s ∈ ss, 1 ≤ s ∧ s ≤ 3) ∧ Bx S l c ∧ c ≤ 2 ^ 38 ∧ ∀ w o, WS w → WX w → w.hs.length = ss.length → (∀ h ∈ w.hs, h.2 ≠ []) → 2 ≤ w.rs.length → BxO o (c + 1000000) → Q w.d (S.set l o)
def valsD (h : Head) : D := .kt ((("" : Str) :: h.2).map .str)
def Wd.ob (w : Wd) (C : Addr) : Ob := .slt C [some (.lst (w.rows.map rowD)), some (.tup (w.rs.map ruleD)), some (.dic (w.names.map Sum.inr) (w.hs.map valsD))]
abbrev cW (K : PySem.W.Frag) : Addr := He.ga K "World"
theorem seq_lst {S : Sto} {v : D} {ds : List D} (h : lstD S v = some ds) : seqD S v = some ds := by
  cases v with
  | lst _ => exact h
  | kl _ => exact h
  | ref l => exact h
  | _ => cases h
theorem seqD_ref (S : Sto) (l : Nat) : seqD S (.ref l) = (match S l with
    | some (.lst ds) => some ds
    | _ => none) := rfl
theorem lstD_ref (S : Sto) (l : Nat) : lstD S (.ref l) = (match S l with
    | some (.lst ds) => some ds
    | _ => none) := rfl
theorem seqD_tup (S : Sto) (ds : List D) : seqD S (.tup ds) = some ds := rfl
theorem seqD_lst (S : Sto) (ds : List D) : seqD S (.lst ds) = some ds := rfl
theorem lstD_lst (S : Sto) (ds : List D) : lstD S (.lst ds) = some ds := rfl
theorem lstR_lst (S : Sto) (ds : List D) : lstR S (.lst ds) = some ds := rfl
theorem tupOf_lst (ds es : List D) : tupOf (.lst ds) es = .tup es := rfl
theorem tupOf_ref (l : Nat) (es : List D) : tupOf (.ref l) es = .tup es := rfl
theorem tupOf_tup (ds es : List D) : tupOf (.tup ds) es = .tup es := rfl
theorem atI_0 {α : Type} (a : α) (r : List α) : atI (a :: r) 0 = some a := atI_nat (j := 0) rfl
theorem atI_1 {α : Type} (a b : α) (r : List α) : atI (a :: b :: r) 1 = some b := atI_nat (j := 1) rfl
theorem atI_2 {α : Type} (a b c : α) (r : List α) : atI (a :: b :: c :: r) 2 = some c := atI_nat (j := 2) rfl
theorem ixN_30 : ixN 3 0 = some 0 := rfl
theorem ixN_32 : ixN 3 2 = some 2 := rfl
theorem small_sz {n : Nat} (h : n ≤ 16777216) : n ≤ sizeLine := by rw [sizeLine_eq]; exact h
theorem gs_lst {S : Sto} {ds : List D} {o : Ob} : (gsOf (.lst ds) o).ok S := Gs.ok_nil
theorem gs_tup {S : Sto} {ds : List D} {o : Ob} : (gsOf (.tup ds) o).ok S := Gs.ok_nil
theorem gs_ref {S : Sto} {l : Nat} {o : Ob} (h : S l = some o) : (gsOf (.ref l) o).ok S := fun g hg => by
  have e : g = (l, o) := by simpa [gsOf] using hg
  subst e
  exact h
theorem cdiv {i j : Int} (h : 0 < j) (h2 : j < 1073741824) : CDiv i j := ⟨h, h2⟩
theorem BxO.mono {o : Ob} {c d : Int} (h : BxO o c) (k : c ≤ d) : BxO o d := by
  obtain ⟨a, b, e, h1, h2, h3, h4, h5, h6⟩ := h
  exact ⟨a, b, e, h1, h2, h3, h4, h5, by omega⟩
theorem Bx.mono {S : Sto} {l : Nat} {c d : Int} (h : Bx S l c) (k : c ≤ d) : Bx S l d := let ⟨o, h1, h2⟩ := h; ⟨o, h1, h2.mono k⟩
theorem Bx.of {S : Sto} {l : Nat} {o : Ob} {c : Int} (h : BxO o c) : Bx (S.set l o) l c := ⟨o, Sto.set_same, h⟩
theorem frzO_lst (ds : List D) : frzO (.lst ds) = some (.lst ds) := rfl
theorem pyDs_cons {d : D} {ds : List D} {p : PyData} {ps : List PyData} (h : pyD d = some p) (h2 : pyDs ds = some ps) : pyDs (d :: ds) = some (p :: ps) := by
  show ((pyD d).bind fun p => (pyDs ds).map fun ps => p :: ps) = _
  rw [h, h2]; rfl
theorem pyDs_map {α : Type} {f : α → D} {g : α → PyData} (h : ∀ a, pyD (f a) = some (g a)) : ∀ xs : List α, pyDs (xs.map f) = some (xs.map g)
  | [] => rfl
  | a :: xs => pyDs_cons (h a) (pyDs_map h xs)
theorem pyD_tup {ds : List D} {ps : List PyData} (h : pyDs ds = some ps) : pyD (.tup ds) = some (.tuple ps) := by
  show (pyDs ds).map PyData.tuple = _
  rw [h]; rfl
theorem pyD_lst {ds : List D} {ps : List PyData} (h : pyDs ds = some ps) : pyD (.lst ds) = some (.list ps) := by
  show (pyDs ds).map PyData.list = _
  rw [h]; rfl
theorem pyDs_strs (xs : List Str) : pyDs (xs.map .str) = some (xs.map .str) := pyDs_map (fun _ => rfl) xs
theorem pyR_of {S : Sto} {d : D} {p : PyData} (h : pyD d = some p) : pyR S d = some p := by
  cases d with
  | ref l => cases h
  | _ => exact h
theorem eqv_str (a b : Str) : PyData.eqv (.str a) (.str b) = decide (a = b) := by
  show (a == b) = _
  rw [Bool.eq_iff_iff, beq_iff_eq, decide_eq_true_iff]
theorem eqvAll_map {α : Type} [DecidableEq α] {g : α → PyData} (h : ∀ a b, PyData.eqv (g a) (g b) = decide (a = b)) : ∀ xs ys : List α, PyData.eqvAll (xs.map g) (ys.map g) = decide (xs = ys)
  | [], [] => rfl
  | [], _ :: _ => rfl
  | _ :: _, [] => rfl
  | a :: xs, b :: ys => by
    show (PyData.eqv (g a) (g b) && PyData.eqvAll (xs.map g) (ys.map g)) = _
    rw [h, eqvAll_map h xs ys, Bool.eq_iff_iff]
    simp
structure Shp (p : PyData) (n : Nat) : Prop where
  lay : p.canLay0 = true
  dep : p.depth ≤ n
theorem Shp.mono {p : PyData} {n m : Nat} (h : Shp p n) (k : n ≤ m) : Shp p m := ⟨h.lay, Nat.le_trans h.dep k⟩
theorem Shp.ok {p : PyData} {n : Nat} (h : Shp p n) (k : n ≤ 64 := by decide) : SeqAt.shaped p = true := by
  unfold SeqAt.shaped
  rw [h.lay, Bool.true_and, decide_eq_true_eq]
  exact Nat.le_trans h.dep k
theorem shp_str {x : Str} (h : PyData.strOk x = true) : Shp (.str x) 0 := ⟨by rw [PyData.canLay0]; exact h, Nat.le_refl _⟩
theorem shp_all {n : Nat} : ∀ {ps : List PyData}, (∀ p ∈ ps, Shp p n) → PyData.canLayAll0 ps = true ∧ PyData.depthAll ps ≤ n
  | [], _ => ⟨rfl, Nat.zero_le _⟩
  | p :: ps, h => by
    have h1 := h p List.mem_cons_self
    have h2 := shp_all (ps := ps) fun q hq => h q (List.mem_cons_of_mem _ hq)
    refine ⟨?_, ?_⟩
    · rw [PyData.canLayAll0, h1.lay, h2.1]; rfl
    · rw [PyData.depthAll]
      exact Nat.max_le.mpr ⟨h1.dep, h2.2⟩
theorem shp_list {n : Nat} {ps : List PyData} (h : ∀ p ∈ ps, Shp p n) : Shp (.list ps) (n + 1) := by
  obtain ⟨h1, h2⟩ := shp_all h
  exact ⟨by rw [PyData.canLay0]; exact h1, by rw [PyData.depth]; omega⟩
theorem shp_map {α : Type} {n : Nat} {g : α → PyData} {xs : List α} (h : ∀ a ∈ xs, Shp (g a) n) : ∀ p ∈ xs.map g, Shp p n := fun p hp => by
  obtain ⟨a, ha, rfl⟩ := List.mem_map.mp hp
  exact h a ha
theorem compW_on {α : Type} {gs : Gs} {t : Tg} {tt : DT} {te : DE} {ρ : En} {Q : List D → Sto → Prop} {S : Sto} (g : α → D) (f : α → Option D) : ∀ (xs : List α) (acc : List D), gs.ok S → acc.length + xs.length ≤ sizeLine →
    (∀ a ∈ xs, ∀ (S' : Sto) (Py : DK) (Pn : Sto → Prop), S.sub S' → (∀ v, f a = some v → Py v S') → (f a = none → Pn S') → turn t tt te ρ (g a) S' Py Pn) → Q (acc ++ xs.filterMap f) S → compW gs t tt te ρ Q (xs.map g) acc S
  | [], acc, h, _, _, q => ⟨h, by simpa using q⟩
  | d :: ds, acc, ok, hz, h, q => by
    refine ⟨ok, by simp at hz; omega, fun l o hl => ?_⟩
    have ih := fun acc' (hz' : acc'.length + ds.length ≤ sizeLine) (q' : Q (acc' ++ ds.filterMap f) S) => compW_on (gs := gs) (t := t) (tt := tt) (te := te) (ρ := ρ) g f ds acc' ok hz' (fun d' hd => h d' (List.mem_cons_of_mem _ hd)) q'
    refine h d List.mem_cons_self (S.set l o) _ _ (Sto.sub_set hl) (fun v e => ⟨Sto.set_same, S, ?_, ih (acc ++ [v]) (by simp at hz ⊢; omega) ?_⟩) fun e => ⟨Sto.set_same, S, ?_, ih acc (by simp at hz ⊢; omega) ?_⟩
    · rw [Sto.del_set hl]; exact Sto.sub_refl _
    · rw [List.filterMap_cons, e] at q
      simpa using q
    · rw [Sto.del_set hl]; exact Sto.sub_refl _
    · rw [List.filterMap_cons, e] at q
      exact q
theorem compW_all {α : Type} {gs : Gs} {t : Tg} {te : DE} {ρ : En} {Q : List D → Sto → Prop} {S : Sto} (g : α → D) (f : α → D) {xs : List α} (ok : gs.ok S) (hz : xs.length ≤ sizeLine)
    (h : ∀ a ∈ xs, ∀ (S' : Sto) (Py : DK), S.sub S' → Py (f a) S' → t.d (g a) ρ fun ρ1 => te ρ1 S' Py) (q : Q (xs.map f) S) : compW gs t dYes te ρ Q (xs.map g) [] S := by
  refine compW_on g (fun a => some (f a)) xs [] ok (by simpa using hz) (fun d hd S' Py Pn s hy _ => ?_) ?_
  · have z := h d hd S' Py s (hy _ rfl)
    cases t with
    | one i => exact z
    | many is => exact z
  · rw [List.nil_append]
    show Q (xs.filterMap (some ∘ f)) S
    rw [List.filterMap_eq_map]; exact q
end LK
end
section
set_option Elab.async false
set_option linter.all false
set_option maxRecDepth 100000
set_option maxHeartbeats 2000000
namespace LK
open PySem PySem.Spec PyProof.Rows L2 L3
abbrev N__law_box : List Str := ["_law_script", "_law_k", "_law_cell"]
def d__law_box : DS :=
  dSeq (dSet 2 (dIf (dTst (dOp oLtI (dVar 1) (dCB bLen (aCons (dVar 0) (aNil))))) (dOp oIx (dVar 0) (dVar 1)) (dC (.int 0))))
    (dRet (dLst (aCons (dOp oMulI (dCB bAbs (aCons (dVar 2) (aNil))) (dCB bInt (aCons (dOp oGeI (dCB bAbs (aCons (dVar 2) (aNil))) (dOp oPowI (dC (.int 10)) (dC (.int 18)))) (aNil)))) (aCons (dOp oAddI (dOp oAddI (dOp oModI (dCB bInt (aCons (dVar 2) (aNil))) (dC (.int 2305843009213693951))) (dOp oMulI (dC (.int 39373)) (dVar 1))) (dC (.int 223))) (aCons (dC (.int 0)) (aNil))))))
abbrev N__law_cells : List Str := ["_law_script", "_law_most", "_law_cells_here", "_law_k", "_law_cell", "_law_at_so"]
def d__law_cells : DS :=
  dSeq (dSet 2 (dOrT (dCB bList (aCons (dSl (dVar 0) (dNoP) (dPart (dVar 1))) (aNil))) (dLst (aCons (dC (.int 0)) (aNil)))))
    (dSeq (dFor (iEn (aCons (dSl (dVar 0) (dPart (dVar 1)) (dPart (dC (.int 63)))) (aNil))) (.many [3, 4]) (dSeq (dSet 5 (dOp oModI (dCB bInt (aCons (dVar 3) (aNil))) (dVar 1)))
    (dAsg (dOp oAddI (dOp oIx (dVar 2) (dVar 5)) (dOp oMulI (dVar 4) (dOp oAddI (dVar 3) (dC (.int 2))))) (gdSub (dVar 2) (dVar 5)))))
    (dRet (dVar 2)))
abbrev N__law_lists : List Str := ["_law_matter_so", "_law_bit"]
def d__law_lists (n : Nat) : DS :=
  dRet (dIf (dTst (dIsi2 "list" "tuple" (dVar 0))) (dFrz (dLc (iSeq (dVar 0)) (.one 1) (dYes) (dCall (sp__law_lists n) noX (aCons (dVar 1) (aNil))) [1])) (dVar 0))
abbrev N__law_same : List Str := ["_law_got", "_law_due", "_law_own", "_law_mine", "_law_its"]
def d__law_same (n : Nat) : DS :=
  dSeq (dIfS (dTst (dIsi2 "list" "tuple" (dVar 1))) (dSeq (dIfS (dOr (dTst (dOp oNeD (dIsi "list" (dVar 0)) (dIsi "list" (dVar 1)))) (dTst (dOp oNeD (dIsi "tuple" (dVar 0)) (dIsi "tuple" (dVar 1))))) (dRet (dC (.bl false))) (dNext))
    (dRet (dAndV (dOp oEqD (dCB bLen (aCons (dVar 0) (aNil))) (dCB bLen (aCons (dVar 1) (aNil)))) (dCB bAll (aCons (dLc (iZpA (aCons (dVar 0) (aCons (dVar 1) (aNil)))) (.many [3, 4]) (dYes) (dCall (sp__law_same n) noX (aCons (dVar 3) (aCons (dVar 4) (aNil)))) [3, 4]) (aNil)))))) (dNext))
    (dSeq (dIfS (dTst (dIsi "dict" (dVar 1))) (dSeq (dIfS (dOr (dNot (dTst (dIsi "dict" (dVar 0)))) (dOr (dTst (dOp oNeD (dCB bLen (aCons (dVar 0) (aNil))) (dCB bLen (aCons (dVar 1) (aNil))))) (dTst (dOp oNeD (dFrz (dLc (iSeq (dVar 1)) (.one 2) (dTst (dOp oNotInD (dVar 2) (dVar 0))) (dVar 2) [2])) (dFrz (dLst (aNil))))))) (dRet (dC (.bl false))) (dNext))
    (dRet (dCB bAll (aCons (dLc (iSeq (dVar 1)) (.one 2) (dYes) (dCall (sp__law_same n) noX (aCons (dOp oIx (dVar 0) (dVar 2)) (aCons (dOp oIx (dVar 1) (dVar 2)) (aNil)))) [2]) (aNil))))) (dNext))
    (dSeq (dIfS (dOr (dTst (dOp oIsN (dVar 1) (dC .non))) (dTst (dIsi2 "bool" "str" (dVar 1)))) (dRet (dAndV (dOp oEqD (dVar 0) (dVar 1)) (dAndV (dOp oEqD (dIsi "bool" (dVar 0)) (dIsi "bool" (dVar 1))) (dOp oEqD (dOp oIsN (dVar 0) (dC .non)) (dOp oIsN (dVar 1) (dC .non)))))) (dNext))
    (dRet (dAndV (dIsi "int" (dVar 0)) (dAndV (dNotV (dIsi "bool" (dVar 0))) (dOp oEqD (dVar 0) (dVar 1)))))))
abbrev N__law_take : List Str := ["_law_box_here", "_law_below", "_law_once", "_law_far", "_law_twice", "_law_drawn"]
def d__law_take : DS :=
  dSeq (dIfS (dTst (dOp oGtI (dOp oIx (dVar 0) (dC (.int 0))) (dC (.int 0)))) (dSeq (dSet 5 (dOp oModI (dCB bInt (aCons (dOp oIx (dVar 0) (dC (.int 0))) (aNil))) (dVar 1)))
    (dSeq (dAsg (dOp oDivI (dOp oIx (dVar 0) (dC (.int 0))) (dVar 1)) (gdSub (dVar 0) (dC (.int 0))))
    (dRet (dVar 5)))) (dNext))
    (dSeq (dAsg (dOp oAddI (dOp oIx (dVar 0) (dC (.int 2))) (dC (.int 1))) (gdSub (dVar 0) (dC (.int 2))))
    (dSeq (dSet 2 (dOp oModI (dCB bInt (aCons (dOp oMulI (dOp oAddI (dOp oIx (dVar 0) (dC (.int 1))) (dOp oMulI (dC (.int 48271)) (dOp oIx (dVar 0) (dC (.int 2))))) (dOp oAddI (dC (.int 39373)) (dOp oIx (dVar 0) (dC (.int 2))))) (aNil))) (dC (.int 2147483647))))
    (dSeq (dSet 3 (dOp oAddI (dOp oModI (dCB bInt (aCons (dVar 2) (aNil))) (dC (.int 40009))) (dC (.int 7))))
    (dSeq (dSet 4 (dOp oModI (dCB bInt (aCons (dOp oMulI (dOp oAddI (dOp oAddI (dVar 2) (dOp oIx (dVar 0) (dC (.int 2)))) (dOp oDivI (dOp oIx (dVar 0) (dC (.int 1))) (dC (.int 1000003)))) (dVar 3)) (aNil))) (dC (.int 2147483629))))
    (dRet (dOp oModI (dCB bInt (aCons (dOp oDivI (dOp oModI (dCB bInt (aCons (dOp oAddI (dOp oMulI (dVar 4) (dC (.int 48271))) (dVar 2)) (aNil))) (dC (.int 2147483587))) (dC (.int 64))) (aNil))) (dVar 1)))))))
abbrev N__law_of : List Str := ["_law_box_here", "_law_some"]
def d__law_of : DS :=
  dRet (dOp oIx (dVar 1) (dCall (sp__law_take) noX (aCons (dVar 0) (aCons (dCB bLen (aCons (dVar 1) (aNil))) (aNil)))))
abbrev N__law_pick : List Str := ["_law_box_here", "_law_names_so", "_law_many_so", "_law_turn", "_law_rest", "_law_some"]
def d__law_pick : DS :=
  dSeq (dPar 4 5 (aCons (dCB bList (aCons (dVar 1) (aNil))) (aCons (dLst (aNil)) (aNil))))
    (dSeq (dFor (iR1 (aCons (dCB bMin2 (aCons (dVar 2) (aCons (dCB bLen (aCons (dVar 4) (aNil))) (aNil)))) (aNil))) (.one 3) (dDrop (dBM "list" mAppend (dVar 5) (aCons (dBM "list" mPopAt (dVar 4) (aCons (dCall (sp__law_take) noX (aCons (dVar 0) (aCons (dCB bLen (aCons (dVar 4) (aNil))) (aNil)))) (aNil))) (aNil)))))
    (dRet (dVar 5)))
abbrev N__law_world : List Str := ["_law_box_here", "_law_sizes_here", "_law_names_so", "_law_heads", "_law_k", "_law_rules_so", "_law_turn", "_law_some", "_law_tests", "_law_name_so", "_law_values_so"]
def d__law_world : DS :=
  dSeq (dSet 2 (dFrz (dCB bSortS (aCons (dCall (sp__law_pick) noX (aCons (dVar 0) (aCons (dFrz (dLst (aCons (dC (.str "a")) (aCons (dC (.str "dev")) (aCons (dC (.str "enc")) (aCons (dC (.str "lang")) (aCons (dC (.str "q")) (aCons (dC (.str "zip")) (aNil))))))))) (aCons (dCB bLen (aCons (dVar 1) (aNil))) (aNil))))) (aNil)))))
    (dSeq (dSet 3 (dLst (aNil)))
    (dSeq (dFor (iR1 (aCons (dCB bLen (aCons (dVar 1) (aNil))) (aNil))) (.one 4) (dSeq (dSet 7 (dCall (sp__law_pick) noX (aCons (dVar 0) (aCons (dFrz (dLst (aCons (dC (.str "de")) (aCons (dC (.str "fr")) (aCons (dC (.str "m")) (aCons (dC (.str "x")) (aCons (dC (.str "y")) (aNil)))))))) (aCons (dOp oAddI (dC (.int 1)) (dCall (sp__law_take) noX (aCons (dVar 0) (aCons (dOp oIx (dVar 1) (dVar 4)) (aNil))))) (aNil))))))
    (dDrop (dBM "list" mAppend (dVar 3) (aCons (dTup (aCons (dOp oIx (dVar 2) (dVar 4)) (aCons (dCB bTuple (aCons (dFrz (dCB bSortS (aCons (dVar 7) (aNil)))) (aNil))) (aNil)))) (aNil))))))
    (dSeq (dSet 5 (dLst (aNil)))
    (dSeq (dFor (iR1 (aCons (dOp oAddI (dC (.int 2)) (dCall (sp__law_take) noX (aCons (dVar 0) (aCons (dC (.int 4)) (aNil))))) (aNil))) (.one 6) (dSeq (dSet 8 (dLst (aNil)))
    (dSeq (dFor (iSeq (dCall (sp__law_pick) noX (aCons (dVar 0) (aCons (dVar 3) (aCons (dCall (sp__law_of) noX (aCons (dVar 0) (aCons (dFrz (dLst (aCons (dC (.int 1)) (aCons (dC (.int 1)) (aCons (dC (.int 2)) (aCons (dC (.int 2)) (aCons (dC (.int 3)) (aNil)))))))) (aNil)))) (aNil)))))) (.many [9, 10]) (dDrop (dBM "list" mAppend (dVar 8) (aCons (dTup (aCons (dVar 9) (aCons (dCall (sp__law_of) noX (aCons (dVar 0) (aCons (dFrz (dOp oAddL (dFrz (dOp oRepL (dFrz (dCB bList (aCons (dVar 10) (aNil)))) (dC (.int 3)))) (dFrz (dLst (aCons (dC (.str "")) (aCons (dC (.str "none")) (aNil))))))) (aNil)))) (aNil)))) (aNil)))))
    (dDrop (dBM "list" mAppend (dVar 5) (aCons (dTup (aCons (dCB bTuple (aCons (dVar 8) (aNil))) (aCons (dCall (sp__law_of) noX (aCons (dVar 0) (aCons (dFrz (dLst (aCons (dC (.str "eng")) (aCons (dC (.str "fra")) (aCons (dC (.str "mob")) (aNil)))))) (aNil)))) (aNil)))) (aNil)))))))
    (dSeq (dIfS (dTst (dOp oGtI (dCall (sp__law_take) noX (aCons (dVar 0) (aCons (dC (.int 3)) (aNil)))) (dC (.int 0)))) (dDrop (dBM "list" mAppend (dVar 5) (aCons (dTup (aCons (dTup (aNil)) (aCons (dCall (sp__law_of) noX (aCons (dVar 0) (aCons (dFrz (dLst (aCons (dC (.str "eng")) (aCons (dC (.str "fra")) (aCons (dC (.str "mob")) (aCons (dC (.str "old")) (aNil))))))) (aNil)))) (aNil)))) (aNil)))) (dNext))
    (dRet (dTup (aCons (dCB bTuple (aCons (dVar 3) (aNil))) (aCons (dCB bTuple (aCons (dVar 5) (aNil))) (aNil))))))))))
end LK
end
section
set_option Elab.async false
set_option linter.all false
set_option maxRecDepth 100000
set_option maxHeartbeats 400000
namespace LK
open PySem PySem.Spec PyProof.Rows L2 L3
theorem v__law_box : ∀ ds S Q E, sp__law_box ds S Q E → d__law_box (EndsD Q) (startD N__law_box ds) S := by
  rintro ds S Q E ⟨v, ns, k, rfl, hv, hn, h0, h1, q⟩
  simp only [d__law_box, N__law_box, dWkA, dTupK, dTupL, dTupIx, dDictP, dDc2, dFor, dWhile, dLc, dLc2, dDc, dNextG, iSeq, iR1, iR2, iEn, iZpA, iZ2, iZ3, dSortK, dSortKF, dSortSet, dSortSetF, dBreak, bSortT, bSortTF, bSum, bSumL, bSumLF, bMaxL, bMinL, dDicE, bSortD, bSortDF, dGet2, oInA, oNotInA, oIxA, gdSubA, dSeq, dSet, dIf, dIfS, dTst, dOp, dUn, dVar, dCB, aCons, aNil, aStar, dRet, dRetN, dNext, dDrop, dLst, dTup, dC, dAnd, dOr, dNot, dAndV, dOrV, dNotV, dPar, dAsg, gdName, gdSub, gdTup, gdCons, gdNil, gdSlot, dIsi, dIsi2, dSlot, dSetSlot, dMethSl, dMakeSl, dCall, dCallP, dBM, dFrz, dLstF, dLcF, dLc2F, dDcF, dSlF, dListVF, bListF, bListDF, bSortSF, oAddLF, oRepLF, dSl, dNoP, dPart, dListV, dTru, dOrT, EndsD, startD, oLtI, oLeI, oGtI, oGeI, oIx, oMulI, oPowI, oAddI, oSubI, oModI, oDivI, oI, oI0, oEqD, oNeD, oInD, oNotInD, oAddL, oAddT, oAddS, oRepL, bLen, bAbs, bInt, bMin2, bMax2, bAll, bAny, bTuple, bList, bListD, bSortS, mAppend, mPop, mPopAt, mExtend, mIndex, tupOf_lst, tupOf_ref, tupOf_tup, List.map_cons, List.map_nil, List.length_cons, List.length_nil, List.cons_append, List.nil_append, List.append_nil, List.replicate, List.set_cons_zero, List.set_cons_succ, List.getElem?_cons_zero, List.getElem?_cons_succ, Option.some.injEq, exists_eq_left', exists_eq_left, exists_and_left, D.int.injEq, D.bl.injEq, D.str.injEq, D.tup.injEq, D.lst.injEq, D.ref.injEq, List.cons.injEq, and_true, true_and, reduceCtorEq, false_and, and_false, exists_false, or_false, false_or, exists_const, Bool.false_eq_true, if_true, if_false, decide_eq_true_eq, Ob.lst.injEq, Ob.slt.injEq, Ob.dic.injEq, seqD_ref, lstD_ref, seqD_tup, seqD_lst, lstD_lst, lstR_lst, Sto.set_same, Sto.set_set, atI_0, atI_1, atI_2, Nat.reduceAdd, ixN_30, ixN_32]
  obtain ⟨m, rfl⟩ := Int.eq_ofNat_of_zero_le h0
  have cm : CMul 39373 (m : Int) := .inl ⟨by decide, by decide⟩
  have c1 : ∀ (x : Int) (c : Prop) [Decidable c], CMul x (if c then 1 else 0) := fun x c _ => .inr ⟨by split <;> decide, by split <;> decide⟩
  have bx : ∀ (x y : Int) (c : Prop) [Decidable c], BxO (.lst [.int ((if x < 0 then -x else x) * if c then 1 else 0), .int (y % 2305843009213693951 + 39373 * (m : Int) + 223), .int 0]) 0 := fun x y c _ => by
    have e1 := Int.emod_nonneg y (show (2305843009213693951 : Int) ≠ 0 by decide)
    have e2 := Int.emod_lt_of_pos y (show (0 : Int) < 2305843009213693951 by decide)
    refine ⟨_, _, _, rfl, Int.mul_nonneg (by split <;> omega) (by split <;> decide), by omega, by omega, Int.le_refl _, Int.le_refl _⟩
  refine .inl ⟨_, seq_lst hv, ?_⟩
  split
  · rename_i hlt
    have hm : m < ns.length := by simpa using hlt
    exact ⟨_, seq_lst hv, .int ns[m], atI_nat (by simp [hm]), _, rfl, _, rfl, ⟨by decide, by decide, by decide⟩, c1 _ _, .inl ⟨_, rfl, by decide, cm, small_sz (by decide), fun l hl => drp_of (q _ l (bx _ _ _) hl)⟩⟩
  · exact ⟨⟨by decide, by decide, by decide⟩, c1 _ _, by decide, cm, small_sz (by decide), fun l hl => drp_of (q _ l (bx 0 0 _) hl)⟩
theorem v__law_take : ∀ ds S Q E, sp__law_take ds S Q E → d__law_take (EndsD Q) (startD N__law_take ds) S := by
  rintro ds S Q E ⟨l, m, c, rfl, h0, h1, ⟨_, hS, a, b, k, rfl, ha, hb, hb2, hk, hkc⟩, hc, q⟩
  simp only [d__law_take, N__law_take, hS, dWkA, dTupK, dTupL, dTupIx, dDictP, dDc2, dFor, dWhile, dLc, dLc2, dDc, dNextG, iSeq, iR1, iR2, iEn, iZpA, iZ2, iZ3, dSortK, dSortKF, dSortSet, dSortSetF, dBreak, bSortT, bSortTF, bSum, bSumL, bSumLF, bMaxL, bMinL, dDicE, bSortD, bSortDF, dGet2, oInA, oNotInA, oIxA, gdSubA, dSeq, dSet, dIf, dIfS, dTst, dOp, dUn, dVar, dCB, aCons, aNil, aStar, dRet, dRetN, dNext, dDrop, dLst, dTup, dC, dAnd, dOr, dNot, dAndV, dOrV, dNotV, dPar, dAsg, gdName, gdSub, gdTup, gdCons, gdNil, gdSlot, dIsi, dIsi2, dSlot, dSetSlot, dMethSl, dMakeSl, dCall, dCallP, dBM, dFrz, dLstF, dLcF, dLc2F, dDcF, dSlF, dListVF, bListF, bListDF, bSortSF, oAddLF, oRepLF, dSl, dNoP, dPart, dListV, dTru, dOrT, EndsD, startD, oLtI, oLeI, oGtI, oGeI, oIx, oMulI, oPowI, oAddI, oSubI, oModI, oDivI, oI, oI0, oEqD, oNeD, oInD, oNotInD, oAddL, oAddT, oAddS, oRepL, bLen, bAbs, bInt, bMin2, bMax2, bAll, bAny, bTuple, bList, bListD, bSortS, mAppend, mPop, mPopAt, mExtend, mIndex, tupOf_lst, tupOf_ref, tupOf_tup, List.map_cons, List.map_nil, List.length_cons, List.length_nil, List.cons_append, List.nil_append, List.append_nil, List.replicate, List.set_cons_zero, List.set_cons_succ, List.getElem?_cons_zero, List.getElem?_cons_succ, Option.some.injEq, exists_eq_left', exists_eq_left, exists_and_left, D.int.injEq, D.bl.injEq, D.str.injEq, D.tup.injEq, D.lst.injEq, D.ref.injEq, List.cons.injEq, and_true, true_and, reduceCtorEq, false_and, and_false, exists_false, or_false, false_or, exists_const, Bool.false_eq_true, if_true, if_false, decide_eq_true_eq, Ob.lst.injEq, Ob.slt.injEq, Ob.dic.injEq, seqD_ref, lstD_ref, seqD_tup, seqD_lst, lstD_lst, lstR_lst, Sto.set_same, Sto.set_set, atI_0, atI_1, atI_2, Nat.reduceAdd, ixN_30, ixN_32]
  have cd : ∀ i : Int, CDiv i m := fun i => cdiv h0 (by omega)
  split
  · refine ⟨h0, cd _, drp_of (q _ _ (Int.emod_nonneg _ (by omega)) (Int.emod_lt_of_pos _ h0) ⟨_, _, _, rfl, Int.ediv_nonneg ha (by omega), hb, hb2, hk, by omega⟩)⟩
  · have e1 := Int.emod_nonneg ((b + 48271 * (k + 1)) * (39373 + (k + 1))) (show (2147483647 : Int) ≠ 0 by decide)
    have e2 := Int.emod_lt_of_pos ((b + 48271 * (k + 1)) * (39373 + (k + 1))) (show (0 : Int) < 2147483647 by decide)
    generalize (b + 48271 * (k + 1)) * (39373 + (k + 1)) % 2147483647 = t1 at e1 e2 ⊢
    have e3 := Int.emod_nonneg t1 (show (40009 : Int) ≠ 0 by decide)
    have e4 := Int.emod_lt_of_pos t1 (show (0 : Int) < 40009 by decide)
    generalize t1 % 40009 = t2 at e3 e4 ⊢
    have e5 := Int.emod_nonneg ((t1 + (k + 1) + b / 1000003) * (t2 + 7)) (show (2147483629 : Int) ≠ 0 by decide)
    have e6 := Int.emod_lt_of_pos ((t1 + (k + 1) + b / 1000003) * (t2 + 7)) (show (0 : Int) < 2147483629 by decide)
    generalize (t1 + (k + 1) + b / 1000003) * (t2 + 7) % 2147483629 = t3 at e5 e6 ⊢
    refine ⟨.inl ⟨by omega, by omega⟩, .inr ⟨by omega, by omega⟩, by decide, by decide, cdiv (by decide) (by decide), .inr ⟨by omega, by omega⟩, by decide, .inr ⟨by decide, by decide⟩, by decide, cdiv (by decide) (by decide), h0, drp_of (q _ _ (Int.emod_nonneg _ (by omega)) (Int.emod_lt_of_pos _ h0) ⟨_, _, _, rfl, ha, hb, hb2, by omega, by omega⟩)⟩
theorem atI_lt {α : Type} {es : List α} {r : Int} (h0 : 0 ≤ r) (h1 : r < es.length) : ∃ e ∈ es, atI es r = some e := by
  obtain ⟨n, rfl⟩ := Int.eq_ofNat_of_zero_le h0
  have hn : n < es.length := by omega
  exact ⟨es[n], List.getElem_mem hn, atI_nat (List.getElem?_eq_getElem hn)⟩
theorem v__law_of : ∀ ds S Q E, sp__law_of ds S Q E → d__law_of (EndsD Q) (startD N__law_of ds) S := by
  rintro ds S Q E ⟨l, v, es, c, rfl, hv, hv0, hne, hl, hB, hc, q⟩
  simp only [d__law_of, N__law_of, sp__law_take, hv0, hv, dWkA, dTupK, dTupL, dTupIx, dDictP, dDc2, dFor, dWhile, dLc, dLc2, dDc, dNextG, iSeq, iR1, iR2, iEn, iZpA, iZ2, iZ3, dSortK, dSortKF, dSortSet, dSortSetF, dBreak, bSortT, bSortTF, bSum, bSumL, bSumLF, bMaxL, bMinL, dDicE, bSortD, bSortDF, dGet2, oInA, oNotInA, oIxA, gdSubA, dSeq, dSet, dIf, dIfS, dTst, dOp, dUn, dVar, dCB, aCons, aNil, aStar, dRet, dRetN, dNext, dDrop, dLst, dTup, dC, dAnd, dOr, dNot, dAndV, dOrV, dNotV, dPar, dAsg, gdName, gdSub, gdTup, gdCons, gdNil, gdSlot, dIsi, dIsi2, dSlot, dSetSlot, dMethSl, dMakeSl, dCall, dCallP, dBM, dFrz, dLstF, dLcF, dLc2F, dDcF, dSlF, dListVF, bListF, bListDF, bSortSF, oAddLF, oRepLF, dSl, dNoP, dPart, dListV, dTru, dOrT, EndsD, startD, oLtI, oLeI, oGtI, oGeI, oIx, oMulI, oPowI, oAddI, oSubI, oModI, oDivI, oI, oI0, oEqD, oNeD, oInD, oNotInD, oAddL, oAddT, oAddS, oRepL, bLen, bAbs, bInt, bMin2, bMax2, bAll, bAny, bTuple, bList, bListD, bSortS, mAppend, mPop, mPopAt, mExtend, mIndex, tupOf_lst, tupOf_ref, tupOf_tup, List.map_cons, List.map_nil, List.length_cons, List.length_nil, List.cons_append, List.nil_append, List.append_nil, List.replicate, List.set_cons_zero, List.set_cons_succ, List.getElem?_cons_zero, List.getElem?_cons_succ, Option.some.injEq, exists_eq_left', exists_eq_left, exists_and_left, D.int.injEq, D.bl.injEq, D.str.injEq, D.tup.injEq, D.lst.injEq, D.ref.injEq, List.cons.injEq, and_true, true_and, reduceCtorEq, false_and, and_false, exists_false, or_false, false_or, exists_const, Bool.false_eq_true, if_true, if_false, decide_eq_true_eq, Ob.lst.injEq, Ob.slt.injEq, Ob.dic.injEq, seqD_ref, lstD_ref, seqD_tup, seqD_lst, lstD_lst, lstR_lst, Sto.set_same, Sto.set_set, atI_0, atI_1, atI_2, Nat.reduceAdd, ixN_30, ixN_32]
  have hp : 0 < es.length := List.length_pos_iff.mpr hne
  refine .inl ⟨l, _, ⟨rfl, rfl⟩, by omega, by omega, c, hB, hc, fun r o h0 h1 hb => ?_⟩
  obtain ⟨e, he, ha⟩ := atI_lt h0 h1
  exact ⟨es, hv o, e, ha, drp_of (q e o he hb)⟩
end LK
end
section
set_option Elab.async false
set_option linter.all false
set_option maxRecDepth 100000
set_option maxHeartbeats 400000
namespace LK
open PySem PySem.Spec PyProof.Rows L2 L3
end LK
end
section
set_option Elab.async false
set_option linter.all false
set_option maxRecDepth 100000
set_option maxHeartbeats 400000
namespace LK
open PySem PySem.Spec PyProof.Rows L2 L3
theorem mapO_some {α β : Type} {f : α → Option β} : ∀ {xs : List α} {ys : List β}, mapO f xs = some ys → (∀ x ∈ xs, ∃ y, f x = some y) ∧ xs.filterMap f = ys ∧ ys.length = xs.length
  | [], ys, h => by cases h; exact ⟨fun _ h => (by cases h), rfl, rfl⟩
  | a :: as, ys, h => by
    have h' : (match f a, mapO f as with
      | some b, some bs => some (b :: bs)
      | _, _ => none) = some ys := h
    cases e1 : f a with
    | none => rw [e1] at h'; cases h'
    | some b =>
      cases e2 : mapO f as with
      | none => rw [e1, e2] at h'; cases h'
      | some bs =>
        rw [e1, e2] at h'
        cases h'
        obtain ⟨i1, i2, i3⟩ := mapO_some e2
        refine ⟨fun x hx => ?_, ?_, by simp [i3]⟩
        · rcases List.mem_cons.mp hx with rfl | hx
          · exact ⟨b, e1⟩
          · exact i1 x hx
        · rw [List.filterMap_cons, e1, i2]
theorem if_some {c : Prop} [Decidable c] {α : Type} {x : Option α} {y : α} (h : (if c then x else none) = some y) : c ∧ x = some y := by
  by_cases k : c
  · rw [if_pos k] at h; exact ⟨k, h⟩
  · rw [if_neg k] at h; cases h
theorem map_some {α β : Type} {x : Option α} {f : α → β} {y : β} (h : x.map f = some y) : ∃ a, x = some a ∧ y = f a := by
  cases x with
  | none => cases h
  | some a => exact ⟨a, rfl, (Option.some.inj h).symm⟩
theorem mapO_imp {α β : Type} {f g : α → Option β} : ∀ {xs : List α} {ys : List β}, (∀ a ∈ xs, ∀ y, f a = some y → g a = some y) → mapO f xs = some ys → mapO g xs = some ys
  | [], ys, _, h => h
  | a :: as, ys, k, h => by
    have h' : (match f a, mapO f as with
      | some b, some bs => some (b :: bs)
      | _, _ => none) = some ys := h
    show (match g a, mapO g as with
      | some b, some bs => some (b :: bs)
      | _, _ => none) = some ys
    cases e1 : f a with
    | none => rw [e1] at h'; cases h'
    | some b =>
      cases e2 : mapO f as with
      | none => rw [e1, e2] at h'; cases h'
      | some bs =>
        rw [e1, e2] at h'
        rw [k a List.mem_cons_self b e1, mapO_imp (fun x hx => k x (List.mem_cons_of_mem _ hx)) e2]
        exact h'
theorem seqO_imp {f g : D → Option D} {ds : List D} {w : D} (k : ∀ a ∈ ds, ∀ y, f a = some y → g a = some y) (h : (if ds.length ≤ sizeLine then (mapO f ds).map D.tup else none) = some w) : (if ds.length ≤ sizeLine then (mapO g ds).map D.tup else none) = some w := by
  obtain ⟨hz, h⟩ := if_some h
  obtain ⟨ws, e, rfl⟩ := map_some h
  rw [if_pos hz, mapO_imp k e]; rfl
theorem topO_lst {S S' : Sto} {n : Nat} {v w : D} (h : topO S n v = some w) (s : ∀ m ds, S m = some (.lst ds) → S' m = some (.lst ds)) : topO S' n v = some w := by
  induction n generalizing v w with
  | zero => cases h
  | succ n ih =>
    cases v with
    | tup ds => exact seqO_imp (fun a _ y e => ih e) h
    | lst ds => exact seqO_imp (fun a _ y e => ih e) h
    | kt ds => exact seqO_imp (fun a _ y e => ih e) h
    | ref l =>
      have h' : (match S l with
        | some (.lst ds) => if ds.length ≤ sizeLine then (mapO (topO S n) ds).map D.tup else none
        | _ => none) = some w := h
      show (match S' l with
        | some (.lst ds) => if ds.length ≤ sizeLine then (mapO (topO S' n) ds).map D.tup else none
        | _ => none) = some w
      cases e : S l with
      | none => rw [e] at h'; cases h'
      | some o =>
        rw [e] at h'
        cases o with
        | lst ds => rw [s _ _ e]; exact seqO_imp (fun a _ y e => ih e) h'
        | _ => cases h'
    | _ => exact h
theorem topO_mono {S S' : Sto} {n : Nat} {v w : D} (h : topO S n v = some w) (s : S.sub S') : topO S' n v = some w := topO_lst h fun m ds e => s m _ e
theorem v0__law_lists : ∀ ds S Q E, sp__law_lists 0 ds S Q E → False := by
  rintro ds S Q E ⟨v, w, rfl, h, q⟩
  cases h
theorem lists_seq {n : Nat} {S : Sto} {v : D} {ds ws : List D} {Q : DK} (hs : seqD S v = some ds) (ok : (gsOf v (.lst ds)).ok S) (ty : tyD S v = some "list" ∨ tyD S v = some "tuple") (hz : ds.length ≤ sizeLine) (hm : mapO (lisO n) ds = some ws) (q : Q (.lst ws) S) :
    d__law_lists n (EndsD Q) (startD N__law_lists [v]) S := by
  obtain ⟨m1, m2, m3⟩ := mapO_some hm
  simp only [d__law_lists, N__law_lists, hs, dWkA, dTupK, dTupL, dTupIx, dDictP, dDc2, dFor, dWhile, dLc, dLc2, dDc, dNextG, iSeq, iR1, iR2, iEn, iZpA, iZ2, iZ3, dSortK, dSortKF, dSortSet, dSortSetF, dBreak, bSortT, bSortTF, bSum, bSumL, bSumLF, bMaxL, bMinL, dDicE, bSortD, bSortDF, dGet2, oInA, oNotInA, oIxA, gdSubA, dSeq, dSet, dIf, dIfS, dTst, dOp, dUn, dVar, dCB, aCons, aNil, aStar, dRet, dRetN, dNext, dDrop, dLst, dTup, dC, dAnd, dOr, dNot, dAndV, dOrV, dNotV, dPar, dAsg, gdName, gdSub, gdTup, gdCons, gdNil, gdSlot, dIsi, dIsi2, dSlot, dSetSlot, dMethSl, dMakeSl, dCall, dCallP, dBM, dFrz, dLstF, dLcF, dLc2F, dDcF, dSlF, dListVF, bListF, bListDF, bSortSF, oAddLF, oRepLF, dSl, dNoP, dPart, dListV, dTru, dOrT, EndsD, startD, oLtI, oLeI, oGtI, oGeI, oIx, oMulI, oPowI, oAddI, oSubI, oModI, oDivI, oI, oI0, oEqD, oNeD, oInD, oNotInD, oAddL, oAddT, oAddS, oRepL, bLen, bAbs, bInt, bMin2, bMax2, bAll, bAny, bTuple, bList, bListD, bSortS, mAppend, mPop, mPopAt, mExtend, mIndex, tupOf_lst, tupOf_ref, tupOf_tup, List.map_cons, List.map_nil, List.length_cons, List.length_nil, List.cons_append, List.nil_append, List.append_nil, List.replicate, List.set_cons_zero, List.set_cons_succ, List.getElem?_cons_zero, List.getElem?_cons_succ, Option.some.injEq, exists_eq_left', exists_eq_left, exists_and_left, D.int.injEq, D.bl.injEq, D.str.injEq, D.tup.injEq, D.lst.injEq, D.ref.injEq, List.cons.injEq, and_true, true_and, reduceCtorEq, false_and, and_false, exists_false, or_false, false_or, exists_const, Bool.false_eq_true, if_true, if_false, decide_eq_true_eq, Ob.lst.injEq, Ob.slt.injEq, Ob.dic.injEq, seqD_ref, lstD_ref, seqD_tup, seqD_lst, lstD_lst, lstR_lst, Sto.set_same, Sto.set_set, atI_0, atI_1, atI_2, Nat.reduceAdd, ixN_30, ixN_32]
  obtain ⟨T, eT, hT⟩ : ∃ T, tyD S v = some T ∧ (isK T "list" || isK T "tuple") = true := by
    rcases ty with e | e
    · exact ⟨_, e, by decide⟩
    · exact ⟨_, e, by decide⟩
  refine ⟨T, eT, ?_⟩
  rw [if_pos hT]
  refine compW_by (lisO n) ds [] ok (by simpa using hz) (fun d hd S' Py Pn s hy hn => ?_) ?_
  · obtain ⟨y, ey⟩ := m1 d hd
    simp only [turn, Tg.d, wipeD, dYes, sp__law_lists, dWkA, dTupK, dTupL, dTupIx, dDictP, dDc2, dFor, dWhile, dLc, dLc2, dDc, dNextG, iSeq, iR1, iR2, iEn, iZpA, iZ2, iZ3, dSortK, dSortKF, dSortSet, dSortSetF, dBreak, bSortT, bSortTF, bSum, bSumL, bSumLF, bMaxL, bMinL, dDicE, bSortD, bSortDF, dGet2, oInA, oNotInA, oIxA, gdSubA, dSeq, dSet, dIf, dIfS, dTst, dOp, dUn, dVar, dCB, aCons, aNil, aStar, dRet, dRetN, dNext, dDrop, dLst, dTup, dC, dAnd, dOr, dNot, dAndV, dOrV, dNotV, dPar, dAsg, gdName, gdSub, gdTup, gdCons, gdNil, gdSlot, dIsi, dIsi2, dSlot, dSetSlot, dMethSl, dMakeSl, dCall, dCallP, dBM, dFrz, dLstF, dLcF, dLc2F, dDcF, dSlF, dListVF, bListF, bListDF, bSortSF, oAddLF, oRepLF, dSl, dNoP, dPart, dListV, dTru, dOrT, EndsD, startD, oLtI, oLeI, oGtI, oGeI, oIx, oMulI, oPowI, oAddI, oSubI, oModI, oDivI, oI, oI0, oEqD, oNeD, oInD, oNotInD, oAddL, oAddT, oAddS, oRepL, bLen, bAbs, bInt, bMin2, bMax2, bAll, bAny, bTuple, bList, bListD, bSortS, mAppend, mPop, mPopAt, mExtend, mIndex, tupOf_lst, tupOf_ref, tupOf_tup, List.map_cons, List.map_nil, List.length_cons, List.length_nil, List.cons_append, List.nil_append, List.append_nil, List.replicate, List.set_cons_zero, List.set_cons_succ, List.getElem?_cons_zero, List.getElem?_cons_succ, Option.some.injEq, exists_eq_left', exists_eq_left, exists_and_left, D.int.injEq, D.bl.injEq, D.str.injEq, D.tup.injEq, D.lst.injEq, D.ref.injEq, List.cons.injEq, and_true, true_and, reduceCtorEq, false_and, and_false, exists_false, or_false, false_or, exists_const, Bool.false_eq_true, if_true, if_false, decide_eq_true_eq, Ob.lst.injEq, Ob.slt.injEq, Ob.dic.injEq, seqD_ref, lstD_ref, seqD_tup, seqD_lst, lstD_lst, lstR_lst, Sto.set_same, Sto.set_set, atI_0, atI_1, atI_2, Nat.reduceAdd, ixN_30, ixN_32]
    exact ⟨y, ey, hy y ey⟩
  · rw [List.nil_append, m2]
    intro l hl
    refine ⟨_, rfl, ?_⟩
    rw [Sto.del_set hl]
    exact drp_of q
theorem v__law_lists {n : Nat} : ∀ ds S Q E, sp__law_lists (n + 1) ds S Q E → d__law_lists n (EndsD Q) (startD N__law_lists ds) S := by
  rintro ds S Q E ⟨v, w, rfl, h, q⟩
  have atom : ∀ {T}, tyD S v = some T → (isK T "list" || isK T "tuple") = false → w = v → d__law_lists n (EndsD Q) (startD N__law_lists [v]) S := fun {T} e hT ew => by
    subst ew
    simp only [d__law_lists, N__law_lists, dWkA, dTupK, dTupL, dTupIx, dDictP, dDc2, dFor, dWhile, dLc, dLc2, dDc, dNextG, iSeq, iR1, iR2, iEn, iZpA, iZ2, iZ3, dSortK, dSortKF, dSortSet, dSortSetF, dBreak, bSortT, bSortTF, bSum, bSumL, bSumLF, bMaxL, bMinL, dDicE, bSortD, bSortDF, dGet2, oInA, oNotInA, oIxA, gdSubA, dSeq, dSet, dIf, dIfS, dTst, dOp, dUn, dVar, dCB, aCons, aNil, aStar, dRet, dRetN, dNext, dDrop, dLst, dTup, dC, dAnd, dOr, dNot, dAndV, dOrV, dNotV, dPar, dAsg, gdName, gdSub, gdTup, gdCons, gdNil, gdSlot, dIsi, dIsi2, dSlot, dSetSlot, dMethSl, dMakeSl, dCall, dCallP, dBM, dFrz, dLstF, dLcF, dLc2F, dDcF, dSlF, dListVF, bListF, bListDF, bSortSF, oAddLF, oRepLF, dSl, dNoP, dPart, dListV, dTru, dOrT, EndsD, startD, oLtI, oLeI, oGtI, oGeI, oIx, oMulI, oPowI, oAddI, oSubI, oModI, oDivI, oI, oI0, oEqD, oNeD, oInD, oNotInD, oAddL, oAddT, oAddS, oRepL, bLen, bAbs, bInt, bMin2, bMax2, bAll, bAny, bTuple, bList, bListD, bSortS, mAppend, mPop, mPopAt, mExtend, mIndex, tupOf_lst, tupOf_ref, tupOf_tup, List.map_cons, List.map_nil, List.length_cons, List.length_nil, List.cons_append, List.nil_append, List.append_nil, List.replicate, List.set_cons_zero, List.set_cons_succ, List.getElem?_cons_zero, List.getElem?_cons_succ, Option.some.injEq, exists_eq_left', exists_eq_left, exists_and_left, D.int.injEq, D.bl.injEq, D.str.injEq, D.tup.injEq, D.lst.injEq, D.ref.injEq, List.cons.injEq, and_true, true_and, reduceCtorEq, false_and, and_false, exists_false, or_false, false_or, exists_const, Bool.false_eq_true, if_true, if_false, decide_eq_true_eq, Ob.lst.injEq, Ob.slt.injEq, Ob.dic.injEq, seqD_ref, lstD_ref, seqD_tup, seqD_lst, lstD_lst, lstR_lst, Sto.set_same, Sto.set_set, atI_0, atI_1, atI_2, Nat.reduceAdd, ixN_30, ixN_32]
    refine ⟨T, e, ?_⟩
    rw [hT, if_neg Bool.false_ne_true]
    exact drp_of q
  cases v with
  | non => cases h; exact atom rfl (by decide) rfl
  | bl b => cases h; exact atom rfl (by decide) rfl
  | int b => cases h; exact atom rfl (by decide) rfl
  | str b => cases h; exact atom rfl (by decide) rfl
  | tup ds =>
    obtain ⟨hz, h⟩ := if_some (show (if ds.length ≤ sizeLine then (mapO (lisO n) ds).map D.lst else none) = some w from h)
    obtain ⟨ws, e, rfl⟩ := map_some h
    exact lists_seq rfl gs_tup (.inr rfl) hz e q
  | lst ds =>
    obtain ⟨hz, h⟩ := if_some (show (if ds.length ≤ sizeLine then (mapO (lisO n) ds).map D.lst else none) = some w from h)
    obtain ⟨ws, e, rfl⟩ := map_some h
    exact lists_seq rfl gs_lst (.inl rfl) hz e q
  | _ => cases h
end LK
end
section
set_option Elab.async false
set_option linter.all false
set_option maxRecDepth 100000
set_option maxHeartbeats 400000
namespace LK
open PySem PySem.Spec PyProof.Rows L2 L3
section
variable {K : PySem.W.Frag}
theorem eqv_row (r s : Row) : PyData.eqv (.tuple (r.map .str)) (.tuple (s.map .str)) = decide (r = s) := by
  show PyData.eqvAll _ _ = _
  exact eqvAll_map eqv_str r s
end
end LK
end
section
set_option Elab.async false
set_option linter.all false
set_option maxRecDepth 100000
set_option maxHeartbeats 400000
namespace LK
open PySem PySem.Spec PyProof.Rows L2 L3
section
variable {K : PySem.W.Frag}
theorem set_mono {S S' : Sto} {m : Nat} {o : Ob} (h : S.sub S') : (S.set m o).sub (S'.set m o) := fun l x e => by
  by_cases k : l = m
  · subst k; rw [Sto.set_same] at e ⊢; exact e
  · rw [Sto.set_ne k] at e ⊢; exact h l x e
theorem none_of_sub {S S' : Sto} {m : Nat} (h : S.sub S') (e : S' m = none) : S m = none := by
  cases q : S m with
  | none => rfl
  | some o => rw [h m o q] at e; cases e
end
theorem v0__law_same : ∀ ds S Q E, sp__law_same 0 ds S Q E → False := by
  rintro ds S Q E ⟨g, d, rfl, h, q⟩
  exact h
theorem lstD_mono {S S' : Sto} {v : D} {ds : List D} (h : lstD S v = some ds) (s : S.sub S') : lstD S' v = some ds := by
  cases v with
  | ref l =>
    rw [lstD_ref] at h ⊢
    cases e : S l with
    | none => rw [e] at h; cases h
    | some o => rw [s _ _ e]; rw [e] at h; exact h
  | _ => exact h
theorem tyD_mono {S S' : Sto} {v : D} {T : String} (h : tyD S v = some T) (s : S.sub S') : tyD S' v = some T := by
  cases v with
  | ref l =>
    have h' : (match S l with | some (.lst _) => some "list" | some (.dic _ _) => some "dict" | _ => none) = some T := h
    show (match S' l with | some (.lst _) => some "list" | some (.dic _ _) => some "dict" | _ => none) = some T
    cases e : S l with
    | none => rw [e] at h'; cases h'
    | some o => rw [s _ _ e]; rw [e] at h'; exact h'
  | _ => exact h
theorem same_mono : ∀ {n : Nat} {S S' : Sto} {g d : D}, sameP n S g d → S.sub S' → sameP n S' g d
  | 0, _, _, _, _, h, _ => h
  | n + 1, S, S', g, d, h, s => by
    cases d with
    | lst ds =>
      obtain ⟨hz, gs, h1, h2, h3, h4⟩ := h
      exact ⟨hz, gs, lstD_mono h1 s, tyD_mono h2 s, h3, fun p hp => same_mono (h4 p hp) s⟩
    | tup ds =>
      obtain ⟨hz, gs, h1, h2, h3⟩ := h
      exact ⟨hz, gs, h1, h2, fun p hp => same_mono (h3 p hp) s⟩
    | ref l =>
      obtain ⟨ds, hl, hz, gs, h1, h2, h3, h4⟩ := h
      exact ⟨ds, s _ _ hl, hz, gs, lstD_mono h1 s, tyD_mono h2 s, h3, fun p hp => same_mono (h4 p hp) s⟩
    | _ => exact h
theorem shp_bl (b : Bool) : SeqAt.shaped (.bool b) = true := rfl
theorem shp_int (i : Int) : SeqAt.shaped (.int i) = true := rfl
theorem shp_non : SeqAt.shaped .none = true := rfl
theorem eqv_bl (a b : Bool) : PyData.eqv (.bool a) (.bool b) = (a == b) := rfl
theorem eqv_int (a b : Int) : PyData.eqv (.int a) (.int b) = (a == b) := rfl
theorem pyR_bl (S : Sto) (b : Bool) : pyR S (.bl b) = some (.bool b) := rfl
theorem pyR_int (S : Sto) (b : Int) : pyR S (.int b) = some (.int b) := rfl
theorem pyR_str (S : Sto) (b : Str) : pyR S (.str b) = some (.str b) := rfl
theorem gs_of {S : Sto} {v : D} {ds : List D} (h : lstD S v = some ds) : (gsOf v (.lst ds)).ok S := by
  cases v with
  | ref l =>
    rw [lstD_ref] at h
    cases e : S l with
    | none => rw [e] at h; cases h
    | some o =>
      rw [e] at h
      cases o with
      | lst es => cases h; exact gs_ref e
      | _ => cases h
  | _ => exact Gs.ok_nil
theorem gs_app {a b : Gs} {S : Sto} (h : a.ok S) (k : b.ok S) : (a ++ b : Gs).ok S := fun z hz => (List.mem_append.mp hz).elim (h z) (k z)
theorem same_turns {n : Nat} {S : Sto} {Q : DK} {ρ : En} {gs ds : List D} {G : Gs} (x0 x1 : Option D) (ok : G.ok S) (hz : ds.length ≤ sizeLine) (h4 : ∀ p ∈ gs.zip ds, sameP n S p.1 p.2) (q : Q (.bl true) S) :
    compW G (.many [3, 4]) dYes (dCall (sp__law_same n) noX (aCons (dVar 3) (aCons (dVar 4) aNil))) (wipeD [x0, x1, none, none, none] [3, 4])
      (fun acc S2 => ∀ (l : Nat), S2 l = none → ∃ x : List Bool, acc = x.map D.bl ∧ drp (Q (.bl (x.all id))) (S2.set l (.lst acc))) ((gs.zip ds).map fun p => D.tup [p.1, p.2]) [] S := by
  refine compW_all (fun p : D × D => D.tup [p.1, p.2]) (fun _ => .bl true) ok (by rw [List.length_zip]; omega) (fun p hp S' Py s hy => ?_) fun l hl => ⟨(gs.zip ds).map fun _ => true, by rw [List.map_map]; rfl, S, Sto.sub_set hl, ?_⟩
  · simp only [Tg.d, wipeD, setsE, sp__law_same, dWkA, dTupK, dTupL, dTupIx, dDictP, dDc2, dFor, dWhile, dLc, dLc2, dDc, dNextG, iSeq, iR1, iR2, iEn, iZpA, iZ2, iZ3, dSortK, dSortKF, dSortSet, dSortSetF, dBreak, bSortT, bSortTF, bSum, bSumL, bSumLF, bMaxL, bMinL, dDicE, bSortD, bSortDF, dGet2, oInA, oNotInA, oIxA, gdSubA, dSeq, dSet, dIf, dIfS, dTst, dOp, dUn, dVar, dCB, aCons, aNil, aStar, dRet, dRetN, dNext, dDrop, dLst, dTup, dC, dAnd, dOr, dNot, dAndV, dOrV, dNotV, dPar, dAsg, gdName, gdSub, gdTup, gdCons, gdNil, gdSlot, dIsi, dIsi2, dSlot, dSetSlot, dMethSl, dMakeSl, dCall, dCallP, dBM, dFrz, dLstF, dLcF, dLc2F, dDcF, dSlF, dListVF, bListF, bListDF, bSortSF, oAddLF, oRepLF, dSl, dNoP, dPart, dListV, dTru, dOrT, EndsD, startD, oLtI, oLeI, oGtI, oGeI, oIx, oMulI, oPowI, oAddI, oSubI, oModI, oDivI, oI, oI0, oEqD, oNeD, oInD, oNotInD, oAddL, oAddT, oAddS, oRepL, bLen, bAbs, bInt, bMin2, bMax2, bAll, bAny, bTuple, bList, bListD, bSortS, mAppend, mPop, mPopAt, mExtend, mIndex, tupOf_lst, tupOf_ref, tupOf_tup, List.map_cons, List.map_nil, List.length_cons, List.length_nil, List.cons_append, List.nil_append, List.append_nil, List.replicate, List.set_cons_zero, List.set_cons_succ, List.getElem?_cons_zero, List.getElem?_cons_succ, Option.some.injEq, exists_eq_left', exists_eq_left, exists_and_left, D.int.injEq, D.bl.injEq, D.str.injEq, D.tup.injEq, D.lst.injEq, D.ref.injEq, List.cons.injEq, and_true, true_and, reduceCtorEq, false_and, and_false, exists_false, or_false, false_or, exists_const, Bool.false_eq_true, if_true, if_false, decide_eq_true_eq, Ob.lst.injEq, Ob.slt.injEq, Ob.dic.injEq, seqD_ref, lstD_ref, seqD_tup, seqD_lst, lstD_lst, lstR_lst, Sto.set_same, Sto.set_set, atI_0, atI_1, atI_2, Nat.reduceAdd, ixN_30, ixN_32]
    exact ⟨p.1, p.2, ⟨rfl, rfl⟩, same_mono (h4 p hp) s, hy⟩
  · have e : ((gs.zip ds).map fun _ => true).all id = true := by simp
    rw [e]
    exact q
theorem v__law_same {n : Nat} : ∀ ds S Q E, sp__law_same (n + 1) ds S Q E → d__law_same n (EndsD Q) (startD N__law_same ds) S := by
  rintro ds S Q E ⟨g, d, rfl, h, q⟩
  have kll : isK "list" "list" = true := by decide
  have klt : isK "list" "tuple" = false := by decide
  have ktt : isK "tuple" "tuple" = true := by decide
  have ktl : isK "tuple" "list" = false := by decide
  have ksl : isK "str" "list" = false := by decide
  have kst : isK "str" "tuple" = false := by decide
  have ksd : isK "str" "dict" = false := by decide
  have ksb : isK "str" "bool" = false := by decide
  have kss : isK "str" "str" = true := by decide
  cases d with
  | lst ds =>
    obtain ⟨hz, gs, h1, h2, h3, h4⟩ := h
    have t2 : tyD S (.lst ds) = some "list" := rfl
    simp only [d__law_same, N__law_same, h2, t2, kll, klt, pyR_bl, pyR_int, shp_bl, shp_int, eqv_bl, eqv_int, Bool.or_false, beq_self_eq_true, Bool.not_true, seq_lst h1, h1, h3, dWkA, dTupK, dTupL, dTupIx, dDictP, dDc2, dFor, dWhile, dLc, dLc2, dDc, dNextG, iSeq, iR1, iR2, iEn, iZpA, iZ2, iZ3, dSortK, dSortKF, dSortSet, dSortSetF, dBreak, bSortT, bSortTF, bSum, bSumL, bSumLF, bMaxL, bMinL, dDicE, bSortD, bSortDF, dGet2, oInA, oNotInA, oIxA, gdSubA, dSeq, dSet, dIf, dIfS, dTst, dOp, dUn, dVar, dCB, aCons, aNil, aStar, dRet, dRetN, dNext, dDrop, dLst, dTup, dC, dAnd, dOr, dNot, dAndV, dOrV, dNotV, dPar, dAsg, gdName, gdSub, gdTup, gdCons, gdNil, gdSlot, dIsi, dIsi2, dSlot, dSetSlot, dMethSl, dMakeSl, dCall, dCallP, dBM, dFrz, dLstF, dLcF, dLc2F, dDcF, dSlF, dListVF, bListF, bListDF, bSortSF, oAddLF, oRepLF, dSl, dNoP, dPart, dListV, dTru, dOrT, EndsD, startD, oLtI, oLeI, oGtI, oGeI, oIx, oMulI, oPowI, oAddI, oSubI, oModI, oDivI, oI, oI0, oEqD, oNeD, oInD, oNotInD, oAddL, oAddT, oAddS, oRepL, bLen, bAbs, bInt, bMin2, bMax2, bAll, bAny, bTuple, bList, bListD, bSortS, mAppend, mPop, mPopAt, mExtend, mIndex, tupOf_lst, tupOf_ref, tupOf_tup, List.map_cons, List.map_nil, List.length_cons, List.length_nil, List.cons_append, List.nil_append, List.append_nil, List.replicate, List.set_cons_zero, List.set_cons_succ, List.getElem?_cons_zero, List.getElem?_cons_succ, Option.some.injEq, exists_eq_left', exists_eq_left, exists_and_left, D.int.injEq, D.bl.injEq, D.str.injEq, D.tup.injEq, D.lst.injEq, D.ref.injEq, List.cons.injEq, and_true, true_and, reduceCtorEq, false_and, and_false, exists_false, or_false, false_or, exists_const, Bool.false_eq_true, if_true, if_false, decide_eq_true_eq, Ob.lst.injEq, Ob.slt.injEq, Ob.dic.injEq, seqD_ref, lstD_ref, seqD_tup, seqD_lst, lstD_lst, lstR_lst, Sto.set_same, Sto.set_set, atI_0, atI_1, atI_2, Nat.reduceAdd, ixN_30, ixN_32]
    exact .inl ⟨g, .lst ds, ⟨rfl, rfl⟩, gs, ds, .inl ⟨h1, rfl⟩, same_turns (ρ := []) _ _ (gs_app (gs_of h1) gs_lst) hz h4 q⟩
  | tup ds =>
    obtain ⟨hz, gs, rfl, h3, h4⟩ := h
    have t1 : tyD S (.tup gs) = some "tuple" := rfl
    have t2 : tyD S (.tup ds) = some "tuple" := rfl
    simp only [d__law_same, N__law_same, t1, t2, ktt, ktl, pyR_bl, pyR_int, shp_bl, shp_int, eqv_bl, eqv_int, Bool.or_false, Bool.false_or, beq_self_eq_true, Bool.not_true, h3, dWkA, dTupK, dTupL, dTupIx, dDictP, dDc2, dFor, dWhile, dLc, dLc2, dDc, dNextG, iSeq, iR1, iR2, iEn, iZpA, iZ2, iZ3, dSortK, dSortKF, dSortSet, dSortSetF, dBreak, bSortT, bSortTF, bSum, bSumL, bSumLF, bMaxL, bMinL, dDicE, bSortD, bSortDF, dGet2, oInA, oNotInA, oIxA, gdSubA, dSeq, dSet, dIf, dIfS, dTst, dOp, dUn, dVar, dCB, aCons, aNil, aStar, dRet, dRetN, dNext, dDrop, dLst, dTup, dC, dAnd, dOr, dNot, dAndV, dOrV, dNotV, dPar, dAsg, gdName, gdSub, gdTup, gdCons, gdNil, gdSlot, dIsi, dIsi2, dSlot, dSetSlot, dMethSl, dMakeSl, dCall, dCallP, dBM, dFrz, dLstF, dLcF, dLc2F, dDcF, dSlF, dListVF, bListF, bListDF, bSortSF, oAddLF, oRepLF, dSl, dNoP, dPart, dListV, dTru, dOrT, EndsD, startD, oLtI, oLeI, oGtI, oGeI, oIx, oMulI, oPowI, oAddI, oSubI, oModI, oDivI, oI, oI0, oEqD, oNeD, oInD, oNotInD, oAddL, oAddT, oAddS, oRepL, bLen, bAbs, bInt, bMin2, bMax2, bAll, bAny, bTuple, bList, bListD, bSortS, mAppend, mPop, mPopAt, mExtend, mIndex, tupOf_lst, tupOf_ref, tupOf_tup, List.map_cons, List.map_nil, List.length_cons, List.length_nil, List.cons_append, List.nil_append, List.append_nil, List.replicate, List.set_cons_zero, List.set_cons_succ, List.getElem?_cons_zero, List.getElem?_cons_succ, Option.some.injEq, exists_eq_left', exists_eq_left, exists_and_left, D.int.injEq, D.bl.injEq, D.str.injEq, D.tup.injEq, D.lst.injEq, D.ref.injEq, List.cons.injEq, and_true, true_and, reduceCtorEq, false_and, and_false, exists_false, or_false, false_or, exists_const, Bool.false_eq_true, if_true, if_false, decide_eq_true_eq, Ob.lst.injEq, Ob.slt.injEq, Ob.dic.injEq, seqD_ref, lstD_ref, seqD_tup, seqD_lst, lstD_lst, lstR_lst, Sto.set_same, Sto.set_set, atI_0, atI_1, atI_2, Nat.reduceAdd, ixN_30, ixN_32]
    exact ⟨_, _, ⟨rfl, rfl⟩, gs, ds, .inr ⟨rfl, rfl⟩, same_turns (ρ := []) _ _ (gs_app gs_tup gs_tup) hz h4 q⟩
  | str x =>
    obtain ⟨rfl, hx⟩ := h
    have t2 : tyD S (.str x) = some "str" := rfl
    have nn : oIsN.isNonD (.str x) = some false := rfl
    simp only [d__law_same, N__law_same, t2, ksl, kst, ksd, ksb, kss, oIsN, nn, pyR_bl, pyR_int, pyR_str, shp_bl, shp_int, (shp_str hx).ok, eqv_str, eqv_bl, eqv_int, Bool.or_false, Bool.false_or, Bool.or_true, beq_self_eq_true, decide_true, Bool.not_true, dWkA, dTupK, dTupL, dTupIx, dDictP, dDc2, dFor, dWhile, dLc, dLc2, dDc, dNextG, iSeq, iR1, iR2, iEn, iZpA, iZ2, iZ3, dSortK, dSortKF, dSortSet, dSortSetF, dBreak, bSortT, bSortTF, bSum, bSumL, bSumLF, bMaxL, bMinL, dDicE, bSortD, bSortDF, dGet2, oInA, oNotInA, oIxA, gdSubA, dSeq, dSet, dIf, dIfS, dTst, dOp, dUn, dVar, dCB, aCons, aNil, aStar, dRet, dRetN, dNext, dDrop, dLst, dTup, dC, dAnd, dOr, dNot, dAndV, dOrV, dNotV, dPar, dAsg, gdName, gdSub, gdTup, gdCons, gdNil, gdSlot, dIsi, dIsi2, dSlot, dSetSlot, dMethSl, dMakeSl, dCall, dCallP, dBM, dFrz, dLstF, dLcF, dLc2F, dDcF, dSlF, dListVF, bListF, bListDF, bSortSF, oAddLF, oRepLF, dSl, dNoP, dPart, dListV, dTru, dOrT, EndsD, startD, oLtI, oLeI, oGtI, oGeI, oIx, oMulI, oPowI, oAddI, oSubI, oModI, oDivI, oI, oI0, oEqD, oNeD, oInD, oNotInD, oAddL, oAddT, oAddS, oRepL, bLen, bAbs, bInt, bMin2, bMax2, bAll, bAny, bTuple, bList, bListD, bSortS, mAppend, mPop, mPopAt, mExtend, mIndex, tupOf_lst, tupOf_ref, tupOf_tup, List.map_cons, List.map_nil, List.length_cons, List.length_nil, List.cons_append, List.nil_append, List.append_nil, List.replicate, List.set_cons_zero, List.set_cons_succ, List.getElem?_cons_zero, List.getElem?_cons_succ, Option.some.injEq, exists_eq_left', exists_eq_left, exists_and_left, D.int.injEq, D.bl.injEq, D.str.injEq, D.tup.injEq, D.lst.injEq, D.ref.injEq, List.cons.injEq, and_true, true_and, reduceCtorEq, false_and, and_false, exists_false, or_false, false_or, exists_const, Bool.false_eq_true, if_true, if_false, decide_eq_true_eq, Ob.lst.injEq, Ob.slt.injEq, Ob.dic.injEq, seqD_ref, lstD_ref, seqD_tup, seqD_lst, lstD_lst, lstR_lst, Sto.set_same, Sto.set_set, atI_0, atI_1, atI_2, Nat.reduceAdd, ixN_30, ixN_32]
    exact drp_of q
  | bl b =>
    have e : g = .bl b := h
    subst e
    have t2 : tyD S (.bl b) = some "bool" := rfl
    have nn : oIsN.isNonD (.bl b) = some false := rfl
    have k1 : isK "bool" "list" = false := by decide
    have k2 : isK "bool" "tuple" = false := by decide
    have k3 : isK "bool" "dict" = false := by decide
    have k4 : isK "bool" "bool" = true := by decide
    simp only [d__law_same, N__law_same, t2, k1, k2, k3, k4, oIsN, nn, pyR_bl, pyR_int, pyR_str, shp_bl, shp_int, eqv_bl, eqv_int, Bool.or_false, Bool.false_or, Bool.true_or, Bool.or_true, beq_self_eq_true, decide_true, Bool.not_true, dWkA, dTupK, dTupL, dTupIx, dDictP, dDc2, dFor, dWhile, dLc, dLc2, dDc, dNextG, iSeq, iR1, iR2, iEn, iZpA, iZ2, iZ3, dSortK, dSortKF, dSortSet, dSortSetF, dBreak, bSortT, bSortTF, bSum, bSumL, bSumLF, bMaxL, bMinL, dDicE, bSortD, bSortDF, dGet2, oInA, oNotInA, oIxA, gdSubA, dSeq, dSet, dIf, dIfS, dTst, dOp, dUn, dVar, dCB, aCons, aNil, aStar, dRet, dRetN, dNext, dDrop, dLst, dTup, dC, dAnd, dOr, dNot, dAndV, dOrV, dNotV, dPar, dAsg, gdName, gdSub, gdTup, gdCons, gdNil, gdSlot, dIsi, dIsi2, dSlot, dSetSlot, dMethSl, dMakeSl, dCall, dCallP, dBM, dFrz, dLstF, dLcF, dLc2F, dDcF, dSlF, dListVF, bListF, bListDF, bSortSF, oAddLF, oRepLF, dSl, dNoP, dPart, dListV, dTru, dOrT, EndsD, startD, oLtI, oLeI, oGtI, oGeI, oIx, oMulI, oPowI, oAddI, oSubI, oModI, oDivI, oI, oI0, oEqD, oNeD, oInD, oNotInD, oAddL, oAddT, oAddS, oRepL, bLen, bAbs, bInt, bMin2, bMax2, bAll, bAny, bTuple, bList, bListD, bSortS, mAppend, mPop, mPopAt, mExtend, mIndex, tupOf_lst, tupOf_ref, tupOf_tup, List.map_cons, List.map_nil, List.length_cons, List.length_nil, List.cons_append, List.nil_append, List.append_nil, List.replicate, List.set_cons_zero, List.set_cons_succ, List.getElem?_cons_zero, List.getElem?_cons_succ, Option.some.injEq, exists_eq_left', exists_eq_left, exists_and_left, D.int.injEq, D.bl.injEq, D.str.injEq, D.tup.injEq, D.lst.injEq, D.ref.injEq, List.cons.injEq, and_true, true_and, reduceCtorEq, false_and, and_false, exists_false, or_false, false_or, exists_const, Bool.false_eq_true, if_true, if_false, decide_eq_true_eq, Ob.lst.injEq, Ob.slt.injEq, Ob.dic.injEq, seqD_ref, lstD_ref, seqD_tup, seqD_lst, lstD_lst, lstR_lst, Sto.set_same, Sto.set_set, atI_0, atI_1, atI_2, Nat.reduceAdd, ixN_30, ixN_32]
    exact drp_of q
  | int b =>
    have e : g = .int b := h
    subst e
    have t2 : tyD S (.int b) = some "int" := rfl
    have nn : oIsN.isNonD (.int b) = some false := rfl
    have k1 : isK "int" "list" = false := by decide
    have k2 : isK "int" "tuple" = false := by decide
    have k3 : isK "int" "dict" = false := by decide
    have k4 : isK "int" "bool" = false := by decide
    have k5 : isK "int" "str" = false := by decide
    have k6 : isK "int" "int" = true := by decide
    simp only [d__law_same, N__law_same, t2, k1, k2, k3, k4, k5, k6, oIsN, nn, pyR_bl, pyR_int, pyR_str, shp_bl, shp_int, eqv_bl, eqv_int, Bool.or_false, Bool.false_or, Bool.true_or, Bool.or_true, beq_self_eq_true, decide_true, Bool.not_true, Bool.not_false, dWkA, dTupK, dTupL, dTupIx, dDictP, dDc2, dFor, dWhile, dLc, dLc2, dDc, dNextG, iSeq, iR1, iR2, iEn, iZpA, iZ2, iZ3, dSortK, dSortKF, dSortSet, dSortSetF, dBreak, bSortT, bSortTF, bSum, bSumL, bSumLF, bMaxL, bMinL, dDicE, bSortD, bSortDF, dGet2, oInA, oNotInA, oIxA, gdSubA, dSeq, dSet, dIf, dIfS, dTst, dOp, dUn, dVar, dCB, aCons, aNil, aStar, dRet, dRetN, dNext, dDrop, dLst, dTup, dC, dAnd, dOr, dNot, dAndV, dOrV, dNotV, dPar, dAsg, gdName, gdSub, gdTup, gdCons, gdNil, gdSlot, dIsi, dIsi2, dSlot, dSetSlot, dMethSl, dMakeSl, dCall, dCallP, dBM, dFrz, dLstF, dLcF, dLc2F, dDcF, dSlF, dListVF, bListF, bListDF, bSortSF, oAddLF, oRepLF, dSl, dNoP, dPart, dListV, dTru, dOrT, EndsD, startD, oLtI, oLeI, oGtI, oGeI, oIx, oMulI, oPowI, oAddI, oSubI, oModI, oDivI, oI, oI0, oEqD, oNeD, oInD, oNotInD, oAddL, oAddT, oAddS, oRepL, bLen, bAbs, bInt, bMin2, bMax2, bAll, bAny, bTuple, bList, bListD, bSortS, mAppend, mPop, mPopAt, mExtend, mIndex, tupOf_lst, tupOf_ref, tupOf_tup, List.map_cons, List.map_nil, List.length_cons, List.length_nil, List.cons_append, List.nil_append, List.append_nil, List.replicate, List.set_cons_zero, List.set_cons_succ, List.getElem?_cons_zero, List.getElem?_cons_succ, Option.some.injEq, exists_eq_left', exists_eq_left, exists_and_left, D.int.injEq, D.bl.injEq, D.str.injEq, D.tup.injEq, D.lst.injEq, D.ref.injEq, List.cons.injEq, and_true, true_and, reduceCtorEq, false_and, and_false, exists_false, or_false, false_or, exists_const, Bool.false_eq_true, if_true, if_false, decide_eq_true_eq, Ob.lst.injEq, Ob.slt.injEq, Ob.dic.injEq, seqD_ref, lstD_ref, seqD_tup, seqD_lst, lstD_lst, lstR_lst, Sto.set_same, Sto.set_set, atI_0, atI_1, atI_2, Nat.reduceAdd, ixN_30, ixN_32]
    exact drp_of q
  | non =>
    have e : g = .non := h
    subst e
    have t2 : tyD S .non = some "NoneType" := rfl
    have pn : pyR S .non = some .none := rfl
    have ee : PyData.eqv .none .none = true := rfl
    have k1 : isK "NoneType" "list" = false := by decide
    have k2 : isK "NoneType" "tuple" = false := by decide
    have k3 : isK "NoneType" "dict" = false := by decide
    have k4 : isK "NoneType" "bool" = false := by decide
    simp only [d__law_same, N__law_same, t2, k1, k2, k3, k4, oIsN, pn, ee, shp_non, pyR_bl, pyR_int, pyR_str, shp_bl, shp_int, eqv_bl, eqv_int, Bool.or_false, Bool.false_or, Bool.true_or, Bool.or_true, beq_self_eq_true, decide_true, Bool.not_true, Bool.not_false, true_or, dWkA, dTupK, dTupL, dTupIx, dDictP, dDc2, dFor, dWhile, dLc, dLc2, dDc, dNextG, iSeq, iR1, iR2, iEn, iZpA, iZ2, iZ3, dSortK, dSortKF, dSortSet, dSortSetF, dBreak, bSortT, bSortTF, bSum, bSumL, bSumLF, bMaxL, bMinL, dDicE, bSortD, bSortDF, dGet2, oInA, oNotInA, oIxA, gdSubA, dSeq, dSet, dIf, dIfS, dTst, dOp, dUn, dVar, dCB, aCons, aNil, aStar, dRet, dRetN, dNext, dDrop, dLst, dTup, dC, dAnd, dOr, dNot, dAndV, dOrV, dNotV, dPar, dAsg, gdName, gdSub, gdTup, gdCons, gdNil, gdSlot, dIsi, dIsi2, dSlot, dSetSlot, dMethSl, dMakeSl, dCall, dCallP, dBM, dFrz, dLstF, dLcF, dLc2F, dDcF, dSlF, dListVF, bListF, bListDF, bSortSF, oAddLF, oRepLF, dSl, dNoP, dPart, dListV, dTru, dOrT, EndsD, startD, oLtI, oLeI, oGtI, oGeI, oIx, oMulI, oPowI, oAddI, oSubI, oModI, oDivI, oI, oI0, oEqD, oNeD, oInD, oNotInD, oAddL, oAddT, oAddS, oRepL, bLen, bAbs, bInt, bMin2, bMax2, bAll, bAny, bTuple, bList, bListD, bSortS, mAppend, mPop, mPopAt, mExtend, mIndex, tupOf_lst, tupOf_ref, tupOf_tup, List.map_cons, List.map_nil, List.length_cons, List.length_nil, List.cons_append, List.nil_append, List.append_nil, List.replicate, List.set_cons_zero, List.set_cons_succ, List.getElem?_cons_zero, List.getElem?_cons_succ, Option.some.injEq, exists_eq_left', exists_eq_left, exists_and_left, D.int.injEq, D.bl.injEq, D.str.injEq, D.tup.injEq, D.lst.injEq, D.ref.injEq, List.cons.injEq, and_true, true_and, reduceCtorEq, false_and, and_false, exists_false, or_false, false_or, exists_const, Bool.false_eq_true, if_true, if_false, decide_eq_true_eq, Ob.lst.injEq, Ob.slt.injEq, Ob.dic.injEq, seqD_ref, lstD_ref, seqD_tup, seqD_lst, lstD_lst, lstR_lst, Sto.set_same, Sto.set_set, atI_0, atI_1, atI_2, Nat.reduceAdd, ixN_30, ixN_32]
    exact .inl (.inl (.inl (drp_of q)))
  | ref l =>
    obtain ⟨ds, hl, hz, gs, h1, h2, h3, h4⟩ := h
    have t2 : tyD S (.ref l) = some "list" := by show (match S l with | some (.lst _) => some "list" | some (.dic _ _) => some "dict" | _ => none) = _; rw [hl]
    have l2 : lstD S (.ref l) = some ds := by rw [lstD_ref, hl]
    simp only [d__law_same, N__law_same, h2, t2, kll, klt, pyR_bl, pyR_int, shp_bl, shp_int, eqv_bl, eqv_int, Bool.or_false, beq_self_eq_true, Bool.not_true, seq_lst h1, h1, seq_lst l2, hl, l2, h3, dWkA, dTupK, dTupL, dTupIx, dDictP, dDc2, dFor, dWhile, dLc, dLc2, dDc, dNextG, iSeq, iR1, iR2, iEn, iZpA, iZ2, iZ3, dSortK, dSortKF, dSortSet, dSortSetF, dBreak, bSortT, bSortTF, bSum, bSumL, bSumLF, bMaxL, bMinL, dDicE, bSortD, bSortDF, dGet2, oInA, oNotInA, oIxA, gdSubA, dSeq, dSet, dIf, dIfS, dTst, dOp, dUn, dVar, dCB, aCons, aNil, aStar, dRet, dRetN, dNext, dDrop, dLst, dTup, dC, dAnd, dOr, dNot, dAndV, dOrV, dNotV, dPar, dAsg, gdName, gdSub, gdTup, gdCons, gdNil, gdSlot, dIsi, dIsi2, dSlot, dSetSlot, dMethSl, dMakeSl, dCall, dCallP, dBM, dFrz, dLstF, dLcF, dLc2F, dDcF, dSlF, dListVF, bListF, bListDF, bSortSF, oAddLF, oRepLF, dSl, dNoP, dPart, dListV, dTru, dOrT, EndsD, startD, oLtI, oLeI, oGtI, oGeI, oIx, oMulI, oPowI, oAddI, oSubI, oModI, oDivI, oI, oI0, oEqD, oNeD, oInD, oNotInD, oAddL, oAddT, oAddS, oRepL, bLen, bAbs, bInt, bMin2, bMax2, bAll, bAny, bTuple, bList, bListD, bSortS, mAppend, mPop, mPopAt, mExtend, mIndex, tupOf_lst, tupOf_ref, tupOf_tup, List.map_cons, List.map_nil, List.length_cons, List.length_nil, List.cons_append, List.nil_append, List.append_nil, List.replicate, List.set_cons_zero, List.set_cons_succ, List.getElem?_cons_zero, List.getElem?_cons_succ, Option.some.injEq, exists_eq_left', exists_eq_left, exists_and_left, D.int.injEq, D.bl.injEq, D.str.injEq, D.tup.injEq, D.lst.injEq, D.ref.injEq, List.cons.injEq, and_true, true_and, reduceCtorEq, false_and, and_false, exists_false, or_false, false_or, exists_const, Bool.false_eq_true, if_true, if_false, decide_eq_true_eq, Ob.lst.injEq, Ob.slt.injEq, Ob.dic.injEq, seqD_ref, lstD_ref, seqD_tup, seqD_lst, lstD_lst, lstR_lst, Sto.set_same, Sto.set_set, atI_0, atI_1, atI_2, Nat.reduceAdd, ixN_30, ixN_32]
    exact .inl ⟨g, .ref l, ⟨rfl, rfl⟩, gs, ds, .inl ⟨h1, l2⟩, same_turns (ρ := []) _ _ (gs_app (gs_of h1) (gs_ref hl)) hz h4 q⟩
  | kl _ => exact h.elim
  | kt _ => exact h.elim
  | dic _ _ => exact h.elim
  | raw _ => exact h.elim
end LK
end
section
set_option Elab.async false
set_option linter.all false
set_option maxRecDepth 100000
set_option maxHeartbeats 400000
namespace LK
open PySem PySem.Spec PyProof.Rows L2 L3
theorem ixN_in {n : Nat} {i : Int} (h0 : 0 ≤ i) (h1 : i < n) : ixN n i = some i.toNat := by
  unfold ixN
  rw [if_pos h0, if_pos h1]
theorem atI_in {α : Type} {xs : List α} {i : Int} (h0 : 0 ≤ i) (h1 : i < xs.length) : ∃ h : i.toNat < xs.length, atI xs i = some xs[i.toNat] := by
  have h : i.toNat < xs.length := by omega
  refine ⟨h, ?_⟩
  unfold atI
  rw [ixN_in h0 h1]
  show xs[i.toNat]? = _
  exact List.getElem?_eq_getElem h
theorem cutD_map {α β : Type} (f : α → β) (xs : List α) (lo hi : Option Int) : L3.cutD (xs.map f) lo hi = (L3.cutD xs lo hi).map f := by
  unfold L3.cutD
  rw [List.length_map, List.map_take, List.map_drop]
abbrev bodyC : DS := dSeq (dSet 5 (dOp oModI (dCB bInt (aCons (dVar 3) (aNil))) (dVar 1)))
    (dAsg (dOp oAddI (dOp oIx (dVar 2) (dVar 5)) (dOp oMulI (dVar 4) (dOp oAddI (dVar 3) (dC (.int 2))))) (gdSub (dVar 2) (dVar 5)))
theorem cells_go (m : Nat) (hm0 : 1 ≤ m) (S0 : Sto) (l : Nat) (h0 : S0 l = none) (G : Gs) (E : DEnds) (x0 : Option D) : ∀ (xs : List D) (cs : List Int) (S : Sto) (x3 x4 x5 : Option D), (∀ d ∈ xs, ∃ (i : Nat) (j : Int), i < 1000 ∧ d = .tup [.int i, .int j]) → (xs = [] ∨ cs.length = m) → cs.length ≤ m → S l = some (.lst (cs.map .int)) →
    (∀ n o, n ≠ l → S0 n = some o → S n = some o) → (∀ S' : Sto, (∀ n o, n ≠ l → S0 n = some o → S' n = some o) → S' l ≠ none → G.ok S') → (∀ cs' S' b3 b4 b5, cs'.length ≤ m → (S0.set l (.lst (List.map D.int cs'))).sub S' → E.nx [x0, some (.int m), some (.ref l), b3, b4, b5] S') →
    forW G (.many [3, 4]) bodyC E xs [x0, some (.int m), some (.ref l), x3, x4, x5] S
  | [], cs, S, x3, x4, x5, hx, h3, h4, hl, hk, ok, q => ⟨ok S hk (by rw [hl]; simp), q cs S x3 x4 x5 h4 (fun n o hm => by
      unfold Sto.set at hm
      by_cases e : n = l
      · rw [if_pos e] at hm; rw [e, hl]; exact hm
      · rw [if_neg e] at hm; exact hk n o e hm)⟩
  | d :: ds, cs, S, x3, x4, x5, hx, h3, h4, hl, hk, ok, q => by
    obtain ⟨i, j, hi, rfl⟩ := hx d List.mem_cons_self
    have h3 : cs.length = m := h3.resolve_left (by simp)
    refine ⟨ok S hk (by rw [hl]; simp), ?_⟩
    simp only [Tg.d, bodyC, setsE, dWkA, dTupK, dTupL, dTupIx, dDictP, dDc2, dFor, dWhile, dLc, dLc2, dDc, dNextG, iSeq, iR1, iR2, iEn, iZpA, iZ2, iZ3, dSortK, dSortKF, dSortSet, dSortSetF, dBreak, bSortT, bSortTF, bSum, bSumL, bSumLF, bMaxL, bMinL, dDicE, bSortD, bSortDF, dGet2, oInA, oNotInA, oIxA, gdSubA, dSeq, dSet, dIf, dIfS, dTst, dOp, dUn, dVar, dCB, aCons, aNil, aStar, dRet, dRetN, dNext, dDrop, dLst, dTup, dC, dAnd, dOr, dNot, dAndV, dOrV, dNotV, dPar, dAsg, gdName, gdSub, gdTup, gdCons, gdNil, gdSlot, dIsi, dIsi2, dSlot, dSetSlot, dMethSl, dMakeSl, dCall, dCallP, dBM, dFrz, dLstF, dLcF, dLc2F, dDcF, dSlF, dListVF, bListF, bListDF, bSortSF, oAddLF, oRepLF, dSl, dNoP, dPart, dListV, dTru, dOrT, EndsD, startD, oLtI, oLeI, oGtI, oGeI, oIx, oMulI, oPowI, oAddI, oSubI, oModI, oDivI, oI, oI0, oEqD, oNeD, oInD, oNotInD, oAddL, oAddT, oAddS, oRepL, bLen, bAbs, bInt, bMin2, bMax2, bAll, bAny, bTuple, bList, bListD, bSortS, mAppend, mPop, mPopAt, mExtend, mIndex, tupOf_lst, tupOf_ref, tupOf_tup, List.map_cons, List.map_nil, List.length_cons, List.length_nil, List.cons_append, List.nil_append, List.append_nil, List.replicate, List.set_cons_zero, List.set_cons_succ, List.getElem?_cons_zero, List.getElem?_cons_succ, Option.some.injEq, exists_eq_left', exists_eq_left, exists_and_left, D.int.injEq, D.bl.injEq, D.str.injEq, D.tup.injEq, D.lst.injEq, D.ref.injEq, List.cons.injEq, and_true, true_and, reduceCtorEq, false_and, and_false, exists_false, or_false, false_or, exists_const, Bool.false_eq_true, if_true, if_false, decide_eq_true_eq, Ob.lst.injEq, Ob.slt.injEq, Ob.dic.injEq, seqD_ref, lstD_ref, seqD_tup, seqD_lst, lstD_lst, lstR_lst, Sto.set_same, Sto.set_set, atI_0, atI_1, atI_2, Nat.reduceAdd, ixN_30, ixN_32]
    have e0 : (0 : Int) ≤ (i : Int) % m := Int.emod_nonneg _ (by omega)
    have e1 : (i : Int) % m < cs.length := by rw [h3]; exact Int.emod_lt_of_pos _ (by omega)
    have hj : ((i : Int) % m).toNat < cs.length := by omega
    have e1' : (i : Int) % m < (cs.map D.int).length := by rw [List.length_map]; exact e1
    obtain ⟨hj', ea⟩ := atI_in (xs := cs.map D.int) e0 e1'
    rw [List.getElem_map] at ea
    refine ⟨by omega, cs.map .int, by rw [hl], _, ea, .inr (by omega), _, rfl, cs.map .int, hl, _, ixN_in e0 e1', _, Wk.refl _, _, Sto.sub_refl _, ?_⟩
    rw [← List.map_set]
    refine cells_go m hm0 S0 l h0 G E x0 ds _ _ _ _ _ (fun d hd => hx d (List.mem_cons_of_mem _ hd)) (.inr (by rw [List.length_set]; exact h3)) (by rw [List.length_set]; exact h4) Sto.set_same (fun n o hm h => by rw [Sto.set_ne hm]; exact hk n o hm h) ok q
theorem cells_fin {m : Nat} (hm0 : 1 ≤ m) (hm3 : m ≤ 3) {S S1 : Sto} {Q : DK} {l m1 : Nat} {v : D} {cs ns : List Int} (hS : S l = none) (h1 : ∀ n o, S n = some o → S1 n = some o) (hl : S1 l = some (.lst (cs.map .int))) (hm1 : S1 m1 = none) (h3 : L3.cutD ns (some (m : Int)) (some 63) = [] ∨ cs.length = m) (h4 : cs.length ≤ m) (hn : ns.length ≤ 63)
    (q : ∀ (cs : List Int) (l : Nat), cs.length ≤ 3 → S l = none → Q (D.ref l) (S.set l (Ob.lst (List.map D.int cs)))) :
    forW (gsOf (.ref m1) (.lst (L3.cutD (ns.map .int) (some (m : Int)) (some 63)))) (.many [3, 4]) bodyC { nx := fun ρ' S' => ∃ v, ρ'[2]? = some (some v) ∧ drp (Q v) S', rt := fun v S => drp (Q v) S }
      (List.map (fun p => D.tup [D.int ↑p.fst, p.snd]) ((List.range (L3.cutD (ns.map D.int) (some (m : Int)) (some 63)).length).zip (L3.cutD (ns.map D.int) (some (m : Int)) (some 63)))) [some v, some (.int m), some (.ref l), none, none, none] (S1.set m1 (.lst (L3.cutD (ns.map .int) (some (m : Int)) (some 63)))) := by
  have hml : m1 ≠ l := fun e => by rw [e, hl] at hm1; cases hm1
  have hlm : l ≠ m1 := fun e => hml e.symm
  refine cells_go m hm0 ((S1.del l).set m1 (.lst (L3.cutD (ns.map .int) (some (m : Int)) (some 63)))) l (by rw [Sto.set_ne hlm, Sto.del_same]) _ _ _ _ cs _ _ _ _ (fun d hd => ?_) ?_ h4 (by rw [Sto.set_ne hlm, hl]) ?_ (fun S' hk _ => ?_) ?_
  · obtain ⟨⟨i, x⟩, hp, rfl⟩ := List.mem_map.mp hd
    obtain ⟨p1, p2⟩ := List.of_mem_zip hp
    rw [cutD_map] at p2
    obtain ⟨j, _, rfl⟩ := List.mem_map.mp p2
    have p1 := List.mem_range.mp p1
    have := L3.cutD_len (ns.map D.int) (some (m : Int)) (some 63)
    rw [List.length_map] at this
    exact ⟨i, j, by omega, rfl⟩
  · rcases h3 with h3 | h3
    · left
      rw [cutD_map, h3]
      rfl
    · exact .inr h3
  · intro n o hm h
    by_cases e : n = m1
    · subst e
      rw [Sto.set_same] at h ⊢
      exact h
    · rw [Sto.set_ne e] at h ⊢
      rw [Sto.del_ne hm] at h
      exact h
  · exact gs_ref (hk m1 _ hml Sto.set_same)
  · intro cs' S' b3 b4 b5 z s
    refine ⟨.ref l, rfl, _, Sto.sub_trans (set_mono fun n o h => ?_) s, q cs' l (by omega) hS⟩
    have e1 : n ≠ l := fun e => by rw [e, hS] at h; cases h
    have e2 : n ≠ m1 := fun e => by have := h1 _ _ h; rw [e, hm1] at this; cases this
    rw [Sto.set_ne e2, Sto.del_ne e1]
    exact h1 _ _ h
theorem cut3_len (m : Nat) (ns : List Int) : (L3.cutD ns none (some (m : Int))).length = min m ns.length := by
  unfold L3.cutD
  have e : HT.sIx ns.length ns.length (some (m : Int)) = min m ns.length := HT.sIx_nat ns.length ns.length m
  rw [e, HT.sIx_none, List.length_take, List.length_drop]
  omega
theorem cut363 (m : Nat) (ns : List Int) (h : ns.length ≤ m) : L3.cutD ns (some (m : Int)) (some 63) = [] := by
  unfold L3.cutD
  have e : HT.sIx ns.length 0 (some (m : Int)) = min m ns.length := HT.sIx_nat ns.length 0 m
  rw [e, List.drop_of_length_le (by omega), List.take_nil]
theorem v__law_cells : ∀ ds S Q E, sp__law_cells ds S Q E → d__law_cells (EndsD Q) (startD N__law_cells ds) S := by
  rintro ds S Q E ⟨v, ns, m0, rfl, hm0, hm3, hv, hn, q⟩
  simp only [d__law_cells, N__law_cells, hv, dWkA, dTupK, dTupL, dTupIx, dDictP, dDc2, dFor, dWhile, dLc, dLc2, dDc, dNextG, iSeq, iR1, iR2, iEn, iZpA, iZ2, iZ3, dSortK, dSortKF, dSortSet, dSortSetF, dBreak, bSortT, bSortTF, bSum, bSumL, bSumLF, bMaxL, bMinL, dDicE, bSortD, bSortDF, dGet2, oInA, oNotInA, oIxA, gdSubA, dSeq, dSet, dIf, dIfS, dTst, dOp, dUn, dVar, dCB, aCons, aNil, aStar, dRet, dRetN, dNext, dDrop, dLst, dTup, dC, dAnd, dOr, dNot, dAndV, dOrV, dNotV, dPar, dAsg, gdName, gdSub, gdTup, gdCons, gdNil, gdSlot, dIsi, dIsi2, dSlot, dSetSlot, dMethSl, dMakeSl, dCall, dCallP, dBM, dFrz, dLstF, dLcF, dLc2F, dDcF, dSlF, dListVF, bListF, bListDF, bSortSF, oAddLF, oRepLF, dSl, dNoP, dPart, dListV, dTru, dOrT, EndsD, startD, oLtI, oLeI, oGtI, oGeI, oIx, oMulI, oPowI, oAddI, oSubI, oModI, oDivI, oI, oI0, oEqD, oNeD, oInD, oNotInD, oAddL, oAddT, oAddS, oRepL, bLen, bAbs, bInt, bMin2, bMax2, bAll, bAny, bTuple, bList, bListD, bSortS, mAppend, mPop, mPopAt, mExtend, mIndex, tupOf_lst, tupOf_ref, tupOf_tup, List.map_cons, List.map_nil, List.length_cons, List.length_nil, List.cons_append, List.nil_append, List.append_nil, List.replicate, List.set_cons_zero, List.set_cons_succ, List.getElem?_cons_zero, List.getElem?_cons_succ, Option.some.injEq, exists_eq_left', exists_eq_left, exists_and_left, D.int.injEq, D.bl.injEq, D.str.injEq, D.tup.injEq, D.lst.injEq, D.ref.injEq, List.cons.injEq, and_true, true_and, reduceCtorEq, false_and, and_false, exists_false, or_false, false_or, exists_const, Bool.false_eq_true, if_true, if_false, decide_eq_true_eq, Ob.lst.injEq, Ob.slt.injEq, Ob.dic.injEq, seqD_ref, lstD_ref, seqD_tup, seqD_lst, lstD_lst, lstR_lst, Sto.set_same, Sto.set_set, atI_0, atI_1, atI_2, Nat.reduceAdd, ixN_30, ixN_32]
  refine .inl fun m hm l hl => ?_
  rw [cutD_map]
  have hlm : l ≠ m := fun e => by rw [e, Sto.set_same] at hl; cases hl
  have hSl : S l = none := by rw [Sto.set_ne hlm] at hl; exact hl
  have s2 : ∀ o, S.sub ((S.set m o).set l o) := fun o => Sto.sub_trans (Sto.sub_set hm) (Sto.sub_set (by rw [Sto.set_ne hlm]; exact hSl))
  refine ⟨!((L3.cutD ns none (some (m0 : Int))).map D.int).isEmpty, .inl ⟨_, by rw [seqD_ref, Sto.set_same], rfl⟩, ?_⟩
  by_cases hb : ns.length = 0
  · have e : ns = [] := List.length_eq_zero_iff.mp hb
    subst e
    have e0 : L3.cutD ([] : List Int) none (some (m0 : Int)) = [] := List.length_eq_zero_iff.mp (Nat.le_zero.mp (L3.cutD_len _ _ _))
    rw [e0, if_neg (by decide)]
    refine ⟨small_sz (by decide), fun a ha => .inl ⟨_, lstD_mono hv (Sto.sub_trans (s2 _) (Sto.sub_set ha)), fun m1 hm1 => ?_⟩⟩
    have hSa : S a = none := none_of_sub (s2 _) ha
    exact cells_fin hm0 hm3 (cs := [0]) hSa (fun k o h => Sto.sub_set ha _ _ (s2 _ _ _ h)) Sto.set_same hm1 (.inl (cut363 m0 [] (by simp))) (by simpa using hm0) hn q
  · have e3 := cut3_len m0 ns
    have e4 : ((L3.cutD ns none (some (m0 : Int))).map D.int).isEmpty = false := by
      cases e : L3.cutD ns none (some (m0 : Int)) with
      | nil => rw [e] at e3; simp at e3; omega
      | cons _ _ => rfl
    rw [e4, if_pos (show (!false) = true from rfl)]
    refine .inl ⟨_, lstD_mono hv (s2 _), fun m1 hm1 => ?_⟩
    refine cells_fin hm0 hm3 (cs := L3.cutD ns none (some (m0 : Int))) hSl (fun k o h => s2 _ _ _ h) Sto.set_same hm1 ?_ (by omega) hn q
    by_cases h : ns.length ≤ m0
    · exact .inl (cut363 m0 ns h)
    · right; omega
theorem ers_perm {α : Type} : ∀ (xs : List α) (i : Nat) (h : i < xs.length), (xs[i] :: xs.eraseIdx i).Perm xs
  | [], _, h => by cases h
  | x :: xs, 0, _ => .refl _
  | x :: xs, i + 1, h => by
    have ih := ers_perm xs i (by simpa using h)
    exact (List.Perm.swap x _ _).trans (ih.cons x)
abbrev bodyP : DS := dDrop (dBM "list" mAppend (dVar 5) (aCons (dBM "list" mPopAt (dVar 4) (aCons (dCall (sp__law_take) noX (aCons (dVar 0) (aCons (dCB bLen (aCons (dVar 4) (aNil))) (aNil)))) (aNil))) (aNil)))
theorem pick_go (S0 : Sto) (l a b : Nat) (es : List D) (ha : S0 a = none) (hb : S0 b = none) (hab : a ≠ b) (hla : l ≠ a) (hlb : l ≠ b) (E : DEnds) (x1 x2 : Option D) : ∀ (xs ps rest : List D) (S : Sto) (c : Int) (x3 : Option D), xs.length ≤ rest.length → rest.length ≤ 1000 → ps.length + rest.length ≤ 1000 → (ps ++ rest).Perm es → S a = some (.lst rest) → S b = some (.lst ps) → Bx S l c → c + xs.length ≤ 2 ^ 40 →
    (∀ m o, m ≠ l → S0 m = some o → S m = some o) →
    (∀ (ps' rest' : List D) (o : Ob) (S' : Sto) (b3 : Option D), (ps' ++ rest').Perm es → ps'.length = ps.length + xs.length → BxO o (c + xs.length) → ((S0.set l o).set b (.lst ps')).sub S' → E.nx [some (.ref l), x1, x2, b3, some (.ref a), some (.ref b)] S') →
    forW [] (.one 3) bodyP E xs [some (.ref l), x1, x2, x3, some (.ref a), some (.ref b)] S
  | [], ps, rest, S, c, x3, h1, h2, h3, hp, hA, hB, hX, hc, hk, q => by
    obtain ⟨o, ho, hO⟩ := hX
    refine ⟨Gs.ok_nil, q ps rest o S x3 hp rfl (by simpa using hO) fun m w hm => ?_⟩
    unfold Sto.set at hm
    by_cases e : m = b
    · rw [if_pos e] at hm; rw [e, hB]; exact hm
    · rw [if_neg e] at hm
      by_cases e2 : m = l
      · rw [if_pos e2] at hm; rw [e2, ho]; exact hm
      · rw [if_neg e2] at hm; exact hk m w e2 hm
  | d :: ds, ps, rest, S, c, x3, h1, h2, h3, hp, hA, hB, hX, hc, hk, q => by
    refine ⟨Gs.ok_nil, ?_⟩
    simp only [Tg.d, bodyP, sp__law_take, dWkA, dTupK, dTupL, dTupIx, dDictP, dDc2, dFor, dWhile, dLc, dLc2, dDc, dNextG, iSeq, iR1, iR2, iEn, iZpA, iZ2, iZ3, dSortK, dSortKF, dSortSet, dSortSetF, dBreak, bSortT, bSortTF, bSum, bSumL, bSumLF, bMaxL, bMinL, dDicE, bSortD, bSortDF, dGet2, oInA, oNotInA, oIxA, gdSubA, dSeq, dSet, dIf, dIfS, dTst, dOp, dUn, dVar, dCB, aCons, aNil, aStar, dRet, dRetN, dNext, dDrop, dLst, dTup, dC, dAnd, dOr, dNot, dAndV, dOrV, dNotV, dPar, dAsg, gdName, gdSub, gdTup, gdCons, gdNil, gdSlot, dIsi, dIsi2, dSlot, dSetSlot, dMethSl, dMakeSl, dCall, dCallP, dBM, dFrz, dLstF, dLcF, dLc2F, dDcF, dSlF, dListVF, bListF, bListDF, bSortSF, oAddLF, oRepLF, dSl, dNoP, dPart, dListV, dTru, dOrT, EndsD, startD, oLtI, oLeI, oGtI, oGeI, oIx, oMulI, oPowI, oAddI, oSubI, oModI, oDivI, oI, oI0, oEqD, oNeD, oInD, oNotInD, oAddL, oAddT, oAddS, oRepL, bLen, bAbs, bInt, bMin2, bMax2, bAll, bAny, bTuple, bList, bListD, bSortS, mAppend, mPop, mPopAt, mExtend, mIndex, tupOf_lst, tupOf_ref, tupOf_tup, List.map_cons, List.map_nil, List.length_cons, List.length_nil, List.cons_append, List.nil_append, List.append_nil, List.replicate, List.set_cons_zero, List.set_cons_succ, List.getElem?_cons_zero, List.getElem?_cons_succ, Option.some.injEq, exists_eq_left', exists_eq_left, exists_and_left, D.int.injEq, D.bl.injEq, D.str.injEq, D.tup.injEq, D.lst.injEq, D.ref.injEq, List.cons.injEq, and_true, true_and, reduceCtorEq, false_and, and_false, exists_false, or_false, false_or, exists_const, Bool.false_eq_true, if_true, if_false, decide_eq_true_eq, Ob.lst.injEq, Ob.slt.injEq, Ob.dic.injEq, seqD_ref, lstD_ref, seqD_tup, seqD_lst, lstD_lst, lstR_lst, Sto.set_same, Sto.set_set, atI_0, atI_1, atI_2, Nat.reduceAdd, ixN_30, ixN_32]
    rw [List.length_cons] at h1
    rw [List.length_cons] at hc
    rw [List.length_cons] at q
    refine ⟨.inl ⟨rfl, ps, by rw [lstD_ref, hB]⟩, .inl ⟨rfl, rest, by rw [lstD_ref, hA]⟩, rest, by rw [hA], l, rest.length, ⟨rfl, rfl⟩, by omega, by omega, c, hX, by omega, fun r o hr0 hr1 hO => ?_⟩
    have hr : r.toNat < rest.length := by omega
    have hal : a ≠ l := fun e => hla e.symm
    have hbl : b ≠ l := fun e => hlb e.symm
    have hba : b ≠ a := fun e => hab e.symm
    refine ⟨rest, by rw [Sto.set_ne hal, hA], r.toNat, ixN_in hr0 hr1, rest[r.toNat], List.getElem?_eq_getElem hr, ps, by rw [Sto.set_ne hba, Sto.set_ne hbl, hB], small_sz (by omega), _, Wk.refl _, _, Sto.sub_refl _, ?_⟩
    refine pick_go S0 l a b es ha hb hab hla hlb E x1 x2 ds (ps ++ [rest[r.toNat]]) (rest.eraseIdx r.toNat) _ (c + 1) (some d) ?_ ?_ ?_ ?_ ?_ Sto.set_same ?_ (by omega) ?_ ?_
    · rw [List.length_eraseIdx_of_lt hr]; omega
    · rw [List.length_eraseIdx_of_lt hr]; omega
    · rw [List.length_eraseIdx_of_lt hr, List.length_append, List.length_singleton]; omega
    · rw [List.append_assoc]
      exact ((ers_perm rest _ hr).append_left ps).trans hp
    · rw [Sto.set_ne hab, Sto.set_same]
    · exact ⟨o, by rw [Sto.set_ne hlb, Sto.set_ne hla, Sto.set_same], hO⟩
    · intro m w hm h
      have m1 : m ≠ a := fun e => by rw [e, ha] at h; cases h
      have m2 : m ≠ b := fun e => by rw [e, hb] at h; cases h
      rw [Sto.set_ne m2, Sto.set_ne m1, Sto.set_ne hm]
      exact hk m w hm h
    · intro ps' rest' o' S' b3 p1 p2 p3 p4
      exact q ps' rest' o' S' b3 p1 (by rw [p2, List.length_append, List.length_singleton]; omega) (by have e : c + 1 + (ds.length : Int) = c + ((ds.length + 1 : Nat) : Int) := by omega
                                                                                                       rw [← e]; exact p3) p4
theorem v__law_pick : ∀ ds S Q E, sp__law_pick ds S Q E → d__law_pick (EndsD Q) (startD N__law_pick ds) S := by
  rintro ds S Q E ⟨l, v, es, m, c, rfl, hv, hl, h0, h1, hB, hc, q⟩
  simp only [d__law_pick, N__law_pick, hv, dWkA, dTupK, dTupL, dTupIx, dDictP, dDc2, dFor, dWhile, dLc, dLc2, dDc, dNextG, iSeq, iR1, iR2, iEn, iZpA, iZ2, iZ3, dSortK, dSortKF, dSortSet, dSortSetF, dBreak, bSortT, bSortTF, bSum, bSumL, bSumLF, bMaxL, bMinL, dDicE, bSortD, bSortDF, dGet2, oInA, oNotInA, oIxA, gdSubA, dSeq, dSet, dIf, dIfS, dTst, dOp, dUn, dVar, dCB, aCons, aNil, aStar, dRet, dRetN, dNext, dDrop, dLst, dTup, dC, dAnd, dOr, dNot, dAndV, dOrV, dNotV, dPar, dAsg, gdName, gdSub, gdTup, gdCons, gdNil, gdSlot, dIsi, dIsi2, dSlot, dSetSlot, dMethSl, dMakeSl, dCall, dCallP, dBM, dFrz, dLstF, dLcF, dLc2F, dDcF, dSlF, dListVF, bListF, bListDF, bSortSF, oAddLF, oRepLF, dSl, dNoP, dPart, dListV, dTru, dOrT, EndsD, startD, oLtI, oLeI, oGtI, oGeI, oIx, oMulI, oPowI, oAddI, oSubI, oModI, oDivI, oI, oI0, oEqD, oNeD, oInD, oNotInD, oAddL, oAddT, oAddS, oRepL, bLen, bAbs, bInt, bMin2, bMax2, bAll, bAny, bTuple, bList, bListD, bSortS, mAppend, mPop, mPopAt, mExtend, mIndex, tupOf_lst, tupOf_ref, tupOf_tup, List.map_cons, List.map_nil, List.length_cons, List.length_nil, List.cons_append, List.nil_append, List.append_nil, List.replicate, List.set_cons_zero, List.set_cons_succ, List.getElem?_cons_zero, List.getElem?_cons_succ, Option.some.injEq, exists_eq_left', exists_eq_left, exists_and_left, D.int.injEq, D.bl.injEq, D.str.injEq, D.tup.injEq, D.lst.injEq, D.ref.injEq, List.cons.injEq, and_true, true_and, reduceCtorEq, false_and, and_false, exists_false, or_false, false_or, exists_const, Bool.false_eq_true, if_true, if_false, decide_eq_true_eq, Ob.lst.injEq, Ob.slt.injEq, Ob.dic.injEq, seqD_ref, lstD_ref, seqD_tup, seqD_lst, lstD_lst, lstR_lst, Sto.set_same, Sto.set_set, atI_0, atI_1, atI_2, Nat.reduceAdd, ixN_30, ixN_32]
  intro a ha
  refine ⟨Nat.zero_le _, fun b hb => ?_⟩
  obtain ⟨o0, ho0, hO0⟩ := hB
  have hba : b ≠ a := fun e => by rw [e, Sto.set_same] at hb; cases hb
  have hab : a ≠ b := fun e => hba e.symm
  have hSb : S b = none := by rw [Sto.set_ne hba] at hb; exact hb
  have hla : l ≠ a := fun e => by rw [e, ha] at ho0; cases ho0
  have hlb : l ≠ b := fun e => by rw [e, hSb] at ho0; cases ho0
  refine ⟨_, _, ⟨rfl, rfl⟩, .inl ⟨es, by rw [seqD_ref, Sto.set_ne hab, Sto.set_same], m, es.length, ⟨rfl, rfl⟩, ?_, ?_⟩⟩
  · split <;> omega
  · have hk : (if (es.length : Int) < m then (es.length : Int) else m).toNat = min m.toNat es.length := by split <;> omega
    refine pick_go S l a b es ha hSb hab hla hlb _ _ _ _ [] es _ c _ ?_ hl (by simpa using hl) (List.Perm.refl _) ?_ Sto.set_same ?_ ?_ ?_ ?_
    · rw [List.length_map, List.length_range]; omega
    · rw [Sto.set_ne hab, Sto.set_same]
    · exact ⟨o0, by rw [Sto.set_ne hlb, Sto.set_ne hla]; exact ho0, hO0⟩
    · rw [List.length_map, List.length_range]; omega
    · intro k o hk h
      have e1 : k ≠ a := fun e => by rw [e, ha] at h; cases h
      have e2 : k ≠ b := fun e => by rw [e, hSb] at h; cases h
      rw [Sto.set_ne e2, Sto.set_ne e1]; exact h
    · intro ps' rest' o S' b3 p1 p2 p3 p4
      rw [List.length_map, List.length_range, hk] at p2 p3
      exact ⟨.ref b, rfl, _, p4, q ps' rest' o b p1 (by simpa using p2) (p3.mono (by omega)) hSb (fun e => hlb e.symm)⟩
end LK
end
section
set_option Elab.async false
set_option linter.all false
set_option maxRecDepth 100000
set_option maxHeartbeats 400000
namespace LK
open PySem PySem.Spec PyProof.Rows L2 L3
theorem perm_back {α : Type} (f : α → D) (g : D → α) (hg : ∀ a, g (f a) = a) {ps rest : List D} {xs : List α} (h : (ps ++ rest).Perm (xs.map f)) : ∃ ys zs : List α, ps = ys.map f ∧ (ys ++ zs).Perm xs := by
  have key : ∀ d ∈ ps, f (g d) = d := fun d hd => by
    have := (h.mem_iff (a := d)).mp (List.mem_append_left _ hd)
    obtain ⟨a, _, rfl⟩ := List.mem_map.mp this
    rw [hg]
  refine ⟨ps.map g, rest.map g, ?_, ?_⟩
  · rw [List.map_map]
    conv => lhs; rw [← List.map_id ps]
    exact List.map_congr_left fun d hd => (key d hd).symm
  · have h2 := h.map g
    rw [List.map_append, List.map_map] at h2
    have e : xs.map (g ∘ f) = xs := by
      conv => rhs; rw [← List.map_id xs]
      exact List.map_congr_left fun a _ => hg a
    rw [e] at h2
    exact h2
def dS : D → Str
  | .str x => x
  | _ => ""
def dH : D → Head
  | .tup (.str x :: .tup ds :: _) => (x, ds.map dS)
  | _ => ("", [])
theorem dS_str (x : Str) : dS (.str x) = x := rfl
theorem dH_head (h : Head) : dH (headD h) = h := by
  show (h.1, (h.2.map D.str).map dS) = h
  rw [List.map_map]
  have e : h.2.map (dS ∘ D.str) = h.2 := by
    conv => rhs; rw [← List.map_id h.2]
    exact List.map_congr_left fun a _ => rfl
  rw [e]
abbrev six : List Str := [Str.ofString "a", Str.ofString "dev", Str.ofString "enc", Str.ofString "lang", Str.ofString "q", Str.ofString "zip"]
abbrev five : List Str := [Str.ofString "de", Str.ofString "fr", Str.ofString "m", Str.ofString "x", Str.ofString "y"]
theorem six_nd : six.Nodup := by decide
abbrev bodyH : DS := dSeq (dSet 7 (dCall (sp__law_pick) noX (aCons (dVar 0) (aCons (dFrz (dLst (aCons (dC (.str "de")) (aCons (dC (.str "fr")) (aCons (dC (.str "m")) (aCons (dC (.str "x")) (aCons (dC (.str "y")) (aNil)))))))) (aCons (dOp oAddI (dC (.int 1)) (dCall (sp__law_take) noX (aCons (dVar 0) (aCons (dOp oIx (dVar 1) (dVar 4)) (aNil))))) (aNil))))))
    (dDrop (dBM "list" mAppend (dVar 3) (aCons (dTup (aCons (dOp oIx (dVar 2) (dVar 4)) (aCons (dCB bTuple (aCons (dFrz (dCB bSortS (aCons (dVar 7) (aNil)))) (aNil))) (aNil)))) (aNil))))
theorem six_nm : ∀ x ∈ six, isNm x = true := by decide +kernel
abbrev fve : List Str := Str.ofString "" :: Str.ofString "none" :: five
abbrev four : List Str := [Str.ofString "eng", Str.ofString "fra", Str.ofString "mob", Str.ofString "old"]
theorem five_nm : ∀ x ∈ five, isNm x = true := by decide +kernel
theorem five_nd : five.Nodup := by decide
structure HOk (h : Head) : Prop where
  l3 : h.2.length ≤ 3
  nm : isNm h.1 = true
  vnm : ∀ v ∈ h.2, isNm v = true
  up : h.2.Pairwise slt
  ne : h.2 ≠ []
  n6 : h.1 ∈ six
  v5 : ∀ v ∈ h.2, v ∈ five
theorem HOk.len {h : Head} (k : HOk h) : h.2.length ≤ 5 := by have := k.l3; omega
theorem HOk.so {h : Head} (k : HOk h) : PyData.strOk h.1 = true ∧ ∀ v ∈ h.2, PyData.strOk v = true := ⟨nm_ok k.nm, fun v hv => nm_ok (k.vnm v hv)⟩
theorem heads_go (S0 : Sto) (l a : Nat) (ha : S0 a = none) (hal : a ≠ l) (E : DEnds) (sv : D) (ss : List Int) (hsv : ∀ S, seqD S sv = some (ss.map .int)) (ys : List Str) (hs3 : ∀ s ∈ ss, 1 ≤ s ∧ s ≤ 3) (hy : ∀ y ∈ ys, isNm y = true) (hy6 : ∀ y ∈ ys, y ∈ six) (hsy : ss.length = ys.length) (hs4 : ss.length ≤ 4) (x5 x6 x8 x9 x10 : Option D) :
    ∀ (n k : Nat) (hs : List Head) (o : Ob) (c : Int) (x4 x7 : Option D), k + n = ss.length → hs.length = k → hs.map (·.1) = ys.take k → (∀ h ∈ hs, HOk h) → BxO o c → c + 1001 * n ≤ 2 ^ 39 →
    (∀ (hs' : List Head) (o' : Ob) (b4 b7 : Option D), hs'.map (·.1) = ys → (∀ h ∈ hs', HOk h) → BxO o' (c + 1001 * n) → E.nx [some (.ref l), some sv, some (.lst (ys.map .str)), some (.ref a), b4, x5, x6, b7, x8, x9, x10] ((S0.set l o').set a (.lst (hs'.map headD)))) →
    forW [] (.one 4) bodyH E ((List.range' k n).map fun (i : Nat) => D.int i) [some (.ref l), some sv, some (.lst (ys.map .str)), some (.ref a), x4, x5, x6, x7, x8, x9, x10] ((S0.set l o).set a (.lst (hs.map headD)))
  | 0, k, hs, o, c, x4, x7, h1, h2, h3, h4, h5, h6, q => ⟨Gs.ok_nil, q hs o x4 x7 (by rw [h3, List.take_of_length_le (by omega)]) h4 (by simpa using h5)⟩
  | n + 1, k, hs, o, c, x4, x7, h1, h2, h3, h4, h5, h6, q => by
    rw [List.range'_succ, List.map_cons]
    refine ⟨Gs.ok_nil, ?_⟩
    simp only [Tg.d, bodyH, sp__law_pick, sp__law_take, dWkA, dTupK, dTupL, dTupIx, dDictP, dDc2, dFor, dWhile, dLc, dLc2, dDc, dNextG, iSeq, iR1, iR2, iEn, iZpA, iZ2, iZ3, dSortK, dSortKF, dSortSet, dSortSetF, dBreak, bSortT, bSortTF, bSum, bSumL, bSumLF, bMaxL, bMinL, dDicE, bSortD, bSortDF, dGet2, oInA, oNotInA, oIxA, gdSubA, dSeq, dSet, dIf, dIfS, dTst, dOp, dUn, dVar, dCB, aCons, aNil, aStar, dRet, dRetN, dNext, dDrop, dLst, dTup, dC, dAnd, dOr, dNot, dAndV, dOrV, dNotV, dPar, dAsg, gdName, gdSub, gdTup, gdCons, gdNil, gdSlot, dIsi, dIsi2, dSlot, dSetSlot, dMethSl, dMakeSl, dCall, dCallP, dBM, dFrz, dLstF, dLcF, dLc2F, dDcF, dSlF, dListVF, bListF, bListDF, bSortSF, oAddLF, oRepLF, dSl, dNoP, dPart, dListV, dTru, dOrT, EndsD, startD, oLtI, oLeI, oGtI, oGeI, oIx, oMulI, oPowI, oAddI, oSubI, oModI, oDivI, oI, oI0, oEqD, oNeD, oInD, oNotInD, oAddL, oAddT, oAddS, oRepL, bLen, bAbs, bInt, bMin2, bMax2, bAll, bAny, bTuple, bList, bListD, bSortS, mAppend, mPop, mPopAt, mExtend, mIndex, tupOf_lst, tupOf_ref, tupOf_tup, List.map_cons, List.map_nil, List.length_cons, List.length_nil, List.cons_append, List.nil_append, List.append_nil, List.replicate, List.set_cons_zero, List.set_cons_succ, List.getElem?_cons_zero, List.getElem?_cons_succ, Option.some.injEq, exists_eq_left', exists_eq_left, exists_and_left, D.int.injEq, D.bl.injEq, D.str.injEq, D.tup.injEq, D.lst.injEq, D.ref.injEq, List.cons.injEq, and_true, true_and, reduceCtorEq, false_and, and_false, exists_false, or_false, false_or, exists_const, Bool.false_eq_true, if_true, if_false, decide_eq_true_eq, Ob.lst.injEq, Ob.slt.injEq, Ob.dic.injEq, seqD_ref, lstD_ref, seqD_tup, seqD_lst, lstD_lst, lstR_lst, Sto.set_same, Sto.set_set, atI_0, atI_1, atI_2, Nat.reduceAdd, ixN_30, ixN_32]
    refine ⟨small_sz (by decide), fun f hf => ?_⟩
    rw [Sto.del_set hf]
    have hk : k < ss.length := by omega
    have hk' : k < ys.length := by omega
    have hsk := hs3 ss[k] (List.getElem_mem hk)
    have at1 : atI (ss.map D.int) (k : Int) = some (.int ss[k]) := atI_nat (by rw [List.getElem?_map, List.getElem?_eq_getElem hk]; rfl)
    have at2 : atI (ys.map D.str) (k : Int) = some (.str ys[k]) := atI_nat (by rw [List.getElem?_map, List.getElem?_eq_getElem hk']; rfl)
    have hla : l ≠ a := fun e => hal e.symm
    refine ⟨_, rfl, _, hsv _, _, at1, l, _, ⟨rfl, rfl⟩, by omega, by omega, c, ⟨o, by rw [Sto.set_ne hla, Sto.set_same], h5⟩, by omega, fun r o1 hr0 hr1 hO1 => ?_⟩
    refine ⟨l, _, _, _, ⟨rfl, rfl, rfl⟩, rfl, by simp, by omega, by omega, c + 1, Bx.of hO1, by omega, fun ps rest o2 g hp hpl hO2 hg hgl => ?_⟩
    have hga : g ≠ a := fun e => by rw [e, Sto.set_ne hal, Sto.set_same] at hg; cases hg
    have hag : a ≠ g := fun e => hga e.symm
    obtain ⟨vs, zs, rfl, hvz⟩ := perm_back D.str dS dS_str (xs := five) hp
    have va : ((((S0.set l o).set a (.lst (hs.map headD))).set l o1).set l o2).set g (.lst (vs.map D.str)) a = some (.lst (hs.map headD)) := by
      rw [Sto.set_ne hag, Sto.set_ne hal, Sto.set_ne hal, Sto.set_same]
    rw [Sto.set_set] at va ⊢
    refine ⟨.inl ⟨rfl, _, by rw [lstD_ref, va]⟩, _, at2, ?_⟩
    have hv5 : vs.length ≤ 5 := by
      have := hvz.length_eq
      rw [List.length_append] at this
      have e : five.length = 5 := rfl
      omega
    refine ⟨vs, rfl, by omega, fun us f2 hus hso hf2 => ⟨_, rfl, us.map .str, rfl, small_sz (by decide), hs.map headD, ?_, small_sz (by rw [List.length_map]; omega), _, Wk.refl _, (S0.set l o2).set a (.lst ((hs ++ [(ys[k], us)]).map headD)), ?_, ?_⟩⟩
    · rw [Sto.del_set hf2]; exact va
    · rw [Sto.del_set hf2, List.map_append]
      intro m w hm
      by_cases e : m = a
      · subst e
        rw [Sto.set_same] at hm ⊢
        exact hm
      · rw [Sto.set_ne e] at hm ⊢
        by_cases e2 : m = g
        · subst e2
          rw [Sto.set_ne hgl, Sto.set_ne hga, Sto.set_ne hgl] at hg
          rw [Sto.set_ne hgl, hg] at hm
          cases hm
        · rw [Sto.set_ne e2]
          by_cases e3 : m = l
          · subst e3
            rw [Sto.set_same] at hm ⊢; exact hm
          · rw [Sto.set_ne e3] at hm
            rw [Sto.set_ne e3, Sto.set_ne e, Sto.set_ne e3]; exact hm
    · have hv5' : ∀ v ∈ us, v ∈ five := fun v hv => hvz.subset (List.mem_append_left _ (hus.subset hv))
      have hv : ∀ v ∈ us, isNm v = true := fun v hv => five_nm v (hvz.subset (List.mem_append_left _ (hus.subset hv)))
      have hun : us.Nodup := hus.nodup_iff.mpr (List.nodup_append.mp (hvz.nodup_iff.mpr five_nd)).1
      have hul : us.length = min (1 + r).toNat 5 := by
        rw [hus.length_eq]
        rw [List.length_map] at hpl
        exact hpl
      refine heads_go S0 l a ha hal E sv ss hsv ys hs3 hy hy6 hsy hs4 x5 x6 x8 x9 x10 n (k + 1) (hs ++ [(ys[k], us)]) o2 (c + 1 + 1000) _ _ (by omega) (by simp [h2]) ?_ ?_ hO2 (by omega) fun hs' o' b4 b7 q1 q2 q3 => q hs' o' b4 b7 q1 q2 (q3.mono (by omega))
      · rw [List.map_append, h3, List.take_succ_eq_append_getElem hk']
        rfl
      · intro h hh
        rcases List.mem_append.mp hh with hh | hh
        · exact h4 h hh
        · rw [List.mem_singleton.mp hh]
          exact ⟨by show us.length ≤ 3; rw [hul]; omega, hy _ (List.getElem_mem hk'), hv, pw_up (sortedS_pw hso) hun, fun e => by have h0 : us.length = 0 := List.length_eq_zero_iff.mpr e; omega, hy6 _ (List.getElem_mem hk'), hv5'⟩
end LK
end
section
set_option Elab.async false
set_option linter.all false
set_option maxRecDepth 100000
set_option maxHeartbeats 400000
namespace LK
open PySem PySem.Spec PyProof.Rows L2 L3
abbrev bodyT : DS := dDrop (dBM "list" mAppend (dVar 8) (aCons (dTup (aCons (dVar 9) (aCons (dCall (sp__law_of) noX (aCons (dVar 0) (aCons (dFrz (dOp oAddL (dFrz (dOp oRepL (dFrz (dCB bList (aCons (dVar 10) (aNil)))) (dC (.int 3)))) (dFrz (dLst (aCons (dC (.str "")) (aCons (dC (.str "none")) (aNil))))))) (aNil)))) (aNil)))) (aNil)))
theorem sets3 {S : Sto} {l u : Nat} {o x o' y : Ob} : (((S.set l o).set u x).set l o').set u y = (S.set l o').set u y := by
  funext m
  unfold Sto.set
  by_cases e : m = u
  · simp only [if_pos e]
  · by_cases e2 : m = l
    · simp only [if_neg e, if_pos e2]
    · simp only [if_neg e, if_neg e2]
theorem sets_perm {S : Sto} {l u g : Nat} {o x p : Ob} (h1 : u ≠ l) (h2 : u ≠ g) (h3 : g ≠ l) : ((S.set u x).set l o).set g p = ((S.set g p).set l o).set u x := by
  funext m
  unfold Sto.set
  by_cases e : m = u
  · subst e
    simp only [if_neg h1, if_neg h2, if_true]
  · by_cases e2 : m = l
    · subst e2
      simp only [if_neg e, if_neg (fun z => h3 z.symm : ¬ m = g), if_true]
    · simp only [if_neg e, if_neg e2]
structure TOk (N : List Str) (t : Str × Str) : Prop where
  nm : t.1 ∈ N
  so : PyData.strOk t.1 = true ∧ PyData.strOk t.2 = true
  tv : t.2 = "" ∨ isNm t.2 = true
  t5 : t.2 ∈ fve
theorem tests_go (S1 : Sto) (l g u : Nat) (N : List Str) (hu : S1 u = none) (hul : u ≠ l) (hgl : g ≠ l) (G : Ob) (hg : S1 g = some G) (E : DEnds) (x1 x2 x3 x4 x5 x6 x7 : Option D) :
    ∀ (hs : List Head) (ts : List (Str × Str)) (o : Ob) (c : Int) (x9 x10 : Option D), (∀ h ∈ hs, HOk h ∧ h.1 ∈ N) → (ts.map (·.1) ++ hs.map (·.1)).Nodup → (∀ t ∈ ts, TOk N t) → ts.length + hs.length ≤ 100 → BxO o c → c + hs.length ≤ 2 ^ 39 →
    (∀ (ts' : List (Str × Str)) (o' : Ob) (b9 b10 : Option D), (∀ t ∈ ts', TOk N t) → (ts'.map (·.1)).Nodup → ts'.length ≤ 100 → BxO o' (c + hs.length) → E.nx [some (.ref l), x1, x2, x3, x4, x5, x6, x7, some (.ref u), b9, b10] ((S1.set l o').set u (.lst (ts'.map testD)))) →
    forW (gsOf (.ref g) G) (.many [9, 10]) bodyT E (hs.map headD) [some (.ref l), x1, x2, x3, x4, x5, x6, x7, some (.ref u), x9, x10] ((S1.set l o).set u (.lst (ts.map testD)))
  | [], ts, o, c, x9, x10, h1, hnd, h2, h3, h4, h5, q => by
    have hgu : g ≠ u := fun e => by rw [e, hu] at hg; cases hg
    exact ⟨gs_ref (by rw [Sto.set_ne hgu, Sto.set_ne hgl]; exact hg), q ts o x9 x10 h2 (by simpa using hnd) (by simpa using h3) (by simpa using h4)⟩
  | h :: hs, ts, o, c, x9, x10, h1, hnd, h2, h3, h4, h5, q => by
    have hgu : g ≠ u := fun e => by rw [e, hu] at hg; cases hg
    have hlu : l ≠ u := fun e => hul e.symm
    refine ⟨gs_ref (by rw [Sto.set_ne hgu, Sto.set_ne hgl]; exact hg), ?_⟩
    simp only [Tg.d, bodyT, headD, setsE, sp__law_of, frzO_lst, dWkA, dTupK, dTupL, dTupIx, dDictP, dDc2, dFor, dWhile, dLc, dLc2, dDc, dNextG, iSeq, iR1, iR2, iEn, iZpA, iZ2, iZ3, dSortK, dSortKF, dSortSet, dSortSetF, dBreak, bSortT, bSortTF, bSum, bSumL, bSumLF, bMaxL, bMinL, dDicE, bSortD, bSortDF, dGet2, oInA, oNotInA, oIxA, gdSubA, dSeq, dSet, dIf, dIfS, dTst, dOp, dUn, dVar, dCB, aCons, aNil, aStar, dRet, dRetN, dNext, dDrop, dLst, dTup, dC, dAnd, dOr, dNot, dAndV, dOrV, dNotV, dPar, dAsg, gdName, gdSub, gdTup, gdCons, gdNil, gdSlot, dIsi, dIsi2, dSlot, dSetSlot, dMethSl, dMakeSl, dCall, dCallP, dBM, dFrz, dLstF, dLcF, dLc2F, dDcF, dSlF, dListVF, bListF, bListDF, bSortSF, oAddLF, oRepLF, dSl, dNoP, dPart, dListV, dTru, dOrT, EndsD, startD, oLtI, oLeI, oGtI, oGeI, oIx, oMulI, oPowI, oAddI, oSubI, oModI, oDivI, oI, oI0, oEqD, oNeD, oInD, oNotInD, oAddL, oAddT, oAddS, oRepL, bLen, bAbs, bInt, bMin2, bMax2, bAll, bAny, bTuple, bList, bListD, bSortS, mAppend, mPop, mPopAt, mExtend, mIndex, tupOf_lst, tupOf_ref, tupOf_tup, List.map_cons, List.map_nil, List.length_cons, List.length_nil, List.cons_append, List.nil_append, List.append_nil, List.replicate, List.set_cons_zero, List.set_cons_succ, List.getElem?_cons_zero, List.getElem?_cons_succ, Option.some.injEq, exists_eq_left', exists_eq_left, exists_and_left, D.int.injEq, D.bl.injEq, D.str.injEq, D.tup.injEq, D.lst.injEq, D.ref.injEq, List.cons.injEq, and_true, true_and, reduceCtorEq, false_and, and_false, exists_false, or_false, false_or, exists_const, Bool.false_eq_true, if_true, if_false, decide_eq_true_eq, Ob.lst.injEq, Ob.slt.injEq, Ob.dic.injEq, seqD_ref, lstD_ref, seqD_tup, seqD_lst, lstD_lst, lstR_lst, Sto.set_same, Sto.set_set, atI_0, atI_1, atI_2, Nat.reduceAdd, ixN_30, ixN_32]
    obtain ⟨hh, hN⟩ := h1 h List.mem_cons_self
    have hl5 := hh.len
    have z3 : Int.toNat 3 = 3 := rfl
    refine ⟨.inl ⟨rfl, _, by rw [lstD_ref, Sto.set_same]⟩, fun f1 hf1 => ?_⟩
    rw [Sto.del_set hf1]
    refine ⟨by decide, by decide, small_sz (by rw [List.length_map, z3]; omega), fun f2 hf2 => ?_⟩
    rw [Sto.del_set hf2]
    refine ⟨small_sz (by decide), fun f3 hf3 => ?_⟩
    rw [Sto.del_set hf3]
    have fl : (List.replicate (Int.toNat 3) (h.2.map D.str)).flatten = ((List.replicate 3 h.2).flatten).map D.str := by
      rw [List.map_flatten, List.map_replicate]
      rfl
    have fll : ((List.replicate 3 h.2).flatten).length ≤ 15 := by
      rw [List.length_flatten, List.map_replicate]
      simp
      omega
    rw [fl]
    refine ⟨small_sz (by rw [List.length_map]; omega), fun f4 hf4 => ?_⟩
    rw [Sto.del_set hf4]
    refine ⟨l, _, ⟨rfl, rfl⟩, _, fun _ => rfl, rfl, by simp, by rw [List.length_append, List.length_map]; simp only [List.length_cons, List.length_nil]; omega, c, ⟨o, by rw [Sto.set_ne hlu, Sto.set_same], h4⟩, by rw [List.length_cons] at h5; omega, fun e o' he hO => ?_⟩
    have he' : ∃ x : Str, e = .str x ∧ (x = "" ∨ isNm x = true) ∧ x ∈ fve := by
      rcases List.mem_append.mp he with he | he
      · obtain ⟨x, hx, rfl⟩ := List.mem_map.mp he
        obtain ⟨ys, hy1, hy2⟩ := List.mem_flatten.mp hx
        rw [List.eq_of_mem_replicate hy1] at hy2
        exact ⟨x, rfl, .inr (hh.vnm x hy2), List.mem_cons_of_mem _ (List.mem_cons_of_mem _ (hh.v5 x hy2))⟩
      · have k1 : (Str.ofString "" : Str) = "" ∨ isNm (Str.ofString "") = true := .inl rfl
        have k2 : (Str.ofString "none" : Str) = "" ∨ isNm (Str.ofString "none") = true := .inr (by decide +kernel)
        rcases List.mem_cons.mp he with e1 | he
        · exact ⟨_, e1, k1, List.mem_cons_self⟩
        · exact ⟨_, List.mem_singleton.mp he, k2, List.mem_cons_of_mem _ List.mem_cons_self⟩
    obtain ⟨x, rfl, hx, hx5⟩ := he'
    refine ⟨small_sz (by decide), ts.map testD, by rw [Sto.set_ne hul, Sto.set_same], small_sz (by rw [List.length_map]; omega), _, Wk.refl _, (S1.set l o').set u (.lst ((ts ++ [(h.1, x)]).map testD)), ?_, ?_⟩
    · rw [List.map_append, sets3]
      exact Sto.sub_refl _
    · rw [List.length_cons] at q h5
      refine tests_go S1 l g u N hu hul hgl G hg E x1 x2 x3 x4 x5 x6 x7 hs (ts ++ [(h.1, x)]) o' (c + 1) _ _ (fun k hk => h1 k (List.mem_cons_of_mem _ hk)) (by simpa using hnd) (fun t ht => ?_) (by rw [List.length_append]; simp at h3 ⊢; omega) hO (by omega) fun ts' o2 b9 b10 q1 qn q2 q3 => q ts' o2 b9 b10 q1 qn q2 (q3.mono (by omega))
      rcases List.mem_append.mp ht with ht | ht
      · exact h2 t ht
      · rw [List.mem_singleton.mp ht]
        refine ⟨hN, ⟨hh.so.1, ?_⟩, hx, hx5⟩
        rcases hx with hx | hx
        · show PyData.strOk x = true; rw [hx]; decide +kernel
        · exact nm_ok hx
abbrev bodyR : DS := (dSeq (dSet 8 (dLst (aNil)))
    (dSeq (dFor (iSeq (dCall (sp__law_pick) noX (aCons (dVar 0) (aCons (dVar 3) (aCons (dCall (sp__law_of) noX (aCons (dVar 0) (aCons (dFrz (dLst (aCons (dC (.int 1)) (aCons (dC (.int 1)) (aCons (dC (.int 2)) (aCons (dC (.int 2)) (aCons (dC (.int 3)) (aNil)))))))) (aNil)))) (aNil)))))) (.many [9, 10]) bodyT)
    (dDrop (dBM "list" mAppend (dVar 5) (aCons (dTup (aCons (dCB bTuple (aCons (dVar 8) (aNil))) (aCons (dCall (sp__law_of) noX (aCons (dVar 0) (aCons (dFrz (dLst (aCons (dC (.str "eng")) (aCons (dC (.str "fra")) (aCons (dC (.str "mob")) (aNil)))))) (aNil)))) (aNil)))) (aNil))))))
structure RlOk (N : List Str) (r : Rule) : Prop where
  len : r.1.length ≤ 100
  ts : ∀ t ∈ r.1, TOk N t
  nd : (r.1.map (·.1)).Nodup
  an : isNm r.2 = true
  a4 : r.2 ∈ four
theorem rules_go (S0 : Sto) (l a b : Nat) (hs : List Head) (ha : S0 a = none) (hb : S0 b = none) (hal : a ≠ l) (hbl : b ≠ l) (hab : a ≠ b) (hh : ∀ h ∈ hs, HOk h) (hnd : (hs.map (·.1)).Nodup) (hh4 : hs.length ≤ 4) (E : DEnds) (x1 x2 x7 : Option D) :
    ∀ (xs : List D) (rs : List Rule) (o : Ob) (c : Int) (x4 x6 x8 x9 x10 : Option D), (∀ r ∈ rs, RlOk (hs.map (·.1)) r) → rs.length + xs.length ≤ 50 → BxO o c → c + 1100 * xs.length ≤ 2 ^ 39 - 2000 →
    (∀ (rs' : List Rule) (o' : Ob) (b6 b8 b9 b10 : Option D), (∀ r ∈ rs', RlOk (hs.map (·.1)) r) → rs'.length = rs.length + xs.length → BxO o' (c + 1100 * xs.length) → E.nx [some (.ref l), x1, x2, some (.ref a), x4, some (.ref b), b6, x7, b8, b9, b10] (((S0.set l o').set a (.lst (hs.map headD))).set b (.lst (rs'.map ruleD)))) →
    forW [] (.one 6) bodyR E xs [some (.ref l), x1, x2, some (.ref a), x4, some (.ref b), x6, x7, x8, x9, x10] (((S0.set l o).set a (.lst (hs.map headD))).set b (.lst (rs.map ruleD)))
  | [], rs, o, c, x4, x6, x8, x9, x10, h1, h2, h3, h4, q => ⟨Gs.ok_nil, q rs o x6 x8 x9 x10 h1 rfl (by simpa using h3)⟩
  | d :: ds, rs, o, c, x4, x6, x8, x9, x10, h1, h2, h3, h4, q => by
    refine ⟨Gs.ok_nil, ?_⟩
    simp only [Tg.d, bodyR, sp__law_pick, sp__law_of, frzO_lst, dWkA, dTupK, dTupL, dTupIx, dDictP, dDc2, dFor, dWhile, dLc, dLc2, dDc, dNextG, iSeq, iR1, iR2, iEn, iZpA, iZ2, iZ3, dSortK, dSortKF, dSortSet, dSortSetF, dBreak, bSortT, bSortTF, bSum, bSumL, bSumLF, bMaxL, bMinL, dDicE, bSortD, bSortDF, dGet2, oInA, oNotInA, oIxA, gdSubA, dSeq, dSet, dIf, dIfS, dTst, dOp, dUn, dVar, dCB, aCons, aNil, aStar, dRet, dRetN, dNext, dDrop, dLst, dTup, dC, dAnd, dOr, dNot, dAndV, dOrV, dNotV, dPar, dAsg, gdName, gdSub, gdTup, gdCons, gdNil, gdSlot, dIsi, dIsi2, dSlot, dSetSlot, dMethSl, dMakeSl, dCall, dCallP, dBM, dFrz, dLstF, dLcF, dLc2F, dDcF, dSlF, dListVF, bListF, bListDF, bSortSF, oAddLF, oRepLF, dSl, dNoP, dPart, dListV, dTru, dOrT, EndsD, startD, oLtI, oLeI, oGtI, oGeI, oIx, oMulI, oPowI, oAddI, oSubI, oModI, oDivI, oI, oI0, oEqD, oNeD, oInD, oNotInD, oAddL, oAddT, oAddS, oRepL, bLen, bAbs, bInt, bMin2, bMax2, bAll, bAny, bTuple, bList, bListD, bSortS, mAppend, mPop, mPopAt, mExtend, mIndex, tupOf_lst, tupOf_ref, tupOf_tup, List.map_cons, List.map_nil, List.length_cons, List.length_nil, List.cons_append, List.nil_append, List.append_nil, List.replicate, List.set_cons_zero, List.set_cons_succ, List.getElem?_cons_zero, List.getElem?_cons_succ, Option.some.injEq, exists_eq_left', exists_eq_left, exists_and_left, D.int.injEq, D.bl.injEq, D.str.injEq, D.tup.injEq, D.lst.injEq, D.ref.injEq, List.cons.injEq, and_true, true_and, reduceCtorEq, false_and, and_false, exists_false, or_false, false_or, exists_const, Bool.false_eq_true, if_true, if_false, decide_eq_true_eq, Ob.lst.injEq, Ob.slt.injEq, Ob.dic.injEq, seqD_ref, lstD_ref, seqD_tup, seqD_lst, lstD_lst, lstR_lst, Sto.set_same, Sto.set_set, atI_0, atI_1, atI_2, Nat.reduceAdd, ixN_30, ixN_32]
    refine ⟨Nat.zero_le _, fun u hu => ?_⟩
    have hba : b ≠ a := fun e => hab e.symm
    have hlb : l ≠ b := fun e => hbl e.symm
    have hla : l ≠ a := fun e => hal e.symm
    have hub : u ≠ b := fun e => by rw [e, Sto.set_same] at hu; cases hu
    have hua : u ≠ a := fun e => by rw [e, Sto.set_ne hab, Sto.set_same] at hu; cases hu
    have hul : u ≠ l := fun e => by rw [e, Sto.set_ne hlb, Sto.set_ne hla, Sto.set_same] at hu; cases hu
    have hlu : l ≠ u := fun e => hul e.symm
    refine ⟨small_sz (by decide), fun f1 hf1 => ?_⟩
    rw [Sto.del_set hf1]
    refine ⟨l, _, ⟨rfl, rfl⟩, _, fun _ => rfl, rfl, by simp, by simp, c, ⟨o, by rw [Sto.set_ne hlu, Sto.set_ne hlb, Sto.set_ne hla, Sto.set_same], h3⟩, by rw [List.length_cons] at h4; omega, fun e o1 he hO1 => ?_⟩
    have he' : ∃ k : Int, e = .int k ∧ 1 ≤ k ∧ k ≤ 3 := by
      have he' : e ∈ ([1, 1, 2, 2, 3] : List Int).map D.int := he
      obtain ⟨k, hk, rfl⟩ := List.mem_map.mp he'
      have key : ∀ k ∈ ([1, 1, 2, 2, 3] : List Int), 1 ≤ k ∧ k ≤ 3 := by decide
      exact ⟨k, rfl, key k hk⟩
    obtain ⟨k, rfl, k1, k3⟩ := he'
    refine ⟨l, _, hs.map headD, k, ⟨rfl, rfl, rfl⟩, ?_, by rw [List.length_map]; omega, by omega, by omega, c + 1, Bx.of hO1, by rw [List.length_cons] at h4; omega, fun ps rest o2 g hp hpl hO2 hg hgl => ?_⟩
    · rw [seqD_ref, Sto.set_ne hal, Sto.set_ne (fun e => hua e.symm), Sto.set_ne hab, Sto.set_same]
    · rw [Sto.set_ne hgl] at hg
      have hgu : g ≠ u := fun e => by rw [e, Sto.set_same] at hg; cases hg
      have hug : u ≠ g := fun e => hgu e.symm
      rw [Sto.set_ne hgu] at hg
      have hgb : g ≠ b := fun e => by rw [e, Sto.set_same] at hg; cases hg
      have hga : g ≠ a := fun e => by rw [e, Sto.set_ne hab, Sto.set_same] at hg; cases hg
      obtain ⟨hs2, hr2, rfl, hpp⟩ := perm_back headD dH dH_head hp
      rw [Sto.set_set, sets_perm hul hug hgl]
      have hsl : hs2.length ≤ 4 := by
        have := hpp.length_eq
        rw [List.length_append] at this
        omega
      refine tests_go _ l g u (hs.map (·.1)) (by rw [Sto.set_ne hug]; exact hu) hul hgl _ Sto.set_same _ _ _ _ _ _ _ _ hs2 [] o2 (c + 1 + 1000) _ _ (fun h hm => ?_) ?_ (fun t ht => by cases ht) (by simp; omega) hO2 (by rw [List.length_cons] at h4; omega) fun ts o3 b9 b10 q1 qn q2 q3 => ?_
      · have hm' := hpp.subset (List.mem_append_left _ hm)
        exact ⟨hh h hm', List.mem_map_of_mem hm'⟩
      · have h0 := (hpp.map (·.1)).nodup_iff.mpr hnd
        rw [List.map_append] at h0
        simpa using (List.nodup_append.mp h0).1
      · have ru : ∀ {o' x : Ob}, ((((((S0.set l o).set a (.lst (hs.map headD))).set b (.lst (rs.map ruleD))).set g (.lst (hs2.map headD))).set l o').set u x) b = some (.lst (rs.map ruleD)) := by
          intro o' x
          rw [Sto.set_ne (fun e => hub e.symm), Sto.set_ne hbl, Sto.set_ne (fun e => hgb e.symm), Sto.set_same]
        refine ⟨.ref b, rfl, .inl ⟨rfl, rs.map ruleD, by rw [lstD_ref, ru]⟩, .ref u, rfl, ts.map testD, by rw [seqD_ref, Sto.set_same], .ref l, rfl, small_sz (by decide), fun f hf => ?_⟩
        rw [Sto.del_set hf]
        rw [List.length_cons] at h4 h2 q
        refine ⟨l, _, ⟨rfl, rfl⟩, _, fun _ => rfl, rfl, by simp, by simp, c + 1 + 1000 + 4, ⟨o3, by rw [Sto.set_ne hlu, Sto.set_same], q3.mono (by omega)⟩, by omega, fun e o4 he hO4 => ?_⟩
        have he' : ∃ x : Str, e = .str x ∧ isNm x = true ∧ x ∈ four := by
          have he' : e ∈ ([Str.ofString "eng", Str.ofString "fra", Str.ofString "mob"] : List Str).map D.str := he
          obtain ⟨k, hk, rfl⟩ := List.mem_map.mp he'
          have key : ∀ k ∈ ([Str.ofString "eng", Str.ofString "fra", Str.ofString "mob"] : List Str), isNm k = true ∧ k ∈ four := by decide +kernel
          exact ⟨k, rfl, key k hk⟩
        obtain ⟨x, rfl, hx, hx4⟩ := he'
        refine ⟨small_sz (by decide), b, rfl, rs.map ruleD, by rw [Sto.set_ne hbl]; exact ru, small_sz (by rw [List.length_map]; omega), _, Wk.refl _, ((S0.set l o4).set a (.lst (hs.map headD))).set b (.lst ((rs ++ [(ts, x)]).map ruleD)), ?_, ?_⟩
        · rw [List.map_append]
          intro m w hm
          by_cases e : m = b
          · subst e
            rw [Sto.set_same] at hm ⊢
            exact hm
          · rw [Sto.set_ne e] at hm ⊢
            by_cases e1 : m = a
            · subst e1
              rw [Sto.set_same] at hm
              rw [Sto.set_ne hal, Sto.set_ne (fun e => hua e.symm), Sto.set_ne hal, Sto.set_ne (fun e => hga e.symm), Sto.set_ne hab, Sto.set_same]
              exact hm
            · rw [Sto.set_ne e1] at hm
              by_cases e2 : m = l
              · subst e2
                rw [Sto.set_same] at hm ⊢
                exact hm
              · rw [Sto.set_ne e2] at hm
                have e3 : m ≠ u := fun z => by
                  rw [← z, Sto.set_ne e, Sto.set_ne e1, Sto.set_ne e2, hm] at hu; cases hu
                have e4 : m ≠ g := fun z => by
                  rw [← z, Sto.set_ne e, Sto.set_ne e1, Sto.set_ne e2, hm] at hg; cases hg
                rw [Sto.set_ne e2, Sto.set_ne e3, Sto.set_ne e2, Sto.set_ne e4, Sto.set_ne e, Sto.set_ne e1, Sto.set_ne e2]
                exact hm
        · refine rules_go S0 l a b hs ha hb hal hbl hab hh hnd hh4 E x1 x2 x7 ds (rs ++ [(ts, x)]) o4 (c + 1 + 1000 + 4 + 1) _ _ _ _ _ (fun r hr => ?_) (by rw [List.length_append]; simp; omega) hO4 (by omega) fun rs' o' b6 b8 b9 b10 z1 z2 z3 => q rs' o' b6 b8 b9 b10 z1 (by rw [z2, List.length_append]; simp; omega) (z3.mono (by omega))
          rcases List.mem_append.mp hr with hr | hr
          · exact h1 r hr
          · rw [List.mem_singleton.mp hr]
            exact ⟨q2, q1, qn, hx, hx4⟩
end LK
end
section
set_option Elab.async false
set_option linter.all false
set_option maxRecDepth 100000
set_option maxHeartbeats 400000
namespace LK
open PySem PySem.Spec PyProof.Rows L2 L3
theorem set_swap {S : Sto} {l g : Nat} {o p : Ob} (h : g ≠ l) : (S.set l o).set g p = (S.set g p).set l o := by
  funext m
  unfold Sto.set
  by_cases e : m = g
  · subst e
    simp only [if_neg h, if_true]
  · simp only [if_neg e]
theorem wok {hs : List Head} {rs : List Rule} (h1 : (hs.map (·.1)).Pairwise slt) (h2 : hs.length ≤ 4) (h3 : ∀ h ∈ hs, HOk h) (h4 : rs.length ≤ 9) (h5 : ∀ r ∈ rs, RlOk (hs.map (·.1)) r) : WS ⟨hs, rs⟩ where
  up := h1
  h4 := h2
  nm := fun h hh => (h3 h hh).nm
  v3 := fun h hh => (h3 h hh).l3
  vup := fun h hh => (h3 h hh).up
  vnm := fun h hh => (h3 h hh).vnm
  r9 := h4
  tnd := fun r hr => (h5 r hr).nd
  tv := fun r hr t ht => ((h5 r hr).ts t ht).tv
  an := fun r hr => (h5 r hr).an
  nd := up_nodup h1
  hl := by show hs.length ≤ 6; omega
  vl := fun h hh => (h3 h hh).len
  rl := by show rs.length ≤ 100; omega
  tl := fun r hr => (h5 r hr).len
  tn := fun r hr t ht => ((h5 r hr).ts t ht).nm
  so := fun h hh => (h3 h hh).so
  ro := fun r hr => ⟨nm_ok (h5 r hr).an, fun t ht => ((h5 r hr).ts t ht).so⟩
theorem wx_of {hs : List Head} {rs : List Rule} (h3 : ∀ h ∈ hs, HOk h) (h5 : ∀ r ∈ rs, RlOk (hs.map (·.1)) r) : WX ⟨hs, rs⟩ where
  six := fun h hh => (h3 h hh).n6
  five := fun h hh => (h3 h hh).v5
  four := fun r hr => (h5 r hr).a4
  tvf := fun r hr t ht => ((h5 r hr).ts t ht).t5
theorem world_end {S : Sto} {Q : DK} {l a b g : Nat} {X H R o : Ob} {d : D} (ha : S a = none) (hb : S b = none) (hg : S g = none) (hal : a ≠ l) (hbl : b ≠ l) (q : Q d (S.set l o)) : drp (Q d) ((((S.set g X).set l o).set a H).set b R) := by
  refine ⟨_, fun m w hm => ?_, q⟩
  by_cases e : m = l
  · subst e
    rw [Sto.set_same] at hm
    rw [Sto.set_ne (fun z => hbl z.symm), Sto.set_ne (fun z => hal z.symm), Sto.set_same]
    exact hm
  · rw [Sto.set_ne e] at hm
    have e1 : m ≠ a := fun z => by rw [z, ha] at hm; cases hm
    have e2 : m ≠ b := fun z => by rw [z, hb] at hm; cases hm
    have e3 : m ≠ g := fun z => by rw [z, hg] at hm; cases hm
    rw [Sto.set_ne e2, Sto.set_ne e1, Sto.set_ne e, Sto.set_ne e3]
    exact hm
theorem v__law_world : ∀ ds S Q E, sp__law_world ds S Q E → d__law_world (EndsD Q) (startD N__law_world ds) S := by
  rintro ds S Q E ⟨l, sv, ss, c, rfl, hsv, hs, hs3, hB, hc, q⟩
  simp only [d__law_world, N__law_world, sp__law_pick, frzO_lst, dWkA, dTupK, dTupL, dTupIx, dDictP, dDc2, dFor, dWhile, dLc, dLc2, dDc, dNextG, iSeq, iR1, iR2, iEn, iZpA, iZ2, iZ3, dSortK, dSortKF, dSortSet, dSortSetF, dBreak, bSortT, bSortTF, bSum, bSumL, bSumLF, bMaxL, bMinL, dDicE, bSortD, bSortDF, dGet2, oInA, oNotInA, oIxA, gdSubA, dSeq, dSet, dIf, dIfS, dTst, dOp, dUn, dVar, dCB, aCons, aNil, aStar, dRet, dRetN, dNext, dDrop, dLst, dTup, dC, dAnd, dOr, dNot, dAndV, dOrV, dNotV, dPar, dAsg, gdName, gdSub, gdTup, gdCons, gdNil, gdSlot, dIsi, dIsi2, dSlot, dSetSlot, dMethSl, dMakeSl, dCall, dCallP, dBM, dFrz, dLstF, dLcF, dLc2F, dDcF, dSlF, dListVF, bListF, bListDF, bSortSF, oAddLF, oRepLF, dSl, dNoP, dPart, dListV, dTru, dOrT, EndsD, startD, oLtI, oLeI, oGtI, oGeI, oIx, oMulI, oPowI, oAddI, oSubI, oModI, oDivI, oI, oI0, oEqD, oNeD, oInD, oNotInD, oAddL, oAddT, oAddS, oRepL, bLen, bAbs, bInt, bMin2, bMax2, bAll, bAny, bTuple, bList, bListD, bSortS, mAppend, mPop, mPopAt, mExtend, mIndex, tupOf_lst, tupOf_ref, tupOf_tup, List.map_cons, List.map_nil, List.length_cons, List.length_nil, List.cons_append, List.nil_append, List.append_nil, List.replicate, List.set_cons_zero, List.set_cons_succ, List.getElem?_cons_zero, List.getElem?_cons_succ, Option.some.injEq, exists_eq_left', exists_eq_left, exists_and_left, D.int.injEq, D.bl.injEq, D.str.injEq, D.tup.injEq, D.lst.injEq, D.ref.injEq, List.cons.injEq, and_true, true_and, reduceCtorEq, false_and, and_false, exists_false, or_false, false_or, exists_const, Bool.false_eq_true, if_true, if_false, decide_eq_true_eq, Ob.lst.injEq, Ob.slt.injEq, Ob.dic.injEq, seqD_ref, lstD_ref, seqD_tup, seqD_lst, lstD_lst, lstR_lst, Sto.set_same, Sto.set_set, atI_0, atI_1, atI_2, Nat.reduceAdd, ixN_30, ixN_32]
  refine ⟨small_sz (by decide), fun f1 hf1 => ?_⟩
  rw [Sto.del_set hf1]
  obtain ⟨o0, ho0, hO0⟩ := hB
  refine .inl ⟨_, hsv _, l, _, six.map .str, _, ⟨rfl, rfl, rfl⟩, rfl, by simp, by omega, by rw [List.length_map]; omega, c, ⟨o0, ho0, hO0⟩, by omega, fun ps rest o1 g hp hpl hO1 hg hgl => ?_⟩
  obtain ⟨xs, zs, rfl, hxz⟩ := perm_back D.str dS dS_str hp
  have hxl : xs.length = ss.length := by
    rw [List.length_map, List.length_map, List.length_map] at hpl
    have e : six.length = 6 := rfl
    omega
  refine ⟨xs, rfl, by omega, fun ys f2 hys hyso hf2 => ?_⟩
  rw [Sto.del_set hf2]
  have hyl : ss.length = ys.length := by rw [hys.length_eq, hxl]
  have hyok : ∀ y ∈ ys, isNm y = true := fun y hy => six_nm y (hxz.subset (List.mem_append_left _ (hys.subset hy)))
  have hy6 : ∀ y ∈ ys, y ∈ six := fun y hy => hxz.subset (List.mem_append_left _ (hys.subset hy))
  have hynd : ys.Nodup := hys.nodup_iff.mpr ((List.nodup_append.mp (hxz.nodup_iff.mpr six_nd)).1)
  have hyup : ys.Pairwise slt := pw_up (sortedS_pw hyso) hynd
  rw [set_swap hgl]
  refine ⟨Nat.zero_le _, fun a ha => .inl ⟨_, hsv _, by rw [List.length_map]; omega, ?_⟩⟩
  have hal : a ≠ l := fun e => by rw [e, Sto.set_same] at ha; cases ha
  have hla : l ≠ a := fun e => hal e.symm
  rw [Sto.set_ne hal] at ha
  have hgS : S g = none := hg
  have haS : S a = none := by
    have : a ≠ g := fun e => by rw [e, Sto.set_same] at ha; cases ha
    rw [Sto.set_ne this] at ha; exact ha
  rw [List.length_map, Int.toNat_natCast, List.range_eq_range']
  refine heads_go (S.set g (.lst (xs.map .str))) l a ha hal _ sv ss hsv ys hs3 hyok hy6 hyl hs _ _ _ _ _ ss.length 0 [] o1 (c + 1000) _ _ (by omega) rfl rfl (fun h hh => by cases hh) hO1 (by omega) fun hs' o2 b4 b7 q1 q2 q3 => ?_
  have hhl : hs'.length ≤ 4 := by
    have := congrArg List.length q1
    rw [List.length_map] at this
    omega
  have hsl : hs'.length = ss.length := by
    have := congrArg List.length q1
    rw [List.length_map] at this
    omega
  refine ⟨Nat.zero_le _, fun b hb => ⟨_, rfl, ?_⟩⟩
  have hba : b ≠ a := fun e => by rw [e, Sto.set_same] at hb; cases hb
  have hab : a ≠ b := fun e => hba e.symm
  rw [Sto.set_ne hba] at hb
  have hbl : b ≠ l := fun e => by rw [e, Sto.set_same] at hb; cases hb
  have hlb : l ≠ b := fun e => hbl e.symm
  rw [Sto.set_ne hbl] at hb
  have hbS : S b = none := by
    have : b ≠ g := fun e => by rw [e, Sto.set_same] at hb; cases hb
    rw [Sto.set_ne this] at hb; exact hb
  refine ⟨l, 4, c + 1000 + 1001 * 4, rfl, by decide, by decide, ⟨o2, by rw [Sto.set_ne hlb, Sto.set_ne hla, Sto.set_same], q3.mono (by omega)⟩, by omega, fun r o3 hr0 hr1 hO3 => ?_⟩
  have e3 : ∀ {o o' R : Ob}, ((((S.set g (.lst (xs.map .str))).set l o).set a (.lst (hs'.map headD))).set b R).set l o' = (((S.set g (.lst (xs.map .str))).set l o').set a (.lst (hs'.map headD))).set b R := by
    intro o o' R
    rw [← set_swap hbl, ← set_swap hal, Sto.set_set]
  have nL : ∀ {o R : Ob}, ((((S.set g (.lst (xs.map .str))).set l o).set a (.lst (hs'.map headD))).set b R) l = some o := by
    intro o R
    rw [Sto.set_ne hlb, Sto.set_ne hla, Sto.set_same]
  have nA : ∀ {o R : Ob}, ((((S.set g (.lst (xs.map .str))).set l o).set a (.lst (hs'.map headD))).set b R) a = some (.lst (hs'.map headD)) := by
    intro o R
    rw [Sto.set_ne hab, Sto.set_same]
  rw [e3]
  refine ⟨r, rfl, ⟨by omega, by omega⟩, ?_⟩
  refine rules_go (S.set g (.lst (xs.map .str))) l a b hs' ha hb hal hbl hab q2 (by rw [q1]; exact hynd) hhl _ _ _ _ _ [] o3 (c + 1000 + 1001 * 4 + 1) _ _ _ _ _ (fun r hr => by cases hr) ?_ hO3 ?_ fun rs o4 b6 b8 b9 b10 z1 z2 z3 => ?_
  · rw [List.length_map, List.length_range]; simp; omega
  · rw [List.length_map, List.length_range]; omega
  · rw [List.length_map, List.length_range] at z2 z3
    refine ⟨_, rfl, l, 3, c + 1000 + 1001 * 4 + 1 + 6600, rfl, by decide, by decide, ⟨o4, nL, z3.mono (by omega)⟩, by omega, fun r2 o5 hr2 hr3 hO5 => ?_⟩
    rw [e3]
    refine ⟨r2, rfl, ?_⟩
    split
    · refine ⟨_, rfl, .inl ⟨rfl, _, by rw [lstD_ref, Sto.set_same]⟩, Nat.zero_le _, _, rfl, small_sz (by decide), fun f hf => ?_⟩
      rw [Sto.del_set hf]
      refine ⟨l, _, _, c + 1000 + 1001 * 4 + 1 + 6600 + 1, rfl, fun _ => rfl, rfl, by simp, by simp, ⟨o5, nL, hO5⟩, by omega, fun e o6 he hO6 => ?_⟩
      have he' : ∃ x : Str, e = .str x ∧ isNm x = true ∧ x ∈ four := by
        have he' : e ∈ ([Str.ofString "eng", Str.ofString "fra", Str.ofString "mob", Str.ofString "old"] : List Str).map D.str := he
        obtain ⟨k, hk, rfl⟩ := List.mem_map.mp he'
        have key : ∀ k ∈ ([Str.ofString "eng", Str.ofString "fra", Str.ofString "mob", Str.ofString "old"] : List Str), isNm k = true ∧ k ∈ four := by decide +kernel
        exact ⟨k, rfl, key k hk⟩
      obtain ⟨x, rfl, hx, hx4⟩ := he'
      rw [e3]
      refine ⟨small_sz (by decide), b, rfl, rs.map ruleD, Sto.set_same, small_sz (by rw [List.length_map]; simp at z2; omega), _, rfl, hs'.map headD, by rw [seqD_ref, Sto.set_set, nA], _, rfl, _, by rw [seqD_ref, Sto.set_same], small_sz (by decide), ?_⟩
      rw [Sto.set_set]
      refine world_end haS hbS hgS hal hbl ?_
      have e : ([D.tup [D.tup [], D.str x]] : List D) = [(([], x) : Rule)].map ruleD := rfl
      rw [e, ← List.map_append]
      have z1' : ∀ r ∈ rs ++ [([], x)], RlOk (hs'.map (·.1)) r := fun r hr => by
        rcases List.mem_append.mp hr with hr | hr
        · exact z1 r hr
        · rw [List.mem_singleton.mp hr]
          exact ⟨Nat.zero_le _, (fun t ht => by cases ht), .nil, hx, hx4⟩
      exact q ⟨hs', rs ++ [([], x)]⟩ o6 (wok (by rw [q1]; exact hyup) hhl q2 (by rw [List.length_append]; simp at z2 ⊢; omega) z1') (wx_of q2 z1') hsl (fun h hh => (q2 h hh).ne) (by show 2 ≤ (rs ++ [([], x)]).length; rw [List.length_append]; simp at z2 ⊢; omega) (hO6.mono (by omega))
    · refine ⟨_, rfl, hs'.map headD, by rw [seqD_ref, nA], _, rfl, _, by rw [seqD_ref, Sto.set_same], small_sz (by decide), ?_⟩
      refine world_end haS hbS hgS hal hbl ?_
      exact q ⟨hs', rs⟩ o5 (wok (by rw [q1]; exact hyup) hhl q2 (by simp at z2; omega) z1) (wx_of q2 z1) hsl (fun h hh => (q2 h hh).ne) (by show 2 ≤ rs.length; simp at z2; omega) (hO5.mono (by omega))
end LK
end
section
set_option Elab.async false
set_option linter.all false
set_option maxRecDepth 100000
set_option maxHeartbeats 400000
namespace LK
open PySem PySem.Spec PyProof.Rows L2 L3
theorem compW_sub {α : Type} {gs : Gs} {t : Tg} {te : DE} {ρ : En} {Q : List D → Sto → Prop} {S : Sto} (g : α → D) (f : α → D) : ∀ (xs : List α) (acc : List D), gs.ok S → acc.length + xs.length ≤ sizeLine →
    (∀ a ∈ xs, ∀ (S' : Sto) (Py : DK), S.sub S' → (∀ S'', S'.sub S'' → Py (f a) S'') → t.d (g a) ρ fun ρ1 => te ρ1 S' Py) → Q (acc ++ xs.map f) S → compW gs t dYes te ρ Q (xs.map g) acc S
  | [], acc, ok, _, _, q => ⟨ok, by simpa using q⟩
  | a :: xs, acc, ok, hz, h, q => by
    refine ⟨ok, by simp at hz; omega, fun l o hl => ?_⟩
    have z := h a List.mem_cons_self (S.set l o) (fun v S4 => S4 l = some o ∧ ∃ S5, S5.sub (S4.del l) ∧ compW gs t dYes te ρ Q (xs.map g) (acc ++ [v]) S5) (Sto.sub_set hl) fun S'' s => ⟨s _ _ Sto.set_same, S, fun m w hm => by
      have e : m ≠ l := fun e => by rw [e, hl] at hm; cases hm
      rw [Sto.del_ne e]
      exact s _ _ (by rw [Sto.set_ne e]; exact hm), compW_sub g f xs (acc ++ [f a]) ok (by simp at hz ⊢; omega) (fun x hx => h x (List.mem_cons_of_mem _ hx)) (by simpa using q)⟩
    cases t with
    | one i => exact z
    | many is => exact z
end LK
end
section
set_option Elab.async false
set_option linter.all false
set_option maxRecDepth 100000
set_option maxHeartbeats 400000
namespace LK
open PySem PySem.Spec PyProof.Rows L2 L3
theorem lisO_tup {n : Nat} {ds es : List D} (h : mapO (lisO n) ds = some es) (hz : ds.length ≤ sizeLine) : lisO (n + 1) (.tup ds) = some (.lst es) := by
  show (if ds.length ≤ sizeLine then (mapO (lisO n) ds).map D.lst else none) = _
  rw [if_pos hz, h]; rfl
theorem ans_ok {w : Wd} {r : Row} (hw : WOk w) : PyData.strOk (w.ans r) = true := by
  unfold Wd.ans
  cases e : w.rs.filter fun x : Rule => w.fits r x.1 with
  | nil => show PyData.strOk ("" : Str) = true; decide +kernel
  | cons x xs =>
    have hx : x ∈ w.rs := (List.mem_filter.mp (by rw [e]; exact List.mem_cons_self : x ∈ w.rs.filter fun x : Rule => w.fits r x.1)).1
    exact (hw.ro x hx).1
end LK
end
section
set_option Elab.async false
set_option linter.all false
set_option maxRecDepth 100000
set_option maxHeartbeats 400000
namespace LK
open PySem PySem.Spec PyProof.Rows L2 L3
end LK
end
section
set_option Elab.async false
set_option linter.all false
set_option maxRecDepth 100000
set_option maxHeartbeats 400000
namespace LK
open PySem PySem.Spec PyProof.Rows L2 L3
def sp_lawG : DSp := fun ds S Q _ => ∃ (v : D) (ns : List Int), ds = [v] ∧ lstD S v = some (ns.map .int) ∧ ns.length ≤ 63 ∧ Q (.bl true) S
def RightOk (spr : DSp) : Prop := ∀ (l : Nat) (c : Int) (S : Sto) (Q : DK) (E : DXK), Bx S l c → c ≤ 2 ^ 30 → (∀ o, BxO o (c + 2 ^ 24) → Q (.bl true) (S.set l o)) → spr [.ref l] S Q E
def sp_rightG : DSp := fun ds S Q _ => ∃ (l : Nat) (c : Int), ds = [.ref l] ∧ Bx S l c ∧ c ≤ 2 ^ 30 ∧ ∀ o, BxO o (c + 2 ^ 24) → Q (.bl true) (S.set l o)
theorem rightG : RightOk sp_rightG := fun l c S Q E h1 h2 h3 => ⟨l, c, rfl, h1, h2, h3⟩
def lawA (m : Int) (spr : DSp) : DS :=
  dSeq (dSet 1 (dCall (sp__law_cells) noX (aCons (dVar 0) (aCons (dC (.int m)) (aNil)))))
    (dRet (dCB bAll (aCons (dLcF (iR1 (aCons (dCB bLen (aCons (dVar 1) (aNil))) (aNil))) (.one 2) (dYes) (dCall (spr) noX (aCons (dCall (sp__law_box) noX (aCons (dVar 1) (aCons (dVar 2) (aNil)))) (aNil))) [2]) (aNil))))
section
variable {m : Nat} {spr : DSp} (h1 : 1 ≤ m) (h3 : m ≤ 3) (R : RightOk spr)
include h1 h3 R
theorem v_lawA {N : List Str} (hN : N.length = 3) : ∀ ds S Q E, sp_lawG ds S Q E → lawA m spr (EndsD Q) (startD N ds) S := by
  rintro ds S Q E ⟨v, ns, rfl, hv, hn, q⟩
  obtain ⟨a1, a2, a3, rfl⟩ : ∃ a b c, N = [a, b, c] := by match N, hN with | [a, b, c], _ => exact ⟨a, b, c, rfl⟩
  simp only [lawA, sp__law_cells, dWkA, dTupK, dTupL, dTupIx, dDictP, dDc2, dFor, dWhile, dLc, dLc2, dDc, dNextG, iSeq, iR1, iR2, iEn, iZpA, iZ2, iZ3, dSortK, dSortKF, dSortSet, dSortSetF, dBreak, bSortT, bSortTF, bSum, bSumL, bSumLF, bMaxL, bMinL, dDicE, bSortD, bSortDF, dGet2, oInA, oNotInA, oIxA, gdSubA, dSeq, dSet, dIf, dIfS, dTst, dOp, dUn, dVar, dCB, aCons, aNil, aStar, dRet, dRetN, dNext, dDrop, dLst, dTup, dC, dAnd, dOr, dNot, dAndV, dOrV, dNotV, dPar, dAsg, gdName, gdSub, gdTup, gdCons, gdNil, gdSlot, dIsi, dIsi2, dSlot, dSetSlot, dMethSl, dMakeSl, dCall, dCallP, dBM, dFrz, dLstF, dLcF, dLc2F, dDcF, dSlF, dListVF, bListF, bListDF, bSortSF, oAddLF, oRepLF, dSl, dNoP, dPart, dListV, dTru, dOrT, EndsD, startD, oLtI, oLeI, oGtI, oGeI, oIx, oMulI, oPowI, oAddI, oSubI, oModI, oDivI, oI, oI0, oEqD, oNeD, oInD, oNotInD, oAddL, oAddT, oAddS, oRepL, bLen, bAbs, bInt, bMin2, bMax2, bAll, bAny, bTuple, bList, bListD, bSortS, mAppend, mPop, mPopAt, mExtend, mIndex, tupOf_lst, tupOf_ref, tupOf_tup, List.map_cons, List.map_nil, List.length_cons, List.length_nil, List.cons_append, List.nil_append, List.append_nil, List.replicate, List.set_cons_zero, List.set_cons_succ, List.getElem?_cons_zero, List.getElem?_cons_succ, Option.some.injEq, exists_eq_left', exists_eq_left, exists_and_left, D.int.injEq, D.bl.injEq, D.str.injEq, D.tup.injEq, D.lst.injEq, D.ref.injEq, List.cons.injEq, and_true, true_and, reduceCtorEq, false_and, and_false, exists_false, or_false, false_or, exists_const, Bool.false_eq_true, if_true, if_false, decide_eq_true_eq, Ob.lst.injEq, Ob.slt.injEq, Ob.dic.injEq, seqD_ref, lstD_ref, seqD_tup, seqD_lst, lstD_lst, lstR_lst, Sto.set_same, Sto.set_set, atI_0, atI_1, atI_2, Nat.reduceAdd, ixN_30, ixN_32]
  refine ⟨_, ns, m, ⟨rfl, rfl⟩, h1, h3, hv, hn, fun cs l hcs hl => ?_⟩
  refine ⟨by rw [List.length_map]; omega, ?_⟩
  rw [List.length_map, Int.toNat_natCast]
  refine compW_sub (fun i : Nat => D.int i) (fun _ => .bl true) _ [] Gs.ok_nil (small_sz (by simp; omega)) (fun i hi S' Py s hy => ?_) ⟨(List.range cs.length).map fun _ => true, by rw [List.map_map]; rfl, S, ?_, ?_⟩
  · have hi := List.mem_range.mp hi
    simp only [Tg.d, wipeD, sp__law_box, dWkA, dTupK, dTupL, dTupIx, dDictP, dDc2, dFor, dWhile, dLc, dLc2, dDc, dNextG, iSeq, iR1, iR2, iEn, iZpA, iZ2, iZ3, dSortK, dSortKF, dSortSet, dSortSetF, dBreak, bSortT, bSortTF, bSum, bSumL, bSumLF, bMaxL, bMinL, dDicE, bSortD, bSortDF, dGet2, oInA, oNotInA, oIxA, gdSubA, dSeq, dSet, dIf, dIfS, dTst, dOp, dUn, dVar, dCB, aCons, aNil, aStar, dRet, dRetN, dNext, dDrop, dLst, dTup, dC, dAnd, dOr, dNot, dAndV, dOrV, dNotV, dPar, dAsg, gdName, gdSub, gdTup, gdCons, gdNil, gdSlot, dIsi, dIsi2, dSlot, dSetSlot, dMethSl, dMakeSl, dCall, dCallP, dBM, dFrz, dLstF, dLcF, dLc2F, dDcF, dSlF, dListVF, bListF, bListDF, bSortSF, oAddLF, oRepLF, dSl, dNoP, dPart, dListV, dTru, dOrT, EndsD, startD, oLtI, oLeI, oGtI, oGeI, oIx, oMulI, oPowI, oAddI, oSubI, oModI, oDivI, oI, oI0, oEqD, oNeD, oInD, oNotInD, oAddL, oAddT, oAddS, oRepL, bLen, bAbs, bInt, bMin2, bMax2, bAll, bAny, bTuple, bList, bListD, bSortS, mAppend, mPop, mPopAt, mExtend, mIndex, tupOf_lst, tupOf_ref, tupOf_tup, List.map_cons, List.map_nil, List.length_cons, List.length_nil, List.cons_append, List.nil_append, List.append_nil, List.replicate, List.set_cons_zero, List.set_cons_succ, List.getElem?_cons_zero, List.getElem?_cons_succ, Option.some.injEq, exists_eq_left', exists_eq_left, exists_and_left, D.int.injEq, D.bl.injEq, D.str.injEq, D.tup.injEq, D.lst.injEq, D.ref.injEq, List.cons.injEq, and_true, true_and, reduceCtorEq, false_and, and_false, exists_false, or_false, false_or, exists_const, Bool.false_eq_true, if_true, if_false, decide_eq_true_eq, Ob.lst.injEq, Ob.slt.injEq, Ob.dic.injEq, seqD_ref, lstD_ref, seqD_tup, seqD_lst, lstD_lst, lstR_lst, Sto.set_same, Sto.set_set, atI_0, atI_1, atI_2, Nat.reduceAdd, ixN_30, ixN_32]
    refine ⟨.ref l, cs, i, ⟨rfl, rfl⟩, by rw [lstD_ref, s _ _ Sto.set_same], small_sz (by omega), by omega, by omega, fun o b hO hb => ?_⟩
    exact R _ _ _ _ _ (Bx.of hO) (by decide) fun o' _ => by rw [Sto.set_set]; exact hy _ (Sto.sub_set hb)
  · exact Sto.sub_set hl
  · have e : ((List.range cs.length).map fun _ => true).all id = true := by simp
    rw [e]
    exact q
end
end LK
end
section
set_option Elab.async false
set_option linter.all false
set_option maxRecDepth 100000
set_option maxHeartbeats 400000
namespace LK
open PySem PySem.Spec PyProof.Rows L2 L3
theorem lstD_tup (S : Sto) (ds : List D) : lstD S (.tup ds) = none := rfl
theorem seqD_row (S : Sto) (r : Row) : seqD S (rowD r) = some (r.map .str) := rfl
theorem sz_0 : (0 ≤ sizeLine) = True := eq_true (small_sz (by decide))
theorem sz_1 : (1 ≤ sizeLine) = True := eq_true (small_sz (by decide))
theorem sz_2 : (2 ≤ sizeLine) = True := eq_true (small_sz (by decide))
theorem sz_3 : (3 ≤ sizeLine) = True := eq_true (small_sz (by decide))
theorem sz_4 : (4 ≤ sizeLine) = True := eq_true (small_sz (by decide))
theorem sz_5 : (5 ≤ sizeLine) = True := eq_true (small_sz (by decide))
theorem sz_6 : (6 ≤ sizeLine) = True := eq_true (small_sz (by decide))
theorem sz_7 : (7 ≤ sizeLine) = True := eq_true (small_sz (by decide))
theorem sz_8 : (8 ≤ sizeLine) = True := eq_true (small_sz (by decide))
theorem sz_9 : (9 ≤ sizeLine) = True := eq_true (small_sz (by decide))
theorem sz_10 : (10 ≤ sizeLine) = True := eq_true (small_sz (by decide))
theorem sz_11 : (11 ≤ sizeLine) = True := eq_true (small_sz (by decide))
theorem sz_12 : (12 ≤ sizeLine) = True := eq_true (small_sz (by decide))
theorem forW_all {α : Type} {gs : Gs} {t : Tg} {body : DS} {E : DEnds} (g : α → D) (J : Nat → En → Sto → Prop) : ∀ (xs : List α) (n : Nat) {ρ : En} {S : Sto}, J n ρ S →
    (∀ (i : Nat) (a : α) (ρ : En) (S : Sto) (E' : DEnds), xs[i]? = some a → J (n + i) ρ S → E'.rt = E.rt → E'.bk = E.nx → (∀ ρ2 S2 ρ3 S3, Wk ρ3 ρ2 → S3.sub S2 → J (n + i + 1) ρ3 S3 → E'.nx ρ2 S2 ∧ E'.ct ρ2 S2) → gs.ok S ∧ t.d (g a) ρ fun ρ1 => body E' ρ1 S) →
    (∀ ρ S, J (n + xs.length) ρ S → gs.ok S ∧ E.nx ρ S) → forW gs t body E (xs.map g) ρ S
  | [], n, ρ, S, h0, _, hf => hf ρ S h0
  | a :: xs, n, ρ, S, h0, h, hf => by
    have ih : ∀ ρ3 S3, J (n + 1) ρ3 S3 → forW gs t body E (xs.map g) ρ3 S3 := fun ρ3 S3 j =>
      forW_all g J xs (n + 1) j (fun i a' ρ S E' e j1 e1 e2 k => h (i + 1) a' ρ S E' e (by rw [← Nat.add_assoc, Nat.add_right_comm]; exact j1) e1 e2 (by rw [← Nat.add_assoc, Nat.add_right_comm n i 1]; exact k)) fun ρ S j1 => hf ρ S (by rw [List.length_cons, Nat.add_comm xs.length, ← Nat.add_assoc]; exact j1)
    exact h 0 a ρ S _ rfl h0 rfl rfl fun ρ2 S2 ρ3 S3 w s j => ⟨⟨ρ3, S3, w, s, ih ρ3 S3 j⟩, ⟨ρ3, S3, w, s, ih ρ3 S3 j⟩⟩
def Fr (l : Nat) (S0 S : Sto) : Prop := ∀ m o, m ≠ l → S0 m = some o → S m = some o
theorem Fr.refl {l : Nat} {S : Sto} : Fr l S S := fun _ _ _ h => h
theorem Fr.sub {l : Nat} {S0 S S' : Sto} (f : Fr l S0 S) (s : S.sub S') : Fr l S0 S' := fun m o h e => s _ _ (f m o h e)
theorem Fr.of {l : Nat} {S S' : Sto} (s : S.sub S') : Fr l S S' := fun m o _ e => s _ _ e
theorem Fr.trans {l : Nat} {S0 S S' : Sto} (f : Fr l S0 S) (k : Fr l S S') : Fr l S0 S' := fun m o h e => k m o h (f m o h e)
theorem Fr.box {l : Nat} {S0 S : Sto} {o : Ob} (f : Fr l S0 S) : Fr l S0 (S.set l o) := fun m x h e => by rw [Sto.set_ne h]; exact f m x h e
theorem Fr.put {l n : Nat} {S0 S : Sto} {o : Ob} (f : Fr l S0 S) (h : S0 n = none) : Fr l S0 (S.set n o) := fun m x hm e => by
  by_cases q : m = n
  · rw [q, h] at e; cases e
  · rw [Sto.set_ne q]; exact f m x hm e
theorem Fr.fresh {l n : Nat} {S0 S : Sto} (f : Fr l S0 S) (hn : n ≠ l) (h : S n = none) : S0 n = none := by
  cases e : S0 n with
  | none => rfl
  | some o => rw [f n o hn e] at h; cases h
theorem Fr.new {l n : Nat} {S0 S : Sto} {o : Ob} (f : Fr l S0 S) (h : S n = none) : Fr l S0 (S.set n o) := f.sub (Sto.sub_set h)
theorem Fr.fin {l : Nat} {S0 S : Sto} {o : Ob} (f : Fr l S0 S) (h : S l = some o) : (S0.set l o).sub S := fun m x e => by
  by_cases q : m = l
  · rw [q, Sto.set_same] at e
    rw [q, h]; exact e
  · rw [Sto.set_ne q] at e
    exact f m x q e
theorem sub_set_new {S0 S : Sto} {n : Nat} {o : Ob} (s : S0.sub S) (h : S0 n = none) : S0.sub (S.set n o) := fun m x e => by
  by_cases q : m = n
  · rw [q, h] at e; cases e
  · rw [Sto.set_ne q]; exact s _ _ e
end LK
end
section
set_option Elab.async false
set_option linter.all false
set_option maxRecDepth 100000
set_option maxHeartbeats 400000
namespace LK
open PySem PySem.Spec PyProof.Rows L2 L3
def Wd.hd (w : Wd) (k : Nat) : Head := w.hs.getD k ("", [])
def Wd.vs (w : Wd) (k : Nat) : List Str := ("" : Str) :: (w.hd k).2
def putAt (r : Row) (k : Nat) (b : Str) : Row := r.take k ++ b :: r.drop (k + 1)
def Wd.twin (w : Wd) (k : Nat) (a b : Str) : Bool := (w.rows.filter fun r => decide (r.getD k "" = a)).all fun r => decide (w.ans r = w.ans (putAt r k b))
def addG (s : Str → Str → Bool) : List (List Str) → Str → List (List Str)
  | [], v => [[v]]
  | g :: gs, v => if s (g.headD "") v = true then (g ++ [v]) :: gs else g :: addG s gs v
def grpsOf (s : Str → Str → Bool) (vs : List Str) : List (List Str) := vs.foldl (addG s) []
def Wd.grps (w : Wd) (k : Nat) : List (List Str) := grpsOf (w.twin k) (w.vs k)
def Wd.line (w : Wd) (k : Nat) : List Str := (w.vs k).map fun v => (((w.grps k).filter fun g => decide (v ∈ g)).map (·.headD "")).headD ""
def Wd.turn (w : Wd) (ls : List (List Str)) (r : Row) : Row := (List.range w.hs.length).map fun k => (ls.getD k []).getD ((w.vs k).idxOf (r.getD k "")) ""
theorem hd_at {w : Wd} {k : Nat} (hk : k < w.hs.length) : w.hs[k]? = some (w.hd k) ∧ w.hd k ∈ w.hs := by
  have e : w.hd k = w.hs[k] := by unfold Wd.hd; rw [List.getD_eq_getElem?_getD, List.getElem?_eq_getElem hk]; rfl
  rw [e]
  exact ⟨List.getElem?_eq_getElem hk, List.getElem_mem hk⟩
theorem name_at {w : Wd} {k : Nat} (hk : k < w.hs.length) : w.names[k]? = some (w.hd k).1 ∧ (w.hd k).1 ∈ w.names := by
  unfold Wd.names
  rw [List.getElem?_map, (hd_at hk).1]
  exact ⟨rfl, List.mem_map.mpr ⟨_, (hd_at hk).2, rfl⟩⟩
theorem idx_of_nd {α : Type} [DecidableEq α] {xs : List α} {k : Nat} {x : α} (hn : xs.Nodup) (e : xs[k]? = some x) : xs.idxOf x = k := by
  obtain ⟨hk, rfl⟩ := List.getElem?_eq_some_iff.mp e
  exact hn.idxOf_getElem k hk
theorem name_idx {w : Wd} (hw : WOk w) {k : Nat} (hk : k < w.hs.length) : w.names.idxOf (w.hd k).1 = k := idx_of_nd hw.nd (name_at hk).1
end LK
end
section
set_option Elab.async false
set_option linter.all false
set_option maxRecDepth 100000
set_option maxHeartbeats 400000
namespace LK
open PySem PySem.Spec PyProof.Rows L2 L3
theorem cut_take {α : Type} (xs : List α) (k : Nat) : L3.cutD xs none (some (k : Int)) = xs.take k := by
  unfold L3.cutD
  have e : HT.sIx xs.length xs.length (some (k : Int)) = min k xs.length := HT.sIx_nat xs.length xs.length k
  rw [e, HT.sIx_none, List.drop_zero, Nat.sub_zero]
  rcases Nat.le_total k xs.length with h | h
  · rw [Nat.min_eq_left h]
  · rw [Nat.min_eq_right h, List.take_of_length_le (Nat.le_refl _), List.take_of_length_le h]
theorem cut_drop {α : Type} (xs : List α) (k : Nat) : L3.cutD xs (some (k : Int)) none = xs.drop k := by
  unfold L3.cutD
  have e : HT.sIx xs.length 0 (some (k : Int)) = min k xs.length := HT.sIx_nat xs.length 0 k
  rw [e, HT.sIx_none]
  rcases Nat.le_total k xs.length with h | h
  · rw [Nat.min_eq_left h, List.take_of_length_le (by rw [List.length_drop]; exact Nat.le_refl _)]
  · rw [Nat.min_eq_right h, List.drop_of_length_le (Nat.le_refl _), List.drop_of_length_le h, List.take_nil]
theorem cut_d1 {α : Type} (xs : List α) : L3.cutD xs (some 1) none = xs.drop 1 := cut_drop xs 1
theorem cut_t1 {α : Type} (xs : List α) : L3.cutD xs none (some 1) = xs.take 1 := cut_take xs 1
def Grp (S : Sto) (ls : List Nat) (gs : List (List Str)) : Prop := ls.map S = gs.map fun g => some (Ob.lst (g.map D.str))
theorem Grp.len {S : Sto} {ls : List Nat} {gs : List (List Str)} (h : Grp S ls gs) : ls.length = gs.length := by
  have := congrArg List.length h
  simpa using this
theorem Grp.sub {S S' : Sto} : ∀ {ls : List Nat} {gs : List (List Str)}, Grp S ls gs → S.sub S' → Grp S' ls gs
  | [], [], h, _ => rfl
  | l :: ls, g :: gs, h, s => by
    obtain ⟨h1, h2⟩ := List.cons_eq_cons.mp (show S l :: ls.map S = some (Ob.lst (g.map D.str)) :: gs.map (fun g => some (Ob.lst (g.map D.str))) from h)
    show S' l :: ls.map S' = _
    rw [s _ _ h1, show ls.map S' = _ from Grp.sub h2 s]; rfl
  | [], _ :: _, h, _ => by cases h
  | _ :: _, [], h, _ => by cases h
theorem Grp.mem {S : Sto} : ∀ {ls : List Nat} {gs : List (List Str)}, Grp S ls gs → ∀ p ∈ ls.zip gs, S p.1 = some (.lst (p.2.map D.str)) ∧ p.1 ∈ ls ∧ p.2 ∈ gs
  | [], _, _, p, hp => by simp at hp
  | _ :: _, [], h, _, _ => by cases h
  | l :: ls, g :: gs, h, p, hp => by
    obtain ⟨h1, h2⟩ := List.cons_eq_cons.mp (show S l :: ls.map S = some (Ob.lst (g.map D.str)) :: gs.map (fun g => some (Ob.lst (g.map D.str))) from h)
    rcases List.mem_cons.mp hp with rfl | hp
    · exact ⟨h1, List.mem_cons_self, List.mem_cons_self⟩
    · obtain ⟨a, b, c⟩ := Grp.mem h2 p hp
      exact ⟨a, List.mem_cons_of_mem _ b, List.mem_cons_of_mem _ c⟩
theorem Grp.put {S : Sto} {n : Nat} {o : Ob} {ls : List Nat} {gs : List (List Str)} (h : Grp S ls gs) (hn : n ∉ ls) : Grp (S.set n o) ls gs := by
  unfold Grp
  rw [← show ls.map S = _ from h]
  exact List.map_congr_left fun l hl => Sto.set_ne fun e => hn (e ▸ hl)
section
variable {K : PySem.W.Frag}
end
end LK
end
section
set_option Elab.async false
set_option linter.all false
set_option maxRecDepth 100000
set_option maxHeartbeats 400000
namespace LK
open PySem PySem.Spec PyProof.Rows L2 L3
section
variable {K : PySem.W.Frag}
end
end LK
end
section
set_option Elab.async false
set_option linter.all false
set_option maxRecDepth 100000
set_option maxHeartbeats 400000
namespace LK
open PySem PySem.Spec PyProof.Rows L2 L3
def Tup : List Head → List Str → Prop
  | [], [] => True
  | h :: hs, v :: t => v ∈ ("" : Str) :: h.2 ∧ Tup hs t
  | _, _ => False
theorem fold_rows : ∀ (hs : List Head) (rs : List Row) (r : Row), r ∈ hs.foldl grow rs ↔ ∃ r0 ∈ rs, ∃ t, r = r0 ++ t ∧ Tup hs t
  | [], rs, r => ⟨fun h => ⟨r, h, [], by simp, trivial⟩, fun ⟨r0, h, t, e, ht⟩ => by
      cases t with
      | nil => rw [e, List.append_nil]; exact h
      | cons a t => exact ht.elim⟩
  | h :: hs, rs, r => by
    rw [List.foldl_cons, fold_rows hs]
    constructor
    · rintro ⟨r1, h1, t, rfl, ht⟩
      obtain ⟨r0, h0, h1⟩ := List.mem_flatMap.mp h1
      obtain ⟨v, hv, rfl⟩ := List.mem_map.mp h1
      exact ⟨r0, h0, v :: t, by simp, hv, ht⟩
    · rintro ⟨r0, h0, t, rfl, ht⟩
      cases t with
      | nil => exact ht.elim
      | cons v t => exact ⟨r0 ++ [v], List.mem_flatMap.mpr ⟨r0, h0, List.mem_map.mpr ⟨v, ht.1, rfl⟩⟩, t, by simp, ht.2⟩
theorem rows_iff {w : Wd} {r : Row} : r ∈ w.rows ↔ Tup w.hs r := by
  show r ∈ w.hs.foldl grow [[]] ↔ _
  rw [fold_rows]
  exact ⟨fun ⟨r0, h0, t, e, ht⟩ => by rw [List.mem_singleton.mp h0] at e; rw [e]; exact ht, fun h => ⟨[], List.mem_singleton.mpr rfl, r, rfl, h⟩⟩
theorem Tup.get : ∀ {hs : List Head} {r : List Str} {k : Nat}, Tup hs r → k < hs.length → r.getD k "" ∈ ("" : Str) :: (hs.getD k ("", [])).2
  | h :: hs, v :: t, 0, ht, _ => ht.1
  | h :: hs, v :: t, k + 1, ht, hk => Tup.get (hs := hs) (r := t) (k := k) ht.2 (by simpa using hk)
  | [], _, _, _, hk => by simp at hk
  | _ :: _, [], _, ht, _ => ht.elim
theorem Tup.put : ∀ {hs : List Head} {r : List Str} {k : Nat} {b : Str}, Tup hs r → k < hs.length → b ∈ ("" : Str) :: (hs.getD k ("", [])).2 → Tup hs (putAt r k b)
  | h :: hs, v :: t, 0, b, ht, _, hb => ⟨hb, ht.2⟩
  | h :: hs, v :: t, k + 1, b, ht, hk, hb => ⟨ht.1, Tup.put (hs := hs) (r := t) (k := k) ht.2 (by simpa using hk) hb⟩
  | [], _, _, _, _, hk, _ => by simp at hk
  | _ :: _, [], _, _, ht, _, _ => ht.elim
theorem Tup.len : ∀ {hs : List Head} {r : List Str}, Tup hs r → r.length = hs.length
  | [], [], _ => rfl
  | h :: hs, v :: t, ht => by rw [List.length_cons, List.length_cons, Tup.len ht.2]
  | [], _ :: _, h => h.elim
  | _ :: _, [], h => h.elim
structure Eqv (s : Str → Str → Bool) (V : Str → Prop) : Prop where
  refl : ∀ a, V a → s a a = true
  symm : ∀ a b, V a → V b → s a b = true → s b a = true
  trans : ∀ a b c, V a → V b → V c → s a b = true → s b c = true → s a c = true
structure GP (s : Str → Str → Bool) (V : Str → Prop) (gs : List (List Str)) : Prop where
  ne : ∀ g ∈ gs, g ≠ []
  inV : ∀ g ∈ gs, ∀ x ∈ g, V x
  rep : ∀ g ∈ gs, ∀ x ∈ g, s (g.headD "") x = true
  sep : gs.Pairwise fun g g' => s (g.headD "") (g'.headD "") = false
theorem head_app {g : List Str} {v : Str} (h : g ≠ []) : (g ++ [v]).headD "" = g.headD "" := by
  cases g with
  | nil => exact absurd rfl h
  | cons a g => rfl
theorem addG_mem (s : Str → Str → Bool) : ∀ {gs : List (List Str)} {v : Str} {g : List Str}, (∀ g ∈ gs, g ≠ []) → g ∈ addG s gs v → g.headD "" = v ∨ ∃ g' ∈ gs, g.headD "" = g'.headD ""
  | [], v, g, _, h => by rw [List.mem_singleton.mp h]; exact .inl rfl
  | x :: gs, v, g, hn, h => by
    unfold addG at h
    split at h
    · rcases List.mem_cons.mp h with rfl | h
      · exact .inr ⟨x, List.mem_cons_self, head_app (hn x List.mem_cons_self)⟩
      · exact .inr ⟨g, List.mem_cons_of_mem _ h, rfl⟩
    · rcases List.mem_cons.mp h with rfl | h
      · exact .inr ⟨g, List.mem_cons_self, rfl⟩
      · rcases addG_mem s (fun g hg => hn g (List.mem_cons_of_mem _ hg)) h with e | ⟨g', h1, h2⟩
        · exact .inl e
        · exact .inr ⟨g', List.mem_cons_of_mem _ h1, h2⟩
theorem GP.add {s : Str → Str → Bool} {V : Str → Prop} (E : Eqv s V) {v : Str} (hv : V v) : ∀ {gs : List (List Str)}, GP s V gs → GP s V (addG s gs v)
  | [], _ => ⟨fun g h => by rw [List.mem_singleton.mp h]; simp, fun g h x hx => by rw [List.mem_singleton.mp h] at hx; rw [List.mem_singleton.mp hx]; exact hv, fun g h x hx => by rw [List.mem_singleton.mp h] at hx ⊢; rw [List.mem_singleton.mp hx]; exact E.refl v hv, List.pairwise_singleton _ _⟩
  | g :: gs, h => by
    obtain ⟨p1, p2⟩ := List.pairwise_cons.mp h.sep
    have ng := h.ne g List.mem_cons_self
    have tl : GP s V gs := ⟨fun x hx => h.ne x (List.mem_cons_of_mem _ hx), fun x hx => h.inV x (List.mem_cons_of_mem _ hx), fun x hx => h.rep x (List.mem_cons_of_mem _ hx), p2⟩
    unfold addG
    split
    · rename_i hs
      refine ⟨fun x hx => ?_, fun x hx y hy => ?_, fun x hx y hy => ?_, List.pairwise_cons.mpr ⟨fun x hx => ?_, p2⟩⟩
      · rcases List.mem_cons.mp hx with rfl | hx
        · simp
        · exact tl.ne x hx
      · rcases List.mem_cons.mp hx with rfl | hx
        · rcases List.mem_append.mp hy with hy | hy
          · exact h.inV g List.mem_cons_self y hy
          · rw [List.mem_singleton.mp hy]; exact hv
        · exact tl.inV x hx y hy
      · rcases List.mem_cons.mp hx with rfl | hx
        · rw [head_app ng]
          rcases List.mem_append.mp hy with hy | hy
          · exact h.rep g List.mem_cons_self y hy
          · rw [List.mem_singleton.mp hy]; exact hs
        · exact tl.rep x hx y hy
      · rw [head_app ng]; exact p1 x hx
    · rename_i hs
      have ih := GP.add E hv tl
      refine ⟨fun x hx => ?_, fun x hx => ?_, fun x hx => ?_, List.pairwise_cons.mpr ⟨fun x hx => ?_, ih.sep⟩⟩
      · rcases List.mem_cons.mp hx with rfl | hx
        · exact ng
        · exact ih.ne x hx
      · rcases List.mem_cons.mp hx with rfl | hx
        · exact h.inV x List.mem_cons_self
        · exact ih.inV x hx
      · rcases List.mem_cons.mp hx with rfl | hx
        · exact h.rep x List.mem_cons_self
        · exact ih.rep x hx
      · rcases addG_mem s tl.ne hx with e | ⟨g', h1, h2⟩
        · rw [e]; exact Bool.eq_false_iff.mpr hs
        · rw [h2]; exact p1 g' h1
end LK
end
section
set_option Elab.async false
set_option linter.all false
set_option maxRecDepth 100000
set_option maxHeartbeats 1000000
namespace LK
open PySem PySem.Spec PyProof.Rows L2 L3
def Wd.lookT (w : Wd) (r : Row) : List (Str × Str) → List Str
  | [] => []
  | t :: ts => t.1 :: if w.val r t.1 = t.2 then w.lookT r ts else []
def Wd.lookR (w : Wd) (r : Row) : List Rule → List Str
  | [] => []
  | x :: xs => w.lookT r x.1 ++ if w.fits r x.1 = true then [] else w.lookR r xs
def Wd.looked (w : Wd) (r : Row) : List Str := w.names.filter fun n => decide (n ∈ w.lookR r w.rs)
def srt (l : List Str) : List Str := l.mergeSort fun a b => !decide (slt b a)
def Wd.fitted (w : Wd) (r : Row) : List Str := match w.rs.filter fun x : Rule => w.fits r x.1 with
  | [] => []
  | x :: _ => srt (x.1.map (·.1))
theorem lookT_sub {w : Wd} {r : Row} : ∀ {ts : List (Str × Str)} {n : Str}, n ∈ w.lookT r ts → ∃ t ∈ ts, n = t.1
  | [], n, h => by cases h
  | t :: ts, n, h => by
    unfold Wd.lookT at h
    rcases List.mem_cons.mp h with rfl | h
    · exact ⟨t, List.mem_cons_self, rfl⟩
    · split at h
      · obtain ⟨u, hu, e⟩ := lookT_sub h
        exact ⟨u, List.mem_cons_of_mem _ hu, e⟩
      · cases h
theorem lookR_sub {w : Wd} {r : Row} : ∀ {rs : List Rule} {n : Str}, n ∈ w.lookR r rs → ∃ x ∈ rs, ∃ t ∈ x.1, n = t.1
  | [], n, h => by cases h
  | x :: xs, n, h => by
    unfold Wd.lookR at h
    rcases List.mem_append.mp h with h | h
    · obtain ⟨t, ht, e⟩ := lookT_sub h
      exact ⟨x, List.mem_cons_self, t, ht, e⟩
    · split at h
      · cases h
      · obtain ⟨y, hy, q⟩ := lookR_sub h
        exact ⟨y, List.mem_cons_of_mem _ hy, q⟩
theorem lookR_names {w : Wd} (hw : WOk w) {r : Row} {n : Str} (h : n ∈ w.lookR r w.rs) : n ∈ w.names := by
  obtain ⟨x, hx, t, ht, rfl⟩ := lookR_sub h
  exact hw.tn x hx t ht
theorem looked_of {w : Wd} (hw : WOk w) (hu : w.names.Pairwise slt) {r : Row} {ys : List Str} (hm : ∀ x, x ∈ ys ↔ x ∈ w.lookR r w.rs) (hn : ys.Nodup) (hs : sortedS ys = true) : ys = w.looked r := by
  refine up_eq (pw_up (sortedS_pw hs) hn) (hu.sublist (List.filter_sublist)) fun x => ?_
  unfold Wd.looked
  rw [hm, List.mem_filter, decide_eq_true_eq]
  exact ⟨fun h => ⟨lookR_names hw h, h⟩, fun h => h.2⟩
theorem names_len {w : Wd} (hw : WOk w) : w.names.length ≤ 6 := by
  unfold Wd.names
  rw [List.length_map]; exact hw.hl
def dicT (ks : List Str) : Ob := .dic (ks.map Sum.inr) (ks.map fun _ => .bl true)
theorem addK_mem (ks : List Str) (n x : Str) : x ∈ addK ks n ↔ x ∈ ks ∨ x = n := by
  have := foldK_mem [n] ks x
  simpa [foldK] using this
theorem addK_nd {ks : List Str} (n : Str) (h : ks.Nodup) : (addK ks n).Nodup := foldK_nd [n] ks h
end LK
end
section
set_option Elab.async false
set_option linter.all false
set_option maxRecDepth 100000
set_option maxHeartbeats 1000000
namespace LK
open PySem PySem.Spec PyProof.Rows L2 L3
structure Up (w : Wd) : Prop extends WOk w where
  up : w.names.Pairwise slt
  t64 : ∀ x ∈ w.rs, x.1.length < 64
  r9 : w.rs.length ≤ 12
structure LI (w : Wd) (r : Row) (S S' : Sto) (lf : Nat) (ks rest : List Str) : Prop where
  sub : S.sub S'
  at_ : S' lf = some (dicT ks)
  nd : ks.Nodup
  mem : ∀ x, x ∈ w.lookR r w.rs ↔ x ∈ ks ∨ x ∈ rest
theorem LI.put {w : Wd} {r : Row} {S S1 : Sto} {lf : Nat} {k1 rest : List Str} {n : Str} (h : LI w r S S1 lf k1 (n :: rest)) (hlf : S lf = none) : LI w r S (S1.set lf (dicT (addK k1 n))) lf (addK k1 n) rest :=
  ⟨sub_set_new h.sub hlf, Sto.set_same, addK_nd n h.nd, fun x => by rw [h.mem, addK_mem, List.mem_cons, or_assoc]⟩
theorem nd_len {l m : List Str} (hl : l.Nodup) (hm : m.Nodup) (h : ∀ x ∈ l, x ∈ m) : l.length ≤ m.length := by
  have hp : l.Perm (m.filter fun x => decide (x ∈ l)) := (List.perm_ext_iff_of_nodup hl (hm.filter _)).mpr fun x => by
    rw [List.mem_filter, decide_eq_true_eq]
    exact ⟨fun q => ⟨h x q, q⟩, fun q => q.2⟩
  rw [hp.length_eq]
  exact List.length_filter_le _ _
theorem LI.len {w : Wd} {r : Row} {S S1 : Sto} {lf : Nat} {k1 rest : List Str} (h : LI w r S S1 lf k1 rest) (hw : WOk w) : k1.length ≤ 6 :=
  Nat.le_trans (nd_len h.nd hw.nd fun x hx => lookR_names hw ((h.mem x).mpr (.inl hx))) (names_len hw)
theorem LI.done {w : Wd} {r : Row} {S S1 : Sto} {lf : Nat} {k1 : List Str} {Q : DK} {ρ : En} (h : LI w r S S1 lf k1 []) (hw : Up w) (q : Q (rowD (w.looked r)) S) (e : ρ[2]? = some (some (.ref lf)) := by rfl) : ∃ v, ρ[2]? = some (some v) ∧ ∃ x, dicD S1 v = some x ∧ ∃ ks, x.1 = ks.map Sum.inr ∧ ks.length < 64 ∧ ∀ ys : List Str, ys.Perm ks → sortedS ys = true → drp (Q (.tup (ys.map .str))) S1 := by
  refine ⟨_, e, (k1.map Sum.inr, k1.map fun _ => .bl true), ?_, k1, rfl, by have := h.len hw.toWOk; omega, fun ys hp hs => ⟨S, h.sub, ?_⟩⟩
  · show (match S1 lf with | some (.dic ks ds) => some (ks, ds) | _ => none) = _
    rw [h.at_]
    rfl
  · have := looked_of hw.toWOk hw.up (r := r) (fun x => by rw [h.mem, hp.mem_iff]; simp) (hp.nodup_iff.mpr h.nd) hs
    rw [this]
    exact q
structure LJ (w : Wd) (r : Row) (S S' : Sto) (lf : Nat) (xs rest : List Str) : Prop where
  sub : S.sub S'
  at_ : S' lf = some (.lst (xs.map .str))
  mem : ∀ x, x ∈ w.lookR r w.rs ↔ x ∈ xs ∨ x ∈ rest
theorem LJ.put {w : Wd} {r : Row} {S S1 : Sto} {lf : Nat} {k1 rest : List Str} {n : Str} (h : LJ w r S S1 lf k1 (n :: rest)) (hlf : S lf = none) : LJ w r S (S1.set lf (.lst ((k1 ++ [n]).map .str))) lf (k1 ++ [n]) rest :=
  ⟨sub_set_new h.sub hlf, Sto.set_same, fun x => by rw [h.mem, List.mem_append, List.mem_cons, List.mem_singleton, or_assoc]⟩
theorem at0 (α : Type) (f : α → D) (x : α) (xs : List α) : atI ((x :: xs).map f) 0 = some (f x) := by simp [atI, ixN]
section
variable {K : PySem.W.Frag}
end
end LK
end
section
set_option Elab.async false
set_option linter.all false
set_option maxRecDepth 100000
set_option maxHeartbeats 1000000
namespace LK
open PySem PySem.Spec PyProof.Rows L2 L3
def Wd.alike (w : Wd) (a b : Row) (ns : List Str) : Bool := ns.all fun n => decide (w.val a n = w.val b n)
def Wd.bad (w : Wd) (r : Row) (ns : List Str) : Option Row := w.rows.find? fun o => w.alike r o ns && !decide (w.ans o = w.ans r)
def Wd.safe (w : Wd) (r : Row) (ns : List Str) : Bool := (w.bad r ns).isNone
def subs (ns : List Str) : List (List Str) := ns.foldl (fun f n => f ++ f.map fun s => s ++ [n]) [[]]
def Wd.lists (w : Wd) : List (List Str) := (subs w.names).mergeSort lnLe
def Wd.safes (w : Wd) (r : Row) : List (List Str) := w.lists.filter (w.safe r)
def Wd.least (w : Wd) (r : Row) : List Str := (w.safes r).headD []
theorem foldl_subs : ∀ (ns : List Str) (f : List (List Str)) (s : List Str), s ∈ ns.foldl (fun f n => f ++ f.map fun s => s ++ [n]) f ↔ ∃ a ∈ f, ∃ t, t.Sublist ns ∧ s = a ++ t
  | [], f, s => by simp
  | n :: ns, f, s => by
    rw [List.foldl_cons, foldl_subs ns]
    constructor
    · rintro ⟨a, ha, t, ht, rfl⟩
      rcases List.mem_append.mp ha with ha | ha
      · exact ⟨a, ha, t, ht.cons _, rfl⟩
      · obtain ⟨b, hb, rfl⟩ := List.mem_map.mp ha
        exact ⟨b, hb, n :: t, ht.cons_cons _, by simp⟩
    · rintro ⟨a, ha, t, ht, rfl⟩
      cases ht with
      | cons _ h => exact ⟨a, List.mem_append_left _ ha, t, h, rfl⟩
      | cons_cons _ h => exact ⟨a ++ [n], List.mem_append_right _ (List.mem_map.mpr ⟨a, ha, rfl⟩), _, h, by simp⟩
theorem subs_iff {ns s : List Str} : s ∈ subs ns ↔ s.Sublist ns := by
  unfold subs
  rw [foldl_subs]
  simp
theorem lists_iff {w : Wd} {s : List Str} : s ∈ w.lists ↔ s.Sublist w.names := by
  unfold Wd.lists
  rw [List.mem_mergeSort, subs_iff]
structure NsOk (w : Wd) (ns : List Str) : Prop where
  mem : ∀ n ∈ ns, n ∈ w.names
  len : ns.length ≤ 100
theorem val_hd {w : Wd} (hw : WOk w) (r : Row) {k : Nat} (hk : k < w.hs.length) : w.val r (w.hd k).1 = r.getD k "" := by
  unfold Wd.val
  rw [name_idx hw hk]
theorem ext_row {w : Wd} (hw : WOk w) {a b : Row} (ha : a.length = w.hs.length) (hb : b.length = w.hs.length) (h : ∀ n ∈ w.names, w.val a n = w.val b n) : a = b := by
  apply List.ext_getElem (by rw [ha, hb])
  intro k h1 h2
  have hk : k < w.hs.length := by omega
  have e := h _ (name_at hk).2
  rw [val_hd hw a hk, val_hd hw b hk] at e
  rw [List.getD_eq_getElem?_getD, List.getD_eq_getElem?_getD, List.getElem?_eq_getElem h1, List.getElem?_eq_getElem h2] at e
  exact e
theorem alike_iff {w : Wd} {a b : Row} {ns : List Str} : w.alike a b ns = true ↔ ∀ n ∈ ns, w.val a n = w.val b n := by
  unfold Wd.alike
  simp
theorem alike_symm {w : Wd} {a b : Row} {ns : List Str} (h : w.alike a b ns = true) : w.alike b a ns = true := alike_iff.mpr fun n hn => (alike_iff.mp h n hn).symm
theorem alike_trans {w : Wd} {a b c : Row} {ns : List Str} (h : w.alike a b ns = true) (k : w.alike b c ns = true) : w.alike a c ns = true := alike_iff.mpr fun n hn => (alike_iff.mp h n hn).trans (alike_iff.mp k n hn)
theorem alike_sub {w : Wd} {a b : Row} {ns ms : List Str} (h : w.alike a b ns = true) (k : ∀ n ∈ ms, n ∈ ns) : w.alike a b ms = true := alike_iff.mpr fun n hn => alike_iff.mp h n (k n hn)
theorem safe_iff {w : Wd} {r : Row} {ns : List Str} : w.safe r ns = true ↔ ∀ o ∈ w.rows, w.alike r o ns = true → w.ans o = w.ans r := by
  unfold Wd.safe Wd.bad
  rw [Option.isNone_iff_eq_none, List.find?_eq_none]
  simp only [Bool.and_eq_true, Bool.not_eq_true', decide_eq_false_iff_not, not_and, Decidable.not_not]
theorem row_len {w : Wd} {r : Row} (h : r ∈ w.rows) : r.length = w.hs.length := Tup.len (rows_iff.mp h)
theorem names_safe {w : Wd} (hw : WOk w) {r : Row} (hr : r.length = w.hs.length) : w.safe r w.names = true := safe_iff.mpr fun o ho h => by
  rw [ext_row hw hr (row_len ho) (alike_iff.mp h)]
theorem safes_iff {w : Wd} {r : Row} {s : List Str} : s ∈ w.safes r ↔ s.Sublist w.names ∧ w.safe r s = true := by
  unfold Wd.safes
  rw [List.mem_filter, lists_iff]
theorem safes_ne {w : Wd} (hw : WOk w) {r : Row} (hr : r.length = w.hs.length) : w.safes r ≠ [] := fun e => by
  have : w.names ∈ w.safes r := safes_iff.mpr ⟨List.Sublist.refl _, names_safe hw hr⟩
  rw [e] at this
  cases this
theorem least_mem {w : Wd} (hw : WOk w) {r : Row} (hr : r.length = w.hs.length) : w.least r ∈ w.safes r := by
  unfold Wd.least
  cases e : w.safes r with
  | nil => exact absurd e (safes_ne hw hr)
  | cons x xs => exact List.mem_cons_self
end LK
end
section
set_option Elab.async false
set_option linter.all false
set_option maxRecDepth 100000
set_option maxHeartbeats 1000000
namespace LK
open PySem PySem.Spec PyProof.Rows L2 L3
def Wd.shown (w : Wd) (r : Row) (ns : List Str) (due : Str) : Option Row := w.rows.find? fun o => w.alike r o ns && !decide (w.ans o = due)
section
variable {S : Sto} {w : Wd} {r a b : Row} {ns : List Str} {v u x : D} {Q : DK} {E : DXK}
end
section
variable {K : PySem.W.Frag}
end
end LK
end
section
set_option Elab.async false
set_option linter.all false
set_option maxRecDepth 100000
set_option maxHeartbeats 1000000
namespace LK
open PySem PySem.Spec PyProof.Rows L2 L3
section
variable {S : Sto} {w : Wd} {r a b : Row} {ns : List Str} {v u x : D} {Q : DK} {E : DXK} {l : Nat} {c : Int}
theorem c__law_of {es : List D} (hv : ∀ o, seqD (S.set l o) v = some es) (hv0 : seqD S v = some es) (hne : es ≠ []) (hz : es.length < 1000) (hB : Bx S l c) (hc : c ≤ 2 ^ 40)
    (q : ∀ e S1, e ∈ es → Fr l S S1 → Bx S1 l (c + 1) → (∀ m, S1 m = none → S m = none) → Q e S1) : sp__law_of [.ref l, v] S Q E :=
  ⟨l, v, es, c, rfl, hv, hv0, hne, hz, hB, hc, fun e o he hO => q e _ he Fr.refl.box (Bx.of hO) fun m hm => by
    obtain ⟨ob, hob, _⟩ := hB
    by_cases k : m = l
    · rw [k, Sto.set_same] at hm; cases hm
    · rw [Sto.set_ne k] at hm; exact hm⟩
theorem c__law_of_lst {es : List D} (hne : es ≠ []) (hz : es.length < 1000) (hB : Bx S l c) (hc : c ≤ 2 ^ 40)
    (q : ∀ e S1, e ∈ es → Fr l S S1 → Bx S1 l (c + 1) → (∀ m, S1 m = none → S m = none) → Q e S1) : sp__law_of [.ref l, .lst es] S Q E :=
  c__law_of (fun _ => rfl) rfl hne hz hB hc q
theorem c__law_take {m : Int} (h0 : 0 < m) (h1 : m < 2 ^ 30) (hB : Bx S l c) (hc : c ≤ 2 ^ 40)
    (q : ∀ i S1, 0 ≤ i → i < m → Fr l S S1 → Bx S1 l (c + 1) → (∀ m, S1 m = none → S m = none) → Q (.int i) S1) : sp__law_take [.ref l, .int m] S Q E :=
  ⟨l, m, c, rfl, h0, h1, hB, hc, fun i o a b hO => q i _ a b Fr.refl.box (Bx.of hO) fun m hm => by
    by_cases k : m = l
    · rw [k, Sto.set_same] at hm; cases hm
    · rw [Sto.set_ne k] at hm; exact hm⟩
structure Drawn (w : Wd) : Prop extends WS w where
  h2 : 2 ≤ w.hs.length
  ne : ∀ h ∈ w.hs, h.2 ≠ []
  r2 : 2 ≤ w.rs.length
  x : WX w
theorem c__law_lists {n : Nat} {z : D} (h : lisO n v = some z) (q : Q z S) : sp__law_lists n [v] S Q E := ⟨v, z, rfl, h, q⟩
theorem c__law_same {n : Nat} {g d : D} (h : sameP n S g d) (q : Q (.bl true) S) : sp__law_same n [g, d] S Q E := ⟨g, d, rfl, h, q⟩
end
theorem tyB_at {S : Sto} {l : Nat} {ds : List D} (h : S l = some (.lst ds)) : tyB S "list" (.ref l) := .inl ⟨rfl, ds, by show (match S l with | some (.lst ds) => some ds | _ => none) = some ds; rw [h]⟩
theorem Bx.sub {S S' : Sto} {l : Nat} {c : Int} (h : Bx S l c) (s : S.sub S') : Bx S' l c := let ⟨o, e, k⟩ := h; ⟨o, s _ _ e, k⟩
theorem cut_mem {α : Type} {xs : List α} {lo hi : Option Int} {x : α} (h : x ∈ L3.cutD xs lo hi) : x ∈ xs := by
  unfold L3.cutD at h
  exact List.mem_of_mem_drop (List.mem_of_mem_take h)
theorem same_list {α : Type} {f : α → D} {n : Nat} {S : Sto} {g : D} {xs : List α} (hz : xs.length ≤ 16777216) (hg : lstD S g = some (xs.map f)) (ht : tyD S g = some "list") (h : ∀ x ∈ xs, sameP n S (f x) (f x)) : sameP (n + 1) S g (.lst (xs.map f)) := by
  refine ⟨small_sz (by rw [List.length_map]; exact hz), xs.map f, hg, ht, rfl, fun p hp => ?_⟩
  rw [List.zip_eq_zipWith, List.zipWith_map, List.zipWith_self] at hp
  obtain ⟨x, hx, rfl⟩ := List.mem_map.mp hp
  exact h x hx
theorem same_lfrz {α : Type} {f : α → D} {n : Nat} {S : Sto} {xs : List α} (hz : xs.length ≤ 16777216) (h : ∀ x ∈ xs, sameP n S (f x) (f x)) : sameP (n + 1) S (.lst (xs.map f)) (.lst (xs.map f)) :=
  same_list hz rfl rfl h
end LK
end
section
set_option Elab.async false
set_option linter.all false
set_option maxRecDepth 100000
set_option maxHeartbeats 1000000
namespace LK
open PySem PySem.Spec PyProof.Rows L2 L3
abbrev Hand := List (Str × List Str)
def pairD (p : Str × List Str) : D := .tup [.str p.1, rowD p.2]
def handD (h : Hand) : D := .tup (h.map pairD)
def handGet (h : Hand) (a : Str) : List Str := ((h.find? fun p => decide (p.1 = a)).map (·.2)).getD []
structure IsHand (S : Sto) (v : D) (h : Hand) : Prop where
  top : topO S 8 v = some (handD h)
  py : ∃ ps, pyR S v = some (.tuple ps) ∧ SeqAt.shaped (.tuple ps) = true ∨ pyR S v = some (.list ps) ∧ SeqAt.shaped (.list ps) = true
  nd : (h.map (·.1)).Nodup
  len : h.length ≤ 1000
inductive Told (S : Sto) (w : Wd) (r : Row) : D → List Str → Prop
  | looked : Up w → Told S w r (.str "looked") (w.looked r)
  | fitted : Up w → Told S w r (.str "fitted") (w.fitted r)
  | every : Told S w r (.str "every") w.names
  | least : Told S w r (.str "least") (w.least r)
  | hand {v h} : IsHand S v h → Told S w r v (handGet h (w.ans r))
theorem pyR_mono {S S' : Sto} {v : D} {p : PyData} (h : pyR S v = some p) (s : S.sub S') : pyR S' v = some p := by
  cases v with
  | ref l =>
    have h' : (match S l with
      | some (.lst ds) => (pyDs ds).map PyData.list
      | _ => none) = some p := h
    show (match S' l with
      | some (.lst ds) => (pyDs ds).map PyData.list
      | _ => none) = some p
    cases e : S l with
    | none => rw [e] at h'; cases h'
    | some o => rw [s _ _ e]; rw [e] at h'; exact h'
  | _ => exact h
theorem IsHand.mono {S S' : Sto} {v : D} {h : Hand} (x : IsHand S v h) (s : S.sub S') : IsHand S' v h :=
  ⟨topO_mono x.top s, let ⟨ps, e⟩ := x.py; ⟨ps, e.imp (fun e => ⟨pyR_mono e.1 s, e.2⟩) fun e => ⟨pyR_mono e.1 s, e.2⟩⟩, x.nd, x.len⟩
theorem Told.mono {S S' : Sto} {w : Wd} {r : Row} {v : D} {ys : List Str} (x : Told S w r v ys) (s : S.sub S') : Told S' w r v ys := by
  cases x with
  | looked h => exact .looked h
  | fitted h => exact .fitted h
  | every => exact .every
  | least => exact .least
  | hand h => exact .hand (h.mono s)
section
variable {K : PySem.W.Frag}
end
end LK
end
section
set_option Elab.async false
set_option linter.all false
set_option maxRecDepth 100000
set_option maxHeartbeats 1000000
namespace LK
open PySem PySem.Spec PyProof.Rows L2 L3
end LK
end
section
set_option Elab.async false
set_option linter.all false
set_option maxRecDepth 100000
set_option maxHeartbeats 1000000
namespace LK
open PySem PySem.Spec PyProof.Rows L2 L3
abbrev Cp := Row × List Str × Str
def copyD (c : Cp) : D := .tup [rowD c.1, rowD c.2.1, .str c.2.2]
structure Sd where
  kind : Str
  L : D
  lst : Row → List Str
  cps : List Cp
  n : Int
abbrev cS (K : PySem.W.Frag) : Addr := He.ga K "Store"
def stF : List Str := ["own_world", "own_kind", "own_lister", "own_copies", "own_fetched"]
structure Lis (w : Wd) (L : D) (lst : Row → List Str) : Prop where
  told : ∀ S r, ROk w r → Told S w r L (lst r)
  ns : ∀ r, ROk w r → NsOk w (lst r)
  len : ∀ r, ROk w r → (lst r).length ≤ 63
structure CpOk (w : Wd) (c : Cp) : Prop where
  row : ROk w c.1
  ns : NsOk w c.2.1
  len : c.2.1.length ≤ 63
  so : PyData.strOk c.2.2 = true
structure SdOk (w : Wd) (s : Sd) : Prop where
  kd : PyData.strOk s.kind = true
  km : s.kind ∈ (["own", "first", "last", "all"] : List Str)
  li : Lis w s.L s.lst
  cp : ∀ c ∈ s.cps, CpOk w c
  len : s.cps.length ≤ 500
  up : w.names.Pairwise slt
structure HasSt (K : PySem.W.Frag) (S : Sto) (l lw lc : Nat) (w : Wd) (s : Sd) : Prop where
  ob : S l = some (.ins (cS K) stF [.ref lw, .str s.kind, s.L, .ref lc, .int s.n])
  wd : S lw = some (w.ob (cW K))
  cp : S lc = some (.lst (s.cps.map copyD))
def Fr2 (l lc : Nat) (S S' : Sto) : Prop := ∀ m o, m ≠ l → m ≠ lc → S m = some o → S' m = some o
def Sd.lists (s : Sd) : List (List Str) := if s.kind = "first" then (s.cps.map (·.2.1)).take 1 else if s.kind = "last" then L3.cutD (s.cps.map (·.2.1)) (some (-1)) none else s.cps.map (·.2.1)
def Sd.key (w : Wd) (s : Sd) : Option (List Str) := if s.kind = "own" then none else some (w.names.filter fun n => decide (n ∈ s.lists.flatten))
def Sd.found (w : Wd) (s : Sd) (r : Row) : Option Cp := s.cps.foldl (fun h c => if w.alike r c.1 ((s.key w).getD c.2.1) = true then some c else h) none
section
variable {α : Type} (a b c d e : α)
end
section
variable {K : PySem.W.Frag}
theorem HasSt.sub {S S' : Sto} {l lw lc : Nat} {w : Wd} {s : Sd} (h : HasSt K S l lw lc w s) (k : S.sub S') : HasSt K S' l lw lc w s := ⟨k _ _ h.ob, k _ _ h.wd, k _ _ h.cp⟩
theorem HasSt.ne {S : Sto} {l lw lc : Nat} {w : Wd} {s : Sd} (h : HasSt K S l lw lc w s) : lw ≠ l ∧ lc ≠ l ∧ lc ≠ lw := by
  refine ⟨fun e => ?_, fun e => ?_, fun e => ?_⟩
  · have := h.wd; rw [e, h.ob] at this; cases this
  · have := h.cp; rw [e, h.ob] at this; cases this
  · have := h.cp; rw [e, h.wd] at this; cases this
end
end LK
end
section
set_option Elab.async false
set_option linter.all false
set_option maxRecDepth 100000
set_option maxHeartbeats 1000000
namespace LK
open PySem PySem.Spec PyProof.Rows L2 L3
theorem lnLe_len {a b : List Str} (h : lnLe a b = true) : a.length ≤ b.length := by
  have h' : (!PySem.W.dataLt (lnK b) (lnK a)) = true := h
  unfold lnK at h'
  rw [PySem.W.dataLt_tuple, PySem.W.dataLt_cons (by simp [PySem.W.alike])] at h'
  by_cases e : (b.length : Int) = a.length
  · omega
  · rw [if_neg (by simpa [PyData.eqv] using e), PySem.W.dataLt_int] at h'
    simp at h'
    omega
end LK
end
section
set_option Elab.async false
set_option linter.all false
set_option maxRecDepth 100000
set_option maxHeartbeats 1000000
namespace LK
open PySem PySem.Spec PyProof.Rows L2 L3
structure HandOk (w : Wd) (h : Hand) : Prop where
  nd : (h.map (·.1)).Nodup
  len : h.length ≤ 6
  so : ∀ p ∈ h, PyData.strOk p.1 = true
  ns : ∀ p ∈ h, NsOk w p.2
end LK
end
section
set_option Elab.async false
set_option linter.all false
set_option maxRecDepth 100000
set_option maxHeartbeats 1000000
namespace LK
open PySem PySem.Spec PyProof.Rows L2 L3
section
variable {S : Sto} {w : Wd} {r : Row} {v u : D} {l k : Nat} {Q : DK} {E : DXK} {K : PySem.W.Frag}
end
section
variable {K : PySem.W.Frag}
end
end LK
end
section
set_option Elab.async false
set_option linter.all false
set_option maxRecDepth 100000
set_option maxHeartbeats 1000000
namespace LK
open PySem PySem.Spec PyProof.Rows L2 L3
section
variable {S : Sto} {w : Wd} {r : Row} {Q : DK} {E : DXK}
end
end LK
end
section
set_option Elab.async false
set_option linter.all false
set_option maxRecDepth 100000
set_option maxHeartbeats 1000000
namespace LK
open PySem PySem.Spec PyProof.Rows L2 L3
theorem same_tup {α : Type} {f : α → D} {n : Nat} {S : Sto} {xs : List α} (hz : xs.length ≤ 16777216) (h : ∀ x ∈ xs, sameP n S (f x) (f x)) : sameP (n + 1) S (.tup (xs.map f)) (.tup (xs.map f)) := by
  refine ⟨small_sz (by rw [List.length_map]; exact hz), xs.map f, rfl, rfl, fun p hp => ?_⟩
  rw [List.zip_eq_zipWith, List.zipWith_map, List.zipWith_self] at hp
  obtain ⟨r, hr, rfl⟩ := List.mem_map.mp hp
  exact h r hr
theorem same_all {S : Sto} {n : Nat} {ds : List D} (hz : ds.length ≤ 1000) (h : ∀ d ∈ ds, sameP n S d d) : sameP (n + 1) S (.lst ds) (.lst ds) := by
  have := same_lfrz (f := fun d : D => d) (n := n) (S := S) (xs := ds) (by omega) h
  simpa using this
section
variable {S : Sto} {w : Wd} {l : Nat} {c : Int} {Q : DK} {E : DXK}
end
end LK
end
section
set_option Elab.async false
set_option linter.all false
set_option maxRecDepth 100000
set_option maxHeartbeats 1000000
namespace LK
open PySem PySem.Spec PyProof.Rows L2 L3
end LK
end
section
set_option Elab.async false
set_option linter.all false
set_option maxRecDepth 100000
set_option maxHeartbeats 1000000
namespace LK
open PySem PySem.Spec PyProof.Rows L2 L3
def Sd.given (w : Wd) (s : Sd) (r : Row) : List Cp := s.cps.filter fun c => w.alike r c.1 ((s.key w).getD c.2.1)
def LkOf (w : Wd) (L : D) (lst : Row → List Str) : Prop := (L = .str "looked" ∧ lst = w.looked) ∨ (L = .str "fitted" ∧ lst = w.fitted) ∨ (L = .str "least" ∧ lst = w.least) ∨ (L = .str "every" ∧ lst = fun _ => w.names) ∨
  ∃ h : Hand, L = handD h ∧ (lst = fun r => handGet h (w.ans r)) ∧ HandOk w h ∧ ∀ p ∈ h, p.2.length ≤ 63
theorem found_given (w : Wd) (s : Sd) (r : Row) : s.found w r = (s.given w r).getLast? := by
  unfold Sd.found Sd.given
  have : ∀ (cs : List Cp) (h : Option Cp) (p : Cp → Bool), cs.foldl (fun h c => if p c = true then some c else h) h = ((cs.filter p).getLast?).or h := by
    intro cs
    induction cs with
    | nil => intro h p; rfl
    | cons c cs ih =>
      intro h p
      rw [List.foldl_cons, ih, List.filter_cons]
      cases e : p c with
      | false => rw [if_neg Bool.false_ne_true, if_neg Bool.false_ne_true]
      | true =>
        rw [if_pos rfl, if_pos rfl, List.getLast?_cons]
        cases (cs.filter p).getLast? <;> rfl
  rw [this s.cps none fun c => w.alike r c.1 ((s.key w).getD c.2.1)]
  cases (s.cps.filter fun c => w.alike r c.1 ((s.key w).getD c.2.1)).getLast? <;> rfl
end LK
end
section
set_option Elab.async false
set_option linter.all false
set_option maxRecDepth 100000
set_option maxHeartbeats 1000000
namespace LK
open PySem PySem.Spec PyProof.Rows L2 L3
def s0 (kind : Str) (L : D) (lst : Row → List Str) : Sd := ⟨kind, L, lst, [], 0⟩
theorem cut_last {α : Type} (xs : List α) : L3.cutD xs (some (-1)) none = xs.getLast?.toList := by
  unfold L3.cutD
  have h1 : HT.sIx xs.length 0 (some (-1)) = xs.length - 1 := by
    show (if (-1 : Int) < 0 then ((-1 : Int) + (xs.length : Int)).toNat else min (-1 : Int).toNat xs.length) = _
    rw [if_pos (by decide)]
    omega
  have h2 : HT.sIx xs.length xs.length none = xs.length := rfl
  rw [h1, h2]
  rcases List.eq_nil_or_concat xs with rfl | ⟨ys, y, rfl⟩
  · rfl
  · rw [List.concat_eq_append, List.length_append, List.getLast?_append]
    simp
theorem own_key {w : Wd} {s : Sd} (h : s.kind = "own") : s.key w = none := if_pos h
end LK
end
section
set_option Elab.async false
set_option linter.all false
set_option maxRecDepth 100000
set_option maxHeartbeats 1000000
namespace LK
open PySem PySem.Spec PyProof.Rows L2 L3
end LK
end
section
set_option Elab.async false
set_option linter.all false
set_option maxRecDepth 100000
set_option maxHeartbeats 1000000
namespace LK
open PySem PySem.Spec PyProof.Rows L2 L3
section
variable {K : PySem.W.Frag}
end
end LK
end
section
set_option Elab.async false
set_option linter.all false
set_option maxRecDepth 100000
set_option maxHeartbeats 1000000
namespace LK
open PySem PySem.Spec PyProof.Rows L2 L3
theorem slt_tri {a b : Str} (h : ¬ slt a b) (k : ¬ slt b a) : a = b := by
  have e : a.cps.toList = b.cps.toList := List.le_antisymm (List.not_lt.mp k) (List.not_lt.mp h)
  cases a; cases b
  simp only at e
  rw [Str.mk.injEq]
  exact Array.ext' e
theorem strs_anti : ∀ {a b : List Str}, a.length = b.length → PySem.W.dataLt (.tuple (a.map .str)) (.tuple (b.map .str)) = false → PySem.W.dataLt (.tuple (b.map .str)) (.tuple (a.map .str)) = false → a = b
  | [], [], _, _, _ => rfl
  | [], _ :: _, z, _, _ => by simp at z
  | _ :: _, [], z, _, _ => by simp at z
  | x :: xs, y :: ys, z, h, k => by
    rw [List.map_cons, List.map_cons, PySem.W.dataLt_tuple, PySem.W.dataLt_cons (by simp [PySem.W.alike])] at h k
    by_cases e : x = y
    · subst e
      rw [if_pos (by simp [PyData.eqv])] at h k
      rw [strs_anti (a := xs) (b := ys) (by simpa using z) (by rw [PySem.W.dataLt_tuple]; exact h) (by rw [PySem.W.dataLt_tuple]; exact k)]
    · rw [if_neg (by simpa [PyData.eqv] using e), PySem.W.dataLt_str] at h
      rw [if_neg (by simpa [PyData.eqv] using Ne.symm e), PySem.W.dataLt_str] at k
      exact absurd (slt_tri (of_decide_eq_false h) (of_decide_eq_false k)) e
theorem lnLe_anti {a b : List Str} (h : lnLe a b = true) (k : lnLe b a = true) : a = b := by
  have z : a.length = b.length := Nat.le_antisymm (lnLe_len h) (lnLe_len k)
  have h' : PySem.W.dataLt (lnK b) (lnK a) = false := by
    have : (!PySem.W.dataLt (lnK b) (lnK a)) = true := h
    simpa using this
  have k' : PySem.W.dataLt (lnK a) (lnK b) = false := by
    have : (!PySem.W.dataLt (lnK a) (lnK b)) = true := k
    simpa using this
  have ez : PyData.eqv (.int (a.length : Int)) (.int (b.length : Int)) = true := by rw [z]; simp [PyData.eqv]
  have ez' : PyData.eqv (.int (b.length : Int)) (.int (a.length : Int)) = true := by rw [z]; simp [PyData.eqv]
  unfold lnK at h' k'
  rw [PySem.W.dataLt_pair (by simp [PySem.W.alike]) (by simp [PySem.W.alike, alike_strs]), if_pos ez'] at h'
  rw [PySem.W.dataLt_pair (by simp [PySem.W.alike]) (by simp [PySem.W.alike, alike_strs]), if_pos ez] at k'
  by_cases e : PyData.eqv (PyData.tuple (a.map .str)) (.tuple (b.map .str)) = true
  · rw [eqv_row] at e
    exact of_decide_eq_true e
  · have e' : ¬ PyData.eqv (PyData.tuple (b.map .str)) (.tuple (a.map .str)) = true := fun q => e (by
      rw [eqv_row] at q ⊢
      rw [of_decide_eq_true q]
      exact decide_eq_true rfl)
    rw [if_neg e'] at h'
    rw [if_neg e] at k'
    exact strs_anti z k' h'
theorem lists_pw (w : Wd) : w.lists.Pairwise fun a b => lnLe a b = true := PySem.W.sort_pairwise (PySem.W.sortLe_total _ false _) (subs w.names)
theorem lnLe_refl (a : List Str) : lnLe a a = true := by
  rcases (PySem.W.sortLe_total _ false _ : PySem.W.TotalLe lnLe).total a a with h | h <;> exact h
theorem least_le {w : Wd} {r : Row} {s : List Str} (h : s ∈ w.safes r) : lnLe (w.least r) s = true := by
  have hp : (w.safes r).Pairwise fun a b => lnLe a b = true := (lists_pw w).sublist List.filter_sublist
  unfold Wd.least
  cases e : w.safes r with
  | nil => rw [e] at h; cases h
  | cons x xs =>
    rw [e] at h hp
    rcases List.mem_cons.mp h with rfl | h
    · exact lnLe_refl _
    · exact (List.pairwise_cons.mp hp).1 _ h
theorem least_eq {w : Wd} (hw : WOk w) {r : Row} (hr : r.length = w.hs.length) {s : List Str} (h : s ∈ w.safes r) (k : ∀ t ∈ w.safes r, lnLe s t = true) : w.least r = s :=
  lnLe_anti (least_le h) (k _ (least_mem hw hr))

structure More (w w2 : Wd) (A B : List Head) (h : Head) : Prop where
  e1 : w.hs = A ++ B
  e2 : w2.hs = A ++ h :: B
  er : w2.rs = w.rs
  ok : WOk w
  ok2 : WOk w2
def cutR (k : Nat) (r : Row) : Row := r.take k ++ r.drop (k + 1)
def insR (k : Nat) (v : Str) (r : Row) : Row := r.take k ++ v :: r.drop k
theorem cut_ins {k : Nat} {v : Str} {r : Row} (h : k ≤ r.length) : cutR k (insR k v r) = r := by
  unfold cutR insR
  have hk : (r.take k).length = k := by rw [List.length_take]; omega
  rw [List.take_append_of_le_length (by omega), List.take_of_length_le (by omega), List.drop_append, List.drop_eq_nil_of_le (by omega), hk, show k + 1 - k = 1 by omega]
  simp
theorem Tup.append : ∀ {A B : List Head} {r : Row}, Tup (A ++ B) r ↔ Tup A (r.take A.length) ∧ Tup B (r.drop A.length) ∧ A.length ≤ r.length
  | [], B, r => by simp [Tup]
  | a :: A, B, [] => by simp [Tup]
  | a :: A, B, v :: r => by
    show (v ∈ ("" : Str) :: a.2 ∧ Tup (A ++ B) r) ↔ (v ∈ ("" : Str) :: a.2 ∧ Tup A (r.take A.length)) ∧ Tup B (r.drop A.length) ∧ A.length + 1 ≤ r.length + 1
    rw [Tup.append (A := A)]
    constructor
    · rintro ⟨h1, h2, h3, h4⟩; exact ⟨⟨h1, h2⟩, h3, by omega⟩
    · rintro ⟨⟨h1, h2⟩, h3, h4⟩; exact ⟨h1, h2, h3, by omega⟩
theorem idx_in {l m : List Str} {a : Str} (h : a ∈ l) : (l ++ m).idxOf a = l.idxOf a := by rw [List.idxOf_append, if_pos h]
theorem idx_cons {l : List Str} {a b : Str} (h : a ≠ b) : (b :: l).idxOf a = l.idxOf a + 1 := by
  rw [List.idxOf_cons, beq_eq_false_iff_ne.mpr (Ne.symm h)]; rfl
theorem idx_out {l m : List Str} {a : Str} (h : a ∉ l) : (l ++ m).idxOf a = m.idxOf a + l.length := by rw [List.idxOf_append, if_neg h]
theorem getD_left {l m : List Str} {i : Nat} (h : i < l.length) : (l ++ m).getD i "" = l.getD i "" := by
  rw [List.getD_eq_getElem?_getD, List.getD_eq_getElem?_getD, List.getElem?_append_left h]
theorem getD_right {l m : List Str} {i : Nat} (h : l.length ≤ i) : (l ++ m).getD i "" = m.getD (i - l.length) "" := by
  rw [List.getD_eq_getElem?_getD, List.getD_eq_getElem?_getD, List.getElem?_append_right h]
section
variable {w w2 : Wd} {A B : List Head} {h : Head}
theorem More.nm (m : More w w2 A B h) : w.names = A.map (·.1) ++ B.map (·.1) := by unfold Wd.names; rw [m.e1, List.map_append]
theorem More.nm2 (m : More w w2 A B h) : w2.names = A.map (·.1) ++ h.1 :: B.map (·.1) := by unfold Wd.names; rw [m.e2, List.map_append]; rfl
theorem More.not (m : More w w2 A B h) : h.1 ∉ w.names := by
  have := m.ok2.nd
  rw [m.nm2, List.nodup_append] at this
  rw [m.nm]
  intro hh
  rcases List.mem_append.mp hh with q | q
  · exact this.2.2 _ q _ List.mem_cons_self rfl
  · exact (List.nodup_cons.mp this.2.1).1 q
theorem More.sub (m : More w w2 A B h) : w.names.Sublist w2.names := by
  rw [m.nm, m.nm2]
  exact (List.Sublist.refl _).append (List.sublist_cons_self _ _)
theorem More.rest (m : More w w2 A B h) : w2.names.filter (fun n => !decide (n = h.1)) = w.names := by
  have hn := m.not
  rw [m.nm] at hn
  rw [m.nm2, m.nm, List.filter_append, List.filter_cons, if_neg (by simp)]
  have : ∀ l : List Str, h.1 ∉ l → l.filter (fun n => !decide (n = h.1)) = l := fun l hl => List.filter_eq_self.mpr fun a ha => by
    have : a ≠ h.1 := fun e => hl (e ▸ ha)
    simp [this]
  rw [this _ fun q => hn (List.mem_append_left _ q), this _ fun q => hn (List.mem_append_right _ q)]
theorem More.len2 (m : More w w2 A B h) {r : Row} (hr : r.length = w2.hs.length) : r.length = A.length + 1 + B.length ∧ (cutR A.length r).length = w.hs.length := by
  rw [m.e2] at hr
  rw [m.e1]
  unfold cutR
  simp at hr ⊢
  omega
theorem More.val (m : More w w2 A B h) {r : Row} (hr : r.length = w2.hs.length) {n : Str} (hn : n ∈ w.names) : w2.val r n = w.val (cutR A.length r) n := by
  have hne : n ≠ h.1 := fun e => m.not (e ▸ hn)
  have hl := (m.len2 hr).1
  unfold Wd.val
  rw [m.nm] at hn
  rw [m.nm, m.nm2]
  have ht : (r.take A.length).length = A.length := by rw [List.length_take]; omega
  have hA : (A.map (·.1)).length = A.length := List.length_map _
  by_cases hA' : n ∈ A.map (·.1)
  · rw [idx_in hA', idx_in hA']
    have : (A.map (·.1)).idxOf n < A.length := by rw [← hA]; exact List.idxOf_lt_length_iff.mpr hA'
    unfold cutR
    rw [getD_left (by omega), List.getD_eq_getElem?_getD, List.getD_eq_getElem?_getD, List.getElem?_take_of_lt this]
  · rw [idx_out hA', idx_out hA', idx_cons hne, hA]
    unfold cutR
    rw [getD_right (by omega), ht, List.getD_eq_getElem?_getD, List.getD_eq_getElem?_getD, List.getElem?_drop]
    congr 2
    omega
theorem More.cut_row (m : More w w2 A B h) {r : Row} (hr : r ∈ w2.rows) : cutR A.length r ∈ w.rows := by
  have hl := row_len hr
  have hl2 := (m.len2 hl).1
  rw [rows_iff, m.e2, Tup.append] at hr
  rw [rows_iff, m.e1, Tup.append]
  unfold cutR
  have ht : (r.take A.length).length = A.length := by rw [List.length_take]; omega
  rw [List.take_append_of_le_length (by omega), List.take_of_length_le (by omega), List.drop_append, List.drop_eq_nil_of_le (by omega), ht, Nat.sub_self, List.nil_append, List.drop_zero]
  refine ⟨hr.1, ?_, by simp; omega⟩
  have h2 := hr.2.1
  cases e : r.drop A.length with
  | nil => rw [e] at h2; exact h2.elim
  | cons v t =>
    rw [e] at h2
    have : r.drop (A.length + 1) = t := by rw [← List.drop_drop, e]; rfl
    rw [this]
    exact h2.2
theorem More.ins_row (m : More w w2 A B h) {r : Row} {v : Str} (hr : r ∈ w.rows) (hv : v ∈ ("" : Str) :: h.2) : insR A.length v r ∈ w2.rows := by
  rw [rows_iff, m.e1, Tup.append] at hr
  rw [rows_iff, m.e2, Tup.append]
  unfold insR
  have ht : (r.take A.length).length = A.length := by rw [List.length_take]; omega
  rw [List.take_append_of_le_length (by omega), List.take_of_length_le (by omega), List.drop_append, List.drop_eq_nil_of_le (by omega), ht, Nat.sub_self, List.nil_append, List.drop_zero]
  exact ⟨hr.1, ⟨hv, hr.2.1⟩, by simp; omega⟩
theorem More.cut_len (m : More w w2 A B h) {r : Row} (hr : r ∈ w.rows) : A.length ≤ r.length := by
  rw [rows_iff, m.e1, Tup.append] at hr
  exact hr.2.2
theorem More.fits (m : More w w2 A B h) {r : Row} (hr : r.length = w2.hs.length) {ts : List (Str × Str)} (ht : ∀ t ∈ ts, t.1 ∈ w.names) : w2.fits r ts = w.fits (cutR A.length r) ts := by
  unfold Wd.fits
  induction ts with
  | nil => rfl
  | cons t ts ih =>
    rw [List.all_cons, List.all_cons, ih fun x hx => ht x (List.mem_cons_of_mem _ hx), m.val hr (ht t List.mem_cons_self)]
theorem More.rsel (m : More w w2 A B h) {r : Row} (hr : r.length = w2.hs.length) : (w2.rs.filter fun x : Rule => w2.fits r x.1) = w.rs.filter fun x : Rule => w.fits (cutR A.length r) x.1 := by
  rw [m.er]
  exact List.filter_congr fun x hx => m.fits hr (m.ok.tn x hx)
theorem More.ans (m : More w w2 A B h) {r : Row} (hr : r.length = w2.hs.length) : w2.ans r = w.ans (cutR A.length r) := by
  unfold Wd.ans
  rw [m.rsel hr]
theorem More.fitted (m : More w w2 A B h) {r : Row} (hr : r.length = w2.hs.length) : w2.fitted r = w.fitted (cutR A.length r) := by
  unfold Wd.fitted
  rw [m.rsel hr]
theorem More.lookT (m : More w w2 A B h) {r : Row} (hr : r.length = w2.hs.length) : ∀ {ts : List (Str × Str)}, (∀ t ∈ ts, t.1 ∈ w.names) → w2.lookT r ts = w.lookT (cutR A.length r) ts
  | [], _ => rfl
  | t :: ts, ht => by
    unfold Wd.lookT
    rw [m.val hr (ht t List.mem_cons_self), m.lookT hr fun x hx => ht x (List.mem_cons_of_mem _ hx)]
theorem More.lookR (m : More w w2 A B h) {r : Row} (hr : r.length = w2.hs.length) : ∀ {xs : List Rule}, (∀ x ∈ xs, ∀ t ∈ x.1, t.1 ∈ w.names) → w2.lookR r xs = w.lookR (cutR A.length r) xs
  | [], _ => rfl
  | x :: xs, ht => by
    unfold Wd.lookR
    rw [m.lookT hr (ht x List.mem_cons_self), m.fits hr (ht x List.mem_cons_self), m.lookR hr fun y hy => ht y (List.mem_cons_of_mem _ hy)]
theorem More.pick (m : More w w2 A B h) {xs : List Str} (hx : ∀ n ∈ xs, n ∈ w.names) : (w2.names.filter fun n => decide (n ∈ xs)) = w.names.filter fun n => decide (n ∈ xs) := by
  rw [← m.rest, List.filter_filter]
  refine List.filter_congr fun n _ => ?_
  by_cases e : n ∈ xs
  · have : n ≠ h.1 := fun q => m.not (q ▸ hx n e)
    simp [e, this]
  · simp [e]
theorem More.looked (m : More w w2 A B h) {r : Row} (hr : r.length = w2.hs.length) : w2.looked r = w.looked (cutR A.length r) := by
  unfold Wd.looked
  rw [m.er, m.lookR hr m.ok.tn]
  exact m.pick fun n hn => lookR_names m.ok hn
theorem More.alike (m : More w w2 A B h) {a b : Row} (ha : a.length = w2.hs.length) (hb : b.length = w2.hs.length) {ns : List Str} (hn : ∀ n ∈ ns, n ∈ w.names) : w2.alike a b ns = w.alike (cutR A.length a) (cutR A.length b) ns := by
  unfold Wd.alike
  induction ns with
  | nil => rfl
  | cons n ns ih => rw [List.all_cons, List.all_cons, ih fun x hx => hn x (List.mem_cons_of_mem _ hx), m.val ha (hn n List.mem_cons_self), m.val hb (hn n List.mem_cons_self)]
theorem More.safe (m : More w w2 A B h) {r : Row} (hr : r ∈ w2.rows) {ns : List Str} (hn : ∀ n ∈ ns, n ∈ w.names) : w2.safe r ns = true ↔ w.safe (cutR A.length r) ns = true := by
  have hl := row_len hr
  rw [safe_iff, safe_iff]
  constructor
  · intro k o ho ha
    have ho2 := m.ins_row ho (v := "") List.mem_cons_self
    have e := cut_ins (v := "") (m.cut_len ho)
    have := k _ ho2 (by rw [m.alike hl (row_len ho2) hn, e]; exact ha)
    rw [m.ans (row_len ho2), m.ans hl, e] at this
    exact this
  · intro k o ho ha
    rw [m.ans (row_len ho), m.ans hl]
    exact k _ (m.cut_row ho) (by rw [← m.alike hl (row_len ho) hn]; exact ha)
theorem More.drop (m : More w w2 A B h) {r : Row} (hr : r ∈ w2.rows) {ns : List Str} (hn : ns.Sublist w2.names) (hs : w2.safe r ns = true) : w2.safe r (ns.filter fun n => !decide (n = h.1)) = true := by
  have hl := row_len hr
  have hmem : ∀ n ∈ ns.filter (fun n => !decide (n = h.1)), n ∈ w.names := fun n hn' => by
    rw [← m.rest]
    obtain ⟨h1, h2⟩ := List.mem_filter.mp hn'
    exact List.mem_filter.mpr ⟨hn.subset h1, h2⟩
  rw [m.safe hr hmem, safe_iff]
  intro o ho ha
  -- the other row, with r's own value of the new header
  have hv : r.getD A.length "" ∈ ("" : Str) :: h.2 := by
    have := (rows_iff.mp hr).get (k := A.length) (by rw [m.e2]; simp)
    rw [m.e2] at this
    simpa using this
  have ho2 := m.ins_row ho hv
  have e := cut_ins (v := r.getD A.length "") (m.cut_len ho)
  have hl2 := (m.len2 hl).1
  have := safe_iff.mp hs _ ho2 (alike_iff.mpr fun n hn' => by
    by_cases en : n = h.1
    · subst en
      unfold Wd.val
      have hi : w2.names.idxOf h.1 = A.length := by
        rw [m.nm2, idx_out (fun q => m.not (by rw [m.nm]; exact List.mem_append_left _ q)), List.idxOf_cons_self, List.length_map]
        exact Nat.zero_add _
      rw [hi]
      unfold insR
      have ht : (o.take A.length).length = A.length := by have := m.cut_len ho; rw [List.length_take]; omega
      rw [getD_right (by omega), ht, Nat.sub_self]
      rfl
    · have hn2 : n ∈ ns.filter fun n => !decide (n = h.1) := List.mem_filter.mpr ⟨hn', by simp [en]⟩
      rw [m.val hl (hmem n hn2), m.val (row_len ho2) (hmem n hn2), e]
      exact alike_iff.mp ha n hn2)
  rw [m.ans (row_len ho2), m.ans hl, e] at this
  exact this
theorem More.least (m : More w w2 A B h) {r : Row} (hr : r ∈ w2.rows) : w2.least r = w.least (cutR A.length r) := by
  have hl := row_len hr
  have hl1 := (m.len2 hl).2
  have h1 := safes_iff.mp (least_mem m.ok hl1)
  refine least_eq m.ok2 hl (safes_iff.mpr ⟨h1.1.trans m.sub, (m.safe hr fun n hn => h1.1.subset hn).mpr h1.2⟩) fun t ht => ?_
  obtain ⟨t1, t2⟩ := safes_iff.mp ht
  have hs : (t.filter fun n => !decide (n = h.1)) ∈ w.safes (cutR A.length r) := by
    have hsub : (t.filter fun n => !decide (n = h.1)).Sublist w.names := by rw [← m.rest]; exact t1.filter _
    exact safes_iff.mpr ⟨hsub, (m.safe hr fun n hn => hsub.subset hn).mp (m.drop hr t1 t2)⟩
  have hle := least_le hs
  by_cases e : h.1 ∈ t
  · -- shorter
    have hlt : (t.filter fun n => !decide (n = h.1)).length < t.length := by
      rcases Nat.lt_or_ge (t.filter fun n => !decide (n = h.1)).length t.length with q | q
      · exact q
      · have := List.filter_sublist.eq_of_length_le q
        rw [← this] at e
        simp at e
    rcases (PySem.W.sortLe_total _ false _ : PySem.W.TotalLe lnLe).total (w.least (cutR A.length r)) t with q | q
    · exact q
    · have q1 := lnLe_len q
      have q2 := lnLe_len hle
      omega
  · have : (t.filter fun n => !decide (n = h.1)) = t := List.filter_eq_self.mpr fun a ha => by
      have : a ≠ h.1 := fun q => e (q ▸ ha)
      simp [this]
    rw [this] at hle
    exact hle
structure Beside (w w2 : Wd) (k : Nat) (s s2 : Sd) : Prop where
  kd : s2.kind = s.kind
  n : s2.n = s.n
  cp : s2.cps.map (fun c => (cutR k c.1, c.2)) = s.cps
  row : ∀ c ∈ s2.cps, c.1.length = w2.hs.length
  ns : ∀ c ∈ s2.cps, ∀ n ∈ c.2.1, n ∈ w.names
theorem Beside.lists {k : Nat} {s s2 : Sd} (b : Beside w w2 k s s2) : s2.lists = s.lists := by
  have e : s.cps.map (·.2.1) = s2.cps.map (·.2.1) := by rw [← b.cp, List.map_map]; rfl
  unfold Sd.lists
  rw [e, b.kd]
theorem Beside.lists_in {k : Nat} {s s2 : Sd} (b : Beside w w2 k s s2) : ∀ x ∈ s2.lists, ∀ n ∈ x, n ∈ w.names := fun x hx => by
  have h0 : ∀ x ∈ s2.cps.map (·.2.1), ∀ n ∈ x, n ∈ w.names := fun x hx => by
    obtain ⟨c, hc, rfl⟩ := List.mem_map.mp hx
    exact b.ns c hc
  unfold Sd.lists at hx
  split at hx
  · exact h0 x (List.mem_of_mem_take hx)
  · split at hx
    · exact h0 x (cut_mem hx)
    · exact h0 x hx
theorem Beside.key (m : More w w2 A B h) {s s2 : Sd} (b : Beside w w2 A.length s s2) : s2.key w2 = s.key w := by
  unfold Sd.key
  rw [b.kd, b.lists]
  by_cases e : s.kind = "own"
  · rw [if_pos e, if_pos e]
  · rw [if_neg e, if_neg e, m.pick fun n hn => ?_]
    obtain ⟨x, hx, hn⟩ := List.mem_flatten.mp hn
    rw [← b.lists] at hx
    exact b.lists_in x hx n hn
theorem key_in {w : Wd} {s : Sd} {ns : List Str} (e : s.key w = some ns) : ∀ n ∈ ns, n ∈ w.names := by
  unfold Sd.key at e
  by_cases q : s.kind = "own"
  · rw [if_pos q] at e; cases e
  · rw [if_neg q] at e
    cases e
    exact fun n hn => (List.mem_filter.mp hn).1
theorem Beside.given (m : More w w2 A B h) {s s2 : Sd} (b : Beside w w2 A.length s s2) {r : Row} (hr : r.length = w2.hs.length) : (s2.given w2 r).map (fun c => (cutR A.length c.1, c.2)) = s.given w (cutR A.length r) := by
  unfold Sd.given
  rw [← b.cp, List.filter_map, b.key m]
  congr 1
  refine List.filter_congr fun c hc => ?_
  show _ = w.alike (cutR A.length r) (cutR A.length c.1) ((s.key w).getD c.2.1)
  refine m.alike hr (b.row c hc) ?_
  cases e : s.key w with
  | none => exact b.ns c hc
  | some ns => exact key_in e
end
end LK
end
section
set_option Elab.async false
set_option linter.all false
set_option maxRecDepth 100000
set_option maxHeartbeats 1000000
namespace LK
open PySem PySem.Spec PyProof.Rows L2 L3
structure Sk where
  l : Nat
  lw : Nat
  lc : Nat
  w : Wd
  s : Sd
structure Fam (K : PySem.W.Frag) (S0 S : Sto) (l : Nat) (xs : List Sk) : Prop where
  st : ∀ x ∈ xs, HasSt K S x.l x.lw x.lc x.w x.s ∧ x.l ≠ l ∧ x.lc ≠ l ∧ S0 x.l = none ∧ S0 x.lc = none
  ne : xs.Pairwise fun x y => x.l ≠ y.l ∧ x.lc ≠ y.lc
  f : Fr l S0 S
section
variable {K : PySem.W.Frag} {S0 S S' : Sto} {l : Nat} {xs pre post : List Sk} {x : Sk}
theorem Fam.nil (f : Fr l S0 S) : Fam K S0 S l [] := ⟨fun _ h => (List.not_mem_nil h).elim, .nil, f⟩
theorem HasSt.fr {w : Wd} {s : Sd} {a b c : Nat} (h : HasSt K S a b c w s) (f : Fr l S S') (h1 : a ≠ l) (h2 : c ≠ l) (h3 : b ≠ l) : HasSt K S' a b c w s := ⟨f _ _ h1 h.ob, f _ _ h3 h.wd, f _ _ h2 h.cp⟩
theorem box_ne {c : Int} {n : Nat} {C : Addr} {ds : List (Option D)} (hB : Bx S l c) (h : S n = some (.slt C ds)) : n ≠ l := fun e => by
  obtain ⟨o, ho, a, b, k, rfl, _⟩ := hB
  rw [e, ho] at h; cases h
theorem Fam.box {c : Int} (F : Fam K S0 S l xs) (hB : Bx S l c) (f : Fr l S S') : Fam K S0 S' l xs := ⟨fun x hx => by
  obtain ⟨h, h1, h2, h3, h4⟩ := F.st x hx
  exact ⟨h.fr f h1 h2 (box_ne hB h.wd), h1, h2, h3, h4⟩, F.ne, F.f.trans f⟩
theorem Fam.sub (F : Fam K S0 S l xs) (s : S.sub S') : Fam K S0 S' l xs := ⟨fun x hx => by
  obtain ⟨h, h1⟩ := F.st x hx
  exact ⟨h.sub s, h1⟩, F.ne, F.f.sub s⟩
theorem Fam.at_ (F : Fam K S0 S l (pre ++ x :: post)) : HasSt K S x.l x.lw x.lc x.w x.s ∧ x.l ≠ l ∧ x.lc ≠ l ∧ S0 x.l = none ∧ S0 x.lc = none := F.st x (List.mem_append_right _ List.mem_cons_self)
theorem fam_ne {y : Sk} (h : (pre ++ x :: post).Pairwise fun x y => x.l ≠ y.l ∧ x.lc ≠ y.lc) (k : ∀ z, z ∈ pre ∨ z ∈ post → z.l ≠ y.l ∧ z.lc ≠ y.lc) : (pre ++ y :: post).Pairwise fun x y => x.l ≠ y.l ∧ x.lc ≠ y.lc := by
  obtain ⟨h1, h2, h3⟩ := List.pairwise_append.mp h
  obtain ⟨h4, h5⟩ := List.pairwise_cons.mp h2
  refine List.pairwise_append.mpr ⟨h1, List.pairwise_cons.mpr ⟨fun z hz => ?_, h5⟩, fun a ha b hb => ?_⟩
  · have := k z (.inr hz)
    exact ⟨Ne.symm this.1, Ne.symm this.2⟩
  · rcases List.mem_cons.mp hb with rfl | hb
    · exact k a (.inl ha)
    · exact h3 a ha b (List.mem_cons_of_mem _ hb)
theorem Fam.bx {c : Int} (F : Fam K S0 S l (pre ++ x :: post)) (f : Fr2 x.l x.lc S S') (hB : Bx S l c) : Bx S' l c := by
  obtain ⟨hx, n1, n2, z1, z2⟩ := F.at_
  obtain ⟨o, ho, k⟩ := hB
  exact ⟨o, f l o (Ne.symm n1) (Ne.symm n2) ho, k⟩
theorem Fam.init {o : Ob} {c : Int} {a lw lc : Nat} {w : Wd} {s : Sd} (F : Fam K S0 S l xs) (hB : Bx S l c) (ha : S a = none) (f : Fr a (S.set a o) S') (hlc : (S.set a o) lc = none) (h : HasSt K S' a lw lc w s) :
    Fam K S0 S' l (xs ++ [⟨a, lw, lc, w, s⟩]) ∧ Bx S' l c := by
  have hal : a ≠ l := fun e => by obtain ⟨o, ho, _⟩ := hB; rw [e, ho] at ha; cases ha
  have hca : lc ≠ a := fun e => by rw [e, Sto.set_same] at hlc; cases hlc
  rw [Sto.set_ne hca] at hlc
  have hcl : lc ≠ l := fun e => by obtain ⟨o, ho, _⟩ := hB; rw [e, ho] at hlc; cases hlc
  have s1 : S.sub S' := fun m p e => by
    have : m ≠ a := fun q => by rw [q, ha] at e; cases e
    exact f m p this (by rw [Sto.set_ne this]; exact e)
  have F' := F.sub s1
  refine ⟨⟨fun y hy => ?_, List.pairwise_append.mpr ⟨F.ne, List.pairwise_singleton _ _, fun y hy z hz => ?_⟩, F'.f⟩, hB.sub s1⟩
  · rcases List.mem_append.mp hy with hy | hy
    · exact F'.st y hy
    · rw [List.mem_singleton.mp hy]
      exact ⟨h, hal, hcl, F.f.fresh hal ha, F.f.fresh hcl hlc⟩
  · rw [List.mem_singleton.mp hz]
    obtain ⟨hy, _⟩ := F.st y hy
    refine ⟨fun e => ?_, fun e => ?_⟩
    · have := hy.ob; rw [show y.l = a from e, ha] at this; cases this
    · have := hy.cp; rw [show y.lc = lc from e, hlc] at this; cases this
end
section
variable {w w2 : Wd} {A B : List Head} {h : Head}
end
end LK
end
section
set_option Elab.async false
set_option linter.all false
set_option maxRecDepth 100000
set_option maxHeartbeats 1000000
namespace LK
open PySem PySem.Spec PyProof.Rows L2 L3
abbrev cL (K : PySem.W.Frag) : Addr := He.ga K "Line"
structure Lns (K : PySem.W.Frag) (S : Sto) (ll lw ls : Nat) (w : Wd) (L : D) (xs : List Sk) : Prop where
  ob : S ll = some (.slt (cL K) [some (.tup (xs.map fun x => .str x.s.kind)), some L, some (.ref ls), some (.ref lw)])
  wd : S lw = some (w.ob (cW K))
  st : S ls = some (.lst (xs.map fun x => .ref x.l))
  hs : ∀ x ∈ xs, HasSt K S x.l x.lw x.lc w x.s
  ne : xs.Pairwise fun x y => x.l ≠ y.l ∧ x.lc ≠ y.lc
structure LnOk (w : Wd) (L : D) (lst : Row → List Str) (xs : List Sk) : Prop where
  li : Lis w L lst
  sd : ∀ x ∈ xs, SdOk w x.s
  len : xs.length ≤ 10
def lookS (w : Wd) (lst : Row → List Str) (r : Row) : List Sk → Nat → List Str × Str × Nat
  | [], n => (lst r, w.ans r, n)
  | x :: xs, n => match x.s.found w r with
    | some c => (c.2.1, c.2.2, n)
    | none => lookS w lst r xs (n + 1)
def keepC (c : Cp) (x : Sk) : Sk := { x with s := { x.s with cps := x.s.cps ++ [c] } }
def keepAt (p : Nat) (c : Cp) (xs : List Sk) : List Sk := (xs.take p).map (keepC c) ++ xs.drop p
def askS (w : Wd) (lst : Row → List Str) (r : Row) (xs : List Sk) : Str × Nat × List Sk :=
  let t := lookS w lst r xs 0
  (t.2.1, t.2.2, keepAt t.2.2 (r, t.1, t.2.1) xs)
section
variable {K : PySem.W.Frag}
theorem Lns.lc_ne {S : Sto} {ll lw ls : Nat} {w : Wd} {L : D} {xs : List Sk} (h : Lns K S ll lw ls w L xs) {x : Sk} (hx : x ∈ xs) : x.lc ≠ ls ∧ x.lc ≠ ll ∧ x.lc ≠ lw ∧ ∀ y ∈ xs, y.l ≠ x.lc ∧ y.lw ≠ x.lc := by
  have hc := (h.hs x hx).cp
  refine ⟨fun e => ?_, fun e => ?_, fun e => ?_, fun y hy => ⟨fun e => ?_, fun e => ?_⟩⟩
  · rw [e, h.st] at hc
    cases xs with
    | nil => cases hx
    | cons y ys => 
      cases k : x.s.cps with
      | nil => rw [k] at hc; cases hc
      | cons c cs => rw [k] at hc; cases hc
  · rw [e, h.ob] at hc; cases hc
  · rw [e, h.wd] at hc; cases hc
  · rw [← e, (h.hs y hy).ob] at hc; cases hc
  · rw [← e, (h.hs y hy).wd] at hc; cases hc
end
end LK
end
section
set_option Elab.async false
set_option linter.all false
set_option maxRecDepth 100000
set_option maxHeartbeats 1000000
namespace LK
open PySem PySem.Spec PyProof.Rows L2 L3
end LK
end
section
set_option Elab.async false
set_option linter.all false
set_option maxRecDepth 100000
set_option maxHeartbeats 1000000
namespace LK
open PySem PySem.Spec PyProof.Rows L2 L3
section
variable {w : Wd} {lst : Row → List Str} {r : Row} {L : D} {xs : List Sk} {c : Cp} {p : Nat} {as : List (List Str × Str)}
theorem look_cases (w : Wd) (lst : Row → List Str) (r : Row) : ∀ (xs : List Sk) (n : Nat), lookS w lst r xs n = (lst r, w.ans r, n + xs.length) ∨ ∃ i x c, xs[i]? = some x ∧ x.s.found w r = some c ∧ lookS w lst r xs n = (c.2.1, c.2.2, n + i)
  | [], n => .inl rfl
  | x :: xs, n => by
    cases e : x.s.found w r with
    | some c => exact .inr ⟨0, x, c, rfl, e, by simp [lookS, e]⟩
    | none =>
      have h0 : lookS w lst r (x :: xs) n = lookS w lst r xs (n + 1) := by simp [lookS, e]
      rcases look_cases w lst r xs (n + 1) with h | ⟨i, y, c, h1, h2, h3⟩
      · exact .inl (by rw [h0, h, List.length_cons, show n + 1 + xs.length = n + (xs.length + 1) by omega])
      · exact .inr ⟨i + 1, y, c, by simpa using h1, h2, by rw [h0, h3, show n + 1 + i = n + (i + 1) by omega]⟩
theorem found_mem {s : Sd} (h : s.found w r = some c) : c ∈ s.cps := by
  rw [found_given] at h
  exact (List.mem_filter.mp (List.mem_of_getLast? h)).1
theorem keep_all : keepAt xs.length c xs = xs.map (keepC c) := by simp [keepAt]
theorem keep_len : (keepAt p c xs).length = xs.length := by
  unfold keepAt
  rw [List.length_append, List.length_map, ← List.length_append, List.take_append_drop]
theorem keep_mem {y : Sk} (h : y ∈ keepAt p c xs) : ∃ x ∈ xs, y = x ∨ y = keepC c x := by
  rcases List.mem_append.mp h with h | h
  · obtain ⟨x, hx, rfl⟩ := List.mem_map.mp h
    exact ⟨x, List.mem_of_mem_take hx, .inr rfl⟩
  · exact ⟨y, List.mem_of_mem_drop h, .inl rfl⟩
structure Good (as : List (List Str × Str)) (xs : List Sk) : Prop where
  down : (xs.map fun x => x.s.cps.length).Pairwise (· ≥ ·)
  last : ∀ x, xs.getLast? = some x → x.s.cps.length = as.length
  inn : ∀ x ∈ xs, ∀ c ∈ x.s.cps, (c.2.1, c.2.2) ∈ as
theorem Good.out (g : Good as xs) (c : Cp) : Good (as ++ [(c.2.1, c.2.2)]) (keepAt xs.length c xs) := by
  rw [keep_all]
  refine ⟨?_, fun x hx => ?_, fun x hx d hd => ?_⟩
  · rw [List.map_map]
    have h := g.down
    rw [List.pairwise_map] at h ⊢
    exact h.imp fun {a b} h => by
      show (a.s.cps ++ [c]).length ≥ (b.s.cps ++ [c]).length
      rw [List.length_append, List.length_append]
      omega
  · rw [List.getLast?_map] at hx
    obtain ⟨y, hy, rfl⟩ := Option.map_eq_some_iff.mp hx
    have := g.last y hy
    show (y.s.cps ++ [c]).length = _
    rw [List.length_append, List.length_append, this]
    rfl
  · obtain ⟨y, hy, rfl⟩ := List.mem_map.mp hx
    rcases List.mem_append.mp (show d ∈ y.s.cps ++ [c] from hd) with h | h
    · exact List.mem_append_left _ (g.inn y hy d h)
    · rw [List.mem_singleton.mp h]
      exact List.mem_append_right _ (List.mem_singleton.mpr rfl)
theorem Good.in_ (g : Good as xs) (hp : p < xs.length) (hc : (c.2.1, c.2.2) ∈ as) : Good as (keepAt p c xs) := by
  have hd := g.down
  have hl := g.last
  rw [← List.take_append_drop p xs] at hd hl
  rw [List.map_append, List.pairwise_append] at hd
  obtain ⟨h1, h2, h3⟩ := hd
  refine ⟨?_, fun x hx => hl x ?_, fun x hx d hd => ?_⟩
  · unfold keepAt
    rw [List.map_append, List.pairwise_append]
    refine ⟨?_, h2, fun a ha b hb => ?_⟩
    · rw [List.map_map]
      rw [List.pairwise_map] at h1 ⊢
      exact h1.imp fun {a b} h => by
        show (a.s.cps ++ [c]).length ≥ (b.s.cps ++ [c]).length
        rw [List.length_append, List.length_append]
        omega
    · rw [List.map_map] at ha
      obtain ⟨x, hx, rfl⟩ := List.mem_map.mp ha
      have := h3 _ (List.mem_map_of_mem hx) b hb
      show (x.s.cps ++ [c]).length ≥ b
      rw [List.length_append]
      omega
  · unfold keepAt at hx
    rw [List.getLast?_append] at hx ⊢
    have hne : xs.drop p ≠ [] := fun e => by
      have := congrArg List.length e
      rw [List.length_drop] at this
      simp at this
      omega
    cases e : (xs.drop p).getLast? with
    | none => exact absurd (List.getLast?_eq_none_iff.mp e) hne
    | some y => rw [e] at hx; exact hx
  · obtain ⟨y, hy, rfl | rfl⟩ := keep_mem hx
    · exact g.inn x hy d hd
    · rcases List.mem_append.mp (show d ∈ y.s.cps ++ [c] from hd) with h | h
      · exact g.inn y hy d h
      · rw [List.mem_singleton.mp h]; exact hc
theorem LnOk.look (ho : LnOk w L lst xs) (hw : WOk w) (hr : ROk w r) : CpOk w (r, (lookS w lst r xs 0).1, (lookS w lst r xs 0).2.1) := by
  rcases look_cases w lst r xs 0 with h | ⟨i, x, c, h1, h2, h3⟩
  · rw [h]; exact ⟨hr, ho.li.ns r hr, ho.li.len r hr, ans_ok hw⟩
  · rw [h3]
    have := (ho.sd x (List.mem_of_getElem? h1)).cp c (found_mem h2)
    exact ⟨hr, this.ns, this.len, this.so⟩
theorem LnOk.keep (ho : LnOk w L lst xs) (hc : CpOk w c) (hl : ∀ x ∈ xs, x.s.cps.length ≤ 400) : LnOk w L lst (keepAt p c xs) := ⟨ho.li, fun y hy => by
  obtain ⟨x, hx, rfl | rfl⟩ := keep_mem hy
  · exact ho.sd _ hx
  · have h := ho.sd x hx
    have hxl := hl x hx
    refine ⟨h.kd, h.km, h.li, fun d hd => ?_, ?_, h.up⟩
    · rcases List.mem_append.mp (show d ∈ x.s.cps ++ [c] from hd) with h' | h'
      · exact h.cp d h'
      · rw [List.mem_singleton.mp h']; exact hc
    · show (x.s.cps ++ [c]).length ≤ 500
      rw [List.length_append]
      simp
      omega, by rw [keep_len]; exact ho.len⟩
theorem Lns.sub {K : PySem.W.Frag} {S S' : Sto} {ll lw ls : Nat} (h : Lns K S ll lw ls w L xs) (s : S.sub S') : Lns K S' ll lw ls w L xs := ⟨s _ _ h.ob, s _ _ h.wd, s _ _ h.st, fun x hx => (h.hs x hx).sub s, h.ne⟩
end
end LK
end
section
set_option Elab.async false
set_option linter.all false
set_option maxRecDepth 100000
set_option maxHeartbeats 1000000
namespace LK
open PySem PySem.Spec PyProof.Rows L2 L3
section
variable {K : PySem.W.Frag}
end
end LK
end
section
set_option Elab.async false
set_option linter.all false
set_option maxRecDepth 100000
set_option maxHeartbeats 1000000
namespace LK
open PySem PySem.Spec PyProof.Rows L2 L3
structure SS (K : PySem.W.Frag) (B S : Sto) (l : Nat) (w : Wd) (n : Nat) (s : Sd) : Prop where
  ex : ∃ lw lc, HasSt K S l lw lc w s ∧ B lc = none
  fr : B.sub S
  nb : B l = none
  ok : SdOk w s
  few : s.cps.length ≤ n
  up : Up w
section
variable {K : PySem.W.Frag} {B S : Sto} {l n : Nat} {w : Wd} {s : Sd} {Q : DK} {E : DXK}
theorem SS.sub {S' : Sto} (h : SS K B S l w n s) (k : S.sub S') : SS K B S' l w n s := ⟨let ⟨a, b, c, d⟩ := h.ex; ⟨a, b, c.sub k, d⟩, Sto.sub_trans h.fr k, h.nb, h.ok, h.few, h.up⟩
theorem SS.ob (h : SS K B S l w n s) : ∃ fs vs, S l = some (.ins (cS K) fs vs) ∧ fs = stF := let ⟨_, _, c, _⟩ := h.ex; ⟨_, _, c.ob, rfl⟩
end
end LK
end
section
set_option Elab.async false
set_option linter.all false
set_option maxRecDepth 100000
set_option maxHeartbeats 1000000
namespace LK
open PySem PySem.Spec PyProof.Rows L2 L3
def sameB : Nat → D → Bool
  | 0, _ => false
  | n + 1, .lst ds => decide (ds.length ≤ 1000) && ds.all (sameB n)
  | n + 1, .tup ds => decide (ds.length ≤ 1000) && ds.all (sameB n)
  | n + 1, .non => true
  | n + 1, .bl _ => true
  | n + 1, .int _ => true
  | n + 1, .str x => PyData.strOk x
  | _, _ => false
theorem same_of {S : Sto} : ∀ {n : Nat} {d : D}, sameB n d = true → sameP n S d d
  | 0, d, h => by cases d <;> cases h
  | n + 1, .lst ds, h => by
    have h : (decide (ds.length ≤ 1000) && ds.all (sameB n)) = true := h
    rw [Bool.and_eq_true, decide_eq_true_eq, List.all_eq_true] at h
    exact same_all h.1 fun d hd => same_of (h.2 d hd)
  | n + 1, .tup ds, h => by
    have h : (decide (ds.length ≤ 1000) && ds.all (sameB n)) = true := h
    rw [Bool.and_eq_true, decide_eq_true_eq, List.all_eq_true] at h
    have := same_tup (f := fun d : D => d) (n := n) (S := S) (xs := ds) (by omega) fun d hd => same_of (h.2 d hd)
    simpa using this
  | n + 1, .non, _ => rfl
  | n + 1, .bl _, _ => rfl
  | n + 1, .int _, _ => rfl
  | n + 1, .str x, h => ⟨rfl, h⟩
  | n + 1, .kl _, h => by cases h
  | n + 1, .kt _, h => by cases h
  | n + 1, .dic _ _, h => by cases h
  | n + 1, .ref _, h => by cases h
  | n + 1, .raw _, h => by cases h
end LK
end
section
set_option Elab.async false
set_option linter.all false
set_option maxRecDepth 100000
set_option maxHeartbeats 1000000
namespace LK
open PySem PySem.Spec PyProof.Rows L2 L3
section
variable {K : PySem.W.Frag}
theorem SS.more {B S : Sto} {l n m : Nat} {w : Wd} {s : Sd} {o : Ob} (h : SS K B S l w n s) (hm : S m = none) : SS K (B.set m o) (S.set m o) l w n s := by
  obtain ⟨lw, lc, hh, hb⟩ := h.ex
  have ne : ∀ {a p}, S a = some p → a ≠ m := fun e z => by rw [z, hm] at e; cases e
  refine ⟨⟨lw, lc, hh.sub (Sto.sub_set hm), by rw [Sto.set_ne (ne hh.cp)]; exact hb⟩, fun a p e => ?_, by rw [Sto.set_ne (ne hh.ob)]; exact h.nb, h.ok, h.few, h.up⟩
  by_cases z : a = m
  · rw [z, Sto.set_same] at e ⊢; exact e
  · rw [Sto.set_ne z] at e ⊢; exact h.fr _ _ e
theorem SS.put {B S : Sto} {l n m : Nat} {w : Wd} {s : Sd} {ds : List D} {o : Ob} (h : SS K B S l w n s) (hm : B m = some (.lst ds)) : SS K (B.set m o) (S.set m o) l w n s := by
  obtain ⟨lw, lc, hh, hb⟩ := h.ex
  have n1 : l ≠ m := fun z => by have := h.nb; rw [z, hm] at this; cases this
  have n2 : lw ≠ m := fun z => by have := hh.wd; rw [z, h.fr _ _ hm] at this; cases this
  have n3 : lc ≠ m := fun z => by rw [z, hm] at hb; cases hb
  refine ⟨⟨lw, lc, ⟨by rw [Sto.set_ne n1]; exact hh.ob, by rw [Sto.set_ne n2]; exact hh.wd, by rw [Sto.set_ne n3]; exact hh.cp⟩, by rw [Sto.set_ne n3]; exact hb⟩, fun a p e => ?_, by rw [Sto.set_ne n1]; exact h.nb, h.ok, h.few, h.up⟩
  by_cases z : a = m
  · rw [z, Sto.set_same] at e ⊢; exact e
  · rw [Sto.set_ne z] at e ⊢; exact h.fr _ _ e
end
end LK
end
section
set_option Elab.async false
set_option linter.all false
set_option maxRecDepth 100000
set_option maxHeartbeats 1000000
namespace LK
open PySem PySem.Spec PyProof.Rows L2 L3
def stOb (s : Sd) : Ob := .dic [Sum.inr "copies", Sum.inr "fetched"] [.lst (s.cps.map copyD), .int s.n]
end LK
end
section
set_option Elab.async false
set_option linter.all false
set_option maxRecDepth 100000
set_option maxHeartbeats 1000000
namespace LK
open PySem PySem.Spec PyProof.Rows L2 L3
def rowK (r : Row) : List Key := r.map Sum.inr
def entD (w : Wd) (lst : Row → List Str) (r : Row) : D := .tup [rowD (lst r), .str (w.ans r)]
def TabOk (w : Wd) (lst : Row → List Str) (rs : List Row) (ks : List (List Key)) (es : List D) : Prop := ∀ r ∈ rs, getT ks es (rowK r) = some (entD w lst r)
end LK
end
section
set_option Elab.async false
set_option linter.all false
set_option maxRecDepth 100000
set_option maxHeartbeats 1000000
namespace LK
open PySem PySem.Spec PyProof.Rows L2 L3
structure Two (K : PySem.W.Frag) (S0 S : Sto) (l : Nat) (c : Int) (w : Wd) (L : D) (l1 ls lp n : Nat) (s : Sd) : Prop where
  ex : ∃ lw lc, HasSt K S l1 lw lc w s ∧ S0 lc = none ∧ lc ≠ l ∧ lc ≠ lp
  own : S ls = some (stOb s)
  f : Fr l S0 S
  n1 : S0 l1 = none
  ns : S0 ls = none
  bx : Bx S l c
  ok : SdOk w s
  few : s.cps.length ≤ n
  lk : LkOf w L s.lst
  eL : s.L = L
  up : Up w
section
variable {K : PySem.W.Frag} {S0 S : Sto} {l l1 ls lp n : Nat} {c : Int} {w : Wd} {L : D} {s : Sd} {Q : DK} {E : DXK}
theorem Two.ob (h : Two K S0 S l c w L l1 ls lp n s) : ∃ vs, S l1 = some (.ins (cS K) stF vs) := let ⟨_, _, a, _⟩ := h.ex; ⟨_, a.ob⟩
theorem bx_lst (h : Bx S l c) : ∃ xs, S l = some (.lst xs) := by
  obtain ⟨o, e, a, b, k, rfl, _⟩ := h
  exact ⟨_, e⟩
theorem Two.box {S' : Sto} {c' : Int} (h : Two K S0 S l c w L l1 ls lp n s) (f : Fr l S S') (b : Bx S' l c') : Two K S0 S' l c' w L l1 ls lp n s := by
  obtain ⟨lw, lc, hh, c1, c2, c3⟩ := h.ex
  obtain ⟨bs, hb⟩ := bx_lst h.bx
  have e1 : l1 ≠ l := fun e => by have := hh.ob; rw [e, hb] at this; cases this
  have e2 : lw ≠ l := fun e => by have := hh.wd; rw [e, hb] at this; cases this
  have e3 : ls ≠ l := fun e => by have := h.own; rw [e, hb] at this; cases this
  exact ⟨⟨lw, lc, ⟨f _ _ e1 hh.ob, f _ _ e2 hh.wd, f _ _ c2 hh.cp⟩, c1, c2, c3⟩, f _ _ e3 h.own, h.f.trans f, h.n1, h.ns, b, h.ok, h.few, h.lk, h.eL, h.up⟩
theorem Two.put {xs : List D} {o : Ob} (h : Two K S0 S l c w L l1 ls lp n s) (hp : S lp = some (.lst xs)) (hpl : lp ≠ l) (h0 : S0 lp = none) : Two K S0 (S.set lp o) l c w L l1 ls lp n s := by
  obtain ⟨lw, lc, hh, c1, c2, c3⟩ := h.ex
  obtain ⟨b, hb, hbo⟩ := h.bx
  have e1 : l1 ≠ lp := fun e => by have := hh.ob; rw [e, hp] at this; cases this
  have e2 : lw ≠ lp := fun e => by have := hh.wd; rw [e, hp] at this; cases this
  have e3 : ls ≠ lp := fun e => by have := h.own; rw [e, hp] at this; cases this
  exact ⟨⟨lw, lc, ⟨by rw [Sto.set_ne e1]; exact hh.ob, by rw [Sto.set_ne e2]; exact hh.wd, by rw [Sto.set_ne c3]; exact hh.cp⟩, c1, c2, c3⟩, by rw [Sto.set_ne e3]; exact h.own, h.f.put h0, h.n1, h.ns, ⟨b, by rw [Sto.set_ne (Ne.symm hpl)]; exact hb, hbo⟩, h.ok, h.few, h.lk, h.eL, h.up⟩
theorem Two.sub {S' : Sto} (h : Two K S0 S l c w L l1 ls lp n s) (k : S.sub S') : Two K S0 S' l c w L l1 ls lp n s := by
  obtain ⟨o, ho, hbo⟩ := h.bx
  exact h.box (Fr.of k) ⟨o, k _ _ ho, hbo⟩
end
end LK
end
section
set_option Elab.async false
set_option linter.all false
set_option maxRecDepth 100000
set_option maxHeartbeats 1000000
namespace LK
open PySem PySem.Spec PyProof.Rows L2 L3
section
variable {K : PySem.W.Frag} {S0 S : Sto} {l l1 ls lp n : Nat} {c : Int} {w : Wd} {L : D} {s : Sd} {Q : DK} {E : DXK}
end
end LK
end
section
set_option Elab.async false
set_option linter.all false
set_option maxRecDepth 100000
set_option maxHeartbeats 1000000
namespace LK
open PySem PySem.Spec PyProof.Rows L2 L3
end LK
end
section
set_option Elab.async false
set_option linter.all false
set_option maxRecDepth 100000
set_option maxHeartbeats 1000000
namespace LK
open PySem PySem.Spec PyProof.Rows L2 L3
def Sd.fresh (s : Sd) (lst : Row → List Str) (L : D) : Sd := { s0 s.kind L lst with cps := s.cps }
section
variable {K : PySem.W.Frag}
theorem Lns.keep {S : Sto} {ll lw ls : Nat} {w : Wd} {L : D} {pre post : List Sk} {x : Sk} (c : Cp) (hL : Lns K S ll lw ls w L (pre ++ x :: post)) : Lns K (S.set x.lc (.lst ((x.s.cps ++ [c]).map copyD))) ll lw ls w L (pre ++ keepC c x :: post) := by
  have hxm : x ∈ pre ++ x :: post := List.mem_append_right _ List.mem_cons_self
  have hx := hL.hs x hxm
  obtain ⟨n1, n2, n3, n4⟩ := hL.lc_ne hxm
  obtain ⟨p1, p2, p3⟩ := List.pairwise_append.mp hL.ne
  have dis : ∀ z, z ∈ pre ∨ z ∈ post → z.l ≠ x.l ∧ z.lc ≠ x.lc := fun z hz => by
    rcases hz with h | h
    · exact p3 z h x List.mem_cons_self
    · have := (List.pairwise_cons.mp p2).1 z h
      exact ⟨Ne.symm this.1, Ne.symm this.2⟩
  refine ⟨?_, ?_, ?_, fun y hy => ?_, fam_ne hL.ne dis⟩
  · rw [Sto.set_ne (Ne.symm n2), hL.ob]
    simp [keepC]
  · rw [Sto.set_ne (Ne.symm n3)]; exact hL.wd
  · rw [Sto.set_ne (Ne.symm n1), hL.st]
    simp [keepC]
  · have hc : (y ∈ pre ∨ y ∈ post) ∨ y = keepC c x := by
      rcases List.mem_append.mp hy with h | h
      · exact .inl (.inl h)
      · rcases List.mem_cons.mp h with h | h
        · exact .inr h
        · exact .inl (.inr h)
    rcases hc with hc | rfl
    · have hym : y ∈ pre ++ x :: post := by
        rcases hc with h | h
        · exact List.mem_append_left _ h
        · exact List.mem_append_right _ (List.mem_cons_of_mem _ h)
      have hyy := hL.hs y hym
      have hn4 := n4 y hym
      exact ⟨by rw [Sto.set_ne hn4.1]; exact hyy.ob, by rw [Sto.set_ne hn4.2]; exact hyy.wd, by rw [Sto.set_ne (dis y hc).2]; exact hyy.cp⟩
    · have hn4 := n4 x hxm
      exact ⟨by show Sto.set _ _ _ x.l = _; rw [Sto.set_ne hn4.1]; exact hx.ob, by show Sto.set _ _ _ x.lw = _; rw [Sto.set_ne hn4.2]; exact hx.wd, Sto.set_same⟩
end
end LK
end
section
set_option Elab.async false
set_option linter.all false
set_option maxRecDepth 100000
set_option maxHeartbeats 1000000
namespace LK
open PySem PySem.Spec PyProof.Rows L2 L3
structure CpR (w : Wd) (c : Cp) : Prop where
  row : c.1 ∈ w.rows
  ns : ∀ n ∈ c.2.1, n ∈ w.names
  ans : c.2.2 = w.ans c.1
  safe : w.safe c.1 c.2.1 = true
section
variable {w : Wd} {s : Sd} {r : Row} {c : Cp}
theorem found_alike (hk : s.kind = "own" ∨ s.kind = "all") (hn : ∀ c ∈ s.cps, ∀ n ∈ c.2.1, n ∈ w.names) (h : s.found w r = some c) : c ∈ s.cps ∧ w.alike r c.1 c.2.1 = true := by
  rw [found_given] at h
  obtain ⟨hc, ha⟩ := List.mem_filter.mp (List.mem_of_getLast? h)
  refine ⟨hc, ?_⟩
  rcases hk with hk | hk
  · rw [own_key hk] at ha; exact ha
  · have ek : s.key w = some (w.names.filter fun n => decide (n ∈ s.lists.flatten)) := if_neg (by rw [hk]; decide +kernel)
    rw [ek] at ha
    refine alike_sub ha fun n hnm => List.mem_filter.mpr ⟨hn c hc n hnm, decide_eq_true (List.mem_flatten.mpr ⟨c.2.1, ?_, hnm⟩)⟩
    unfold Sd.lists
    rw [if_neg (by rw [hk]; decide +kernel), if_neg (by rw [hk]; decide +kernel)]
    exact List.mem_map_of_mem hc
theorem found_right (hr : r ∈ w.rows) (hk : s.kind = "own" ∨ s.kind = "all") (hc : ∀ c ∈ s.cps, CpR w c) (h : s.found w r = some c) : CpR w (r, c.2.1, c.2.2) := by
  obtain ⟨hm, ha⟩ := found_alike hk (fun c hcm => (hc c hcm).ns) h
  have k := hc c hm
  have e : w.ans r = w.ans c.1 := safe_iff.mp k.safe r hr (alike_symm ha)
  exact ⟨hr, k.ns, k.ans.trans e.symm, safe_iff.mpr fun o ho q => (safe_iff.mp k.safe o ho (alike_trans (alike_symm ha) q)).trans e.symm⟩
structure OkL (w : Wd) (lst : Row → List Str) (xs : List Sk) : Prop where
  kd : ∀ x ∈ xs, x.s.kind = "own" ∨ x.s.kind = "all"
  cp : ∀ x ∈ xs, ∀ c ∈ x.s.cps, CpR w c
  li : ∀ r ∈ w.rows, (∀ n ∈ lst r, n ∈ w.names) ∧ w.safe r (lst r) = true
variable {lst : Row → List Str} {xs : List Sk}
theorem OkL.look (h : OkL w lst xs) (hr : r ∈ w.rows) : CpR w (r, (lookS w lst r xs 0).1, (lookS w lst r xs 0).2.1) := by
  rcases look_cases w lst r xs 0 with e | ⟨i, x, c, h1, h2, e⟩
  · rw [e]; exact ⟨hr, (h.li r hr).1, rfl, (h.li r hr).2⟩
  · rw [e]
    have hx := List.mem_of_getElem? h1
    exact found_right hr (h.kd x hx) (h.cp x hx) h2
theorem OkL.keep {p : Nat} (h : OkL w lst xs) (hc : CpR w c) : OkL w lst (keepAt p c xs) := by
  refine ⟨fun y hy => ?_, fun y hy d hd => ?_, h.li⟩
  · obtain ⟨x, hx, rfl | rfl⟩ := keep_mem hy
    · exact h.kd _ hx
    · exact h.kd x hx
  · obtain ⟨x, hx, rfl | rfl⟩ := keep_mem hy
    · exact h.cp _ hx d hd
    · rcases List.mem_append.mp (show d ∈ x.s.cps ++ [c] from hd) with h' | h'
      · exact h.cp x hx d h'
      · rw [List.mem_singleton.mp h']; exact hc
theorem OkL.right (h : OkL w lst xs) (hr : r ∈ w.rows) : (askS w lst r xs).1 = w.ans r := (h.look hr).ans
end
end LK
end
section
set_option Elab.async false
set_option linter.all false
set_option maxRecDepth 100000
set_option maxHeartbeats 1000000
namespace LK
open PySem PySem.Spec PyProof.Rows L2 L3
section
variable {K : PySem.W.Frag}
end
end LK
end
section
set_option Elab.async false
set_option linter.all false
set_option maxRecDepth 100000
set_option maxHeartbeats 1000000
namespace LK
open PySem PySem.Spec PyProof.Rows L2 L3
def lookD (w : Wd) (lst : Row → List Str) (r : Row) : List Sd → Nat → List Str × Str × Nat
  | [], n => (lst r, w.ans r, n)
  | s :: ss, n => match s.found w r with
    | some c => (c.2.1, c.2.2, n)
    | none => lookD w lst r ss (n + 1)
theorem look_D (w : Wd) (lst : Row → List Str) (r : Row) : ∀ (xs : List Sk) (n : Nat), lookS w lst r xs n = lookD w lst r (xs.map (·.s)) n
  | [], n => rfl
  | x :: xs, n => by
    show (match x.s.found w r with | some c => (c.2.1, c.2.2, n) | none => lookS w lst r xs (n + 1)) = (match x.s.found w r with | some c => (c.2.1, c.2.2, n) | none => lookD w lst r (xs.map (·.s)) (n + 1))
    rw [look_D w lst r xs (n + 1)]
structure LF where
  row : List Row
  ll : Nat
  lw : Nat
  ls : Nat
  xs : List Sk
def LF.d (f : LF) : D := .tup [.tup (f.row.map rowD), .ref f.ll]
structure FOk (K : PySem.W.Frag) (S : Sto) (w : Wd) (L : D) (lst : Row → List Str) (k : Nat) (f : LF) : Prop where
  h : Lns K S f.ll f.lw f.ls w L f.xs
  ok : LnOk w L lst f.xs
  fr : ∀ x ∈ f.xs, x.s.fresh lst L = x.s
  few : ∀ x ∈ f.xs, x.s.cps.length ≤ k
  rl : f.row.length ≤ k
structure FNew (K : PySem.W.Frag) (S : Sto) (w : Wd) (L : D) (lst : Row → List Str) (k lg : Nat) (f : LF) : Prop extends FOk K S w L lst k f where
  n1 : lg ≠ f.ls
  n2 : ∀ x ∈ f.xs, lg ≠ x.lc
section
variable {K : PySem.W.Frag} {S S' : Sto} {w : Wd} {L : D} {lst : Row → List Str} {k lg : Nat} {f : LF}
theorem FOk.sub (h : FOk K S w L lst k f) (s : S.sub S') : FOk K S' w L lst k f := ⟨h.h.sub s, h.ok, h.fr, h.few, h.rl⟩
theorem FOk.up (h : FOk K S w L lst k f) {k' : Nat} (hk : k ≤ k') : FOk K S w L lst k' f := ⟨h.h, h.ok, h.fr, fun x hx => Nat.le_trans (h.few x hx) hk, Nat.le_trans h.rl hk⟩
theorem FNew.sub (h : FNew K S w L lst k lg f) (s : S.sub S') : FNew K S' w L lst k lg f := ⟨h.toFOk.sub s, h.n1, h.n2⟩
theorem FNew.put {ds : List D} {o : Ob} (h : FNew K S w L lst k lg f) (hm : S lg = some (.lst ds)) : FNew K (S.set lg o) w L lst k lg f := by
  have hL := h.h
  have a1 : f.ll ≠ lg := fun e => by have := hL.ob; rw [e, hm] at this; cases this
  have a2 : f.lw ≠ lg := fun e => by have := hL.wd; rw [e, hm] at this; cases this
  refine ⟨⟨⟨by rw [Sto.set_ne a1]; exact hL.ob, by rw [Sto.set_ne a2]; exact hL.wd, by rw [Sto.set_ne (Ne.symm h.n1)]; exact hL.st, fun x hx => ?_, hL.ne⟩, h.ok, h.fr, h.few, h.rl⟩, h.n1, h.n2⟩
  have hh := hL.hs x hx
  have b1 : x.l ≠ lg := fun e => by have := hh.ob; rw [e, hm] at this; cases this
  have b2 : x.lw ≠ lg := fun e => by have := hh.wd; rw [e, hm] at this; cases this
  exact ⟨by rw [Sto.set_ne b1]; exact hh.ob, by rw [Sto.set_ne b2]; exact hh.wd, by rw [Sto.set_ne (Ne.symm (h.n2 x hx))]; exact hh.cp⟩
end
end LK
end
section
set_option Elab.async false
set_option linter.all false
set_option maxRecDepth 100000
set_option maxHeartbeats 1000000
namespace LK
open PySem PySem.Spec PyProof.Rows L2 L3
abbrev Rn := List Row × Sd
def Sd.kept (s : Sd) (c : Cp) : Sd := { s with cps := s.cps ++ [c] }
def wrReq (w : Wd) (last : Bool) (p : Rn) : List Row → List Rn → Sum (List Row) (List Rn)
  | [], acc => .inr acc
  | r :: rs, acc => match p.2.found w r with
    | some c => if c.2.2 = w.ans r then wrReq w last p rs acc else .inl (p.1 ++ [r])
    | none => wrReq w last p rs (if last = false then acc ++ [(p.1 ++ [r], p.2.kept (r, p.2.lst r, w.ans r))] else acc)
def wrRows (w : Wd) (last : Bool) : List Rn → List Rn → Sum (List Row) (List Rn)
  | [], acc => .inr acc
  | p :: ps, acc => match wrReq w last p w.rows acc with
    | .inl r => .inl r
    | .inr acc => wrRows w last ps acc
def wrGo (w : Wd) : Nat → List Rn → Option (List Row)
  | 0, _ => none
  | k + 1, ps => match wrRows w (decide (k = 0)) ps [] with
    | .inl r => some r
    | .inr ps => wrGo w k ps
def wr (w : Wd) (lst : Row → List Str) (kind : Str) (L : D) (many : Nat) : Option (List Row) := wrGo w many [([], s0 kind L lst)]
structure RF where
  row : List Row
  l : Nat
  s : Sd
def RF.d (f : RF) : D := .tup [.tup (f.row.map rowD), .ref f.l]
def eB : Sto := fun _ => none
section
variable {K : PySem.W.Frag} {B S : Sto} {l n : Nat} {w : Wd} {s : Sd} {Q : DK} {E : DXK}
theorem SS.base (h : SS K B S l w n s) : SS K eB S l w n s := ⟨let ⟨a, b, c, _⟩ := h.ex; ⟨a, b, c, rfl⟩, fun _ _ e => (nomatch e), rfl, h.ok, h.few, h.up⟩
structure FOk2 (K : PySem.W.Frag) (S : Sto) (w : Wd) (L : D) (lst : Row → List Str) (kind : Str) (k : Nat) (f : RF) : Prop where
  h : SS K eB S f.l w k f.s
  kd : f.s.kind = kind
  eL : f.s.L = L
  el : f.s.lst = lst
  en : f.s.n = 0
  rl : f.row.length ≤ k
structure FNew2 (K : PySem.W.Frag) (S : Sto) (w : Wd) (L : D) (lst : Row → List Str) (kind : Str) (k lg : Nat) (ds : List D) (f : RF) : Prop where
  old : FOk2 K S w L lst kind k f
  h : SS K (eB.set lg (.lst ds)) S f.l w k f.s
theorem FOk2.sub {S' : Sto} {L : D} {lst : Row → List Str} {kind : Str} {k : Nat} {f : RF} (h : FOk2 K S w L lst kind k f) (s : S.sub S') : FOk2 K S' w L lst kind k f := ⟨h.h.sub s, h.kd, h.eL, h.el, h.en, h.rl⟩
theorem FNew2.sub {S' : Sto} {L : D} {lst : Row → List Str} {kind : Str} {k lg : Nat} {ds : List D} {f : RF} (h : FNew2 K S w L lst kind k lg ds f) (s : S.sub S') : FNew2 K S' w L lst kind k lg ds f := ⟨h.old.sub s, h.h.sub s⟩
theorem FNew2.put {L : D} {lst : Row → List Str} {kind : Str} {k lg : Nat} {ds es : List D} {f : RF} (h : FNew2 K S w L lst kind k lg ds f) : FNew2 K (S.set lg (.lst es)) w L lst kind k lg es f := by
  have h1 := h.h.put (o := .lst es) (m := lg) Sto.set_same
  rw [Sto.set_set] at h1
  exact ⟨⟨h1.base, h.old.kd, h.old.eL, h.old.el, h.old.en, h.old.rl⟩, h1⟩
end
end LK
end
section
set_option Elab.async false
set_option linter.all false
set_option maxRecDepth 100000
set_option maxHeartbeats 1000000
namespace LK
open PySem PySem.Spec PyProof.Rows L2 L3
def mkS (w : Wd) (s : Sd) : Sk := ⟨0, 0, 0, w, s⟩
theorem mkS_s (w : Wd) (ss : List Sd) : (ss.map (mkS w)).map (·.s) = ss := by
  rw [List.map_map]
  exact List.map_id ss
def OkD (w : Wd) (lst : Row → List Str) (ss : List Sd) : Prop := OkL w lst (ss.map (mkS w))
section
variable {w : Wd} {lst : Row → List Str} {r : Row} {ss : List Sd}
theorem okL_map {xs ys : List Sk} (h : OkL w lst xs) (e : ys.map (·.s) = xs.map (·.s)) : OkL w lst ys := by
  have go : ∀ y ∈ ys, ∃ x ∈ xs, x.s = y.s := fun y hy => by
    have : y.s ∈ ys.map (·.s) := List.mem_map_of_mem hy
    rw [e] at this
    obtain ⟨x, hx, k⟩ := List.mem_map.mp this
    exact ⟨x, hx, k⟩
  refine ⟨fun y hy => ?_, fun y hy => ?_, h.li⟩
  · obtain ⟨x, hx, k⟩ := go y hy
    rw [← k]; exact h.kd x hx
  · obtain ⟨x, hx, k⟩ := go y hy
    rw [← k]; exact h.cp x hx
theorem OkD.of {xs : List Sk} (h : OkL w lst xs) : OkD w lst (xs.map (·.s)) := okL_map h (mkS_s w _)
theorem OkD.to {xs : List Sk} (h : OkD w lst (xs.map (·.s))) : OkL w lst xs := okL_map h (mkS_s w _).symm
theorem OkD.right (h : OkD w lst ss) (hr : r ∈ w.rows) : (lookD w lst r ss 0).2.1 = w.ans r := by
  have := (OkL.look h hr).ans
  rw [look_D, mkS_s] at this
  exact this
theorem Lns.put {K : PySem.W.Frag} {S : Sto} {ll lw ls ma : Nat} {w : Wd} {L : D} {xs : List Sk} {ds : List D} {o : Ob} (h : Lns K S ll lw ls w L xs) (hm : S ma = some (.lst ds)) (n1 : ma ≠ ls) (n2 : ∀ x ∈ xs, ma ≠ x.lc) : Lns K (S.set ma o) ll lw ls w L xs := by
  have a1 : ll ≠ ma := fun e => by have := h.ob; rw [e, hm] at this; cases this
  have a2 : lw ≠ ma := fun e => by have := h.wd; rw [e, hm] at this; cases this
  refine ⟨by rw [Sto.set_ne a1]; exact h.ob, by rw [Sto.set_ne a2]; exact h.wd, by rw [Sto.set_ne (Ne.symm n1)]; exact h.st, fun x hx => ?_, h.ne⟩
  have hh := h.hs x hx
  have b1 : x.l ≠ ma := fun e => by have := hh.ob; rw [e, hm] at this; cases this
  have b2 : x.lw ≠ ma := fun e => by have := hh.wd; rw [e, hm] at this; cases this
  exact ⟨by rw [Sto.set_ne b1]; exact hh.ob, by rw [Sto.set_ne b2]; exact hh.wd, by rw [Sto.set_ne (Ne.symm (n2 x hx))]; exact hh.cp⟩
end
end LK
end
section
set_option Elab.async false
set_option linter.all false
set_option maxRecDepth 100000
set_option maxHeartbeats 1000000
namespace LK
open PySem PySem.Spec PyProof.Rows L2 L3
structure LS (K : PySem.W.Frag) (B S : Sto) (ll : Nat) (w : Wd) (L : D) (lst : Row → List Str) (n : Nat) (ss : List Sd) : Prop where
  ex : ∃ lw ls xs, Lns K S ll lw ls w L xs ∧ xs.map (·.s) = ss ∧ ∀ x ∈ xs, B x.l = none ∧ B x.lc = none
  fr : B.sub S
  nb : B ll = none
  ok : ∀ s ∈ ss, SdOk w s
  eL : ∀ s ∈ ss, s.L = L
  li : Lis w L lst
  len : ss.length ≤ 10
  few : ∀ s ∈ ss, s.cps.length ≤ n
  up : Up w
section
variable {K : PySem.W.Frag} {B S : Sto} {ll n : Nat} {w : Wd} {L : D} {lst : Row → List Str} {ss : List Sd} {Q : DK} {E : DXK}
theorem LS.sub {S' : Sto} (h : LS K B S ll w L lst n ss) (s : S.sub S') : LS K B S' ll w L lst n ss := ⟨let ⟨a, b, c, d, e⟩ := h.ex; ⟨a, b, c, d.sub s, e⟩, Sto.sub_trans h.fr s, h.nb, h.ok, h.eL, h.li, h.len, h.few, h.up⟩
theorem LS.ob (h : LS K B S ll w L lst n ss) : ∃ x, S ll = some (.slt (He.ga K "Line") x) := let ⟨_, _, _, d, _⟩ := h.ex; ⟨_, d.ob⟩
def cps (ss : List Sd) (k : Nat) : Option (List Cp) := (ss[k]?).map (·.cps)
end
end LK
end
section
set_option Elab.async false
set_option linter.all false
set_option maxRecDepth 100000
set_option maxHeartbeats 1000000
namespace LK
open PySem PySem.Spec PyProof.Rows L2 L3
def Kp (F : List Nat) (S S' : Sto) : Prop := ∀ m o, m ∉ F → S m = some o → S' m = some o
def Nw (F F' : List Nat) (S : Sto) : Prop := ∀ m ∈ F', m ∈ F ∨ S m = none
def Dj (F G : List Nat) : Prop := ∀ m ∈ F, m ∉ G
def NoW (K : PySem.W.Frag) (S : Sto) (F : List Nat) : Prop := ∀ m ∈ F, ∃ o, S m = some o ∧ ∀ w : Wd, o ≠ w.ob (cW K)
theorem Dj.symm {F G : List Nat} (h : Dj F G) : Dj G F := fun m hm hf => h m hf hm
theorem Dj.new {K : PySem.W.Frag} {F F' G : List Nat} {S : Sto} (h : Dj F G) (n : Nw F F' S) (g : NoW K S G) : Dj F' G := fun m hm hg => by
  rcases n m hm with k | k
  · exact h m k hg
  · obtain ⟨o, e, _⟩ := g m hg
    rw [k] at e; cases e
theorem Kp.fr {l : Nat} {S S' : Sto} (h : Fr l S S') : Kp [l] S S' := fun m o hm e => h m o (fun z => hm (by rw [z]; exact List.mem_cons_self)) e
theorem Kp.sub {F : List Nat} {S S' : Sto} (h : S.sub S') : Kp F S S' := fun m o _ e => h m o e
theorem NoW.kp {K : PySem.W.Frag} {F G : List Nat} {S S' : Sto} (h : NoW K S F) (d : Dj F G) (k : Kp G S S') : NoW K S' F := fun m hm => let ⟨o, e, z⟩ := h m hm; ⟨o, k m o (d m hm) e, z⟩
theorem NoW.wd {K : PySem.W.Frag} {S : Sto} {G : List Nat} {m : Nat} {w : Wd} (g : NoW K S G) (e : S m = some (w.ob (cW K))) : m ∉ G := fun hm => by
  obtain ⟨o, e2, z⟩ := g m hm
  rw [e] at e2
  exact z w (Option.some.inj e2).symm
theorem noW_box {K : PySem.W.Frag} {S : Sto} {l : Nat} {c : Int} (h : Bx S l c) : NoW K S [l] := fun m hm => by
  rw [List.mem_singleton.mp hm]
  obtain ⟨o, e, _, _, _, rfl, _⟩ := h
  exact ⟨_, e, fun w z => by cases z⟩
structure FS (K : PySem.W.Frag) (S : Sto) (F : List Nat) (l : Nat) (w : Wd) (n : Nat) (s : Sd) : Prop where
  ex : ∃ lw lc, F = [l, lc] ∧ HasSt K S l lw lc w s
  ok : SdOk w s
  few : s.cps.length ≤ n
  up : Up w
structure FL (K : PySem.W.Frag) (S : Sto) (F : List Nat) (ll : Nat) (w : Wd) (L : D) (lst : Row → List Str) (n : Nat) (ss : List Sd) : Prop where
  ex : ∃ lw ls xs, F = ll :: ls :: xs.flatMap (fun x : Sk => [x.l, x.lc]) ∧ Lns K S ll lw ls w L xs ∧ xs.map (·.s) = ss
  ok : ∀ s ∈ ss, SdOk w s
  eL : ∀ s ∈ ss, s.L = L
  li : Lis w L lst
  len : ss.length ≤ 10
  few : ∀ s ∈ ss, s.cps.length ≤ n
  up : Up w
section
variable {K : PySem.W.Frag} {S S' : Sto} {F G : List Nat} {l ll n : Nat} {w : Wd} {L : D} {lst : Row → List Str} {s : Sd} {ss : List Sd} {Q : DK} {E : DXK}
theorem FS.now (h : FS K S F l w n s) : NoW K S F := fun m hm => by
  obtain ⟨lw, lc, rfl, hh⟩ := h.ex
  simp only [List.mem_cons, List.not_mem_nil, or_false] at hm
  rcases hm with rfl | rfl
  · exact ⟨_, hh.ob, fun w z => by cases z⟩
  · exact ⟨_, hh.cp, fun w z => by cases z⟩
theorem FL.now (h : FL K S F ll w L lst n ss) : NoW K S F := fun m hm => by
  obtain ⟨lw, ls, xs, rfl, hL, e⟩ := h.ex
  rcases List.mem_cons.mp hm with rfl | hm
  · exact ⟨_, hL.ob, fun w z => by
      have := Ob.slt.inj z
      exact absurd (congrArg List.length this.2) (by simp)⟩
  rcases List.mem_cons.mp hm with rfl | hm
  · exact ⟨_, hL.st, fun w z => by cases z⟩
  · obtain ⟨x, hx, hm⟩ := List.mem_flatMap.mp hm
    simp only [List.mem_cons, List.not_mem_nil, or_false] at hm
    rcases hm with rfl | rfl
    · exact ⟨_, (hL.hs x hx).ob, fun w z => by cases z⟩
    · exact ⟨_, (hL.hs x hx).cp, fun w z => by cases z⟩
theorem FS.kp (h : FS K S F l w n s) (d : Dj F G) (g : NoW K S G) (k : Kp G S S') : FS K S' F l w n s := by
  refine ⟨?_, h.ok, h.few, h.up⟩
  obtain ⟨lw, lc, rfl, hh⟩ := h.ex
  exact ⟨lw, lc, rfl, k _ _ (d _ (by simp)) hh.ob, k _ _ (g.wd hh.wd) hh.wd, k _ _ (d _ (by simp)) hh.cp⟩
theorem FL.kp (h : FL K S F ll w L lst n ss) (d : Dj F G) (g : NoW K S G) (k : Kp G S S') : FL K S' F ll w L lst n ss := by
  refine ⟨?_, h.ok, h.eL, h.li, h.len, h.few, h.up⟩
  obtain ⟨lw, ls, xs, rfl, hL, e⟩ := h.ex
  have hin : ∀ x ∈ xs, x.l ∉ G ∧ x.lc ∉ G := fun x hx => ⟨d _ (List.mem_cons_of_mem _ (List.mem_cons_of_mem _ (List.mem_flatMap.mpr ⟨x, hx, by simp⟩))), d _ (List.mem_cons_of_mem _ (List.mem_cons_of_mem _ (List.mem_flatMap.mpr ⟨x, hx, by simp⟩)))⟩
  exact ⟨lw, ls, xs, rfl, ⟨k _ _ (d _ (by simp)) hL.ob, k _ _ (g.wd hL.wd) hL.wd, k _ _ (d _ (by simp)) hL.st, fun x hx => ⟨k _ _ (hin x hx).1 (hL.hs x hx).ob, k _ _ (g.wd (hL.hs x hx).wd) (hL.hs x hx).wd, k _ _ (hin x hx).2 (hL.hs x hx).cp⟩, hL.ne⟩, e⟩
theorem FL.ob (h : FL K S F ll w L lst n ss) : ∃ x, S ll = some (.slt (He.ga K "Line") x) := let ⟨_, _, _, _, d, _⟩ := h.ex; ⟨_, d.ob⟩
theorem FS.ob (h : FS K S F l w n s) : ∃ fs vs, S l = some (.ins (cS K) fs vs) ∧ fs = stF := let ⟨_, _, _, c⟩ := h.ex; ⟨_, _, c.ob, rfl⟩
theorem FL.ls (h : FL K S F ll w L lst n ss) : LS K eB S ll w L lst n ss := ⟨let ⟨a, b, c, _, d, e⟩ := h.ex; ⟨a, b, c, d, e, fun _ _ => ⟨rfl, rfl⟩⟩, fun _ _ e => (nomatch e), rfl, h.ok, h.eL, h.li, h.len, h.few, h.up⟩
structure Rest (S0 S : Sto) (l : Nat) (c : Int) (F G H : List Nat) : Prop where
  fg : Dj F G
  gh : Dj G H
  hf : Dj H F
  lf : l ∉ F
  lg : l ∉ G
  lh : l ∉ H
  new : ∀ m, m ∈ F ∨ m ∈ G ∨ m ∈ H → S0 m = none
  fr : Fr l S0 S
  bx : Bx S l c
theorem Rest.step {S0 : Sto} {c : Int} {F' H : List Nat} (h : Rest S0 S l c F G H) (k : Kp F S S') (n : Nw F F' S) (nG : NoW K S G) (nH : NoW K S H) : Rest S0 S' l c F' G H := by
  obtain ⟨o, ho, hbo⟩ := h.bx
  refine ⟨h.fg.new n nG, h.gh, (h.hf.symm.new n nH).symm, fun hm => ?_, h.lg, h.lh, fun m hm => ?_, fun m o' hm e => ?_, ⟨o, k l o h.lf ho, hbo⟩⟩
  · rcases n l hm with z | z
    · exact h.lf z
    · rw [ho] at z; cases z
  · rcases hm with hm | hm
    · rcases n m hm with z | z
      · exact h.new m (.inl z)
      · exact h.fr.fresh (fun y => by rw [y, ho] at z; cases z) z
    · exact h.new m (.inr hm)
  · exact k m o' (fun z => by rw [h.new m (.inl z)] at e; cases e) (h.fr m o' hm e)
theorem Rest.box {S0 : Sto} {c c' : Int} {H : List Nat} (h : Rest S0 S l c F G H) (k : Fr l S S') (b : Bx S' l c') : Rest S0 S' l c' F G H := ⟨h.fg, h.gh, h.hf, h.lf, h.lg, h.lh, h.new, h.fr.trans k, b⟩
theorem FS.bx {c : Int} (h : FS K S F l w n s) {b : Nat} (hb : Bx S b c) (hl : b ∉ F) (k : Fr b S S') : FS K S' F l w n s := h.kp (fun m hm z => hl (by rw [← List.mem_singleton.mp z]; exact hm)) (noW_box hb) (Kp.fr k)
theorem FL.bx {c : Int} (h : FL K S F ll w L lst n ss) {b : Nat} (hb : Bx S b c) (hl : b ∉ F) (k : Fr b S S') : FL K S' F ll w L lst n ss := h.kp (fun m hm z => hl (by rw [← List.mem_singleton.mp z]; exact hm)) (noW_box hb) (Kp.fr k)
end
end LK
end
section
set_option Elab.async false
set_option linter.all false
set_option maxRecDepth 100000
set_option maxHeartbeats 1000000
namespace LK
open PySem PySem.Spec PyProof.Rows L2 L3
def Sd.z (s : Sd) : Sd := { s with n := 0 }
section
variable {w : Wd} {lst : Row → List Str} {r : Row} {s : Sd} {m : Nat}
end
end LK
end
section
set_option Elab.async false
set_option linter.all false
set_option maxRecDepth 100000
set_option maxHeartbeats 1000000
namespace LK
open PySem PySem.Spec PyProof.Rows L2 L3
def NoT (S : Sto) (v : D) (T : String) : Prop := ∃ t, tyD S v = some t ∧ isK t T = false
def ValIn (S : Sto) (v : D) : Prop := (∃ x, v = .str x) ∨ NoT S v "str"
def RowIn (S : Sto) (v : D) : Prop := NoT S v "tuple" ∨ ∃ vs, v = .tup vs ∧ vs.length ≤ 1000 ∧ ∀ x ∈ vs, ValIn S x
def MapIn (S : Sto) (v : D) : Prop := NoT S v "tuple" ∨ ∃ rows, v = .tup rows ∧ rows.length ≤ 1000 ∧ ∀ x ∈ rows, RowIn S x
def sp_is_tuple : DSp := fun ds S Q _ => ∃ (v : D) (n : Int), ds = [v, .int n] ∧ ((NoT S v "tuple" ∧ Q (.bl false) S) ∨ ∃ vs, v = .tup vs ∧ Q (.bl (decide ((vs.length : Int) = n))) S)
abbrev N_is_tuple : List Str := ["thing", "many"]
def d_is_tuple : DS :=
  dRet (dAndV (dIsi "tuple" (dVar 0)) (dOp oEqD (dCB bLen (aCons (dVar 0) (aNil))) (dVar 1)))
section
variable {K : PySem.W.Frag}
theorem eqvI (a b : Int) : PyData.eqv (.int a) (.int b) = decide (a = b) := by rw [eqv_int]; rfl
theorem v_is_tuple : ∀ ds S Q E, sp_is_tuple ds S Q E → d_is_tuple (EndsD Q) (startD N_is_tuple ds) S := by
  rintro ds S Q E ⟨v, n, rfl, ⟨⟨T, hT, hk⟩, q⟩ | ⟨vs, rfl, q⟩⟩
  · simp only [d_is_tuple, N_is_tuple, dWkA, dTupK, dTupL, dTupIx, dDictP, dDc2, dFor, dWhile, dLc, dLc2, dDc, dNextG, iSeq, iR1, iR2, iEn, iZpA, iZ2, iZ3, dSortK, dSortKF, dSortSet, dSortSetF, dBreak, bSortT, bSortTF, bSum, bSumL, bSumLF, bMaxL, bMinL, dDicE, bSortD, bSortDF, dGet2, oInA, oNotInA, oIxA, gdSubA, dSeq, dSet, dIf, dIfS, dTst, dOp, dUn, dVar, dCB, aCons, aNil, aStar, dRet, dRetN, dNext, dDrop, dLst, dTup, dC, dAnd, dOr, dNot, dAndV, dOrV, dNotV, dPar, dAsg, gdName, gdSub, gdTup, gdCons, gdNil, gdSlot, dIsi, dIsi2, dSlot, dSetSlot, dMethSl, dMakeSl, dCall, dCallP, dBM, dFrz, dLstF, dLcF, dLc2F, dDcF, dSlF, dListVF, bListF, bListDF, bSortSF, oAddLF, oRepLF, dSl, dNoP, dPart, dListV, dTru, dOrT, EndsD, startD, oLtI, oLeI, oGtI, oGeI, oIx, oMulI, oPowI, oAddI, oSubI, oModI, oDivI, oI, oI0, oEqD, oNeD, oInD, oNotInD, oAddL, oAddT, oAddS, oRepL, bLen, bAbs, bInt, bMin2, bMax2, bAll, bAny, bTuple, bList, bListD, bSortS, mAppend, mPop, mPopAt, mExtend, mIndex, dFld, dSetFld, dAddFld, gdFld, dMeth, dMake, dPar3, dRevT, oAddTK, dSortSetT, dSortSetTF, gdLst, gdAll, dRevL, dRevLF, dYes, dFrzA, oNegI, bSortG, bSortGF, dSlK, tupOf_lst, tupOf_ref, tupOf_tup, List.map_cons, List.map_nil, List.length_cons, List.length_nil, List.cons_append, List.nil_append, List.append_nil, List.replicate, List.set_cons_zero, List.set_cons_succ, List.getElem?_cons_zero, List.getElem?_cons_succ, Option.some.injEq, exists_eq_left', exists_eq_left, exists_and_left, D.int.injEq, D.bl.injEq, D.str.injEq, D.tup.injEq, D.lst.injEq, D.ref.injEq, List.cons.injEq, and_true, true_and, reduceCtorEq, false_and, and_false, exists_false, or_false, false_or, exists_const, Bool.false_eq_true, if_true, if_false, decide_eq_true_eq, Ob.lst.injEq, Ob.slt.injEq, Ob.dic.injEq, seqD_ref, lstD_ref, seqD_tup, seqD_lst, lstD_lst, lstR_lst, Sto.set_same, Sto.set_set, atI_0, atI_1, atI_2, Nat.reduceAdd, ixN_30, ixN_32, lstD_tup, seqD_row, List.append_assoc, false_or, or_false]
    exact ⟨T, hT, by rw [if_neg (by rw [hk]; decide)]; exact drp_of q⟩
  · simp only [d_is_tuple, N_is_tuple, dWkA, dTupK, dTupL, dTupIx, dDictP, dDc2, dFor, dWhile, dLc, dLc2, dDc, dNextG, iSeq, iR1, iR2, iEn, iZpA, iZ2, iZ3, dSortK, dSortKF, dSortSet, dSortSetF, dBreak, bSortT, bSortTF, bSum, bSumL, bSumLF, bMaxL, bMinL, dDicE, bSortD, bSortDF, dGet2, oInA, oNotInA, oIxA, gdSubA, dSeq, dSet, dIf, dIfS, dTst, dOp, dUn, dVar, dCB, aCons, aNil, aStar, dRet, dRetN, dNext, dDrop, dLst, dTup, dC, dAnd, dOr, dNot, dAndV, dOrV, dNotV, dPar, dAsg, gdName, gdSub, gdTup, gdCons, gdNil, gdSlot, dIsi, dIsi2, dSlot, dSetSlot, dMethSl, dMakeSl, dCall, dCallP, dBM, dFrz, dLstF, dLcF, dLc2F, dDcF, dSlF, dListVF, bListF, bListDF, bSortSF, oAddLF, oRepLF, dSl, dNoP, dPart, dListV, dTru, dOrT, EndsD, startD, oLtI, oLeI, oGtI, oGeI, oIx, oMulI, oPowI, oAddI, oSubI, oModI, oDivI, oI, oI0, oEqD, oNeD, oInD, oNotInD, oAddL, oAddT, oAddS, oRepL, bLen, bAbs, bInt, bMin2, bMax2, bAll, bAny, bTuple, bList, bListD, bSortS, mAppend, mPop, mPopAt, mExtend, mIndex, dFld, dSetFld, dAddFld, gdFld, dMeth, dMake, dPar3, dRevT, oAddTK, dSortSetT, dSortSetTF, gdLst, gdAll, dRevL, dRevLF, dYes, dFrzA, oNegI, bSortG, bSortGF, dSlK, tupOf_lst, tupOf_ref, tupOf_tup, List.map_cons, List.map_nil, List.length_cons, List.length_nil, List.cons_append, List.nil_append, List.append_nil, List.replicate, List.set_cons_zero, List.set_cons_succ, List.getElem?_cons_zero, List.getElem?_cons_succ, Option.some.injEq, exists_eq_left', exists_eq_left, exists_and_left, D.int.injEq, D.bl.injEq, D.str.injEq, D.tup.injEq, D.lst.injEq, D.ref.injEq, List.cons.injEq, and_true, true_and, reduceCtorEq, false_and, and_false, exists_false, or_false, false_or, exists_const, Bool.false_eq_true, if_true, if_false, decide_eq_true_eq, Ob.lst.injEq, Ob.slt.injEq, Ob.dic.injEq, seqD_ref, lstD_ref, seqD_tup, seqD_lst, lstD_lst, lstR_lst, Sto.set_same, Sto.set_set, atI_0, atI_1, atI_2, Nat.reduceAdd, ixN_30, ixN_32, lstD_tup, seqD_row, List.append_assoc, false_or, or_false]
    refine ⟨"tuple", rfl, ?_⟩
    rw [if_pos (by decide)]
    refine ⟨_, rfl, _, rfl, rfl, rfl, ?_⟩
    rw [eqvI]
    exact drp_of q
theorem NoT.mono {S S' : Sto} {v : D} {T : String} (k : NoT S v T) (s : S.sub S') : NoT S' v T := by
  obtain ⟨t, hT, hk⟩ := k
  refine ⟨t, ?_, hk⟩
  cases v with
  | ref l =>
    have h' : (match S l with | some (.lst _) => some "list" | some (.dic _ _) => some "dict" | _ => none) = some t := hT
    show (match S' l with | some (.lst _) => some "list" | some (.dic _ _) => some "dict" | _ => none) = some t
    cases e : S l with
    | none => rw [e] at h'; cases h'
    | some o => rw [s _ _ e]; rw [e] at h'; exact h'
  | _ => exact hT
theorem ValIn.mono {S S' : Sto} {v : D} (k : ValIn S v) (s : S.sub S') : ValIn S' v := k.imp id fun k => k.mono s
theorem RowIn.mono {S S' : Sto} {v : D} (k : RowIn S v) (s : S.sub S') : RowIn S' v := k.imp (fun k => k.mono s) fun ⟨vs, e, h, f⟩ => ⟨vs, e, h, fun x hx => (f x hx).mono s⟩
theorem MapIn.mono {S S' : Sto} {v : D} (k : MapIn S v) (s : S.sub S') : MapIn S' v := k.imp (fun k => k.mono s) fun ⟨vs, e, h, f⟩ => ⟨vs, e, h, fun x hx => (f x hx).mono s⟩
theorem compW_self {gs : Gs} {t : Tg} {te : DE} {ρ : En} {Q : List D → Sto → Prop} {S : Sto} (f : D → D) {xs : List D} (ok : gs.ok S) (hz : xs.length ≤ sizeLine)
    (h : ∀ a ∈ xs, ∀ (S' : Sto) (Py : DK), S.sub S' → Py (f a) S' → t.d a ρ fun ρ1 => te ρ1 S' Py) (q : Q (xs.map f) S) : compW gs t dYes te ρ Q xs [] S := by
  have := compW_all (gs := gs) (t := t) (te := te) (ρ := ρ) (Q := Q) (S := S) id f ok hz h q
  rw [List.map_id] at this
  exact this
end
end LK
end
section
set_option Elab.async false
set_option linter.all false
set_option maxRecDepth 100000
set_option maxHeartbeats 1000000
namespace LK
open PySem PySem.Spec PyProof.Rows L2 L3
def thB (L : Nat) : Nat → D → Bool
  | 0, _ => false
  | _ + 1, .non => true
  | _ + 1, .bl _ => true
  | _ + 1, .int i => decide (i = 0 ∨ i = 1 ∨ i = -1)
  | _ + 1, .str x => PyData.strOk x
  | n + 1, .tup ds => decide (ds.length ≤ L) && ds.all (thB L n)
  | n + 1, .lst ds => decide (ds.length ≤ L) && ds.all (thB L n)
  | _, _ => false
def wt : Nat → D → Nat
  | 0, _ => 0
  | _ + 1, .str x => x.length
  | n + 1, .tup ds => (ds.map fun d => wt n d + 1).sum
  | n + 1, .lst ds => (ds.map fun d => wt n d + 1).sum
  | _, _ => 0
theorem thD {L n : Nat} {ds : List D} (h : (decide (ds.length ≤ L) && ds.all (thB L n)) = true) : ds.length ≤ L ∧ ∀ d ∈ ds, thB L n d = true := by
  rw [Bool.and_eq_true, decide_eq_true_iff, List.all_eq_true] at h
  exact h
theorem thU {L n : Nat} {ds : List D} (h1 : ds.length ≤ L) (h2 : ∀ d ∈ ds, thB L n d = true) : (decide (ds.length ≤ L) && ds.all (thB L n)) = true := by
  rw [Bool.and_eq_true, decide_eq_true_iff, List.all_eq_true]
  exact ⟨h1, h2⟩
theorem th_wide : ∀ {K L n : Nat} {d : D}, thB K n d = true → K ≤ L → thB L n d = true
  | _, _, n + 1, .non, h, _ => h
  | _, _, n + 1, .bl _, h, _ => h
  | _, _, n + 1, .int _, h, _ => h
  | _, _, n + 1, .str _, h, _ => h
  | _, _, n + 1, .tup ds, h, k => thU (Nat.le_trans (thD h).1 k) fun d hd => th_wide ((thD h).2 d hd) k
  | _, _, n + 1, .lst ds, h, k => thU (Nat.le_trans (thD h).1 k) fun d hd => th_wide ((thD h).2 d hd) k
theorem str_short {x : Str} (h : PyData.strOk x = true) : (PyData.str x).leavesShort 8 = true := by
  simp only [PyData.leavesShort, List.all_eq_true, decide_eq_true_eq]
  intro c hc
  unfold PyData.strOk at h
  rw [← Array.all_toList, List.all_eq_true] at h
  have := of_decide_eq_true (h c hc)
  exact Nat.lt_trans this (by decide)
structure ThP (n W : Nat) (p : PyData) : Prop where
  sh : p.showable = true
  nd : p.hasDict = false
  dep : p.depth ≤ n
  sho : p.leavesShort 8 = true
  bk : p.bulk = W
  lay : p.canLay0 = true
theorem th_py {L : Nat} : ∀ {n : Nat} {d : D}, thB L n d = true → ∃ p, pyD d = some p ∧ ThP n (wt n d) p
  | n + 1, .non, _ => ⟨.none, rfl, ⟨rfl, rfl, by simp [PyData.depth], rfl, rfl, rfl⟩⟩
  | n + 1, .bl b, _ => ⟨.bool b, rfl, ⟨rfl, rfl, by simp [PyData.depth], rfl, rfl, rfl⟩⟩
  | n + 1, .int i, h => by
    have h : i = 0 ∨ i = 1 ∨ i = -1 := of_decide_eq_true h
    refine ⟨.int i, rfl, ⟨?_, rfl, by simp [PyData.depth], ?_, rfl, rfl⟩⟩
    · rcases h with rfl | rfl | rfl <;> decide +kernel
    · rcases h with rfl | rfl | rfl <;> decide +kernel
  | n + 1, .str x, h => ⟨.str x, rfl, ⟨rfl, rfl, by simp [PyData.depth], str_short h, rfl, h⟩⟩
  | n + 1, .tup ds, h => by
    obtain ⟨ps, h1, h2, h3, h4, h5, h6, h7⟩ := th_pys (L := L) (n := n) (ds := ds) fun d hd => (thD h).2 d hd
    exact ⟨.tuple ps, pyD_tup h1, ⟨by simpa [PyData.showable] using h2, by simpa [PyData.hasDict] using h3, by simp only [PyData.depth]; omega, by simpa [PyData.leavesShort] using h5, by simp only [PyData.bulk]; exact h6, by simp only [PyData.canLay0]; exact h7⟩⟩
  | n + 1, .lst ds, h => by
    obtain ⟨ps, h1, h2, h3, h4, h5, h6, h7⟩ := th_pys (L := L) (n := n) (ds := ds) fun d hd => (thD h).2 d hd
    exact ⟨.list ps, pyD_lst h1, ⟨by simpa [PyData.showable] using h2, by simpa [PyData.hasDict] using h3, by simp only [PyData.depth]; omega, by simpa [PyData.leavesShort] using h5, by simp only [PyData.bulk]; exact h6, by simp only [PyData.canLay0]; exact h7⟩⟩
where
  th_pys {L n : Nat} : ∀ {ds : List D}, (∀ d ∈ ds, thB L n d = true) → ∃ ps, pyDs ds = some ps ∧ PyData.showableAll ps = true ∧ PyData.hasDictAll ps = false ∧ PyData.depthAll ps ≤ n ∧ PyData.leavesShortAll 8 ps = true ∧ PyData.bulkAll ps = (ds.map fun d => wt n d + 1).sum ∧ PyData.canLayAll0 ps = true
    | [], _ => ⟨[], rfl, rfl, rfl, by simp [PyData.depthAll], rfl, rfl, rfl⟩
    | d :: ds, h => by
      obtain ⟨p, e, hp⟩ := th_py (h d List.mem_cons_self)
      obtain ⟨ps, h1, h2, h3, h4, h5, h6, h7⟩ := th_pys (ds := ds) fun x hx => h x (List.mem_cons_of_mem _ hx)
      refine ⟨p :: ps, pyDs_cons e h1, ?_, ?_, ?_, ?_, ?_, ?_⟩
      · simp only [PyData.showableAll, hp.sh, h2, Bool.and_self]
      · simp only [PyData.hasDictAll, hp.nd, h3, Bool.or_self]
      · have := hp.dep
        simp only [PyData.depthAll]
        omega
      · simp only [PyData.leavesShortAll, hp.sho, h5, Bool.and_self]
      · simp only [PyData.bulkAll, hp.bk, h6, List.map_cons, List.sum_cons]
      · simp only [PyData.canLayAll0, hp.lay, h7, Bool.and_self]
theorem th_shw2 {L n : Nat} {d : D} (h : thB L n d = true) (hn : n ≤ 60) (hw : wt n d ≤ 1000000) : ∃ p, pyD d = some p ∧ Shw p := by
  obtain ⟨p, e, k⟩ := th_py h
  refine ⟨p, e, ⟨k.sh, k.nd, Nat.le_trans k.dep hn, ?_⟩⟩
  have h1 := PyData.shown_le_bulk 8 (by decide) p k.sho
  have h2 := sizeLine_eq
  rw [k.bk] at h1
  omega
theorem th_shp {L n : Nat} {d : D} (h : thB L n d = true) : ∃ p, pyD d = some p ∧ Shp p n := by
  obtain ⟨p, e, k⟩ := th_py h
  exact ⟨p, e, k.lay, k.dep⟩
theorem th_mono {L : Nat} : ∀ {n : Nat} {d : D}, thB L n d = true → thB L (n + 1) d = true ∧ wt (n + 1) d = wt n d
  | n + 1, .non, _ => ⟨rfl, rfl⟩
  | n + 1, .bl b, _ => ⟨rfl, rfl⟩
  | n + 1, .int i, h => ⟨h, rfl⟩
  | n + 1, .str x, h => ⟨h, rfl⟩
  | n + 1, .tup ds, h => by
    obtain ⟨hl, h⟩ := thD h
    refine ⟨thU hl fun d hd => (th_mono (h d hd)).1, ?_⟩
    show (ds.map fun d => wt (n + 1) d + 1).sum = (ds.map fun d => wt n d + 1).sum
    rw [List.map_congr_left fun d hd => by rw [(th_mono (h d hd)).2]]
  | n + 1, .lst ds, h => by
    obtain ⟨hl, h⟩ := thD h
    refine ⟨thU hl fun d hd => (th_mono (h d hd)).1, ?_⟩
    show (ds.map fun d => wt (n + 1) d + 1).sum = (ds.map fun d => wt n d + 1).sum
    rw [List.map_congr_left fun d hd => by rw [(th_mono (h d hd)).2]]
theorem th_le {L m n : Nat} {d : D} (h : thB L m d = true) (hl : m ≤ n) : thB L n d = true ∧ wt n d = wt m d := by
  induction hl with
  | refl => exact ⟨h, rfl⟩
  | step _ ih => exact ⟨(th_mono ih.1).1, (th_mono ih.1).2.trans ih.2⟩
def Th (L n W : Nat) (d : D) : Prop := thB L n d = true ∧ wt n d ≤ W
theorem Th.mono {K L m n V W : Nat} {d : D} (h : Th K m V d) (h1 : m ≤ n) (h2 : V ≤ W) (h3 : K ≤ L := by omega) : Th L n W d := by
  obtain ⟨a, b⟩ := th_le h.1 h1
  exact ⟨th_wide a h3, by rw [b]; exact Nat.le_trans h.2 h2⟩
theorem th_tup {L n : Nat} {ds : List D} : thB L (n + 1) (.tup ds) = true ↔ ds.length ≤ L ∧ ∀ d ∈ ds, thB L n d = true := ⟨thD, fun h => thU h.1 h.2⟩
theorem th_lst {L n : Nat} {ds : List D} : thB L (n + 1) (.lst ds) = true ↔ ds.length ≤ L ∧ ∀ d ∈ ds, thB L n d = true := ⟨thD, fun h => thU h.1 h.2⟩
def wts (n : Nat) (ds : List D) : Nat := (ds.map fun d => wt n d + 1).sum
theorem wt_tup (n : Nat) (ds : List D) : wt (n + 1) (.tup ds) = wts n ds := rfl
theorem wts_app (n : Nat) (a b : List D) : wts n (a ++ b) = wts n a + wts n b := by unfold wts; rw [List.map_append, List.sum_append]
theorem wts_cons (n : Nat) (a : D) (b : List D) : wts n (a :: b) = wt n a + 1 + wts n b := by unfold wts; rw [List.map_cons, List.sum_cons]
theorem wts_nil (n : Nat) : wts n [] = 0 := rfl
theorem wts_split (n k : Nat) (ds : List D) : wts n (ds.take k) + wts n (ds.drop k) = wts n ds := by rw [← wts_app, List.take_append_drop]
theorem wts_rev (n : Nat) (ds : List D) : wts n ds.reverse = wts n ds := by unfold wts; rw [List.map_reverse, List.sum_reverse]
theorem wts_mem {n : Nat} : ∀ {ds : List D} {d : D}, d ∈ ds → wt n d + 1 ≤ wts n ds
  | e :: ds, d, h => by
    rw [wts_cons]
    rcases List.mem_cons.mp h with rfl | h
    · omega
    · have := wts_mem (n := n) h
      omega
theorem wts_len (n : Nat) : ∀ ds : List D, ds.length ≤ wts n ds
  | [] => Nat.zero_le _
  | d :: ds => by
    have := wts_len n ds
    rw [List.length_cons, wts_cons]
    omega
theorem Th.lst {L n W : Nat} {ds : List D} (h : Th L (n + 1) W (.tup ds)) : Th L (n + 1) W (.lst ds) := h
theorem th_put {L n W : Nat} {ds : List D} {k : Nat} {r : D} (hl : ds.length ≤ L) (h : ∀ d ∈ ds, thB L n d = true) (hk : k < ds.length) (hr : thB L n r = true) (hw : wts n ds + wt n r ≤ W + wt n (ds.getD k .non)) : Th L (n + 1) W (.tup (ds.take k ++ [r] ++ ds.drop (k + 1))) := by
  refine ⟨th_tup.mpr ⟨by rw [List.length_append, List.length_append, List.length_take, List.length_drop, List.length_singleton]; omega, fun d hd => ?_⟩, ?_⟩
  · rcases List.mem_append.mp hd with hd | hd
    · rcases List.mem_append.mp hd with hd | hd
      · exact h d (List.mem_of_mem_take hd)
      · rw [List.mem_singleton.mp hd]; exact hr
    · exact h d (List.mem_of_mem_drop hd)
  · rw [wt_tup, wts_app, wts_app, wts_cons, wts_nil]
    have e := wts_split n k ds
    rw [List.drop_eq_getElem_cons hk, wts_cons] at e
    rw [List.getD_eq_getElem?_getD, List.getElem?_eq_getElem hk] at hw
    have hw : wts n ds + wt n r ≤ W + wt n ds[k] := hw
    omega
end LK
end
section
set_option Elab.async false
set_option linter.all false
set_option maxRecDepth 100000
set_option maxHeartbeats 2000000
namespace L3
open PySem PySem.Spec PyProof.Rows L2
section
variable {M : Md} {X : Cx}
def oCmpD (f : PyData → PyData → Bool) : DR2 := fun v w S Q => ∃ p q, pyR S v = some p ∧ pyR S w = some q ∧ PySem.W.alike p q = true ∧ p ≠ .none ∧ p.depth ≤ 8 ∧ Q (.bl (f p q)) S
def oGeD : DR2 := oCmpD fun d e => !PySem.W.dataLt d e
end
end L3
end
section
set_option Elab.async false
set_option linter.all false
set_option maxRecDepth 100000
set_option maxHeartbeats 1000000
namespace L3
open PySem PySem.Spec PyProof.Rows L2
section
variable {P : Program} {w : World} {K : PySem.W.Frag} {io : Pl} {H : Hp} {h : Heap}
mutual
theorem nk_is (ok : HOk P w H h) : ∀ (k : NestedKey) {v : V} {u : Value}, RD K io H (nkD k) v → RelV v u → NestedIs h k u
  | .none, _, _, r, q => by
    rw [show _ = V.non from r] at q
    rw [show _ = Value.none from q]; exact .none
  | .num i, _, _, r, q => by
    rw [show _ = V.int i from r] at q
    obtain ⟨t, rfl⟩ := (show ∃ t, _ = Value.int i t from q)
    exact .int i t
  | .text x, _, _, r, q => by
    rw [show _ = V.str x from r] at q
    obtain ⟨t, rfl⟩ := (show ∃ t, _ = Value.str x t from q)
    exact .text x t
  | .tup ks, _, _, r, q => by
    rw [nkD] at r
    obtain ⟨a, xs, e, ha, rr⟩ := r
    subst e
    rw [show _ = Value.ref a from q]
    obtain ⟨_, its, rv, o, h1, h2, n, h3⟩ := (show ObjOk P w H h a (.tup xs) from ok a _ ha)
    exact .tup h1 h2 h3 (nks_is ok ks rr (by simpa using rv))
theorem nks_is (ok : HOk P w H h) : ∀ (ks : List NestedKey) {vs : List V} {us : List Value}, RDs K io H (nkDs ks) vs → Vals vs us → NestedAll h ks us
  | [], _, _, r, q => by
    rw [show _ = [] from r] at q
    cases q; exact .nil
  | k :: ks, _, _, r, q => by
    rw [nkDs] at r
    obtain ⟨x, xs, e, r1, r2⟩ := r
    subst e
    cases q with
    | cons q1 q2 => exact .cons (nk_is ok k r1 q1) (nks_is ok ks r2 q2)
end
abbrev Ys := List (NestedKey × Addr × V)
def DnP : Ys → List (NestedKey × Addr × Value) → Prop := Paired fun p q => p.1 = q.1 ∧ p.2.1 = q.2.1 ∧ RelV p.2.2 q.2.2
def NKs (K : PySem.W.Frag) (io : Pl) (H : Hp) (ys : Ys) : Prop := RDs K io H (nkDs (ys.map (·.1))) (ys.map fun y => V.ref y.2.1) ∧ ∀ k ∈ ys.map (·.1), k.depth ≤ 8
theorem nks_all (ok : HOk P w H h) : ∀ {ys : Ys} {xs : List (NestedKey × Addr × Value)}, RDs K io H (nkDs (ys.map (·.1))) (ys.map fun y => V.ref y.2.1) → (∀ k ∈ ys.map (·.1), k.depth ≤ 8) → DnP ys xs → ∀ x ∈ xs, (nestedKind P w).is h x.1 x.2.1
  | [], _, _, _, q => by cases q; exact fun _ hx => nomatch hx
  | y :: ys, _, r, d, q => by
    cases q with
    | @cons p z _ zs hq t =>
      rw [List.map_cons, List.map_cons, nkDs] at r
      obtain ⟨x, r', e, r1, r2⟩ := r
      cases e
      intro x hx
      rcases List.mem_cons.mp hx with rfl | hx
      · obtain ⟨e1, e2, _⟩ := hq
        rw [← e1, ← e2]
        exact ⟨nk_is ok _ r1 rfl, d _ List.mem_cons_self⟩
      · exact nks_all ok r2 (fun k hk => d k (List.mem_cons_of_mem _ hk)) t x hx
theorem dn_of {a : Addr} {ep : Nat} {ys : Ys} (ok : HOk P w H h) (e : H a = some (DnX w a ep ys)) (k : NKs K io H ys) :
    (a == sysModules) = false ∧ ys.length ≤ sizeLine ∧ ∃ xs, DnP ys xs ∧ h.DictOfH (nestedKind P w) a xs := by
  obtain ⟨⟨hs, hl, o, es, xs, h1, h2, h3, h4, h5, h6⟩, _⟩ := (show ObjOk P w H h a (DnX w a ep ys) from ok a _ e)
  exact ⟨hs, hl, xs, h6, o, es, ep, h1, h2, h3, h4, nks_all ok k.1 k.2 h6, h5⟩
end
section
variable {X : Cx} {pins : List (Addr × Obj)} {σ : L2.St} {H : Hp} {s : Shared} {a b : Addr} {ep : Nat} {ys : Ys} {k : NestedKey}
def IsN (X : Cx) (H : Hp) (a : Addr) (ep : Nat) (ys : Ys) : Prop := H a = some (DnX X.w a ep ys) ∧ ∃ io, NKs X.K io H ys
def KeyN (X : Cx) (H : Hp) (k : NestedKey) (b : Addr) : Prop := (∃ io, RD X.K io H (nkD k) (.ref b)) ∧ k.depth ≤ 8
theorem IsN.at (I : Inv X pins σ H s) (e : IsN X H a ep ys) : (a == sysModules) = false ∧ ys.length ≤ sizeLine ∧ ∃ xs, DnP ys xs ∧ s.heap.DictOfH (nestedKind X.prog X.w) a xs := by
  obtain ⟨e, io, k⟩ := e
  exact dn_of I.hok e k
theorem KeyN.at (I : Inv X pins σ H s) (e : KeyN X H k b) : (nestedKind X.prog X.w).is s.heap k b := by
  obtain ⟨⟨io, r⟩, d⟩ := e
  exact ⟨nk_is I.hok k r rfl, d⟩
end
def KeyD (k : NestedKey) (w : D) : Prop := w = nkD k ∧ (∃ q, k = .tup q) ∧ k.depth ≤ 8
section
variable {M : Md} {X : Cx} {io : Pl} {H : Hp} {S : Sto}
theorem KeyD.at {k : NestedKey} {w : D} {y : V} (hM : M.kw = (X.K, some X.w)) (h : KeyD k w) (r : RD M.K io H w y) : ∃ b, y = .ref b ∧ RD M.K io H (nkD k) (.ref b) ∧ KeyN X H k b := by
  obtain ⟨rfl, ⟨q, rfl⟩, d⟩ := h
  have r' := r
  rw [nkD] at r'
  obtain ⟨b, xs, rfl, _⟩ := r'
  exact ⟨b, rfl, r, ⟨io, by rw [← kw_k hM]; exact r⟩, d⟩
theorem RS.din (hM : M.kw = (X.K, some X.w)) (r : RS M io H S) {l : Nat} {x : V} {ep : Nat} {ks : List NestedKey} {ds : List D} (e : S l = some (.din ep ks ds)) (h : RD M.K io H (.ref l) x) :
    ∃ a ys, x = .ref a ∧ io[l]? = some (a, a) ∧ IsN X H a ep ys ∧ NKs M.K io H ys ∧ ys.map (·.1) = ks ∧ RDs M.K io H ds (ys.map (·.2.2)) := by
  obtain ⟨p, e1, e3, w, ys, ew, h1, h2, h3, h4, h5⟩ := r.ob l _ e
  obtain ⟨q, e2, rfl⟩ := h
  rw [e1] at e2; cases e2
  obtain ⟨p1, p2⟩ := p
  have e3 : p2 = p1 := e3
  subst e3
  rw [kw_w hM] at ew; cases ew
  subst h2
  exact ⟨_, ys, rfl, e1, ⟨h1, io, by rw [← kw_k hM]; exact ⟨h3, h4⟩⟩, ⟨h3, h4⟩, rfl, h5⟩
def dDinN : DE := fun _ S Q => ∀ l, S l = none → Q (.ref l) (S.set l (.din 0 [] []))
variable {a b e o i : Expr} {da db d di : DE} {pos apos cpos : Pos}
def gdSubN (d di : DE) : DG := fun v ρ S Q => d ρ S fun o S1 => di ρ S1 fun i S2 => ∃ l ep ks es k, o = .ref l ∧ KeyD k i ∧ S2 l = some (.din ep ks es) ∧ ks.length < sizeLine ∧ ∀ ep', Q ρ (S2.set l (.din ep' (putTs ks k) (putTd ks es k v)))
end
end L3
end
section
set_option Elab.async false
set_option linter.all false
set_option maxRecDepth 100000
set_option maxHeartbeats 1000000
namespace L3
open PySem PySem.Spec PyProof.Rows L2
section
variable {X : Cx} {pins : List (Addr × Obj)} {σ : L2.St} {H : Hp} {s : Shared} {a : Addr} {ep : Nat} {ys : Ys}
theorem IsN.ty (I : Inv X pins σ H s) (e : IsN X H a ep ys) : s.TypeIs (.ref a) "dict" ∧ ∀ b, Value.ref a = .ref b → ∃ ob, s.heap.get? b = some ob ∧ ob.dict = none := by
  obtain ⟨_, _, xs, _, dd⟩ := e.at I
  refine ⟨dd.typeIs, fun b q => ?_⟩
  cases q
  obtain ⟨o, _, _, h1, h2, _⟩ := dd
  exact ⟨o, h1, h2.2.1⟩
variable {o e f : Expr} {to : TE} {t : TA} {apos cpos : Pos}
end
section
variable {X : Cx} {pins : List (Addr × Obj)} {σ : L2.St} {H : Hp} {s : Shared} {d : Addr} {ep : Nat} {ys : Ys}
end
section
variable {P : Program} {w : World} {K : PySem.W.Frag} {tg : Expr} {d : Addr} {ep n : Nat}
end
section
variable {X : Cx} {tg e : Expr} {td : TE} {apos cpos : Pos}
end
section
variable {M : Md} {X : Cx} {io : Pl} {H : Hp} {S : Sto} {o e f tg : Expr} {d : DE} {t : DA} {apos cpos : Pos}
def dSetDef (d : DE) (t : DA) : DE := fun ρ S Q => d ρ S fun o S1 => (∃ l ep ks es, o = .ref l ∧ S1 l = some (.din ep ks es)) ∧ t ρ S1 fun ds S2 => ∃ l ep ks es k kd z, o = .ref l ∧ ds = [kd, z] ∧ KeyD k kd ∧ S2 l = some (.din ep ks es) ∧ ks.length < sizeLine ∧
  (∀ w, getT ks es k = some w → Q w S2) ∧ (k ∉ ks → ∀ ep', Q z (S2.set l (.din ep' (putTs ks k) (putTd ks es k z))))
def iDinK (d : DE) : DI := fun ρ S R => d ρ S fun v S1 => ∃ l ep ks es, v = .ref l ∧ S1 l = some (.din ep ks es) ∧ R (ks.map nkD) [(l, .din ep ks es)] S1
def iDinI (d : DE) : DI := fun ρ S R => d ρ S fun v S1 => ∃ l ep ks es, v = .ref l ∧ S1 l = some (.din ep ks es) ∧ ks.length = es.length ∧ R ((ks.zip es).map fun p => .tup [nkD p.1, p.2]) [(l, .din ep ks es)] S1
end
end L3
end
section
set_option Elab.async false
set_option linter.all false
set_option maxRecDepth 100000
set_option maxHeartbeats 2000000
namespace L3
open PySem PySem.Spec PyProof.Rows L2
section
variable {X : Cx} {kx vx tg iter : Expr} {ifs : List Expr} {scope : Scope} {own : List (Str × Nat)} {pos : Pos} {wi : TI} {g : TG} {tt : TT} {tk tv : TE}
end
def dicNW (gs : Gs) (t : Tg) (tt : DT) (tk tv : DE) (ρ : En) (Q : Nat → List NestedKey → List D → Sto → Prop) : List D → Nat → List NestedKey → List D → Sto → Prop
  | [], ep, ks, es, S => gs.ok S ∧ Q ep ks es S
  | d :: ds, ep, ks, es, S => gs.ok S ∧ ks.length < sizeLine ∧ ∀ l o, S l = none → t.d d ρ fun ρ1 => tt ρ1 (S.set l o) fun b S2 =>
      if b = true then tk ρ1 S2 fun y S3 => tv ρ1 S3 fun z S4 => ∃ k, KeyD k y ∧ S4 l = some o ∧ ∃ S5, S5.sub (S4.del l) ∧ ∀ ep', dicNW gs t tt tk tv ρ Q ds ep' (putTs ks k) (putTd ks es k z) S5
      else S2 l = some o ∧ ∃ S4, S4.sub (S2.del l) ∧ dicNW gs t tt tk tv ρ Q ds ep ks es S4
def dDcN (di : DI) (t : Tg) (tt : DT) (tk tv : DE) (vs : List Nat) : DE := fun ρ S Q => di ρ S fun ds gs S1 => dicNW gs t tt tk tv (wipeD ρ vs) (fun ep ks es S2 => ∀ l, S2 l = none → Q (.ref l) (S2.set l (.din ep ks es))) ds 0 [] [] S1
section
variable {M : Md} {X : Cx} {di : DI} {t : Tg} {tt : DT} {tk tv : DE} {vs : List Nat}
end
section
variable {M : Md} {X : Cx} {kx vx tg iter : Expr} {ifs : List Expr} {scope : Scope} {own : List (Str × Nat)} {pos : Pos} {di : DI} {t : Tg} {tt : DT} {tk tv : DE}
end
section
variable {X : Cx} {k v : Expr} {tk tv : TE} {pos : Pos}
end
section
variable {M : Md} {X : Cx} {k v : Expr} {dk dv : DE} {pos : Pos}
def dDin1 (dk dv : DE) : DE := fun ρ S Q => ∀ l, S l = none → dk ρ (S.set l (.din 0 [] [])) fun kd S1 => dv ρ S1 fun z S2 => ∃ k, KeyD k kd ∧ S2 l = some (.din 0 [] []) ∧ ∀ ep', Q (.ref l) (S2.set l (.din ep' [k] [z]))
end
end L3
end
section
set_option Elab.async false
set_option linter.all false
set_option maxRecDepth 100000
set_option maxHeartbeats 1000000
namespace L3
open PySem PySem.Spec PyProof.Rows L2
section
variable {X : Cx} {a b c d : Expr} {ta tb tc td : TE} {pos : Pos}
end
section
variable {M : Md} {X : Cx} {a b c d : Expr} {da db dc dd : DE} {pos : Pos}
def dChain3 (r r' r2 : DR2) (a b c d : DE) : DE := fun ρ S Q => a ρ S fun x S1 => b ρ S1 fun y S2 => r x y S2 fun z S3 => ∃ k, z = .bl k ∧ (if k = true then c ρ S3 fun w S4 => r' y w S4 fun z2 S5 => ∃ k2, z2 = .bl k2 ∧ (if k2 = true then d ρ S5 fun u S6 => r2 w u S6 Q else Q (.bl false) S5) else Q (.bl false) S3)
end
end L3
end
section
set_option Elab.async false
set_option linter.all false
set_option maxRecDepth 100000
set_option maxHeartbeats 2000000
namespace L3
open PySem PySem.Spec PyProof.Rows L2
def dLenSetXT (d : DE) : DE := fun ρ S Q => d ρ S fun v S1 => ∃ xs : List (List Str), v = .tup (xs.map tS) ∧ (∀ ys : List (List Str), ys.Nodup → (∀ b ∈ ys, b ∈ xs) → ys.length < 63) ∧ ∀ ys : List (List Str), ys.Nodup → (∀ b, b ∈ ys ↔ b ∈ xs) → Q (.int (ys.length : Nat)) S1
section
variable {M : Md} {X : Cx} {e : Expr} {d : DE} {p p2 pos pos2 : Pos}
end
end L3
end
section
set_option Elab.async false
set_option linter.all false
set_option maxRecDepth 100000
set_option maxHeartbeats 2000000
namespace L3
open PySem PySem.Spec PyProof.Rows L2
def mergeND (ps : List (NestedKey × D)) : List NestedKey × List D := ps.foldl (fun acc p => (putTs acc.1 p.1, putTd acc.1 acc.2 p.1 p.2)) ([], [])
def dDictN (d : DE) : DE := fun ρ S Q => d ρ S fun v S1 => ∃ ps : List (NestedKey × D), lstD S1 v = some (ps.map fun p => .tup [nkD p.1, p.2]) ∧ (∀ p ∈ ps, (∃ q, p.1 = .tup q) ∧ p.1.depth ≤ 8) ∧ ps.length ≤ 16777216 ∧ ∀ l ep, S1 l = none → Q (.ref l) (S1.set l (.din ep (mergeND ps).1 (mergeND ps).2))
section
variable {M : Md} {X : Cx} {pos : Pos}
end
end L3
end
section
set_option Elab.async false
set_option linter.all false
set_option maxRecDepth 100000
set_option maxHeartbeats 1000000
namespace LK
open PySem PySem.Spec PyProof.Rows L2 L3
def sp__law_bent (n : Nat) : DSp := fun ds S Q _ => ∃ (l : Nat) (v : D) (ms : List D) (L km M : Nat) (c : Int), ds = [.ref l, v, .lst ms] ∧ thB L n v = true ∧ 2 ≤ L ∧ wt n v + 20 ≤ M ∧ 2 ≤ km ∧ (∀ m ∈ ms, Th (L + 1) km M m) ∧ ms.length ≤ 50 ∧ n + km ≤ 60 ∧ M ≤ 100000 ∧ Bx S l c ∧ c + 2 * n ≤ 2 ^ 39 ∧
  ∀ r S1, Th (L + 1) (n + km) (wt n v + M) r → Fr l S S1 → Bx S1 l (c + 2 * n) → (∀ m, S1 m = none → S m = none) → Q r S1
abbrev N__law_bent : List Str := ["_law_box_here", "_law_part", "_law_more", "_law_some", "_law_k"]
def t3__law_bent (n : Nat) : DS :=
  dSeq (dIfS (dTst (dIsi "str" (dVar 1))) (dSet 3 (dOp oAddLF (dVar 3) (dLstF (aCons (dOp oAddS (dVar 1) (dC (.str "z"))) (aCons (dSlS (dVar 1) (dNoP) (dPart (dUn oNegI (dC (.int 1))))) (aCons (dOp oAddS (dVar 1) (dVar 1)) (aCons (dOp oAddS (dVar 1) (dC (.str " "))) (aNil)))))))) (dNext))
    (dRet (dCall (sp__law_of) noX (aCons (dVar 0) (aCons (dVar 3) (aNil)))))
def t2__law_bent (n : Nat) : DS :=
  dSeq (dIfS (dTst (dIsi "tuple" (dVar 1))) (dSet 3 (dOp oAddLF (dVar 3) (dLstF (aCons (dCB bListF (aCons (dVar 1) (aNil))) (aCons (dSlF (dVar 1) (dNoP) (dPart (dUn oNegI (dC (.int 1))))) (aCons (dOp oAddT (dVar 1) (dSlF (dVar 1) (dPart (dUn oNegI (dC (.int 1)))) (dNoP))) (aCons (dRevT (dVar 1)) (aCons (dTup (aCons (dVar 1) (aNil))) (aNil))))))))) (dNext))
    (t3__law_bent n)
def t__law_bent (n : Nat) : DS :=
  dSeq (dSet 3 (dLstF (aCons (dC (.int 0)) (aCons (dC (.int 1)) (aCons (dUn oNegI (dC (.int 1))) (aCons (dC .non) (aCons (dC (.bl true)) (aCons (dC (.bl false)) (aCons (dC (.str "")) (aCons (dC (.str "a")) (aCons (dC (.str "A")) (aCons (dC (.str "zzzzzzzz")) (aCons (dC (.str "zzzzzzzzz")) (aCons (dC (.str "b1")) (aCons (dC (.str "a b")) (aCons (dC (.str "a\n")) (aCons (dTup (aNil)) (aCons (dLstF (aNil)) (aNil)))))))))))))))))))
    (dSeq (dSet 3 (dOp oAddLF (dOp oAddLF (dVar 3) (dLstF (aCons (dTup (aCons (dC (.str "a")) (aNil))) (aCons (dTup (aCons (dC (.str "a")) (aCons (dC (.str "b")) (aNil)))) (aNil))))) (dVar 2)))
    (t2__law_bent n))
def d__law_bent (n : Nat) : DS :=
  dSeq (dIfS (dAnd (dTst (dIsi "tuple" (dVar 1))) (dAnd (dTst (dOp oNeD (dVar 1) (dTup (aNil)))) (dTst (dOp oGtI (dCall (sp__law_take) noX (aCons (dVar 0) (aCons (dC (.int 5)) (aNil)))) (dC (.int 0)))))) (dSeq (dSet 4 (dCall (sp__law_take) noX (aCons (dVar 0) (aCons (dCB bLen (aCons (dVar 1) (aNil))) (aNil)))))
    (dRet (dOp oAddT (dOp oAddT (dSlF (dVar 1) (dNoP) (dPart (dVar 4))) (dTup (aCons (dCall (sp__law_bent n) noX (aCons (dVar 0) (aCons (dOp oIx (dVar 1) (dVar 4)) (aCons (dVar 2) (aNil))))) (aNil)))) (dSlF (dVar 1) (dPart (dOp oAddI (dVar 4) (dC (.int 1)))) (dNoP))))) (dNext))
    (t__law_bent n)
theorem v0__law_bent : ∀ ds S Q E, sp__law_bent 0 ds S Q E → False := by
  rintro ds S Q E ⟨l, v, ms, L, km, M, c, rfl, h, _⟩
  cases v <;> exact nomatch h
theorem so_cat {a b : Str} (ha : PyData.strOk a = true) (hb : PyData.strOk b = true) : PyData.strOk (a ++ b) = true := by
  unfold PyData.strOk at ha hb ⊢
  rw [← Array.all_toList, List.all_eq_true] at ha hb ⊢
  intro c hc
  have hc : c ∈ (a.cps ++ b.cps).toList := hc
  rw [Array.toList_append] at hc
  exact (List.mem_append.mp hc).elim (ha c) (hb c)
theorem len_cat (a b : Str) : (a ++ b).length = a.length + b.length := by
  show (a.cps ++ b.cps).size = _
  rw [Array.size_append]; rfl
theorem so_init {z : Str} (h : PyData.strOk z = true) : PyData.strOk (cutS z none (some (-1))) = true ∧ (cutS z none (some (-1))).length ≤ z.length := by
  have hs : ∀ c ∈ (cutS z none (some (-1))).cps.toList, c ∈ z.cps.toList := fun c hc => by
    unfold cutS at hc
    exact List.mem_of_mem_drop (List.mem_of_mem_take hc)
  have hl : (cutS z none (some (-1))).length ≤ z.length := by
    have : (cutS z none (some (-1))).cps.toList.length ≤ z.cps.toList.length := by
      unfold cutS
      show (List.take _ (List.drop _ z.cps.toList)).length ≤ _
      rw [List.length_take, List.length_drop]
      omega
    exact this
  refine ⟨?_, hl⟩
  unfold PyData.strOk at h ⊢
  rw [← Array.all_toList, List.all_eq_true] at h ⊢
  exact fun c hc => h c (hs c hc)
def bentC : List D := [.int 0, .int 1, .int (-1), .non, .bl true, .bl false, .str "", .str "a", .str "A", .str "zzzzzzzz", .str "zzzzzzzzz", .str "b1", .str "a b", .str "a\n", .tup [], .lst [], .tup [.str "a"], .tup [.str "a", .str "b"]]
theorem bentC_th : ∀ e ∈ bentC, Th 2 2 9 e := fun e he => by
  have k := List.all_eq_true.mp (show bentC.all (fun e => thB 2 2 e && decide (wt 2 e ≤ 9)) = true by decide +kernel) e he
  rw [Bool.and_eq_true, decide_eq_true_iff] at k
  exact k
theorem th_str {L n W : Nat} {x : Str} (h : PyData.strOk x = true) (hl : x.length ≤ W) : Th L (n + 1) W (.str x) := ⟨h, hl⟩
theorem bent3 {L n N W : Nat} {l : Nat} {v : D} {es : List D} {c : Int} {S : Sto} {Q : D → Sto → Prop} {b2 b4 : Option D} (h : thB L (n + 1) v = true) (hv : 2 * wt (n + 1) v + 1 ≤ W) (hN : 1 ≤ N) (he : ∀ e ∈ es, Th (L + 1) N W e) (hne : es ≠ []) (hl : es.length ≤ 900) (hB : Bx S l c) (hc : c ≤ 2 ^ 39) (hw : wt (n + 1) v ≤ 100000)
    (q : ∀ r S1, Th (L + 1) N W r → Fr l S S1 → Bx S1 l (c + 1) → (∀ m, S1 m = none → S m = none) → drp (Q r) S1) :
    t3__law_bent n { nx := fun _ S => drp (Q .non) S, rt := fun v S => drp (Q v) S } [some (.ref l), some v, b2, some (.lst es), b4] S := by
  have hsl := sizeLine_eq
  have fin : sp__law_of [.ref l, .lst es] S (fun v S => drp (Q v) S) noX := c__law_of_lst hne (by omega) hB (by omega) fun e S1 hm hf hB1 hn => q e S1 (he e hm) hf hB1 hn
  match v, h with
  | .str z, h =>
    have hz : PyData.strOk z = true := h
    have hzl : z.length ≤ 100000 := hw
    have hv : 2 * z.length + 1 ≤ W := hv
    simp only [t3__law_bent, dWkA, dTupK, dTupL, dTupIx, dDictP, dDc2, dFor, dWhile, dLc, dLc2, dDc, dNextG, iSeq, iR1, iR2, iEn, iZpA, iZ2, iZ3, dSortK, dSortKF, dSortSet, dSortSetF, dBreak, bSortT, bSortTF, bSum, bSumL, bSumLF, bMaxL, bMinL, dDicE, bSortD, bSortDF, dGet2, oInA, oNotInA, oIxA, gdSubA, dSeq, dSet, dIf, dIfS, dTst, dOp, dUn, dVar, dCB, aCons, aNil, aStar, dRet, dRetN, dNext, dDrop, dLst, dTup, dC, dAnd, dOr, dNot, dAndV, dOrV, dNotV, dPar, dAsg, gdName, gdSub, gdTup, gdCons, gdNil, gdSlot, dIsi, dIsi2, dSlot, dSetSlot, dMethSl, dMakeSl, dCall, dCallP, dBM, dFrz, dLstF, dLcF, dLc2F, dDcF, dSlF, dListVF, bListF, bListDF, bSortSF, oAddLF, oRepLF, dSl, dNoP, dPart, dListV, dTru, dOrT, EndsD, startD, oLtI, oLeI, oGtI, oGeI, oIx, oMulI, oPowI, oAddI, oSubI, oModI, oDivI, oI, oI0, oEqD, oNeD, oInD, oNotInD, oAddL, oAddT, oAddS, oRepL, bLen, bAbs, bInt, bMin2, bMax2, bAll, bAny, bTuple, bList, bListD, bSortS, mAppend, mPop, mPopAt, mExtend, mIndex, dFld, dSetFld, dAddFld, gdFld, dMeth, dMake, dPar3, dRevT, oAddTK, dSortSetT, dSortSetTF, gdLst, gdAll, dRevL, dRevLF, dYes, dFrzA, oNegI, bSortG, bSortGF, dSlK, oIsB, oNotB, bSortTS, bSortTSF, bSortI, bSortIF, iDi, dDisp, iEnS, dEi, oTimes, oEqO, oNeO, mClear, mReverse, dMethP, dMethSlP, dMakeP, dMakeSlP, oGeD, oCmpD, dSortSetBF, dSortKDF, dDcT, dLenSetT, dLenSetS, dChain, dAug, iTxt, oInS, oLtS, dDinN, dDin1, gdSubN, dSetDef, iDinK, iDinI, dDcN, dSortSetX, dSortSetXF, dSortSetXT, dSortSetXTF, dChain3, dLenSetXT, dDictN, bMinG, oIxS, dListZip, dDc2T, dSortDTF, dSortSetX0, dSortSetX0F, dRaise, dCallS, dMethS, dMethSlS, dCatch, dIsX, dIsX2, dXf, oInC, bStrI, bIntS, dTry0, gdTail, gdTailT, bMaxG, dCatch2, dRaise0, oLeS, dMaxK, dTupI, dSlS, dCatchN, dIsXN, tupOf_lst, tupOf_ref, tupOf_tup, List.map_cons, List.map_nil, List.length_cons, List.length_nil, List.cons_append, List.nil_append, List.append_nil, List.replicate, List.set_cons_zero, List.set_cons_succ, List.getElem?_cons_zero, List.getElem?_cons_succ, Option.some.injEq, exists_eq_left', exists_eq_left, exists_and_left, D.int.injEq, D.bl.injEq, D.str.injEq, D.tup.injEq, D.lst.injEq, D.ref.injEq, List.cons.injEq, and_true, true_and, reduceCtorEq, false_and, and_false, exists_false, or_false, false_or, exists_const, Bool.false_eq_true, if_true, if_false, decide_eq_true_eq, Ob.lst.injEq, Ob.slt.injEq, Ob.dic.injEq, seqD_ref, lstD_ref, seqD_tup, seqD_lst, lstD_lst, lstR_lst, Sto.set_same, Sto.set_set, atI_0, atI_1, atI_2, Nat.reduceAdd, ixN_30, ixN_32, lstD_tup, seqD_row, List.append_assoc, false_or, or_false, cut_d1, cut_t1, sz_0, sz_1, sz_2, sz_3, sz_4, sz_5, sz_6, sz_7, sz_8, sz_9, sz_10, sz_11, sz_12]
    refine ⟨_, rfl, ?_⟩
    rw [if_pos (by decide)]
    refine ⟨small_sz (by show z.length + 1 ≤ 16777216; omega), small_sz (by omega), small_sz (by omega), small_sz (by show z.length + 1 ≤ 16777216; omega), small_sz (by omega), ?_⟩
    refine c__law_of_lst (by simp) (by rw [List.length_append]; show es.length + 4 < 1000; omega) hB (by omega) fun e S1 hm hf hB1 hn => q e S1 ?_ hf hB1 hn
    obtain ⟨N', rfl⟩ : ∃ N', N = N' + 1 := ⟨N - 1, by omega⟩
    obtain ⟨z1, z2⟩ := so_init hz
    rcases List.mem_append.mp hm with hm | hm
    · exact he e hm
    · simp only [List.mem_cons, List.not_mem_nil, or_false] at hm
      rcases hm with rfl | rfl | rfl | rfl
      · exact th_str (so_cat hz (by decide +kernel)) (by rw [len_cat]; show z.length + 1 ≤ W; omega)
      · exact th_str z1 (by omega)
      · exact th_str (so_cat hz hz) (by rw [len_cat]; omega)
      · exact th_str (so_cat hz (by decide +kernel)) (by rw [len_cat]; show z.length + 1 ≤ W; omega)
  | .tup ds, _ =>
    simp only [t3__law_bent, dWkA, dTupK, dTupL, dTupIx, dDictP, dDc2, dFor, dWhile, dLc, dLc2, dDc, dNextG, iSeq, iR1, iR2, iEn, iZpA, iZ2, iZ3, dSortK, dSortKF, dSortSet, dSortSetF, dBreak, bSortT, bSortTF, bSum, bSumL, bSumLF, bMaxL, bMinL, dDicE, bSortD, bSortDF, dGet2, oInA, oNotInA, oIxA, gdSubA, dSeq, dSet, dIf, dIfS, dTst, dOp, dUn, dVar, dCB, aCons, aNil, aStar, dRet, dRetN, dNext, dDrop, dLst, dTup, dC, dAnd, dOr, dNot, dAndV, dOrV, dNotV, dPar, dAsg, gdName, gdSub, gdTup, gdCons, gdNil, gdSlot, dIsi, dIsi2, dSlot, dSetSlot, dMethSl, dMakeSl, dCall, dCallP, dBM, dFrz, dLstF, dLcF, dLc2F, dDcF, dSlF, dListVF, bListF, bListDF, bSortSF, oAddLF, oRepLF, dSl, dNoP, dPart, dListV, dTru, dOrT, EndsD, startD, oLtI, oLeI, oGtI, oGeI, oIx, oMulI, oPowI, oAddI, oSubI, oModI, oDivI, oI, oI0, oEqD, oNeD, oInD, oNotInD, oAddL, oAddT, oAddS, oRepL, bLen, bAbs, bInt, bMin2, bMax2, bAll, bAny, bTuple, bList, bListD, bSortS, mAppend, mPop, mPopAt, mExtend, mIndex, dFld, dSetFld, dAddFld, gdFld, dMeth, dMake, dPar3, dRevT, oAddTK, dSortSetT, dSortSetTF, gdLst, gdAll, dRevL, dRevLF, dYes, dFrzA, oNegI, bSortG, bSortGF, dSlK, oIsB, oNotB, bSortTS, bSortTSF, bSortI, bSortIF, iDi, dDisp, iEnS, dEi, oTimes, oEqO, oNeO, mClear, mReverse, dMethP, dMethSlP, dMakeP, dMakeSlP, oGeD, oCmpD, dSortSetBF, dSortKDF, dDcT, dLenSetT, dLenSetS, dChain, dAug, iTxt, oInS, oLtS, dDinN, dDin1, gdSubN, dSetDef, iDinK, iDinI, dDcN, dSortSetX, dSortSetXF, dSortSetXT, dSortSetXTF, dChain3, dLenSetXT, dDictN, bMinG, oIxS, dListZip, dDc2T, dSortDTF, dSortSetX0, dSortSetX0F, dRaise, dCallS, dMethS, dMethSlS, dCatch, dIsX, dIsX2, dXf, oInC, bStrI, bIntS, dTry0, gdTail, gdTailT, bMaxG, dCatch2, dRaise0, oLeS, dMaxK, dTupI, dSlS, dCatchN, dIsXN, tupOf_lst, tupOf_ref, tupOf_tup, List.map_cons, List.map_nil, List.length_cons, List.length_nil, List.cons_append, List.nil_append, List.append_nil, List.replicate, List.set_cons_zero, List.set_cons_succ, List.getElem?_cons_zero, List.getElem?_cons_succ, Option.some.injEq, exists_eq_left', exists_eq_left, exists_and_left, D.int.injEq, D.bl.injEq, D.str.injEq, D.tup.injEq, D.lst.injEq, D.ref.injEq, List.cons.injEq, and_true, true_and, reduceCtorEq, false_and, and_false, exists_false, or_false, false_or, exists_const, Bool.false_eq_true, if_true, if_false, decide_eq_true_eq, Ob.lst.injEq, Ob.slt.injEq, Ob.dic.injEq, seqD_ref, lstD_ref, seqD_tup, seqD_lst, lstD_lst, lstR_lst, Sto.set_same, Sto.set_set, atI_0, atI_1, atI_2, Nat.reduceAdd, ixN_30, ixN_32, lstD_tup, seqD_row, List.append_assoc, false_or, or_false, cut_d1, cut_t1, sz_0, sz_1, sz_2, sz_3, sz_4, sz_5, sz_6, sz_7, sz_8, sz_9, sz_10, sz_11, sz_12]
    refine ⟨_, rfl, ?_⟩
    rw [if_neg (by decide)]
    exact fin
  | .lst ds, _ =>
    simp only [t3__law_bent, dWkA, dTupK, dTupL, dTupIx, dDictP, dDc2, dFor, dWhile, dLc, dLc2, dDc, dNextG, iSeq, iR1, iR2, iEn, iZpA, iZ2, iZ3, dSortK, dSortKF, dSortSet, dSortSetF, dBreak, bSortT, bSortTF, bSum, bSumL, bSumLF, bMaxL, bMinL, dDicE, bSortD, bSortDF, dGet2, oInA, oNotInA, oIxA, gdSubA, dSeq, dSet, dIf, dIfS, dTst, dOp, dUn, dVar, dCB, aCons, aNil, aStar, dRet, dRetN, dNext, dDrop, dLst, dTup, dC, dAnd, dOr, dNot, dAndV, dOrV, dNotV, dPar, dAsg, gdName, gdSub, gdTup, gdCons, gdNil, gdSlot, dIsi, dIsi2, dSlot, dSetSlot, dMethSl, dMakeSl, dCall, dCallP, dBM, dFrz, dLstF, dLcF, dLc2F, dDcF, dSlF, dListVF, bListF, bListDF, bSortSF, oAddLF, oRepLF, dSl, dNoP, dPart, dListV, dTru, dOrT, EndsD, startD, oLtI, oLeI, oGtI, oGeI, oIx, oMulI, oPowI, oAddI, oSubI, oModI, oDivI, oI, oI0, oEqD, oNeD, oInD, oNotInD, oAddL, oAddT, oAddS, oRepL, bLen, bAbs, bInt, bMin2, bMax2, bAll, bAny, bTuple, bList, bListD, bSortS, mAppend, mPop, mPopAt, mExtend, mIndex, dFld, dSetFld, dAddFld, gdFld, dMeth, dMake, dPar3, dRevT, oAddTK, dSortSetT, dSortSetTF, gdLst, gdAll, dRevL, dRevLF, dYes, dFrzA, oNegI, bSortG, bSortGF, dSlK, oIsB, oNotB, bSortTS, bSortTSF, bSortI, bSortIF, iDi, dDisp, iEnS, dEi, oTimes, oEqO, oNeO, mClear, mReverse, dMethP, dMethSlP, dMakeP, dMakeSlP, oGeD, oCmpD, dSortSetBF, dSortKDF, dDcT, dLenSetT, dLenSetS, dChain, dAug, iTxt, oInS, oLtS, dDinN, dDin1, gdSubN, dSetDef, iDinK, iDinI, dDcN, dSortSetX, dSortSetXF, dSortSetXT, dSortSetXTF, dChain3, dLenSetXT, dDictN, bMinG, oIxS, dListZip, dDc2T, dSortDTF, dSortSetX0, dSortSetX0F, dRaise, dCallS, dMethS, dMethSlS, dCatch, dIsX, dIsX2, dXf, oInC, bStrI, bIntS, dTry0, gdTail, gdTailT, bMaxG, dCatch2, dRaise0, oLeS, dMaxK, dTupI, dSlS, dCatchN, dIsXN, tupOf_lst, tupOf_ref, tupOf_tup, List.map_cons, List.map_nil, List.length_cons, List.length_nil, List.cons_append, List.nil_append, List.append_nil, List.replicate, List.set_cons_zero, List.set_cons_succ, List.getElem?_cons_zero, List.getElem?_cons_succ, Option.some.injEq, exists_eq_left', exists_eq_left, exists_and_left, D.int.injEq, D.bl.injEq, D.str.injEq, D.tup.injEq, D.lst.injEq, D.ref.injEq, List.cons.injEq, and_true, true_and, reduceCtorEq, false_and, and_false, exists_false, or_false, false_or, exists_const, Bool.false_eq_true, if_true, if_false, decide_eq_true_eq, Ob.lst.injEq, Ob.slt.injEq, Ob.dic.injEq, seqD_ref, lstD_ref, seqD_tup, seqD_lst, lstD_lst, lstR_lst, Sto.set_same, Sto.set_set, atI_0, atI_1, atI_2, Nat.reduceAdd, ixN_30, ixN_32, lstD_tup, seqD_row, List.append_assoc, false_or, or_false, cut_d1, cut_t1, sz_0, sz_1, sz_2, sz_3, sz_4, sz_5, sz_6, sz_7, sz_8, sz_9, sz_10, sz_11, sz_12]
    refine ⟨_, rfl, ?_⟩
    rw [if_neg (by decide)]
    exact fin
  | .int i, _ =>
    simp only [t3__law_bent, dWkA, dTupK, dTupL, dTupIx, dDictP, dDc2, dFor, dWhile, dLc, dLc2, dDc, dNextG, iSeq, iR1, iR2, iEn, iZpA, iZ2, iZ3, dSortK, dSortKF, dSortSet, dSortSetF, dBreak, bSortT, bSortTF, bSum, bSumL, bSumLF, bMaxL, bMinL, dDicE, bSortD, bSortDF, dGet2, oInA, oNotInA, oIxA, gdSubA, dSeq, dSet, dIf, dIfS, dTst, dOp, dUn, dVar, dCB, aCons, aNil, aStar, dRet, dRetN, dNext, dDrop, dLst, dTup, dC, dAnd, dOr, dNot, dAndV, dOrV, dNotV, dPar, dAsg, gdName, gdSub, gdTup, gdCons, gdNil, gdSlot, dIsi, dIsi2, dSlot, dSetSlot, dMethSl, dMakeSl, dCall, dCallP, dBM, dFrz, dLstF, dLcF, dLc2F, dDcF, dSlF, dListVF, bListF, bListDF, bSortSF, oAddLF, oRepLF, dSl, dNoP, dPart, dListV, dTru, dOrT, EndsD, startD, oLtI, oLeI, oGtI, oGeI, oIx, oMulI, oPowI, oAddI, oSubI, oModI, oDivI, oI, oI0, oEqD, oNeD, oInD, oNotInD, oAddL, oAddT, oAddS, oRepL, bLen, bAbs, bInt, bMin2, bMax2, bAll, bAny, bTuple, bList, bListD, bSortS, mAppend, mPop, mPopAt, mExtend, mIndex, dFld, dSetFld, dAddFld, gdFld, dMeth, dMake, dPar3, dRevT, oAddTK, dSortSetT, dSortSetTF, gdLst, gdAll, dRevL, dRevLF, dYes, dFrzA, oNegI, bSortG, bSortGF, dSlK, oIsB, oNotB, bSortTS, bSortTSF, bSortI, bSortIF, iDi, dDisp, iEnS, dEi, oTimes, oEqO, oNeO, mClear, mReverse, dMethP, dMethSlP, dMakeP, dMakeSlP, oGeD, oCmpD, dSortSetBF, dSortKDF, dDcT, dLenSetT, dLenSetS, dChain, dAug, iTxt, oInS, oLtS, dDinN, dDin1, gdSubN, dSetDef, iDinK, iDinI, dDcN, dSortSetX, dSortSetXF, dSortSetXT, dSortSetXTF, dChain3, dLenSetXT, dDictN, bMinG, oIxS, dListZip, dDc2T, dSortDTF, dSortSetX0, dSortSetX0F, dRaise, dCallS, dMethS, dMethSlS, dCatch, dIsX, dIsX2, dXf, oInC, bStrI, bIntS, dTry0, gdTail, gdTailT, bMaxG, dCatch2, dRaise0, oLeS, dMaxK, dTupI, dSlS, dCatchN, dIsXN, tupOf_lst, tupOf_ref, tupOf_tup, List.map_cons, List.map_nil, List.length_cons, List.length_nil, List.cons_append, List.nil_append, List.append_nil, List.replicate, List.set_cons_zero, List.set_cons_succ, List.getElem?_cons_zero, List.getElem?_cons_succ, Option.some.injEq, exists_eq_left', exists_eq_left, exists_and_left, D.int.injEq, D.bl.injEq, D.str.injEq, D.tup.injEq, D.lst.injEq, D.ref.injEq, List.cons.injEq, and_true, true_and, reduceCtorEq, false_and, and_false, exists_false, or_false, false_or, exists_const, Bool.false_eq_true, if_true, if_false, decide_eq_true_eq, Ob.lst.injEq, Ob.slt.injEq, Ob.dic.injEq, seqD_ref, lstD_ref, seqD_tup, seqD_lst, lstD_lst, lstR_lst, Sto.set_same, Sto.set_set, atI_0, atI_1, atI_2, Nat.reduceAdd, ixN_30, ixN_32, lstD_tup, seqD_row, List.append_assoc, false_or, or_false, cut_d1, cut_t1, sz_0, sz_1, sz_2, sz_3, sz_4, sz_5, sz_6, sz_7, sz_8, sz_9, sz_10, sz_11, sz_12]
    refine ⟨_, rfl, ?_⟩
    rw [if_neg (by decide)]
    exact fin
  | .bl i, _ =>
    simp only [t3__law_bent, dWkA, dTupK, dTupL, dTupIx, dDictP, dDc2, dFor, dWhile, dLc, dLc2, dDc, dNextG, iSeq, iR1, iR2, iEn, iZpA, iZ2, iZ3, dSortK, dSortKF, dSortSet, dSortSetF, dBreak, bSortT, bSortTF, bSum, bSumL, bSumLF, bMaxL, bMinL, dDicE, bSortD, bSortDF, dGet2, oInA, oNotInA, oIxA, gdSubA, dSeq, dSet, dIf, dIfS, dTst, dOp, dUn, dVar, dCB, aCons, aNil, aStar, dRet, dRetN, dNext, dDrop, dLst, dTup, dC, dAnd, dOr, dNot, dAndV, dOrV, dNotV, dPar, dAsg, gdName, gdSub, gdTup, gdCons, gdNil, gdSlot, dIsi, dIsi2, dSlot, dSetSlot, dMethSl, dMakeSl, dCall, dCallP, dBM, dFrz, dLstF, dLcF, dLc2F, dDcF, dSlF, dListVF, bListF, bListDF, bSortSF, oAddLF, oRepLF, dSl, dNoP, dPart, dListV, dTru, dOrT, EndsD, startD, oLtI, oLeI, oGtI, oGeI, oIx, oMulI, oPowI, oAddI, oSubI, oModI, oDivI, oI, oI0, oEqD, oNeD, oInD, oNotInD, oAddL, oAddT, oAddS, oRepL, bLen, bAbs, bInt, bMin2, bMax2, bAll, bAny, bTuple, bList, bListD, bSortS, mAppend, mPop, mPopAt, mExtend, mIndex, dFld, dSetFld, dAddFld, gdFld, dMeth, dMake, dPar3, dRevT, oAddTK, dSortSetT, dSortSetTF, gdLst, gdAll, dRevL, dRevLF, dYes, dFrzA, oNegI, bSortG, bSortGF, dSlK, oIsB, oNotB, bSortTS, bSortTSF, bSortI, bSortIF, iDi, dDisp, iEnS, dEi, oTimes, oEqO, oNeO, mClear, mReverse, dMethP, dMethSlP, dMakeP, dMakeSlP, oGeD, oCmpD, dSortSetBF, dSortKDF, dDcT, dLenSetT, dLenSetS, dChain, dAug, iTxt, oInS, oLtS, dDinN, dDin1, gdSubN, dSetDef, iDinK, iDinI, dDcN, dSortSetX, dSortSetXF, dSortSetXT, dSortSetXTF, dChain3, dLenSetXT, dDictN, bMinG, oIxS, dListZip, dDc2T, dSortDTF, dSortSetX0, dSortSetX0F, dRaise, dCallS, dMethS, dMethSlS, dCatch, dIsX, dIsX2, dXf, oInC, bStrI, bIntS, dTry0, gdTail, gdTailT, bMaxG, dCatch2, dRaise0, oLeS, dMaxK, dTupI, dSlS, dCatchN, dIsXN, tupOf_lst, tupOf_ref, tupOf_tup, List.map_cons, List.map_nil, List.length_cons, List.length_nil, List.cons_append, List.nil_append, List.append_nil, List.replicate, List.set_cons_zero, List.set_cons_succ, List.getElem?_cons_zero, List.getElem?_cons_succ, Option.some.injEq, exists_eq_left', exists_eq_left, exists_and_left, D.int.injEq, D.bl.injEq, D.str.injEq, D.tup.injEq, D.lst.injEq, D.ref.injEq, List.cons.injEq, and_true, true_and, reduceCtorEq, false_and, and_false, exists_false, or_false, false_or, exists_const, Bool.false_eq_true, if_true, if_false, decide_eq_true_eq, Ob.lst.injEq, Ob.slt.injEq, Ob.dic.injEq, seqD_ref, lstD_ref, seqD_tup, seqD_lst, lstD_lst, lstR_lst, Sto.set_same, Sto.set_set, atI_0, atI_1, atI_2, Nat.reduceAdd, ixN_30, ixN_32, lstD_tup, seqD_row, List.append_assoc, false_or, or_false, cut_d1, cut_t1, sz_0, sz_1, sz_2, sz_3, sz_4, sz_5, sz_6, sz_7, sz_8, sz_9, sz_10, sz_11, sz_12]
    refine ⟨_, rfl, ?_⟩
    rw [if_neg (by decide)]
    exact fin
  | .non, _ =>
    simp only [t3__law_bent, dWkA, dTupK, dTupL, dTupIx, dDictP, dDc2, dFor, dWhile, dLc, dLc2, dDc, dNextG, iSeq, iR1, iR2, iEn, iZpA, iZ2, iZ3, dSortK, dSortKF, dSortSet, dSortSetF, dBreak, bSortT, bSortTF, bSum, bSumL, bSumLF, bMaxL, bMinL, dDicE, bSortD, bSortDF, dGet2, oInA, oNotInA, oIxA, gdSubA, dSeq, dSet, dIf, dIfS, dTst, dOp, dUn, dVar, dCB, aCons, aNil, aStar, dRet, dRetN, dNext, dDrop, dLst, dTup, dC, dAnd, dOr, dNot, dAndV, dOrV, dNotV, dPar, dAsg, gdName, gdSub, gdTup, gdCons, gdNil, gdSlot, dIsi, dIsi2, dSlot, dSetSlot, dMethSl, dMakeSl, dCall, dCallP, dBM, dFrz, dLstF, dLcF, dLc2F, dDcF, dSlF, dListVF, bListF, bListDF, bSortSF, oAddLF, oRepLF, dSl, dNoP, dPart, dListV, dTru, dOrT, EndsD, startD, oLtI, oLeI, oGtI, oGeI, oIx, oMulI, oPowI, oAddI, oSubI, oModI, oDivI, oI, oI0, oEqD, oNeD, oInD, oNotInD, oAddL, oAddT, oAddS, oRepL, bLen, bAbs, bInt, bMin2, bMax2, bAll, bAny, bTuple, bList, bListD, bSortS, mAppend, mPop, mPopAt, mExtend, mIndex, dFld, dSetFld, dAddFld, gdFld, dMeth, dMake, dPar3, dRevT, oAddTK, dSortSetT, dSortSetTF, gdLst, gdAll, dRevL, dRevLF, dYes, dFrzA, oNegI, bSortG, bSortGF, dSlK, oIsB, oNotB, bSortTS, bSortTSF, bSortI, bSortIF, iDi, dDisp, iEnS, dEi, oTimes, oEqO, oNeO, mClear, mReverse, dMethP, dMethSlP, dMakeP, dMakeSlP, oGeD, oCmpD, dSortSetBF, dSortKDF, dDcT, dLenSetT, dLenSetS, dChain, dAug, iTxt, oInS, oLtS, dDinN, dDin1, gdSubN, dSetDef, iDinK, iDinI, dDcN, dSortSetX, dSortSetXF, dSortSetXT, dSortSetXTF, dChain3, dLenSetXT, dDictN, bMinG, oIxS, dListZip, dDc2T, dSortDTF, dSortSetX0, dSortSetX0F, dRaise, dCallS, dMethS, dMethSlS, dCatch, dIsX, dIsX2, dXf, oInC, bStrI, bIntS, dTry0, gdTail, gdTailT, bMaxG, dCatch2, dRaise0, oLeS, dMaxK, dTupI, dSlS, dCatchN, dIsXN, tupOf_lst, tupOf_ref, tupOf_tup, List.map_cons, List.map_nil, List.length_cons, List.length_nil, List.cons_append, List.nil_append, List.append_nil, List.replicate, List.set_cons_zero, List.set_cons_succ, List.getElem?_cons_zero, List.getElem?_cons_succ, Option.some.injEq, exists_eq_left', exists_eq_left, exists_and_left, D.int.injEq, D.bl.injEq, D.str.injEq, D.tup.injEq, D.lst.injEq, D.ref.injEq, List.cons.injEq, and_true, true_and, reduceCtorEq, false_and, and_false, exists_false, or_false, false_or, exists_const, Bool.false_eq_true, if_true, if_false, decide_eq_true_eq, Ob.lst.injEq, Ob.slt.injEq, Ob.dic.injEq, seqD_ref, lstD_ref, seqD_tup, seqD_lst, lstD_lst, lstR_lst, Sto.set_same, Sto.set_set, atI_0, atI_1, atI_2, Nat.reduceAdd, ixN_30, ixN_32, lstD_tup, seqD_row, List.append_assoc, false_or, or_false, cut_d1, cut_t1, sz_0, sz_1, sz_2, sz_3, sz_4, sz_5, sz_6, sz_7, sz_8, sz_9, sz_10, sz_11, sz_12]
    refine ⟨_, rfl, ?_⟩
    rw [if_neg (by decide)]
    exact fin
theorem wts_cut (n : Nat) (ds : List D) (lo hi : Option Int) : wts n (L3.cutD ds lo hi) ≤ wts n ds := by
  unfold L3.cutD
  have h1 := wts_split n (HT.sIx ds.length 0 lo) ds
  have h2 := wts_split n (HT.sIx ds.length ds.length hi - HT.sIx ds.length 0 lo) (ds.drop (HT.sIx ds.length 0 lo))
  omega
theorem bent2 {L n N W : Nat} {l : Nat} {v : D} {es : List D} {c : Int} {S : Sto} {Q : D → Sto → Prop} {b2 b4 : Option D} (h : thB L (n + 1) v = true) (hv : 2 * wt (n + 1) v + 1 ≤ W) (hN : n + 2 ≤ N) (he : ∀ e ∈ es, Th (L + 1) N W e) (hne : es ≠ []) (hl : es.length ≤ 800) (hB : Bx S l c) (hc : c ≤ 2 ^ 39) (hw : wt (n + 1) v ≤ 100000)
    (q : ∀ r S1, Th (L + 1) N W r → Fr l S S1 → Bx S1 l (c + 1) → (∀ m, S1 m = none → S m = none) → drp (Q r) S1) :
    t2__law_bent n { nx := fun _ S => drp (Q .non) S, rt := fun v S => drp (Q v) S } [some (.ref l), some v, b2, some (.lst es), b4] S := by
  have hsl := sizeLine_eq
  have fin : t3__law_bent n { nx := fun _ S => drp (Q .non) S, rt := fun v S => drp (Q v) S } [some (.ref l), some v, b2, some (.lst es), b4] S := bent3 h hv (by omega) he hne (by omega) hB hc hw q
  match v, h with
  | .tup ds, h =>
    obtain ⟨hwid, hd⟩ := th_tup.mp h
    have hv : 2 * wts n ds + 1 ≤ W := hv
    have hdl : ds.length ≤ 100000 := Nat.le_trans (wts_len n ds) hw
    simp only [t2__law_bent, dWkA, dTupK, dTupL, dTupIx, dDictP, dDc2, dFor, dWhile, dLc, dLc2, dDc, dNextG, iSeq, iR1, iR2, iEn, iZpA, iZ2, iZ3, dSortK, dSortKF, dSortSet, dSortSetF, dBreak, bSortT, bSortTF, bSum, bSumL, bSumLF, bMaxL, bMinL, dDicE, bSortD, bSortDF, dGet2, oInA, oNotInA, oIxA, gdSubA, dSeq, dSet, dIf, dIfS, dTst, dOp, dUn, dVar, dCB, aCons, aNil, aStar, dRet, dRetN, dNext, dDrop, dLst, dTup, dC, dAnd, dOr, dNot, dAndV, dOrV, dNotV, dPar, dAsg, gdName, gdSub, gdTup, gdCons, gdNil, gdSlot, dIsi, dIsi2, dSlot, dSetSlot, dMethSl, dMakeSl, dCall, dCallP, dBM, dFrz, dLstF, dLcF, dLc2F, dDcF, dSlF, dListVF, bListF, bListDF, bSortSF, oAddLF, oRepLF, dSl, dNoP, dPart, dListV, dTru, dOrT, EndsD, startD, oLtI, oLeI, oGtI, oGeI, oIx, oMulI, oPowI, oAddI, oSubI, oModI, oDivI, oI, oI0, oEqD, oNeD, oInD, oNotInD, oAddL, oAddT, oAddS, oRepL, bLen, bAbs, bInt, bMin2, bMax2, bAll, bAny, bTuple, bList, bListD, bSortS, mAppend, mPop, mPopAt, mExtend, mIndex, dFld, dSetFld, dAddFld, gdFld, dMeth, dMake, dPar3, dRevT, oAddTK, dSortSetT, dSortSetTF, gdLst, gdAll, dRevL, dRevLF, dYes, dFrzA, oNegI, bSortG, bSortGF, dSlK, oIsB, oNotB, bSortTS, bSortTSF, bSortI, bSortIF, iDi, dDisp, iEnS, dEi, oTimes, oEqO, oNeO, mClear, mReverse, dMethP, dMethSlP, dMakeP, dMakeSlP, oGeD, oCmpD, dSortSetBF, dSortKDF, dDcT, dLenSetT, dLenSetS, dChain, dAug, iTxt, oInS, oLtS, dDinN, dDin1, gdSubN, dSetDef, iDinK, iDinI, dDcN, dSortSetX, dSortSetXF, dSortSetXT, dSortSetXTF, dChain3, dLenSetXT, dDictN, bMinG, oIxS, dListZip, dDc2T, dSortDTF, dSortSetX0, dSortSetX0F, dRaise, dCallS, dMethS, dMethSlS, dCatch, dIsX, dIsX2, dXf, oInC, bStrI, bIntS, dTry0, gdTail, gdTailT, bMaxG, dCatch2, dRaise0, oLeS, dMaxK, dTupI, dSlS, dCatchN, dIsXN, tupOf_lst, tupOf_ref, tupOf_tup, List.map_cons, List.map_nil, List.length_cons, List.length_nil, List.cons_append, List.nil_append, List.append_nil, List.replicate, List.set_cons_zero, List.set_cons_succ, List.getElem?_cons_zero, List.getElem?_cons_succ, Option.some.injEq, exists_eq_left', exists_eq_left, exists_and_left, D.int.injEq, D.bl.injEq, D.str.injEq, D.tup.injEq, D.lst.injEq, D.ref.injEq, List.cons.injEq, and_true, true_and, reduceCtorEq, false_and, and_false, exists_false, or_false, false_or, exists_const, Bool.false_eq_true, if_true, if_false, decide_eq_true_eq, Ob.lst.injEq, Ob.slt.injEq, Ob.dic.injEq, seqD_ref, lstD_ref, seqD_tup, seqD_lst, lstD_lst, lstR_lst, Sto.set_same, Sto.set_set, atI_0, atI_1, atI_2, Nat.reduceAdd, ixN_30, ixN_32, lstD_tup, seqD_row, List.append_assoc, false_or, or_false, cut_d1, cut_t1, sz_0, sz_1, sz_2, sz_3, sz_4, sz_5, sz_6, sz_7, sz_8, sz_9, sz_10, sz_11, sz_12]
    refine ⟨_, rfl, ?_⟩
    rw [if_pos (by decide)]
    have hc1 : (L3.cutD ds (some (-1)) none).length ≤ 1 := by
      rw [cut_last]
      cases ds.getLast? <;> simp
    refine ⟨small_sz (by omega), small_sz (by omega), small_sz (by omega), ?_⟩
    refine bent3 (L := L) h (show 2 * wts n ds + 1 ≤ W from hv) (by omega) (fun e hm => ?_) (by simp) (by rw [List.length_append]; show es.length + 5 ≤ 900; omega) hB hc hw q
    have w1 := wts_cut n ds none (some (-1))
    have w2 := wts_cut n ds (some (-1)) none
    rcases List.mem_append.mp hm with hm | hm
    · exact he e hm
    · simp only [List.mem_cons, List.not_mem_nil, or_false] at hm
      rcases hm with rfl | rfl | rfl | rfl | rfl
      · exact (show Th L (n + 1) W (.lst ds) from ⟨h, by show wts n ds ≤ W; omega⟩).mono (by omega) (Nat.le_refl _)
      · exact (show Th L (n + 1) W (.tup _) from ⟨th_tup.mpr ⟨Nat.le_trans (L3.cutD_len _ _ _) hwid, fun d hd2 => hd d (cut_mem hd2)⟩, by show wts n _ ≤ W; omega⟩).mono (by omega) (Nat.le_refl _)
      · exact (show Th (L + 1) (n + 1) W (.tup _) from ⟨th_tup.mpr ⟨by rw [List.length_append]; omega, fun d hd2 => th_wide ((List.mem_append.mp hd2).elim (hd d) fun z => hd d (cut_mem z)) (by omega)⟩, by show wts n _ ≤ W; rw [wts_app]; omega⟩).mono (by omega) (Nat.le_refl _)
      · exact (show Th L (n + 1) W (.tup _) from ⟨th_tup.mpr ⟨by rw [List.length_reverse]; exact hwid, fun d hd2 => hd d (List.mem_reverse.mp hd2)⟩, by show wts n _ ≤ W; rw [wts_rev]; omega⟩).mono (by omega) (Nat.le_refl _)
      · exact (show Th (L + 1) (n + 2) W (.tup _) from ⟨th_tup.mpr ⟨by simp, fun d hd2 => by rw [List.mem_singleton.mp hd2]; exact th_wide h (by omega)⟩, by show wts (n + 1) [D.tup ds] ≤ W; rw [wts_cons, wts_nil, wt_tup]; omega⟩).mono (by omega) (Nat.le_refl _)
  | .str z, _ =>
    simp only [t2__law_bent, dWkA, dTupK, dTupL, dTupIx, dDictP, dDc2, dFor, dWhile, dLc, dLc2, dDc, dNextG, iSeq, iR1, iR2, iEn, iZpA, iZ2, iZ3, dSortK, dSortKF, dSortSet, dSortSetF, dBreak, bSortT, bSortTF, bSum, bSumL, bSumLF, bMaxL, bMinL, dDicE, bSortD, bSortDF, dGet2, oInA, oNotInA, oIxA, gdSubA, dSeq, dSet, dIf, dIfS, dTst, dOp, dUn, dVar, dCB, aCons, aNil, aStar, dRet, dRetN, dNext, dDrop, dLst, dTup, dC, dAnd, dOr, dNot, dAndV, dOrV, dNotV, dPar, dAsg, gdName, gdSub, gdTup, gdCons, gdNil, gdSlot, dIsi, dIsi2, dSlot, dSetSlot, dMethSl, dMakeSl, dCall, dCallP, dBM, dFrz, dLstF, dLcF, dLc2F, dDcF, dSlF, dListVF, bListF, bListDF, bSortSF, oAddLF, oRepLF, dSl, dNoP, dPart, dListV, dTru, dOrT, EndsD, startD, oLtI, oLeI, oGtI, oGeI, oIx, oMulI, oPowI, oAddI, oSubI, oModI, oDivI, oI, oI0, oEqD, oNeD, oInD, oNotInD, oAddL, oAddT, oAddS, oRepL, bLen, bAbs, bInt, bMin2, bMax2, bAll, bAny, bTuple, bList, bListD, bSortS, mAppend, mPop, mPopAt, mExtend, mIndex, dFld, dSetFld, dAddFld, gdFld, dMeth, dMake, dPar3, dRevT, oAddTK, dSortSetT, dSortSetTF, gdLst, gdAll, dRevL, dRevLF, dYes, dFrzA, oNegI, bSortG, bSortGF, dSlK, oIsB, oNotB, bSortTS, bSortTSF, bSortI, bSortIF, iDi, dDisp, iEnS, dEi, oTimes, oEqO, oNeO, mClear, mReverse, dMethP, dMethSlP, dMakeP, dMakeSlP, oGeD, oCmpD, dSortSetBF, dSortKDF, dDcT, dLenSetT, dLenSetS, dChain, dAug, iTxt, oInS, oLtS, dDinN, dDin1, gdSubN, dSetDef, iDinK, iDinI, dDcN, dSortSetX, dSortSetXF, dSortSetXT, dSortSetXTF, dChain3, dLenSetXT, dDictN, bMinG, oIxS, dListZip, dDc2T, dSortDTF, dSortSetX0, dSortSetX0F, dRaise, dCallS, dMethS, dMethSlS, dCatch, dIsX, dIsX2, dXf, oInC, bStrI, bIntS, dTry0, gdTail, gdTailT, bMaxG, dCatch2, dRaise0, oLeS, dMaxK, dTupI, dSlS, dCatchN, dIsXN, tupOf_lst, tupOf_ref, tupOf_tup, List.map_cons, List.map_nil, List.length_cons, List.length_nil, List.cons_append, List.nil_append, List.append_nil, List.replicate, List.set_cons_zero, List.set_cons_succ, List.getElem?_cons_zero, List.getElem?_cons_succ, Option.some.injEq, exists_eq_left', exists_eq_left, exists_and_left, D.int.injEq, D.bl.injEq, D.str.injEq, D.tup.injEq, D.lst.injEq, D.ref.injEq, List.cons.injEq, and_true, true_and, reduceCtorEq, false_and, and_false, exists_false, or_false, false_or, exists_const, Bool.false_eq_true, if_true, if_false, decide_eq_true_eq, Ob.lst.injEq, Ob.slt.injEq, Ob.dic.injEq, seqD_ref, lstD_ref, seqD_tup, seqD_lst, lstD_lst, lstR_lst, Sto.set_same, Sto.set_set, atI_0, atI_1, atI_2, Nat.reduceAdd, ixN_30, ixN_32, lstD_tup, seqD_row, List.append_assoc, false_or, or_false, cut_d1, cut_t1, sz_0, sz_1, sz_2, sz_3, sz_4, sz_5, sz_6, sz_7, sz_8, sz_9, sz_10, sz_11, sz_12]
    refine ⟨_, rfl, ?_⟩
    rw [if_neg (by decide)]
    exact fin
  | .lst ds, _ =>
    simp only [t2__law_bent, dWkA, dTupK, dTupL, dTupIx, dDictP, dDc2, dFor, dWhile, dLc, dLc2, dDc, dNextG, iSeq, iR1, iR2, iEn, iZpA, iZ2, iZ3, dSortK, dSortKF, dSortSet, dSortSetF, dBreak, bSortT, bSortTF, bSum, bSumL, bSumLF, bMaxL, bMinL, dDicE, bSortD, bSortDF, dGet2, oInA, oNotInA, oIxA, gdSubA, dSeq, dSet, dIf, dIfS, dTst, dOp, dUn, dVar, dCB, aCons, aNil, aStar, dRet, dRetN, dNext, dDrop, dLst, dTup, dC, dAnd, dOr, dNot, dAndV, dOrV, dNotV, dPar, dAsg, gdName, gdSub, gdTup, gdCons, gdNil, gdSlot, dIsi, dIsi2, dSlot, dSetSlot, dMethSl, dMakeSl, dCall, dCallP, dBM, dFrz, dLstF, dLcF, dLc2F, dDcF, dSlF, dListVF, bListF, bListDF, bSortSF, oAddLF, oRepLF, dSl, dNoP, dPart, dListV, dTru, dOrT, EndsD, startD, oLtI, oLeI, oGtI, oGeI, oIx, oMulI, oPowI, oAddI, oSubI, oModI, oDivI, oI, oI0, oEqD, oNeD, oInD, oNotInD, oAddL, oAddT, oAddS, oRepL, bLen, bAbs, bInt, bMin2, bMax2, bAll, bAny, bTuple, bList, bListD, bSortS, mAppend, mPop, mPopAt, mExtend, mIndex, dFld, dSetFld, dAddFld, gdFld, dMeth, dMake, dPar3, dRevT, oAddTK, dSortSetT, dSortSetTF, gdLst, gdAll, dRevL, dRevLF, dYes, dFrzA, oNegI, bSortG, bSortGF, dSlK, oIsB, oNotB, bSortTS, bSortTSF, bSortI, bSortIF, iDi, dDisp, iEnS, dEi, oTimes, oEqO, oNeO, mClear, mReverse, dMethP, dMethSlP, dMakeP, dMakeSlP, oGeD, oCmpD, dSortSetBF, dSortKDF, dDcT, dLenSetT, dLenSetS, dChain, dAug, iTxt, oInS, oLtS, dDinN, dDin1, gdSubN, dSetDef, iDinK, iDinI, dDcN, dSortSetX, dSortSetXF, dSortSetXT, dSortSetXTF, dChain3, dLenSetXT, dDictN, bMinG, oIxS, dListZip, dDc2T, dSortDTF, dSortSetX0, dSortSetX0F, dRaise, dCallS, dMethS, dMethSlS, dCatch, dIsX, dIsX2, dXf, oInC, bStrI, bIntS, dTry0, gdTail, gdTailT, bMaxG, dCatch2, dRaise0, oLeS, dMaxK, dTupI, dSlS, dCatchN, dIsXN, tupOf_lst, tupOf_ref, tupOf_tup, List.map_cons, List.map_nil, List.length_cons, List.length_nil, List.cons_append, List.nil_append, List.append_nil, List.replicate, List.set_cons_zero, List.set_cons_succ, List.getElem?_cons_zero, List.getElem?_cons_succ, Option.some.injEq, exists_eq_left', exists_eq_left, exists_and_left, D.int.injEq, D.bl.injEq, D.str.injEq, D.tup.injEq, D.lst.injEq, D.ref.injEq, List.cons.injEq, and_true, true_and, reduceCtorEq, false_and, and_false, exists_false, or_false, false_or, exists_const, Bool.false_eq_true, if_true, if_false, decide_eq_true_eq, Ob.lst.injEq, Ob.slt.injEq, Ob.dic.injEq, seqD_ref, lstD_ref, seqD_tup, seqD_lst, lstD_lst, lstR_lst, Sto.set_same, Sto.set_set, atI_0, atI_1, atI_2, Nat.reduceAdd, ixN_30, ixN_32, lstD_tup, seqD_row, List.append_assoc, false_or, or_false, cut_d1, cut_t1, sz_0, sz_1, sz_2, sz_3, sz_4, sz_5, sz_6, sz_7, sz_8, sz_9, sz_10, sz_11, sz_12]
    refine ⟨_, rfl, ?_⟩
    rw [if_neg (by decide)]
    exact fin
  | .int i, _ =>
    simp only [t2__law_bent, dWkA, dTupK, dTupL, dTupIx, dDictP, dDc2, dFor, dWhile, dLc, dLc2, dDc, dNextG, iSeq, iR1, iR2, iEn, iZpA, iZ2, iZ3, dSortK, dSortKF, dSortSet, dSortSetF, dBreak, bSortT, bSortTF, bSum, bSumL, bSumLF, bMaxL, bMinL, dDicE, bSortD, bSortDF, dGet2, oInA, oNotInA, oIxA, gdSubA, dSeq, dSet, dIf, dIfS, dTst, dOp, dUn, dVar, dCB, aCons, aNil, aStar, dRet, dRetN, dNext, dDrop, dLst, dTup, dC, dAnd, dOr, dNot, dAndV, dOrV, dNotV, dPar, dAsg, gdName, gdSub, gdTup, gdCons, gdNil, gdSlot, dIsi, dIsi2, dSlot, dSetSlot, dMethSl, dMakeSl, dCall, dCallP, dBM, dFrz, dLstF, dLcF, dLc2F, dDcF, dSlF, dListVF, bListF, bListDF, bSortSF, oAddLF, oRepLF, dSl, dNoP, dPart, dListV, dTru, dOrT, EndsD, startD, oLtI, oLeI, oGtI, oGeI, oIx, oMulI, oPowI, oAddI, oSubI, oModI, oDivI, oI, oI0, oEqD, oNeD, oInD, oNotInD, oAddL, oAddT, oAddS, oRepL, bLen, bAbs, bInt, bMin2, bMax2, bAll, bAny, bTuple, bList, bListD, bSortS, mAppend, mPop, mPopAt, mExtend, mIndex, dFld, dSetFld, dAddFld, gdFld, dMeth, dMake, dPar3, dRevT, oAddTK, dSortSetT, dSortSetTF, gdLst, gdAll, dRevL, dRevLF, dYes, dFrzA, oNegI, bSortG, bSortGF, dSlK, oIsB, oNotB, bSortTS, bSortTSF, bSortI, bSortIF, iDi, dDisp, iEnS, dEi, oTimes, oEqO, oNeO, mClear, mReverse, dMethP, dMethSlP, dMakeP, dMakeSlP, oGeD, oCmpD, dSortSetBF, dSortKDF, dDcT, dLenSetT, dLenSetS, dChain, dAug, iTxt, oInS, oLtS, dDinN, dDin1, gdSubN, dSetDef, iDinK, iDinI, dDcN, dSortSetX, dSortSetXF, dSortSetXT, dSortSetXTF, dChain3, dLenSetXT, dDictN, bMinG, oIxS, dListZip, dDc2T, dSortDTF, dSortSetX0, dSortSetX0F, dRaise, dCallS, dMethS, dMethSlS, dCatch, dIsX, dIsX2, dXf, oInC, bStrI, bIntS, dTry0, gdTail, gdTailT, bMaxG, dCatch2, dRaise0, oLeS, dMaxK, dTupI, dSlS, dCatchN, dIsXN, tupOf_lst, tupOf_ref, tupOf_tup, List.map_cons, List.map_nil, List.length_cons, List.length_nil, List.cons_append, List.nil_append, List.append_nil, List.replicate, List.set_cons_zero, List.set_cons_succ, List.getElem?_cons_zero, List.getElem?_cons_succ, Option.some.injEq, exists_eq_left', exists_eq_left, exists_and_left, D.int.injEq, D.bl.injEq, D.str.injEq, D.tup.injEq, D.lst.injEq, D.ref.injEq, List.cons.injEq, and_true, true_and, reduceCtorEq, false_and, and_false, exists_false, or_false, false_or, exists_const, Bool.false_eq_true, if_true, if_false, decide_eq_true_eq, Ob.lst.injEq, Ob.slt.injEq, Ob.dic.injEq, seqD_ref, lstD_ref, seqD_tup, seqD_lst, lstD_lst, lstR_lst, Sto.set_same, Sto.set_set, atI_0, atI_1, atI_2, Nat.reduceAdd, ixN_30, ixN_32, lstD_tup, seqD_row, List.append_assoc, false_or, or_false, cut_d1, cut_t1, sz_0, sz_1, sz_2, sz_3, sz_4, sz_5, sz_6, sz_7, sz_8, sz_9, sz_10, sz_11, sz_12]
    refine ⟨_, rfl, ?_⟩
    rw [if_neg (by decide)]
    exact fin
  | .bl i, _ =>
    simp only [t2__law_bent, dWkA, dTupK, dTupL, dTupIx, dDictP, dDc2, dFor, dWhile, dLc, dLc2, dDc, dNextG, iSeq, iR1, iR2, iEn, iZpA, iZ2, iZ3, dSortK, dSortKF, dSortSet, dSortSetF, dBreak, bSortT, bSortTF, bSum, bSumL, bSumLF, bMaxL, bMinL, dDicE, bSortD, bSortDF, dGet2, oInA, oNotInA, oIxA, gdSubA, dSeq, dSet, dIf, dIfS, dTst, dOp, dUn, dVar, dCB, aCons, aNil, aStar, dRet, dRetN, dNext, dDrop, dLst, dTup, dC, dAnd, dOr, dNot, dAndV, dOrV, dNotV, dPar, dAsg, gdName, gdSub, gdTup, gdCons, gdNil, gdSlot, dIsi, dIsi2, dSlot, dSetSlot, dMethSl, dMakeSl, dCall, dCallP, dBM, dFrz, dLstF, dLcF, dLc2F, dDcF, dSlF, dListVF, bListF, bListDF, bSortSF, oAddLF, oRepLF, dSl, dNoP, dPart, dListV, dTru, dOrT, EndsD, startD, oLtI, oLeI, oGtI, oGeI, oIx, oMulI, oPowI, oAddI, oSubI, oModI, oDivI, oI, oI0, oEqD, oNeD, oInD, oNotInD, oAddL, oAddT, oAddS, oRepL, bLen, bAbs, bInt, bMin2, bMax2, bAll, bAny, bTuple, bList, bListD, bSortS, mAppend, mPop, mPopAt, mExtend, mIndex, dFld, dSetFld, dAddFld, gdFld, dMeth, dMake, dPar3, dRevT, oAddTK, dSortSetT, dSortSetTF, gdLst, gdAll, dRevL, dRevLF, dYes, dFrzA, oNegI, bSortG, bSortGF, dSlK, oIsB, oNotB, bSortTS, bSortTSF, bSortI, bSortIF, iDi, dDisp, iEnS, dEi, oTimes, oEqO, oNeO, mClear, mReverse, dMethP, dMethSlP, dMakeP, dMakeSlP, oGeD, oCmpD, dSortSetBF, dSortKDF, dDcT, dLenSetT, dLenSetS, dChain, dAug, iTxt, oInS, oLtS, dDinN, dDin1, gdSubN, dSetDef, iDinK, iDinI, dDcN, dSortSetX, dSortSetXF, dSortSetXT, dSortSetXTF, dChain3, dLenSetXT, dDictN, bMinG, oIxS, dListZip, dDc2T, dSortDTF, dSortSetX0, dSortSetX0F, dRaise, dCallS, dMethS, dMethSlS, dCatch, dIsX, dIsX2, dXf, oInC, bStrI, bIntS, dTry0, gdTail, gdTailT, bMaxG, dCatch2, dRaise0, oLeS, dMaxK, dTupI, dSlS, dCatchN, dIsXN, tupOf_lst, tupOf_ref, tupOf_tup, List.map_cons, List.map_nil, List.length_cons, List.length_nil, List.cons_append, List.nil_append, List.append_nil, List.replicate, List.set_cons_zero, List.set_cons_succ, List.getElem?_cons_zero, List.getElem?_cons_succ, Option.some.injEq, exists_eq_left', exists_eq_left, exists_and_left, D.int.injEq, D.bl.injEq, D.str.injEq, D.tup.injEq, D.lst.injEq, D.ref.injEq, List.cons.injEq, and_true, true_and, reduceCtorEq, false_and, and_false, exists_false, or_false, false_or, exists_const, Bool.false_eq_true, if_true, if_false, decide_eq_true_eq, Ob.lst.injEq, Ob.slt.injEq, Ob.dic.injEq, seqD_ref, lstD_ref, seqD_tup, seqD_lst, lstD_lst, lstR_lst, Sto.set_same, Sto.set_set, atI_0, atI_1, atI_2, Nat.reduceAdd, ixN_30, ixN_32, lstD_tup, seqD_row, List.append_assoc, false_or, or_false, cut_d1, cut_t1, sz_0, sz_1, sz_2, sz_3, sz_4, sz_5, sz_6, sz_7, sz_8, sz_9, sz_10, sz_11, sz_12]
    refine ⟨_, rfl, ?_⟩
    rw [if_neg (by decide)]
    exact fin
  | .non, _ =>
    simp only [t2__law_bent, dWkA, dTupK, dTupL, dTupIx, dDictP, dDc2, dFor, dWhile, dLc, dLc2, dDc, dNextG, iSeq, iR1, iR2, iEn, iZpA, iZ2, iZ3, dSortK, dSortKF, dSortSet, dSortSetF, dBreak, bSortT, bSortTF, bSum, bSumL, bSumLF, bMaxL, bMinL, dDicE, bSortD, bSortDF, dGet2, oInA, oNotInA, oIxA, gdSubA, dSeq, dSet, dIf, dIfS, dTst, dOp, dUn, dVar, dCB, aCons, aNil, aStar, dRet, dRetN, dNext, dDrop, dLst, dTup, dC, dAnd, dOr, dNot, dAndV, dOrV, dNotV, dPar, dAsg, gdName, gdSub, gdTup, gdCons, gdNil, gdSlot, dIsi, dIsi2, dSlot, dSetSlot, dMethSl, dMakeSl, dCall, dCallP, dBM, dFrz, dLstF, dLcF, dLc2F, dDcF, dSlF, dListVF, bListF, bListDF, bSortSF, oAddLF, oRepLF, dSl, dNoP, dPart, dListV, dTru, dOrT, EndsD, startD, oLtI, oLeI, oGtI, oGeI, oIx, oMulI, oPowI, oAddI, oSubI, oModI, oDivI, oI, oI0, oEqD, oNeD, oInD, oNotInD, oAddL, oAddT, oAddS, oRepL, bLen, bAbs, bInt, bMin2, bMax2, bAll, bAny, bTuple, bList, bListD, bSortS, mAppend, mPop, mPopAt, mExtend, mIndex, dFld, dSetFld, dAddFld, gdFld, dMeth, dMake, dPar3, dRevT, oAddTK, dSortSetT, dSortSetTF, gdLst, gdAll, dRevL, dRevLF, dYes, dFrzA, oNegI, bSortG, bSortGF, dSlK, oIsB, oNotB, bSortTS, bSortTSF, bSortI, bSortIF, iDi, dDisp, iEnS, dEi, oTimes, oEqO, oNeO, mClear, mReverse, dMethP, dMethSlP, dMakeP, dMakeSlP, oGeD, oCmpD, dSortSetBF, dSortKDF, dDcT, dLenSetT, dLenSetS, dChain, dAug, iTxt, oInS, oLtS, dDinN, dDin1, gdSubN, dSetDef, iDinK, iDinI, dDcN, dSortSetX, dSortSetXF, dSortSetXT, dSortSetXTF, dChain3, dLenSetXT, dDictN, bMinG, oIxS, dListZip, dDc2T, dSortDTF, dSortSetX0, dSortSetX0F, dRaise, dCallS, dMethS, dMethSlS, dCatch, dIsX, dIsX2, dXf, oInC, bStrI, bIntS, dTry0, gdTail, gdTailT, bMaxG, dCatch2, dRaise0, oLeS, dMaxK, dTupI, dSlS, dCatchN, dIsXN, tupOf_lst, tupOf_ref, tupOf_tup, List.map_cons, List.map_nil, List.length_cons, List.length_nil, List.cons_append, List.nil_append, List.append_nil, List.replicate, List.set_cons_zero, List.set_cons_succ, List.getElem?_cons_zero, List.getElem?_cons_succ, Option.some.injEq, exists_eq_left', exists_eq_left, exists_and_left, D.int.injEq, D.bl.injEq, D.str.injEq, D.tup.injEq, D.lst.injEq, D.ref.injEq, List.cons.injEq, and_true, true_and, reduceCtorEq, false_and, and_false, exists_false, or_false, false_or, exists_const, Bool.false_eq_true, if_true, if_false, decide_eq_true_eq, Ob.lst.injEq, Ob.slt.injEq, Ob.dic.injEq, seqD_ref, lstD_ref, seqD_tup, seqD_lst, lstD_lst, lstR_lst, Sto.set_same, Sto.set_set, atI_0, atI_1, atI_2, Nat.reduceAdd, ixN_30, ixN_32, lstD_tup, seqD_row, List.append_assoc, false_or, or_false, cut_d1, cut_t1, sz_0, sz_1, sz_2, sz_3, sz_4, sz_5, sz_6, sz_7, sz_8, sz_9, sz_10, sz_11, sz_12]
    refine ⟨_, rfl, ?_⟩
    rw [if_neg (by decide)]
    exact fin
theorem bent_tail {L n : Nat} {l : Nat} {v : D} {ms : List D} {km M : Nat} {c : Int} {S : Sto} {Q : D → Sto → Prop} {b3 b4 : Option D} (h : thB L (n + 1) v = true) (hM : wt (n + 1) v + 20 ≤ M) (hk : 2 ≤ km) (hL : 2 ≤ L) (hm : ∀ m ∈ ms, Th (L + 1) km M m) (hl : ms.length ≤ 50) (hM2 : M ≤ 100000) (hB : Bx S l c) (hc : c ≤ 2 ^ 39)
    (q : ∀ r S1, Th (L + 1) (n + 1 + km) (wt (n + 1) v + M) r → Fr l S S1 → Bx S1 l (c + 1) → (∀ m, S1 m = none → S m = none) → drp (Q r) S1) :
    t__law_bent n { nx := fun _ S => drp (Q .non) S, rt := fun v S => drp (Q v) S } [some (.ref l), some v, some (.lst ms), b3, b4] S := by
  simp only [t__law_bent, dWkA, dTupK, dTupL, dTupIx, dDictP, dDc2, dFor, dWhile, dLc, dLc2, dDc, dNextG, iSeq, iR1, iR2, iEn, iZpA, iZ2, iZ3, dSortK, dSortKF, dSortSet, dSortSetF, dBreak, bSortT, bSortTF, bSum, bSumL, bSumLF, bMaxL, bMinL, dDicE, bSortD, bSortDF, dGet2, oInA, oNotInA, oIxA, gdSubA, dSeq, dSet, dIf, dIfS, dTst, dOp, dUn, dVar, dCB, aCons, aNil, aStar, dRet, dRetN, dNext, dDrop, dLst, dTup, dC, dAnd, dOr, dNot, dAndV, dOrV, dNotV, dPar, dAsg, gdName, gdSub, gdTup, gdCons, gdNil, gdSlot, dIsi, dIsi2, dSlot, dSetSlot, dMethSl, dMakeSl, dCall, dCallP, dBM, dFrz, dLstF, dLcF, dLc2F, dDcF, dSlF, dListVF, bListF, bListDF, bSortSF, oAddLF, oRepLF, dSl, dNoP, dPart, dListV, dTru, dOrT, EndsD, startD, oLtI, oLeI, oGtI, oGeI, oIx, oMulI, oPowI, oAddI, oSubI, oModI, oDivI, oI, oI0, oEqD, oNeD, oInD, oNotInD, oAddL, oAddT, oAddS, oRepL, bLen, bAbs, bInt, bMin2, bMax2, bAll, bAny, bTuple, bList, bListD, bSortS, mAppend, mPop, mPopAt, mExtend, mIndex, dFld, dSetFld, dAddFld, gdFld, dMeth, dMake, dPar3, dRevT, oAddTK, dSortSetT, dSortSetTF, gdLst, gdAll, dRevL, dRevLF, dYes, dFrzA, oNegI, bSortG, bSortGF, dSlK, oIsB, oNotB, bSortTS, bSortTSF, bSortI, bSortIF, iDi, dDisp, iEnS, dEi, oTimes, oEqO, oNeO, mClear, mReverse, dMethP, dMethSlP, dMakeP, dMakeSlP, oGeD, oCmpD, dSortSetBF, dSortKDF, dDcT, dLenSetT, dLenSetS, dChain, dAug, iTxt, oInS, oLtS, dDinN, dDin1, gdSubN, dSetDef, iDinK, iDinI, dDcN, dSortSetX, dSortSetXF, dSortSetXT, dSortSetXTF, dChain3, dLenSetXT, dDictN, bMinG, oIxS, dListZip, dDc2T, dSortDTF, dSortSetX0, dSortSetX0F, dRaise, dCallS, dMethS, dMethSlS, dCatch, dIsX, dIsX2, dXf, oInC, bStrI, bIntS, dTry0, gdTail, gdTailT, bMaxG, dCatch2, dRaise0, oLeS, dMaxK, dTupI, dSlS, dCatchN, dIsXN, tupOf_lst, tupOf_ref, tupOf_tup, List.map_cons, List.map_nil, List.length_cons, List.length_nil, List.cons_append, List.nil_append, List.append_nil, List.replicate, List.set_cons_zero, List.set_cons_succ, List.getElem?_cons_zero, List.getElem?_cons_succ, Option.some.injEq, exists_eq_left', exists_eq_left, exists_and_left, D.int.injEq, D.bl.injEq, D.str.injEq, D.tup.injEq, D.lst.injEq, D.ref.injEq, List.cons.injEq, and_true, true_and, reduceCtorEq, false_and, and_false, exists_false, or_false, false_or, exists_const, Bool.false_eq_true, if_true, if_false, decide_eq_true_eq, Ob.lst.injEq, Ob.slt.injEq, Ob.dic.injEq, seqD_ref, lstD_ref, seqD_tup, seqD_lst, lstD_lst, lstR_lst, Sto.set_same, Sto.set_set, atI_0, atI_1, atI_2, Nat.reduceAdd, ixN_30, ixN_32, lstD_tup, seqD_row, List.append_assoc, false_or, or_false, cut_d1, cut_t1, sz_0, sz_1, sz_2, sz_3, sz_4, sz_5, sz_6, sz_7, sz_8, sz_9, sz_10, sz_11, sz_12]
  have hsl := sizeLine_eq
  refine ⟨by omega, by omega, by omega, ?_⟩
  refine bent2 (N := n + 1 + km) (W := wt (n + 1) v + M) h (by omega) (by omega) (fun e he => ?_) (by simp) ?_ hB hc (by omega) q
  · have he : e ∈ bentC ++ ms := he
    rcases List.mem_append.mp he with he | he
    · exact (bentC_th e he).mono (by omega) (by omega)
    · exact (hm e he).mono (by omega) (by omega)
  · show (bentC ++ ms).length ≤ 800
    rw [List.length_append]
    have : bentC.length = 18 := rfl
    omega
theorem wts_le {L m n : Nat} {ds : List D} (h : ∀ d ∈ ds, thB L m d = true) (hl : m ≤ n) : wts n ds = wts m ds := by
  unfold wts
  rw [List.map_congr_left fun d hd => by rw [(th_le (h d hd) hl).2]]
theorem pyDs_len : ∀ {ds : List D} {ps : List PyData}, pyDs ds = some ps → ps.length = ds.length
  | [], ps, h => by cases h; rfl
  | d :: ds, ps, h => by
    unfold pyDs at h
    cases e1 : pyD d with
    | none => rw [e1] at h; cases h
    | some p =>
      cases e2 : pyDs ds with
      | none => rw [e1, e2] at h; cases h
      | some qs =>
        rw [e1, e2] at h
        cases h
        rw [List.length_cons, List.length_cons, pyDs_len e2]
theorem th_tupP {L n : Nat} {ds : List D} (h : thB L (n + 1) (.tup ds) = true) : ∃ ps, pyD (.tup ds) = some (.tuple ps) ∧ ps.length = ds.length ∧ Shp (.tuple ps) (n + 1) := by
  obtain ⟨p, e, hs⟩ := th_shp h
  have e2 : (pyDs ds).map PyData.tuple = some p := e
  cases e3 : pyDs ds with
  | none => rw [e3] at e2; cases e2
  | some ps =>
    rw [e3] at e2
    cases e2
    exact ⟨ps, e, pyDs_len e3, hs⟩
theorem v__law_bent {n : Nat} : ∀ ds S Q E, sp__law_bent (n + 1) ds S Q E → d__law_bent n (EndsD Q) (startD N__law_bent ds) S := by
  rintro ds S Q E ⟨l, v, ms, L, km, M, c, rfl, h, hL, hM, hk2, hm, hl, hd, hM2, hB, hc, q⟩
  have hsl := sizeLine_eq
  have tail : ∀ {S1 : Sto} {c1 : Int} {b3 b4 : Option D}, Fr l S S1 → Bx S1 l c1 → c1 ≤ c + 1 → (∀ m, S1 m = none → S m = none) → t__law_bent n { nx := fun _ S => drp (Q .non) S, rt := fun v S => drp (Q v) S } [some (.ref l), some v, some (.lst ms), b3, b4] S1 := fun {S1 c1 b3 b4} hf1 hB1 hc1 hn1 =>
    bent_tail h hM hk2 hL hm hl hM2 hB1 (by omega) fun r S2 hr hf2 hB2 hn2 => drp_of (q r S2 hr (hf1.trans hf2) (by obtain ⟨o, ho, hb⟩ := hB2; exact ⟨o, ho, hb.mono (by push_cast; omega)⟩) fun m hm => hn1 m (hn2 m hm))
  match v, h with
  | .tup ds, h =>
    obtain ⟨hwid, hds⟩ := th_tup.mp h
    obtain ⟨ps, hp, hpl, hsp⟩ := th_tupP h
    simp only [d__law_bent, N__law_bent, dWkA, dTupK, dTupL, dTupIx, dDictP, dDc2, dFor, dWhile, dLc, dLc2, dDc, dNextG, iSeq, iR1, iR2, iEn, iZpA, iZ2, iZ3, dSortK, dSortKF, dSortSet, dSortSetF, dBreak, bSortT, bSortTF, bSum, bSumL, bSumLF, bMaxL, bMinL, dDicE, bSortD, bSortDF, dGet2, oInA, oNotInA, oIxA, gdSubA, dSeq, dSet, dIf, dIfS, dTst, dOp, dUn, dVar, dCB, aCons, aNil, aStar, dRet, dRetN, dNext, dDrop, dLst, dTup, dC, dAnd, dOr, dNot, dAndV, dOrV, dNotV, dPar, dAsg, gdName, gdSub, gdTup, gdCons, gdNil, gdSlot, dIsi, dIsi2, dSlot, dSetSlot, dMethSl, dMakeSl, dCall, dCallP, dBM, dFrz, dLstF, dLcF, dLc2F, dDcF, dSlF, dListVF, bListF, bListDF, bSortSF, oAddLF, oRepLF, dSl, dNoP, dPart, dListV, dTru, dOrT, EndsD, startD, oLtI, oLeI, oGtI, oGeI, oIx, oMulI, oPowI, oAddI, oSubI, oModI, oDivI, oI, oI0, oEqD, oNeD, oInD, oNotInD, oAddL, oAddT, oAddS, oRepL, bLen, bAbs, bInt, bMin2, bMax2, bAll, bAny, bTuple, bList, bListD, bSortS, mAppend, mPop, mPopAt, mExtend, mIndex, dFld, dSetFld, dAddFld, gdFld, dMeth, dMake, dPar3, dRevT, oAddTK, dSortSetT, dSortSetTF, gdLst, gdAll, dRevL, dRevLF, dYes, dFrzA, oNegI, bSortG, bSortGF, dSlK, oIsB, oNotB, bSortTS, bSortTSF, bSortI, bSortIF, iDi, dDisp, iEnS, dEi, oTimes, oEqO, oNeO, mClear, mReverse, dMethP, dMethSlP, dMakeP, dMakeSlP, oGeD, oCmpD, dSortSetBF, dSortKDF, dDcT, dLenSetT, dLenSetS, dChain, dAug, iTxt, oInS, oLtS, dDinN, dDin1, gdSubN, dSetDef, iDinK, iDinI, dDcN, dSortSetX, dSortSetXF, dSortSetXT, dSortSetXTF, dChain3, dLenSetXT, dDictN, bMinG, oIxS, dListZip, dDc2T, dSortDTF, dSortSetX0, dSortSetX0F, dRaise, dCallS, dMethS, dMethSlS, dCatch, dIsX, dIsX2, dXf, oInC, bStrI, bIntS, dTry0, gdTail, gdTailT, bMaxG, dCatch2, dRaise0, oLeS, dMaxK, dTupI, dSlS, dCatchN, dIsXN, tupOf_lst, tupOf_ref, tupOf_tup, List.map_cons, List.map_nil, List.length_cons, List.length_nil, List.cons_append, List.nil_append, List.append_nil, List.replicate, List.set_cons_zero, List.set_cons_succ, List.getElem?_cons_zero, List.getElem?_cons_succ, Option.some.injEq, exists_eq_left', exists_eq_left, exists_and_left, D.int.injEq, D.bl.injEq, D.str.injEq, D.tup.injEq, D.lst.injEq, D.ref.injEq, List.cons.injEq, and_true, true_and, reduceCtorEq, false_and, and_false, exists_false, or_false, false_or, exists_const, Bool.false_eq_true, if_true, if_false, decide_eq_true_eq, Ob.lst.injEq, Ob.slt.injEq, Ob.dic.injEq, seqD_ref, lstD_ref, seqD_tup, seqD_lst, lstD_lst, lstR_lst, Sto.set_same, Sto.set_set, atI_0, atI_1, atI_2, Nat.reduceAdd, ixN_30, ixN_32, lstD_tup, seqD_row, List.append_assoc, false_or, or_false, cut_d1, cut_t1, sz_0, sz_1, sz_2, sz_3, sz_4, sz_5, sz_6, sz_7, sz_8, sz_9, sz_10, sz_11, sz_12]
    refine ⟨_, rfl, ?_⟩
    rw [if_pos (by decide)]
    refine ⟨_, pyR_of hp, _, pyR_of (pyD_tup (pyDs_strs [])), hsp.ok (by omega), by rfl, ?_⟩
    have hdl : ds.length ≤ 100000 := by
      have h1 : wts n ds + 20 ≤ M := hM
      exact Nat.le_trans (wts_len n ds) (by omega)
    have ee : (PyData.tuple ps).eqv (PyData.tuple (List.map PyData.str [])) = ds.isEmpty := by
      have : ps.isEmpty = ds.isEmpty := by
        cases ps <;> cases ds <;> first | rfl | exact absurd hpl (by simp)
      rw [← this]
      cases ps <;> rfl
    rw [ee]
    by_cases hne : ds.isEmpty = true
    · rw [hne, if_neg (by decide)]
      exact tail Fr.refl hB (by omega) fun _ h => h
    · rw [Bool.not_eq_true _ |>.mp hne, if_pos (by decide)]
      have hpos : 0 < ds.length := by
        cases ds with
        | nil => exact absurd rfl hne
        | cons d ds => simp
      refine c__law_take (by decide) (by decide) hB (by omega) fun i S1 hi0 hi5 hf1 hB1 hn1 => ⟨i, rfl, ?_⟩
      by_cases h0 : 0 < i
      · rw [if_pos h0]
        refine c__law_take (by omega) (by omega) hB1 (by omega) fun j S2 hj0 hj1 hf2 hB2 hn2 => ⟨j, rfl, j, rfl, ?_⟩
        obtain ⟨k, rfl⟩ : ∃ k : Nat, j = k := ⟨j.toNat, by omega⟩
        have hk : k < ds.length := by omega
        have hku : ds.getD k .non ∈ ds := by
          rw [List.getD_eq_getElem?_getD, List.getElem?_eq_getElem hk]
          exact List.getElem_mem hk
        have hwu := wts_mem (n := n) hku
        have hM3 : wts n ds + 20 ≤ M := hM
        refine ⟨ds.getD k .non, atI_nat (by rw [List.getD_eq_getElem?_getD, List.getElem?_eq_getElem hk]; rfl), l, _, ms, L, km, M, _, rfl, hds _ hku, hL, by omega, hk2, hm, hl, by omega, hM2, hB2, by push_cast at hc ⊢; omega, fun r S3 hr hf3 hB3 hn3 => ?_⟩
        rw [cut_take]
        refine ⟨small_sz (by rw [List.length_take]; omega), k, rfl, ?_⟩
        rw [show ((k : Int) + 1) = ((k + 1 : Nat) : Int) from rfl, cut_drop]
        refine ⟨small_sz (by rw [List.length_append, List.length_take, List.length_drop]; simp; omega), ?_⟩
        have ea : ds.take k ++ r :: ds.drop (k + 1) = ds.take k ++ [r] ++ ds.drop (k + 1) := by simp
        rw [ea]
        refine drp_of (q _ S3 ?_ ((hf1.trans hf2).trans hf3) ?_ fun m hm => hn1 m (hn2 m (hn3 m hm)))
        · have hds2 : ∀ d ∈ ds, thB (L + 1) (n + km) d = true := fun d hd => th_wide (th_le (hds d hd) (by omega)).1 (by omega)
          have e1 : wts (n + km) ds = wts n ds := wts_le hds (by omega)
          have e2 : wt (n + km) (ds.getD k .non) = wt n (ds.getD k .non) := (th_le (hds _ hku) (by omega)).2
          have := th_put (L := L + 1) (n := n + km) (W := wts n ds + M) (by omega) hds2 hk hr.1 (by rw [e1, e2]; have := hr.2; omega)
          rw [show n + 1 + km = n + km + 1 by omega]
          exact this
        · obtain ⟨o, ho, hb⟩ := hB3
          exact ⟨o, ho, hb.mono (by push_cast; omega)⟩
      · rw [if_neg h0]
        exact tail hf1 hB1 (by omega) hn1
  | .str z, _ =>
    simp only [d__law_bent, N__law_bent, dWkA, dTupK, dTupL, dTupIx, dDictP, dDc2, dFor, dWhile, dLc, dLc2, dDc, dNextG, iSeq, iR1, iR2, iEn, iZpA, iZ2, iZ3, dSortK, dSortKF, dSortSet, dSortSetF, dBreak, bSortT, bSortTF, bSum, bSumL, bSumLF, bMaxL, bMinL, dDicE, bSortD, bSortDF, dGet2, oInA, oNotInA, oIxA, gdSubA, dSeq, dSet, dIf, dIfS, dTst, dOp, dUn, dVar, dCB, aCons, aNil, aStar, dRet, dRetN, dNext, dDrop, dLst, dTup, dC, dAnd, dOr, dNot, dAndV, dOrV, dNotV, dPar, dAsg, gdName, gdSub, gdTup, gdCons, gdNil, gdSlot, dIsi, dIsi2, dSlot, dSetSlot, dMethSl, dMakeSl, dCall, dCallP, dBM, dFrz, dLstF, dLcF, dLc2F, dDcF, dSlF, dListVF, bListF, bListDF, bSortSF, oAddLF, oRepLF, dSl, dNoP, dPart, dListV, dTru, dOrT, EndsD, startD, oLtI, oLeI, oGtI, oGeI, oIx, oMulI, oPowI, oAddI, oSubI, oModI, oDivI, oI, oI0, oEqD, oNeD, oInD, oNotInD, oAddL, oAddT, oAddS, oRepL, bLen, bAbs, bInt, bMin2, bMax2, bAll, bAny, bTuple, bList, bListD, bSortS, mAppend, mPop, mPopAt, mExtend, mIndex, dFld, dSetFld, dAddFld, gdFld, dMeth, dMake, dPar3, dRevT, oAddTK, dSortSetT, dSortSetTF, gdLst, gdAll, dRevL, dRevLF, dYes, dFrzA, oNegI, bSortG, bSortGF, dSlK, oIsB, oNotB, bSortTS, bSortTSF, bSortI, bSortIF, iDi, dDisp, iEnS, dEi, oTimes, oEqO, oNeO, mClear, mReverse, dMethP, dMethSlP, dMakeP, dMakeSlP, oGeD, oCmpD, dSortSetBF, dSortKDF, dDcT, dLenSetT, dLenSetS, dChain, dAug, iTxt, oInS, oLtS, dDinN, dDin1, gdSubN, dSetDef, iDinK, iDinI, dDcN, dSortSetX, dSortSetXF, dSortSetXT, dSortSetXTF, dChain3, dLenSetXT, dDictN, bMinG, oIxS, dListZip, dDc2T, dSortDTF, dSortSetX0, dSortSetX0F, dRaise, dCallS, dMethS, dMethSlS, dCatch, dIsX, dIsX2, dXf, oInC, bStrI, bIntS, dTry0, gdTail, gdTailT, bMaxG, dCatch2, dRaise0, oLeS, dMaxK, dTupI, dSlS, dCatchN, dIsXN, tupOf_lst, tupOf_ref, tupOf_tup, List.map_cons, List.map_nil, List.length_cons, List.length_nil, List.cons_append, List.nil_append, List.append_nil, List.replicate, List.set_cons_zero, List.set_cons_succ, List.getElem?_cons_zero, List.getElem?_cons_succ, Option.some.injEq, exists_eq_left', exists_eq_left, exists_and_left, D.int.injEq, D.bl.injEq, D.str.injEq, D.tup.injEq, D.lst.injEq, D.ref.injEq, List.cons.injEq, and_true, true_and, reduceCtorEq, false_and, and_false, exists_false, or_false, false_or, exists_const, Bool.false_eq_true, if_true, if_false, decide_eq_true_eq, Ob.lst.injEq, Ob.slt.injEq, Ob.dic.injEq, seqD_ref, lstD_ref, seqD_tup, seqD_lst, lstD_lst, lstR_lst, Sto.set_same, Sto.set_set, atI_0, atI_1, atI_2, Nat.reduceAdd, ixN_30, ixN_32, lstD_tup, seqD_row, List.append_assoc, false_or, or_false, cut_d1, cut_t1, sz_0, sz_1, sz_2, sz_3, sz_4, sz_5, sz_6, sz_7, sz_8, sz_9, sz_10, sz_11, sz_12]
    refine ⟨_, rfl, ?_⟩
    rw [if_neg (by decide)]
    exact tail Fr.refl hB (by omega) fun _ h => h
  | .lst ds, _ =>
    simp only [d__law_bent, N__law_bent, dWkA, dTupK, dTupL, dTupIx, dDictP, dDc2, dFor, dWhile, dLc, dLc2, dDc, dNextG, iSeq, iR1, iR2, iEn, iZpA, iZ2, iZ3, dSortK, dSortKF, dSortSet, dSortSetF, dBreak, bSortT, bSortTF, bSum, bSumL, bSumLF, bMaxL, bMinL, dDicE, bSortD, bSortDF, dGet2, oInA, oNotInA, oIxA, gdSubA, dSeq, dSet, dIf, dIfS, dTst, dOp, dUn, dVar, dCB, aCons, aNil, aStar, dRet, dRetN, dNext, dDrop, dLst, dTup, dC, dAnd, dOr, dNot, dAndV, dOrV, dNotV, dPar, dAsg, gdName, gdSub, gdTup, gdCons, gdNil, gdSlot, dIsi, dIsi2, dSlot, dSetSlot, dMethSl, dMakeSl, dCall, dCallP, dBM, dFrz, dLstF, dLcF, dLc2F, dDcF, dSlF, dListVF, bListF, bListDF, bSortSF, oAddLF, oRepLF, dSl, dNoP, dPart, dListV, dTru, dOrT, EndsD, startD, oLtI, oLeI, oGtI, oGeI, oIx, oMulI, oPowI, oAddI, oSubI, oModI, oDivI, oI, oI0, oEqD, oNeD, oInD, oNotInD, oAddL, oAddT, oAddS, oRepL, bLen, bAbs, bInt, bMin2, bMax2, bAll, bAny, bTuple, bList, bListD, bSortS, mAppend, mPop, mPopAt, mExtend, mIndex, dFld, dSetFld, dAddFld, gdFld, dMeth, dMake, dPar3, dRevT, oAddTK, dSortSetT, dSortSetTF, gdLst, gdAll, dRevL, dRevLF, dYes, dFrzA, oNegI, bSortG, bSortGF, dSlK, oIsB, oNotB, bSortTS, bSortTSF, bSortI, bSortIF, iDi, dDisp, iEnS, dEi, oTimes, oEqO, oNeO, mClear, mReverse, dMethP, dMethSlP, dMakeP, dMakeSlP, oGeD, oCmpD, dSortSetBF, dSortKDF, dDcT, dLenSetT, dLenSetS, dChain, dAug, iTxt, oInS, oLtS, dDinN, dDin1, gdSubN, dSetDef, iDinK, iDinI, dDcN, dSortSetX, dSortSetXF, dSortSetXT, dSortSetXTF, dChain3, dLenSetXT, dDictN, bMinG, oIxS, dListZip, dDc2T, dSortDTF, dSortSetX0, dSortSetX0F, dRaise, dCallS, dMethS, dMethSlS, dCatch, dIsX, dIsX2, dXf, oInC, bStrI, bIntS, dTry0, gdTail, gdTailT, bMaxG, dCatch2, dRaise0, oLeS, dMaxK, dTupI, dSlS, dCatchN, dIsXN, tupOf_lst, tupOf_ref, tupOf_tup, List.map_cons, List.map_nil, List.length_cons, List.length_nil, List.cons_append, List.nil_append, List.append_nil, List.replicate, List.set_cons_zero, List.set_cons_succ, List.getElem?_cons_zero, List.getElem?_cons_succ, Option.some.injEq, exists_eq_left', exists_eq_left, exists_and_left, D.int.injEq, D.bl.injEq, D.str.injEq, D.tup.injEq, D.lst.injEq, D.ref.injEq, List.cons.injEq, and_true, true_and, reduceCtorEq, false_and, and_false, exists_false, or_false, false_or, exists_const, Bool.false_eq_true, if_true, if_false, decide_eq_true_eq, Ob.lst.injEq, Ob.slt.injEq, Ob.dic.injEq, seqD_ref, lstD_ref, seqD_tup, seqD_lst, lstD_lst, lstR_lst, Sto.set_same, Sto.set_set, atI_0, atI_1, atI_2, Nat.reduceAdd, ixN_30, ixN_32, lstD_tup, seqD_row, List.append_assoc, false_or, or_false, cut_d1, cut_t1, sz_0, sz_1, sz_2, sz_3, sz_4, sz_5, sz_6, sz_7, sz_8, sz_9, sz_10, sz_11, sz_12]
    refine ⟨_, rfl, ?_⟩
    rw [if_neg (by decide)]
    exact tail Fr.refl hB (by omega) fun _ h => h
  | .int i, _ =>
    simp only [d__law_bent, N__law_bent, dWkA, dTupK, dTupL, dTupIx, dDictP, dDc2, dFor, dWhile, dLc, dLc2, dDc, dNextG, iSeq, iR1, iR2, iEn, iZpA, iZ2, iZ3, dSortK, dSortKF, dSortSet, dSortSetF, dBreak, bSortT, bSortTF, bSum, bSumL, bSumLF, bMaxL, bMinL, dDicE, bSortD, bSortDF, dGet2, oInA, oNotInA, oIxA, gdSubA, dSeq, dSet, dIf, dIfS, dTst, dOp, dUn, dVar, dCB, aCons, aNil, aStar, dRet, dRetN, dNext, dDrop, dLst, dTup, dC, dAnd, dOr, dNot, dAndV, dOrV, dNotV, dPar, dAsg, gdName, gdSub, gdTup, gdCons, gdNil, gdSlot, dIsi, dIsi2, dSlot, dSetSlot, dMethSl, dMakeSl, dCall, dCallP, dBM, dFrz, dLstF, dLcF, dLc2F, dDcF, dSlF, dListVF, bListF, bListDF, bSortSF, oAddLF, oRepLF, dSl, dNoP, dPart, dListV, dTru, dOrT, EndsD, startD, oLtI, oLeI, oGtI, oGeI, oIx, oMulI, oPowI, oAddI, oSubI, oModI, oDivI, oI, oI0, oEqD, oNeD, oInD, oNotInD, oAddL, oAddT, oAddS, oRepL, bLen, bAbs, bInt, bMin2, bMax2, bAll, bAny, bTuple, bList, bListD, bSortS, mAppend, mPop, mPopAt, mExtend, mIndex, dFld, dSetFld, dAddFld, gdFld, dMeth, dMake, dPar3, dRevT, oAddTK, dSortSetT, dSortSetTF, gdLst, gdAll, dRevL, dRevLF, dYes, dFrzA, oNegI, bSortG, bSortGF, dSlK, oIsB, oNotB, bSortTS, bSortTSF, bSortI, bSortIF, iDi, dDisp, iEnS, dEi, oTimes, oEqO, oNeO, mClear, mReverse, dMethP, dMethSlP, dMakeP, dMakeSlP, oGeD, oCmpD, dSortSetBF, dSortKDF, dDcT, dLenSetT, dLenSetS, dChain, dAug, iTxt, oInS, oLtS, dDinN, dDin1, gdSubN, dSetDef, iDinK, iDinI, dDcN, dSortSetX, dSortSetXF, dSortSetXT, dSortSetXTF, dChain3, dLenSetXT, dDictN, bMinG, oIxS, dListZip, dDc2T, dSortDTF, dSortSetX0, dSortSetX0F, dRaise, dCallS, dMethS, dMethSlS, dCatch, dIsX, dIsX2, dXf, oInC, bStrI, bIntS, dTry0, gdTail, gdTailT, bMaxG, dCatch2, dRaise0, oLeS, dMaxK, dTupI, dSlS, dCatchN, dIsXN, tupOf_lst, tupOf_ref, tupOf_tup, List.map_cons, List.map_nil, List.length_cons, List.length_nil, List.cons_append, List.nil_append, List.append_nil, List.replicate, List.set_cons_zero, List.set_cons_succ, List.getElem?_cons_zero, List.getElem?_cons_succ, Option.some.injEq, exists_eq_left', exists_eq_left, exists_and_left, D.int.injEq, D.bl.injEq, D.str.injEq, D.tup.injEq, D.lst.injEq, D.ref.injEq, List.cons.injEq, and_true, true_and, reduceCtorEq, false_and, and_false, exists_false, or_false, false_or, exists_const, Bool.false_eq_true, if_true, if_false, decide_eq_true_eq, Ob.lst.injEq, Ob.slt.injEq, Ob.dic.injEq, seqD_ref, lstD_ref, seqD_tup, seqD_lst, lstD_lst, lstR_lst, Sto.set_same, Sto.set_set, atI_0, atI_1, atI_2, Nat.reduceAdd, ixN_30, ixN_32, lstD_tup, seqD_row, List.append_assoc, false_or, or_false, cut_d1, cut_t1, sz_0, sz_1, sz_2, sz_3, sz_4, sz_5, sz_6, sz_7, sz_8, sz_9, sz_10, sz_11, sz_12]
    refine ⟨_, rfl, ?_⟩
    rw [if_neg (by decide)]
    exact tail Fr.refl hB (by omega) fun _ h => h
  | .bl i, _ =>
    simp only [d__law_bent, N__law_bent, dWkA, dTupK, dTupL, dTupIx, dDictP, dDc2, dFor, dWhile, dLc, dLc2, dDc, dNextG, iSeq, iR1, iR2, iEn, iZpA, iZ2, iZ3, dSortK, dSortKF, dSortSet, dSortSetF, dBreak, bSortT, bSortTF, bSum, bSumL, bSumLF, bMaxL, bMinL, dDicE, bSortD, bSortDF, dGet2, oInA, oNotInA, oIxA, gdSubA, dSeq, dSet, dIf, dIfS, dTst, dOp, dUn, dVar, dCB, aCons, aNil, aStar, dRet, dRetN, dNext, dDrop, dLst, dTup, dC, dAnd, dOr, dNot, dAndV, dOrV, dNotV, dPar, dAsg, gdName, gdSub, gdTup, gdCons, gdNil, gdSlot, dIsi, dIsi2, dSlot, dSetSlot, dMethSl, dMakeSl, dCall, dCallP, dBM, dFrz, dLstF, dLcF, dLc2F, dDcF, dSlF, dListVF, bListF, bListDF, bSortSF, oAddLF, oRepLF, dSl, dNoP, dPart, dListV, dTru, dOrT, EndsD, startD, oLtI, oLeI, oGtI, oGeI, oIx, oMulI, oPowI, oAddI, oSubI, oModI, oDivI, oI, oI0, oEqD, oNeD, oInD, oNotInD, oAddL, oAddT, oAddS, oRepL, bLen, bAbs, bInt, bMin2, bMax2, bAll, bAny, bTuple, bList, bListD, bSortS, mAppend, mPop, mPopAt, mExtend, mIndex, dFld, dSetFld, dAddFld, gdFld, dMeth, dMake, dPar3, dRevT, oAddTK, dSortSetT, dSortSetTF, gdLst, gdAll, dRevL, dRevLF, dYes, dFrzA, oNegI, bSortG, bSortGF, dSlK, oIsB, oNotB, bSortTS, bSortTSF, bSortI, bSortIF, iDi, dDisp, iEnS, dEi, oTimes, oEqO, oNeO, mClear, mReverse, dMethP, dMethSlP, dMakeP, dMakeSlP, oGeD, oCmpD, dSortSetBF, dSortKDF, dDcT, dLenSetT, dLenSetS, dChain, dAug, iTxt, oInS, oLtS, dDinN, dDin1, gdSubN, dSetDef, iDinK, iDinI, dDcN, dSortSetX, dSortSetXF, dSortSetXT, dSortSetXTF, dChain3, dLenSetXT, dDictN, bMinG, oIxS, dListZip, dDc2T, dSortDTF, dSortSetX0, dSortSetX0F, dRaise, dCallS, dMethS, dMethSlS, dCatch, dIsX, dIsX2, dXf, oInC, bStrI, bIntS, dTry0, gdTail, gdTailT, bMaxG, dCatch2, dRaise0, oLeS, dMaxK, dTupI, dSlS, dCatchN, dIsXN, tupOf_lst, tupOf_ref, tupOf_tup, List.map_cons, List.map_nil, List.length_cons, List.length_nil, List.cons_append, List.nil_append, List.append_nil, List.replicate, List.set_cons_zero, List.set_cons_succ, List.getElem?_cons_zero, List.getElem?_cons_succ, Option.some.injEq, exists_eq_left', exists_eq_left, exists_and_left, D.int.injEq, D.bl.injEq, D.str.injEq, D.tup.injEq, D.lst.injEq, D.ref.injEq, List.cons.injEq, and_true, true_and, reduceCtorEq, false_and, and_false, exists_false, or_false, false_or, exists_const, Bool.false_eq_true, if_true, if_false, decide_eq_true_eq, Ob.lst.injEq, Ob.slt.injEq, Ob.dic.injEq, seqD_ref, lstD_ref, seqD_tup, seqD_lst, lstD_lst, lstR_lst, Sto.set_same, Sto.set_set, atI_0, atI_1, atI_2, Nat.reduceAdd, ixN_30, ixN_32, lstD_tup, seqD_row, List.append_assoc, false_or, or_false, cut_d1, cut_t1, sz_0, sz_1, sz_2, sz_3, sz_4, sz_5, sz_6, sz_7, sz_8, sz_9, sz_10, sz_11, sz_12]
    refine ⟨_, rfl, ?_⟩
    rw [if_neg (by decide)]
    exact tail Fr.refl hB (by omega) fun _ h => h
  | .non, _ =>
    simp only [d__law_bent, N__law_bent, dWkA, dTupK, dTupL, dTupIx, dDictP, dDc2, dFor, dWhile, dLc, dLc2, dDc, dNextG, iSeq, iR1, iR2, iEn, iZpA, iZ2, iZ3, dSortK, dSortKF, dSortSet, dSortSetF, dBreak, bSortT, bSortTF, bSum, bSumL, bSumLF, bMaxL, bMinL, dDicE, bSortD, bSortDF, dGet2, oInA, oNotInA, oIxA, gdSubA, dSeq, dSet, dIf, dIfS, dTst, dOp, dUn, dVar, dCB, aCons, aNil, aStar, dRet, dRetN, dNext, dDrop, dLst, dTup, dC, dAnd, dOr, dNot, dAndV, dOrV, dNotV, dPar, dAsg, gdName, gdSub, gdTup, gdCons, gdNil, gdSlot, dIsi, dIsi2, dSlot, dSetSlot, dMethSl, dMakeSl, dCall, dCallP, dBM, dFrz, dLstF, dLcF, dLc2F, dDcF, dSlF, dListVF, bListF, bListDF, bSortSF, oAddLF, oRepLF, dSl, dNoP, dPart, dListV, dTru, dOrT, EndsD, startD, oLtI, oLeI, oGtI, oGeI, oIx, oMulI, oPowI, oAddI, oSubI, oModI, oDivI, oI, oI0, oEqD, oNeD, oInD, oNotInD, oAddL, oAddT, oAddS, oRepL, bLen, bAbs, bInt, bMin2, bMax2, bAll, bAny, bTuple, bList, bListD, bSortS, mAppend, mPop, mPopAt, mExtend, mIndex, dFld, dSetFld, dAddFld, gdFld, dMeth, dMake, dPar3, dRevT, oAddTK, dSortSetT, dSortSetTF, gdLst, gdAll, dRevL, dRevLF, dYes, dFrzA, oNegI, bSortG, bSortGF, dSlK, oIsB, oNotB, bSortTS, bSortTSF, bSortI, bSortIF, iDi, dDisp, iEnS, dEi, oTimes, oEqO, oNeO, mClear, mReverse, dMethP, dMethSlP, dMakeP, dMakeSlP, oGeD, oCmpD, dSortSetBF, dSortKDF, dDcT, dLenSetT, dLenSetS, dChain, dAug, iTxt, oInS, oLtS, dDinN, dDin1, gdSubN, dSetDef, iDinK, iDinI, dDcN, dSortSetX, dSortSetXF, dSortSetXT, dSortSetXTF, dChain3, dLenSetXT, dDictN, bMinG, oIxS, dListZip, dDc2T, dSortDTF, dSortSetX0, dSortSetX0F, dRaise, dCallS, dMethS, dMethSlS, dCatch, dIsX, dIsX2, dXf, oInC, bStrI, bIntS, dTry0, gdTail, gdTailT, bMaxG, dCatch2, dRaise0, oLeS, dMaxK, dTupI, dSlS, dCatchN, dIsXN, tupOf_lst, tupOf_ref, tupOf_tup, List.map_cons, List.map_nil, List.length_cons, List.length_nil, List.cons_append, List.nil_append, List.append_nil, List.replicate, List.set_cons_zero, List.set_cons_succ, List.getElem?_cons_zero, List.getElem?_cons_succ, Option.some.injEq, exists_eq_left', exists_eq_left, exists_and_left, D.int.injEq, D.bl.injEq, D.str.injEq, D.tup.injEq, D.lst.injEq, D.ref.injEq, List.cons.injEq, and_true, true_and, reduceCtorEq, false_and, and_false, exists_false, or_false, false_or, exists_const, Bool.false_eq_true, if_true, if_false, decide_eq_true_eq, Ob.lst.injEq, Ob.slt.injEq, Ob.dic.injEq, seqD_ref, lstD_ref, seqD_tup, seqD_lst, lstD_lst, lstR_lst, Sto.set_same, Sto.set_set, atI_0, atI_1, atI_2, Nat.reduceAdd, ixN_30, ixN_32, lstD_tup, seqD_row, List.append_assoc, false_or, or_false, cut_d1, cut_t1, sz_0, sz_1, sz_2, sz_3, sz_4, sz_5, sz_6, sz_7, sz_8, sz_9, sz_10, sz_11, sz_12]
    refine ⟨_, rfl, ?_⟩
    rw [if_neg (by decide)]
    exact tail Fr.refl hB (by omega) fun _ h => h
end LK
end
section
set_option Elab.async false
set_option linter.all false
set_option maxRecDepth 100000
set_option maxHeartbeats 1000000
namespace LK
open PySem PySem.Spec PyProof.Rows L2 L3
def nmB : D → Bool
  | .str x => isNm x
  | _ => false
def ltS (a b : Str) : Bool := decide (a.cps.toList < b.cps.toList)
def upB (xs : List Str) : Bool := (xs.zip (xs.drop 1)).all fun p => ltS p.1 p.2
def txt : D → Str
  | .str x => x
  | _ => ""
def fstD : D → D
  | .tup (a :: _) => a
  | _ => .non
def hdB : D → Bool
  | .tup [a, .tup vs] => nmB a && (decide (vs.length ≤ 3) && (vs.all nmB && upB (vs.map txt)))
  | _ => false
def tsB (ns : List Str) : D → Bool
  | .tup [.str a, .str v] => decide (a ∈ ns) && (decide (v = "") || isNm v)
  | _ => false
def rlB (ns : List Str) : D → Bool
  | .tup [.tup ts, a] => nmB a && (ts.all (tsB ns) && decide ((ts.map fun t => txt (fstD t)).Nodup))
  | _ => false
def netB : D → Bool
  | .tup [.tup hs, .tup rs] => hs.all hdB && (upB (hs.map fun h => txt (fstD h)) && rs.all (rlB (hs.map fun h => txt (fstD h))))
  | _ => false
def An (d : D) : Prop := ∃ n, n ≤ 16 ∧ Th 300 n 200000 d
def NsA (ns : List Str) : Prop := ns.length ≤ 1000 ∧ ∀ n ∈ ns, PyData.strOk n = true
def sp_is_name_k10 : DSp := fun ds S Q _ => ∃ v : D, ds = [v] ∧ An v ∧ Q (.bl (nmB v)) S
def sp_rises_k10 : DSp := fun ds S Q _ => ∃ (v : D) (xs : List Str), ds = [v] ∧ (v = .tup (xs.map .str) ∨ v = .lst (xs.map .str)) ∧ xs.length ≤ 1000 ∧ Q (.bl (upB xs)) S
def sp_is_header_k10 : DSp := fun ds S Q _ => ∃ v : D, ds = [v] ∧ An v ∧ Q (.bl (hdB v)) S
def sp_is_test_k10 : DSp := fun ds S Q _ => ∃ (v : D) (ns : List Str), ds = [v, .lst (ns.map .str)] ∧ An v ∧ NsA ns ∧ Q (.bl (tsB ns v)) S
def sp_is_rule_k10 : DSp := fun ds S Q _ => ∃ (v : D) (ns : List Str), ds = [v, .lst (ns.map .str)] ∧ An v ∧ NsA ns ∧ Q (.bl (rlB ns v)) S
def sp_is_world_k10 : DSp := fun ds S Q _ => ∃ v : D, ds = [v] ∧ An v ∧ Q (.bl (netB v)) S
def sp__law_is_name_k10 : DSp := fun ds S Q _ => ∃ v : D, ds = [v] ∧ An v ∧ Q (.bl (nmB v)) S
def sp__law_goes_up_k10 : DSp := fun ds S Q _ => ∃ (v : D) (xs : List Str), ds = [v] ∧ (v = .tup (xs.map .str) ∨ v = .lst (xs.map .str)) ∧ xs.length ≤ 1000 ∧ Q (.bl (upB xs)) S
def sp__law_is_net_k10 : DSp := fun ds S Q _ => ∃ v : D, ds = [v] ∧ An v ∧ Q (.bl (netB v)) S
abbrev Pt (d : D) : Prop := Th 300 16 100000 d
def sp__law_sizes_k10 : DSp := fun ds S Q _ => ∃ (l : Nat) (c : Int), ds = [.ref l] ∧ Bx S l c ∧ c ≤ 2 ^ 39 ∧ ∀ (ss : List Int) (o : Ob), ss.length ≤ 4 → (∀ s ∈ ss, 1 ≤ s ∧ s ≤ 3) → ss ≠ [] → BxO o (c + 1) → Q (.lst (ss.map .int)) (S.set l o)
def sp__law_by_hand_k10 : DSp := fun ds S Q _ => ds = [] ∧ ∀ es S1, (∀ e ∈ es, Pt e) → es.length ≤ 200 → S.sub S1 → Q (.lst es) S1
def sp__law_right_k10 : DSp := sp_rightG
def sp_law_k10 : DSp := sp_lawG
abbrev N_is_name_k10 : List Str := ["thing", "sign"]
def d_is_name_k10 : DS :=
  dRet (dAndV (dIsi "str" (dVar 0)) (dAndV (dChain oLeI oLeI (dC (.int 1)) (dCB bLen (aCons (dVar 0) (aNil))) (dC (.int 8))) (dCB bAll (aCons (dLcF (iTxt (dVar 0)) (.one 1) (dYes) (dOp oInS (dVar 1) (dC (.str "abcdefghijklmnopqrstuvwxyz"))) [1]) (aNil)))))
abbrev N_rises_k10 : List Str := ["some", "rows", "one", "other"]
def d_rises_k10 : DS :=
  dSeq (dSet 1 (dCB bListF (aCons (dVar 0) (aNil))))
    (dRet (dCB bAll (aCons (dLcF (iZ2 (aCons (dVar 1) (aCons (dSlF (dVar 1) (dPart (dC (.int 1))) (dNoP)) (aNil)))) (.many [2, 3]) (dYes) (dOp oLtS (dVar 2) (dVar 3)) [2, 3]) (aNil))))
abbrev N_is_header_k10 : List Str := ["thing", "value"]
def d_is_header_k10 : DS :=
  dSeq (dIfS (dOr (dNot (dTst (dCall (sp_is_tuple) noX (aCons (dVar 0) (aCons (dC (.int 2)) (aNil)))))) (dOr (dNot (dTst (dCall (sp_is_name_k10) noX (aCons (dOp oIx (dVar 0) (dC (.int 0))) (aNil))))) (dNot (dTst (dIsi "tuple" (dOp oIx (dVar 0) (dC (.int 1)))))))) (dRet (dC (.bl false))) (dNext))
    (dRet (dAndV (dOp oLeI (dCB bLen (aCons (dOp oIx (dVar 0) (dC (.int 1))) (aNil))) (dC (.int 3))) (dAndV (dCB bAll (aCons (dLcF (iSeq (dOp oIx (dVar 0) (dC (.int 1)))) (.one 1) (dYes) (dCall (sp_is_name_k10) noX (aCons (dVar 1) (aNil))) [1]) (aNil))) (dCall (sp_rises_k10) noX (aCons (dOp oIx (dVar 0) (dC (.int 1))) (aNil))))))
abbrev N_is_test_k10 : List Str := ["thing", "names"]
def d_is_test_k10 : DS :=
  dSeq (dIfS (dOr (dNot (dTst (dCall (sp_is_tuple) noX (aCons (dVar 0) (aCons (dC (.int 2)) (aNil)))))) (dOr (dNot (dTst (dIsi "str" (dOp oIx (dVar 0) (dC (.int 0)))))) (dTst (dOp oNotInA (dOp oIx (dVar 0) (dC (.int 0))) (dVar 1))))) (dRet (dC (.bl false))) (dNext))
    (dRet (dOrV (dAndV (dIsi "str" (dOp oIx (dVar 0) (dC (.int 1)))) (dOp oEqD (dOp oIx (dVar 0) (dC (.int 1))) (dC (.str "")))) (dCall (sp_is_name_k10) noX (aCons (dOp oIx (dVar 0) (dC (.int 1))) (aNil)))))
abbrev N_is_rule_k10 : List Str := ["thing", "names", "test"]
def d_is_rule_k10 : DS :=
  dSeq (dIfS (dOr (dNot (dTst (dCall (sp_is_tuple) noX (aCons (dVar 0) (aCons (dC (.int 2)) (aNil)))))) (dOr (dNot (dTst (dCall (sp_is_name_k10) noX (aCons (dOp oIx (dVar 0) (dC (.int 1))) (aNil))))) (dNot (dTst (dIsi "tuple" (dOp oIx (dVar 0) (dC (.int 0)))))))) (dRet (dC (.bl false))) (dNext))
    (dSeq (dIfS (dNot (dTst (dCB bAll (aCons (dLcF (iSeq (dOp oIx (dVar 0) (dC (.int 0)))) (.one 2) (dYes) (dCall (sp_is_test_k10) noX (aCons (dVar 2) (aCons (dVar 1) (aNil)))) [2]) (aNil))))) (dRet (dC (.bl false))) (dNext))
    (dRet (dOp oEqD (dLenSetS (dLcF (iSeq (dOp oIx (dVar 0) (dC (.int 0)))) (.one 2) (dYes) (dOp oIx (dVar 2) (dC (.int 0))) [2])) (dCB bLen (aCons (dOp oIx (dVar 0) (dC (.int 0))) (aNil))))))
abbrev N_is_world_k10 : List Str := ["thing", "names", "header", "rule"]
def d_is_world_k10 : DS :=
  dSeq (dIfS (dOr (dNot (dTst (dCall (sp_is_tuple) noX (aCons (dVar 0) (aCons (dC (.int 2)) (aNil)))))) (dOr (dNot (dTst (dIsi "tuple" (dOp oIx (dVar 0) (dC (.int 0)))))) (dNot (dTst (dIsi "tuple" (dOp oIx (dVar 0) (dC (.int 1)))))))) (dRet (dC (.bl false))) (dNext))
    (dSeq (dIfS (dNot (dTst (dCB bAll (aCons (dLcF (iSeq (dOp oIx (dVar 0) (dC (.int 0)))) (.one 2) (dYes) (dCall (sp_is_header_k10) noX (aCons (dVar 2) (aNil))) [2]) (aNil))))) (dRet (dC (.bl false))) (dNext))
    (dSeq (dSet 1 (dLcF (iSeq (dOp oIx (dVar 0) (dC (.int 0)))) (.one 2) (dYes) (dOp oIx (dVar 2) (dC (.int 0))) [2]))
    (dRet (dAndV (dCall (sp_rises_k10) noX (aCons (dVar 1) (aNil))) (dCB bAll (aCons (dLcF (iSeq (dOp oIx (dVar 0) (dC (.int 1)))) (.one 3) (dYes) (dCall (sp_is_rule_k10) noX (aCons (dVar 3) (aCons (dVar 1) (aNil)))) [3]) (aNil)))))))
abbrev N__law_is_name_k10 : List Str := ["_law_matter_so", "_law_letters", "_law_sign"]
def d__law_is_name_k10 : DS :=
  dSeq (dSet 1 (dC (.str "abcdefghijklmnopqrstuvwxyz")))
    (dRet (dAndV (dIsi "str" (dVar 0)) (dAndV (dChain oLtI oLtI (dC (.int 0)) (dCB bLen (aCons (dVar 0) (aNil))) (dC (.int 9))) (dCB bAll (aCons (dLcF (iTxt (dVar 0)) (.one 2) (dYes) (dOp oInS (dVar 2) (dVar 1)) [2]) (aNil))))))
abbrev N__law_goes_up_k10 : List Str := ["_law_some", "_law_own", "_law_its"]
def d__law_goes_up_k10 : DS :=
  dRet (dCB bAll (aCons (dLcF (iZ2 (aCons (dVar 0) (aCons (dSlF (dVar 0) (dPart (dC (.int 1))) (dNoP)) (aNil)))) (.many [1, 2]) (dYes) (dOp oLtS (dVar 1) (dVar 2)) [1, 2]) (aNil)))
abbrev N__law_is_net_k10 : List Str := ["_law_mat", "_law_head", "_law_tags", "_law_deed", "_law_seen", "_law_test", "_law_part", "_law_own"]
def t__law_is_net_k10 : DS :=
  (dFor (iSeq (dOp oIx (dVar 0) (dC (.int 1)))) (.one 3) (dSeq (dIfS (dOr (dNot (dTst (dIsi "tuple" (dVar 3)))) (dOr (dTst (dOp oNeD (dCB bLen (aCons (dVar 3) (aNil))) (dC (.int 2)))) (dNot (dTst (dCall (sp__law_is_name_k10) noX (aCons (dOp oIx (dVar 3) (dC (.int 1))) (aNil))))))) (dRet (dC (.bl false))) (dNext))
    (dSeq (dIfS (dNot (dTst (dIsi "tuple" (dOp oIx (dVar 3) (dC (.int 0)))))) (dRet (dC (.bl false))) (dNext))
    (dSeq (dSet 4 (dLst (aNil)))
    (dFor (iSeq (dOp oIx (dVar 3) (dC (.int 0)))) (.one 5) (dSeq (dIfS (dOr (dNot (dTst (dIsi "tuple" (dVar 5)))) (dOr (dTst (dOp oNeD (dCB bLen (aCons (dVar 5) (aNil))) (dC (.int 2)))) (dOr (dTst (dOp oNotInA (dOp oIx (dVar 5) (dC (.int 0))) (dVar 2))) (dTst (dOp oInA (dOp oIx (dVar 5) (dC (.int 0))) (dVar 4)))))) (dRet (dC (.bl false))) (dNext))
    (dSeq (dIfS (dOr (dNot (dTst (dIsi "str" (dOp oIx (dVar 5) (dC (.int 0)))))) (dNot (dTst (dIsi "str" (dOp oIx (dVar 5) (dC (.int 1))))))) (dRet (dC (.bl false))) (dNext))
    (dSeq (dIfS (dAnd (dTst (dOp oNeD (dOp oIx (dVar 5) (dC (.int 1))) (dC (.str "")))) (dNot (dTst (dCall (sp__law_is_name_k10) noX (aCons (dOp oIx (dVar 5) (dC (.int 1))) (aNil)))))) (dRet (dC (.bl false))) (dNext))
    (dDrop (dBM "list" mAppend (dVar 4) (aCons (dOp oIx (dVar 5) (dC (.int 0))) (aNil))))))))))))
def t2__law_is_net_k10 : DS :=
  (dSeq (dSet 2 (dLcF (iSeq (dOp oIx (dVar 0) (dC (.int 0)))) (.one 1) (dYes) (dOp oIx (dVar 1) (dC (.int 0))) [1]))
    (dSeq (t__law_is_net_k10)
    (dRet (dCall (sp__law_goes_up_k10) noX (aCons (dVar 2) (aNil))))))
def t3__law_is_net_k10 : DS :=
  (dSeq (dFor (iSeq (dOp oIx (dVar 0) (dC (.int 0)))) (.one 1) (dSeq (dIfS (dOr (dNot (dTst (dIsi "tuple" (dVar 1)))) (dOr (dTst (dOp oNeD (dCB bLen (aCons (dVar 1) (aNil))) (dC (.int 2)))) (dNot (dTst (dCall (sp__law_is_name_k10) noX (aCons (dOp oIx (dVar 1) (dC (.int 0))) (aNil))))))) (dRet (dC (.bl false))) (dNext))
    (dSeq (dIfS (dOr (dNot (dTst (dIsi "tuple" (dOp oIx (dVar 1) (dC (.int 1)))))) (dOr (dTst (dOp oGtI (dCB bLen (aCons (dOp oIx (dVar 1) (dC (.int 1))) (aNil))) (dC (.int 3)))) (dNot (dTst (dCB bAll (aCons (dLcF (iSeq (dOp oIx (dVar 1) (dC (.int 1)))) (.one 7) (dYes) (dCall (sp__law_is_name_k10) noX (aCons (dVar 7) (aNil))) [7]) (aNil))))))) (dRet (dC (.bl false))) (dNext))
    (dIfS (dNot (dTst (dCall (sp__law_goes_up_k10) noX (aCons (dOp oIx (dVar 1) (dC (.int 1))) (aNil))))) (dRet (dC (.bl false))) (dNext)))))
    (t2__law_is_net_k10))
def d__law_is_net_k10 : DS :=
  dSeq (dIfS (dOr (dNot (dTst (dIsi "tuple" (dVar 0)))) (dOr (dTst (dOp oNeD (dCB bLen (aCons (dVar 0) (aNil))) (dC (.int 2)))) (dNot (dTst (dCB bAll (aCons (dLcF (iSeq (dVar 0)) (.one 6) (dYes) (dIsi "tuple" (dVar 6)) [6]) (aNil))))))) (dRet (dC (.bl false))) (dNext))
    (t3__law_is_net_k10)
abbrev N__law_sizes_k10 : List Str := ["_law_box_here"]
def d__law_sizes_k10 : DS :=
  dRet (dCall (sp__law_of) noX (aCons (dVar 0) (aCons (dFrz (dLst (aCons (dFrz (dLst (aCons (dC (.int 2)) (aNil)))) (aCons (dFrz (dLst (aCons (dC (.int 1)) (aCons (dC (.int 2)) (aNil))))) (aCons (dFrz (dLst (aCons (dC (.int 2)) (aCons (dC (.int 2)) (aNil))))) (aCons (dFrz (dLst (aCons (dC (.int 1)) (aCons (dC (.int 1)) (aCons (dC (.int 2)) (aNil)))))) (aCons (dFrz (dLst (aCons (dC (.int 2)) (aCons (dC (.int 1)) (aCons (dC (.int 1)) (aNil)))))) (aCons (dFrz (dLst (aCons (dC (.int 3)) (aCons (dC (.int 3)) (aNil))))) (aCons (dFrz (dLst (aCons (dC (.int 1)) (aCons (dC (.int 1)) (aCons (dC (.int 1)) (aCons (dC (.int 1)) (aNil))))))) (aCons (dFrz (dLst (aCons (dC (.int 2)) (aCons (dC (.int 2)) (aCons (dC (.int 2)) (aNil)))))) (aCons (dFrz (dLst (aCons (dC (.int 3)) (aCons (dC (.int 2)) (aCons (dC (.int 3)) (aNil)))))) (aNil)))))))))))) (aNil))))
abbrev N__law_by_hand_k10 : List Str := ["_law_some", "_law_heads", "_law_tests", "_law_own", "_law_wide", "_law_head", "_law_rule", "_law_sign"]
def t__law_by_hand_k10 : DS :=
  (dSeq (dSet 0 (dOp oAddLF (dVar 0) (dLstF (aCons (dTup (aCons (dTup (aCons (dVar 5) (aNil))) (aCons (dTup (aCons (dVar 6) (aCons (dVar 6) (aNil)))) (aNil)))) (aCons (dTup (aCons (dTup (aCons (dVar 5) (aNil))) (aCons (dVar 6) (aNil)))) (aCons (dTup (aCons (dTup (aCons (dVar 5) (aNil))) (aCons (dTup (aCons (dCB bListF (aCons (dVar 6) (aNil))) (aNil))) (aNil)))) (aCons (dTup (aCons (dTup (aCons (dVar 5) (aNil))) (aCons (dLstF (aCons (dVar 6) (aNil))) (aNil)))) (aNil))))))))
    (dSeq (dSet 0 (dOp oAddLF (dVar 0) (dLstF (aCons (dTup (aCons (dTup (aCons (dVar 5) (aCons (dTup (aCons (dC (.str "b")) (aCons (dTup (aNil)) (aNil)))) (aNil)))) (aCons (dTup (aCons (dTup (aCons (dTup (aCons (dTup (aCons (dC (.str "b")) (aCons (dC (.str "x")) (aNil)))) (aCons (dTup (aCons (dC (.str "a")) (aCons (dC (.str "x")) (aNil)))) (aNil)))) (aCons (dC (.str "yes")) (aNil)))) (aNil))) (aNil)))) (aCons (dTup (aCons (dTup (aCons (dVar 5) (aNil))) (aCons (dTup (aCons (dOp oAddT (dVar 6) (dTup (aCons (dC (.str "yes")) (aNil)))) (aNil))) (aNil)))) (aNil))))))
    (dSeq (dSet 0 (dOp oAddLF (dVar 0) (dLstF (aCons (dTup (aCons (dTup (aCons (dVar 5) (aNil))) (aCons (dTup (aCons (dTup (aNil)) (aNil))) (aNil)))) (aCons (dTup (aCons (dLstF (aCons (dVar 5) (aNil))) (aCons (dTup (aNil)) (aNil)))) (aNil))))))
    (dSeq (dSet 4 (dCB bTuple (aCons (dLcF (iTxt (dC (.str "abcdefgh"))) (.one 7) (dYes) (dTup (aCons (dVar 7) (aCons (dTup (aCons (dC (.str "x")) (aCons (dC (.str "y")) (aCons (dC (.str "z")) (aNil))))) (aNil)))) [7]) (aNil))))
    (dSeq (dSet 0 (dOp oAddLF (dVar 0) (dLstF (aCons (dTup (aCons (dVar 4) (aCons (dOp oTimes (dTup (aCons (dVar 6) (aNil))) (dC (.int 9))) (aNil)))) (aCons (dTup (aCons (dRevT (dVar 4)) (aCons (dTup (aNil)) (aNil)))) (aCons (dTup (aCons (dTup (aCons (dVar 5) (aNil))) (aNil))) (aCons (dTup (aCons (dTup (aCons (dVar 5) (aNil))) (aCons (dTup (aNil)) (aCons (dTup (aNil)) (aNil))))) (aCons (dC .non) (aCons (dC (.int 0)) (aCons (dC (.str "")) (aCons (dC (.bl true)) (aNil))))))))))))
    (dSeq (dSet 0 (dOp oAddLF (dVar 0) (dLstF (aCons (dLstF (aNil)) (aCons (dTup (aNil)) (aCons (dLstF (aCons (dTup (aNil)) (aCons (dTup (aNil)) (aNil)))) (aNil)))))))
    (dRet (dOp oAddLF (dVar 0) (dLstF (aCons (dTup (aCons (dC .non) (aCons (dTup (aNil)) (aNil)))) (aCons (dTup (aCons (dTup (aNil)) (aCons (dC .non) (aNil)))) (aCons (dTup (aCons (dC (.str "")) (aCons (dC (.str "")) (aNil)))) (aCons (dTup (aCons (dTup (aCons (dC .non) (aNil))) (aCons (dTup (aNil)) (aNil)))) (aCons (dTup (aCons (dTup (aNil)) (aCons (dTup (aCons (dC .non) (aNil))) (aNil)))) (aNil)))))))))))))))
def d__law_by_hand_k10 : DS :=
  dSeq (dAsg (dTup (aCons (dTup (aCons (dC (.str "a")) (aCons (dTup (aCons (dC (.str "x")) (aCons (dC (.str "y")) (aNil)))) (aNil)))) (aCons (dTup (aCons (dTup (aCons (dTup (aCons (dC (.str "a")) (aCons (dC (.str "x")) (aNil)))) (aNil))) (aCons (dC (.str "yes")) (aNil)))) (aNil)))) (gdTup 2 (gdCons (gdName 5) (gdCons (gdName 6) (gdNil)))))
    (dSeq (dSet 0 (dLst (aCons (dTup (aCons (dTup (aNil)) (aCons (dTup (aNil)) (aNil)))) (aCons (dTup (aCons (dTup (aCons (dVar 5) (aNil))) (aCons (dTup (aNil)) (aNil)))) (aCons (dTup (aCons (dTup (aCons (dVar 5) (aNil))) (aCons (dTup (aCons (dVar 6) (aNil))) (aNil)))) (aCons (dTup (aCons (dTup (aCons (dVar 5) (aCons (dTup (aCons (dC (.str "b")) (aCons (dTup (aNil)) (aNil)))) (aNil)))) (aCons (dTup (aCons (dVar 6) (aCons (dTup (aCons (dTup (aNil)) (aCons (dC (.str "no")) (aNil)))) (aNil)))) (aNil)))) (aCons (dTup (aCons (dTup (aNil)) (aCons (dTup (aCons (dTup (aCons (dTup (aNil)) (aCons (dC (.str "no")) (aNil)))) (aNil))) (aNil)))) (aNil))))))))
    (dSeq (dFor (iSeq (dLstF (aCons (dTup (aCons (dTup (aCons (dC (.str "b")) (aCons (dTup (aNil)) (aNil)))) (aCons (dVar 5) (aNil)))) (aCons (dTup (aCons (dVar 5) (aCons (dVar 5) (aNil)))) (aCons (dTup (aCons (dVar 5) (aCons (dTup (aCons (dC (.str "a")) (aCons (dTup (aCons (dC (.str "z")) (aNil))) (aNil)))) (aNil)))) (aCons (dTup (aCons (dTup (aCons (dC (.str "a")) (aCons (dTup (aCons (dC (.str "y")) (aCons (dC (.str "x")) (aNil)))) (aNil)))) (aNil))) (aCons (dTup (aCons (dTup (aCons (dC (.str "a")) (aCons (dTup (aCons (dC (.str "x")) (aCons (dC (.str "x")) (aNil)))) (aNil)))) (aNil))) (aNil)))))))) (.one 1) (dDrop (dBM "list" mAppend (dVar 0) (aCons (dTup (aCons (dVar 1) (aCons (dTup (aNil)) (aNil)))) (aNil)))))
    (dSeq (dFor (iSeq (dLstF (aCons (dTup (aCons (dTup (aCons (dC (.str "a")) (aCons (dTup (aCons (dC (.str "u")) (aCons (dC (.str "v")) (aCons (dC (.str "w")) (aCons (dC (.str "x")) (aNil)))))) (aNil)))) (aNil))) (aCons (dTup (aCons (dTup (aCons (dC (.str "a")) (aCons (dTup (aCons (dC (.str "u")) (aCons (dC (.str "v")) (aCons (dC (.str "w")) (aNil))))) (aNil)))) (aNil))) (aCons (dTup (aCons (dTup (aCons (dC (.str "a")) (aCons (dLstF (aCons (dC (.str "x")) (aNil))) (aNil)))) (aNil))) (aCons (dTup (aCons (dTup (aCons (dC (.str "a")) (aNil))) (aNil))) (aCons (dTup (aCons (dTup (aCons (dC (.str "")) (aCons (dTup (aNil)) (aNil)))) (aNil))) (aNil)))))))) (.one 1) (dDrop (dBM "list" mAppend (dVar 0) (aCons (dTup (aCons (dVar 1) (aCons (dTup (aNil)) (aNil)))) (aNil)))))
    (dSeq (dFor (iSeq (dLstF (aCons (dTup (aCons (dTup (aCons (dC (.str "a")) (aCons (dTup (aCons (dC (.str "")) (aNil))) (aNil)))) (aNil))) (aCons (dTup (aCons (dTup (aCons (dC (.str "a")) (aCons (dTup (aCons (dC (.str "X")) (aNil))) (aNil)))) (aNil))) (aCons (dTup (aCons (dTup (aCons (dC (.str "a")) (aCons (dC (.str "x")) (aNil)))) (aNil))) (aCons (dTup (aCons (dC (.str "a")) (aNil))) (aCons (dTup (aCons (dTup (aCons (dC (.str "a")) (aCons (dTup (aCons (dC (.str "x")) (aNil))) (aCons (dTup (aNil)) (aNil))))) (aNil))) (aCons (dTup (aCons (dTup (aCons (dC (.int 1)) (aCons (dTup (aNil)) (aNil)))) (aNil))) (aNil))))))))) (.one 1) (dDrop (dBM "list" mAppend (dVar 0) (aCons (dTup (aCons (dVar 1) (aCons (dTup (aNil)) (aNil)))) (aNil)))))
    (dSeq (dFor (iSeq (dLstF (aCons (dTup (aCons (dTup (aCons (dC (.str "abcdefgh")) (aCons (dTup (aCons (dC (.str "abcdefgh")) (aNil))) (aNil)))) (aNil))) (aCons (dTup (aCons (dTup (aCons (dC (.str "abcdefghi")) (aCons (dTup (aNil)) (aNil)))) (aNil))) (aCons (dTup (aCons (dTup (aCons (dC (.str "a")) (aCons (dTup (aCons (dC (.str "abcdefghi")) (aNil))) (aNil)))) (aNil))) (aCons (dTup (aCons (dTup (aCons (dC (.str "a\n")) (aCons (dTup (aNil)) (aNil)))) (aNil))) (aNil))))))) (.one 1) (dDrop (dBM "list" mAppend (dVar 0) (aCons (dTup (aCons (dVar 1) (aCons (dTup (aNil)) (aNil)))) (aNil)))))
    (dSeq (dSet 0 (dOp oAddL (dVar 0) (dLstF (aCons (dTup (aCons (dTup (aCons (dTup (aCons (dC (.str "a")) (aCons (dTup (aCons (dC (.str "x\n")) (aNil))) (aNil)))) (aNil))) (aCons (dTup (aNil)) (aNil)))) (aCons (dTup (aCons (dVar 5) (aCons (dTup (aNil)) (aNil)))) (aNil))))))
    (dSeq (dSet 2 (dLst (aCons (dTup (aCons (dTup (aCons (dC (.str "a")) (aCons (dC (.str "")) (aNil)))) (aNil))) (aCons (dTup (aCons (dTup (aCons (dC (.str "a")) (aCons (dC (.str "none")) (aNil)))) (aNil))) (aCons (dTup (aCons (dTup (aCons (dC (.str "b")) (aCons (dC (.str "x")) (aNil)))) (aNil))) (aCons (dTup (aCons (dTup (aCons (dC (.str "a")) (aCons (dC (.str "x")) (aNil)))) (aCons (dTup (aCons (dC (.str "a")) (aCons (dC (.str "y")) (aNil)))) (aNil)))) (aCons (dTup (aCons (dTup (aCons (dC (.str "a")) (aCons (dC (.int 1)) (aNil)))) (aNil))) (aCons (dTup (aCons (dTup (aCons (dC (.str "a")) (aNil))) (aNil))) (aNil)))))))))
    (dSeq (dDrop (dBM "list" mAppend (dVar 2) (aCons (dTup (aCons (dC (.str "a")) (aCons (dC (.str "x")) (aNil)))) (aNil))))
    (dSeq (dSet 2 (dOp oAddLF (dVar 2) (dLstF (aCons (dTup (aCons (dLstF (aCons (dC (.str "a")) (aCons (dC (.str "x")) (aNil)))) (aNil))) (aCons (dLstF (aCons (dTup (aCons (dC (.str "a")) (aCons (dC (.str "x")) (aNil)))) (aNil))) (aCons (dTup (aCons (dTup (aCons (dC (.str "a")) (aCons (dC (.str "X")) (aNil)))) (aNil))) (aCons (dTup (aCons (dTup (aCons (dC (.str "a")) (aCons (dC .non) (aNil)))) (aNil))) (aCons (dTup (aCons (dTup (aCons (dC (.str "")) (aCons (dC (.str "x")) (aNil)))) (aNil))) (aCons (dTup (aCons (dTup (aCons (dC .non) (aCons (dC (.str "x")) (aNil)))) (aNil))) (aCons (dC .non) (aNil)))))))))))
    (dSeq (dSet 2 (dOp oAddLF (dVar 2) (dLstF (aCons (dTup (aCons (dTup (aCons (dC (.str "a")) (aCons (dC (.str "x\n")) (aNil)))) (aNil))) (aCons (dTup (aCons (dTup (aCons (dC (.str "a")) (aCons (dC (.str "x")) (aCons (dC (.str "y")) (aNil))))) (aNil))) (aCons (dTup (aCons (dTup (aCons (dTup (aCons (dC (.str "a")) (aNil))) (aCons (dC (.str "x")) (aNil)))) (aNil))) (aCons (dTup (aCons (dTup (aCons (dC (.str "a")) (aCons (dC (.str "abcdefghi")) (aNil)))) (aNil))) (aNil))))))))
    (dSeq (dFor (iSeq (dVar 2)) (.one 3) (dDrop (dBM "list" mAppend (dVar 0) (aCons (dTup (aCons (dTup (aCons (dVar 5) (aNil))) (aCons (dTup (aCons (dTup (aCons (dVar 3) (aCons (dC (.str "yes")) (aNil)))) (aNil))) (aNil)))) (aNil)))))
    (dSeq (dFor (iSeq (dLstF (aCons (dC (.str "")) (aCons (dC (.str "Yes")) (aCons (dC .non) (aCons (dC (.int 1)) (aCons (dC (.str "abcdefghi")) (aCons (dC (.str "y\n")) (aCons (dC (.bl true)) (aCons (dTup (aCons (dC (.str "yes")) (aNil))) (aNil))))))))))) (.one 3) (dDrop (dBM "list" mAppend (dVar 0) (aCons (dTup (aCons (dTup (aCons (dVar 5) (aNil))) (aCons (dTup (aCons (dTup (aCons (dTup (aNil)) (aCons (dVar 3) (aNil)))) (aNil))) (aNil)))) (aNil)))))
    (t__law_by_hand_k10)))))))))))))
abbrev N__law_right_k10 : List Str := ["_law_box_here", "_law_deep", "_law_turn", "_law_some", "_law_part", "_law_net", "_law_more", "_law_again", "_law_was", "_law_due"]
def t__law_right_k10 : DS :=
  (dSeq (dFor (iSeq (dVar 3)) (.one 4) (dSeq (dPar 8 9 (aCons (dCB bRepr (aCons (dVar 4) (aNil))) (aCons (dCall (sp__law_is_net_k10) noX (aCons (dVar 4) (aNil))) (aNil))))
    (dIfS (dOr (dNot (dTst (dCall (sp__law_same 8) noX (aCons (dLstF (aCons (dCall (sp_is_world_k10) noX (aCons (dVar 4) (aNil))) (aCons (dCallP 1 (sp_is_world_k10) noX [0] (aCons (dVar 4) (aNil))) (aNil)))) (aCons (dLstF (aCons (dVar 9) (aCons (dVar 9) (aNil)))) (aNil)))))) (dTst (dOp oNeS (dCB bRepr (aCons (dVar 4) (aNil))) (dVar 8)))) (dRet (dC (.bl false))) (dNext))))
    (dRet (dC (.bl true))))
def t2__law_right_k10 : DS :=
  (dFor (iR1 (aCons (dC (.int 3)) (aNil))) (.one 7) (dSeq (dSet 4 (dCall (sp__law_bent 6) noX (aCons (dVar 0) (aCons (dVar 5) (aCons (dVar 6) (aNil))))))
    (dSet 3 (dOp oAddLF (dVar 3) (dLstF (aCons (dVar 4) (aCons (dCall (sp__law_bent 10) noX (aCons (dVar 0) (aCons (dVar 4) (aCons (dVar 6) (aNil))))) (aNil))))))))
def t3__law_right_k10 : DS :=
  (dSeq (dSet 6 (dLstF (aCons (dTup (aCons (dC (.str "a")) (aCons (dTup (aCons (dC (.str "x")) (aNil))) (aNil)))) (aCons (dTup (aCons (dTup (aCons (dC (.str "a")) (aCons (dC (.str "x")) (aNil)))) (aNil))) (aCons (dTup (aCons (dTup (aCons (dTup (aCons (dC (.str "a")) (aCons (dC (.str "x")) (aNil)))) (aNil))) (aCons (dC (.str "yes")) (aNil)))) (aCons (dOp oIx (dOp oIx (dVar 5) (dC (.int 0))) (dC (.int 0))) (aCons (dOp oIx (dOp oIx (dOp oIx (dVar 5) (dC (.int 0))) (dC (.int 0))) (dC (.int 0))) (aCons (dTup (aNil)) (aNil)))))))))
    (t2__law_right_k10))
def t4__law_right_k10 : DS :=
  (dSeq (dSet 3 (dOp oAddLF (dVar 3) (dLstF (aCons (dTup (aCons (dSlF (dOp oIx (dVar 5) (dC (.int 0))) (dPart (dC (.int 1))) (dNoP)) (aCons (dOp oIx (dVar 5) (dC (.int 1))) (aNil)))) (aCons (dTup (aCons (dOp oIx (dVar 5) (dC (.int 0))) (aCons (dRevT (dOp oIx (dVar 5) (dC (.int 1)))) (aNil)))) (aNil))))))
    (t3__law_right_k10))
def t5__law_right_k10 : DS :=
  (dSeq (dSet 3 (dOp oAddLF (dVar 3) (dLstF (aCons (dVar 5) (aCons (dCall (sp__law_lists 8) noX (aCons (dVar 5) (aNil))) (aCons (dCB bListF (aCons (dVar 5) (aNil))) (aCons (dRevT (dVar 5)) (aCons (dSlF (dVar 5) (dNoP) (dPart (dC (.int 1)))) (aCons (dOp oAddT (dVar 5) (dSlF (dVar 5) (dPart (dC (.int 1))) (dNoP))) (aCons (dTup (aCons (dRevT (dOp oIx (dVar 5) (dC (.int 0)))) (aCons (dOp oIx (dVar 5) (dC (.int 1))) (aNil)))) (aNil)))))))))))
    (t4__law_right_k10))
def t6__law_right_k10 : DS :=
  (dSeq (dFor (iR1 (aCons (dC (.int 8)) (aNil))) (.one 2) (dSeq (dSet 5 (dCall (sp__law_world) noX (aCons (dVar 0) (aCons (dCall (sp__law_sizes_k10) noX (aCons (dVar 0) (aNil))) (aNil)))))
    (t5__law_right_k10)))
    (t__law_right_k10))
def d__law_right_k10 : DS :=
  dSeq (dSet 1 (dC (.str "a")))
    (dSeq (dFor (iR1 (aCons (dC (.int 11)) (aNil))) (.one 2) (dSet 1 (dTup (aCons (dVar 1) (aNil)))))
    (dSeq (dSet 3 (dOp oAddLF (dCall (sp__law_by_hand_k10) noX aNil) (dLstF (aCons (dVar 1) (aCons (dTup (aCons (dVar 1) (aCons (dVar 1) (aNil)))) (aNil))))))
    (t6__law_right_k10)))
abbrev N_law_k10 : List Str := ["_law_script", "_law_cells_here", "_law_k"]
def d_law_k10 : DS :=
  dSeq (dSet 1 (dCall (sp__law_cells) noX (aCons (dVar 0) (aCons (dC (.int 3)) (aNil)))))
    (dRet (dCB bAll (aCons (dLcF (iR1 (aCons (dCB bLen (aCons (dVar 1) (aNil))) (aNil))) (.one 2) (dYes) (dCall (sp__law_right_k10) noX (aCons (dCall (sp__law_box) noX (aCons (dVar 1) (aCons (dVar 2) (aNil)))) (aNil))) [2]) (aNil))))
theorem An.kids {ds : List D} (h : An (.tup ds)) : ds.length ≤ 300 ∧ ∀ d ∈ ds, An d := by
  obtain ⟨n, hn, h1, h2⟩ := h
  match n, h1, h2 with
  | n + 1, h1, h2 =>
    obtain ⟨h3, h4⟩ := th_tup.mp h1
    refine ⟨h3, fun d hd => ⟨n, by omega, h4 d hd, ?_⟩⟩
    rw [wt_tup] at h2
    have := wts_mem (n := n) hd
    omega
theorem An.txt {x : Str} (h : An (.str x)) : PyData.strOk x = true ∧ x.length ≤ 200000 := by
  obtain ⟨n, hn, h1, h2⟩ := h
  match n, h1, h2 with
  | n + 1, h1, h2 => exact ⟨h1, h2⟩
theorem An.py {d : D} (h : An d) : ∃ p, pyD d = some p ∧ SeqAt.shaped p = true := by
  obtain ⟨n, hn, h1, h2⟩ := h
  obtain ⟨p, e, k⟩ := th_shp h1
  exact ⟨p, e, Shp.ok (n := 16) (k.mono hn)⟩
theorem An.ty {S : Sto} {d : D} (h : An d) : (∃ x, d = .str x) ∨ (∃ ds, d = .tup ds) ∨ ((∀ x, d ≠ .str x) ∧ (∀ ds, d ≠ .tup ds) ∧ ∃ t, tyD S d = some t ∧ isK t "str" = false ∧ isK t "tuple" = false ∧ NoT S d "tuple") := by
  obtain ⟨n, hn, h1, h2⟩ := h
  match n, d, h1 with
  | n + 1, .non, _ => exact .inr (.inr ⟨fun x e => (nomatch e), fun x e => (nomatch e), "NoneType", rfl, by decide, by decide, ⟨_, rfl, by decide⟩⟩)
  | n + 1, .bl _, _ => exact .inr (.inr ⟨fun x e => (nomatch e), fun x e => (nomatch e), "bool", rfl, by decide, by decide, ⟨_, rfl, by decide⟩⟩)
  | n + 1, .int _, _ => exact .inr (.inr ⟨fun x e => (nomatch e), fun x e => (nomatch e), "int", rfl, by decide, by decide, ⟨_, rfl, by decide⟩⟩)
  | n + 1, .lst _, _ => exact .inr (.inr ⟨fun x e => (nomatch e), fun x e => (nomatch e), "list", rfl, by decide, by decide, ⟨_, rfl, by decide⟩⟩)
  | n + 1, .str x, _ => exact .inl ⟨x, rfl⟩
  | n + 1, .tup ds, _ => exact .inr (.inl ⟨ds, rfl⟩)
theorem nm_non {d : D} (h : ∀ x, d ≠ .str x) : nmB d = false := by
  cases d <;> first | rfl | exact absurd rfl (h _)
theorem letters {S : Sto} {x : Str} (hx : x.length ≤ 8) {Q : List D → Sto → Prop} {te : DE} {i : Nat} {ρ : En} (hte : ∀ (c : Nat) (S' : Sto) (Py : DK), Py (.bl (decide (97 ≤ c) && decide (c ≤ 122))) S' → (Tg.one i).d (.str ⟨#[c]⟩) ρ fun ρ1 => te ρ1 S' Py)
    (q : Q (x.cps.toList.map fun c => D.bl (decide (97 ≤ c) && decide (c ≤ 122))) S) : compW [] (.one i) dYes te ρ Q (L3.signs x) [] S := by
  have hl : x.length = x.cps.size := rfl
  exact compW_all (fun c : Nat => D.str ⟨#[c]⟩) (fun c => D.bl (decide (97 ≤ c) && decide (c ≤ 122))) Gs.ok_nil (small_sz (by rw [Array.length_toList]; omega)) (fun c hc S' Py hs' hPy => hte c S' Py hPy) q
theorem in_letters (c : Nat) : decide (c ∈ (Str.ofString "abcdefghijklmnopqrstuvwxyz").cps.toList) = (decide (97 ≤ c) && decide (c ≤ 122)) := by
  have eL : (Str.ofString "abcdefghijklmnopqrstuvwxyz").cps.toList = List.range' 97 26 := by decide +kernel
  rw [eL, Bool.eq_iff_iff, Bool.and_eq_true, decide_eq_true_iff, decide_eq_true_iff, decide_eq_true_iff, List.mem_range'_1]
  omega
theorem nm_eq (x : Str) : isNm x = (decide (1 ≤ x.length) && (decide (x.length ≤ 8) && (x.cps.toList.map fun c => decide (97 ≤ c) && decide (c ≤ 122)).all id)) := by
  unfold isNm
  rw [List.all_map, ← Array.all_toList]
  rfl
theorem v_is_name_k10 : ∀ ds S Q E, sp_is_name_k10 ds S Q E → d_is_name_k10 (EndsD Q) (startD N_is_name_k10 ds) S := by
  rintro ds S Q E ⟨v, rfl, hv, q⟩
  simp only [d_is_name_k10, N_is_name_k10, dWkA, dTupK, dTupL, dTupIx, dDictP, dDc2, dFor, dWhile, dLc, dLc2, dDc, dNextG, iSeq, iR1, iR2, iEn, iZpA, iZ2, iZ3, dSortK, dSortKF, dSortSet, dSortSetF, dBreak, bSortT, bSortTF, bSum, bSumL, bSumLF, bMaxL, bMinL, dDicE, bSortD, bSortDF, dGet2, oInA, oNotInA, oIxA, gdSubA, dSeq, dSet, dIf, dIfS, dTst, dOp, dUn, dVar, dCB, aCons, aNil, aStar, dRet, dRetN, dNext, dDrop, dLst, dTup, dC, dAnd, dOr, dNot, dAndV, dOrV, dNotV, dPar, dAsg, gdName, gdSub, gdTup, gdCons, gdNil, gdSlot, dIsi, dIsi2, dSlot, dSetSlot, dMethSl, dMakeSl, dCall, dCallP, dBM, dFrz, dLstF, dLcF, dLc2F, dDcF, dSlF, dListVF, bListF, bListDF, bSortSF, oAddLF, oRepLF, dSl, dNoP, dPart, dListV, dTru, dOrT, EndsD, startD, oLtI, oLeI, oGtI, oGeI, oIx, oMulI, oPowI, oAddI, oSubI, oModI, oDivI, oI, oI0, oEqD, oNeD, oInD, oNotInD, oAddL, oAddT, oAddS, oRepL, bLen, bAbs, bInt, bMin2, bMax2, bAll, bAny, bTuple, bList, bListD, bSortS, mAppend, mPop, mPopAt, mExtend, mIndex, dFld, dSetFld, dAddFld, gdFld, dMeth, dMake, dPar3, dRevT, oAddTK, dSortSetT, dSortSetTF, gdLst, gdAll, dRevL, dRevLF, dYes, dFrzA, oNegI, bSortG, bSortGF, dSlK, oIsB, oNotB, bSortTS, bSortTSF, bSortI, bSortIF, iDi, dDisp, iEnS, dEi, oTimes, oEqO, oNeO, mClear, mReverse, dMethP, dMethSlP, dMakeP, dMakeSlP, oGeD, oCmpD, dSortSetBF, dSortKDF, dDcT, dLenSetT, dLenSetS, dChain, dAug, iTxt, oInS, oLtS, dDinN, dDin1, gdSubN, dSetDef, iDinK, iDinI, dDcN, dSortSetX, dSortSetXF, dSortSetXT, dSortSetXTF, dChain3, dLenSetXT, dDictN, bMinG, oIxS, dListZip, dDc2T, dSortDTF, dSortSetX0, dSortSetX0F, dRaise, dCallS, dMethS, dMethSlS, dCatch, dIsX, dIsX2, dXf, oInC, bStrI, bIntS, dTry0, gdTail, gdTailT, bMaxG, dCatch2, dRaise0, oLeS, dMaxK, dTupI, dSlS, dCatchN, dIsXN, tupOf_lst, tupOf_ref, tupOf_tup, List.map_cons, List.map_nil, List.length_cons, List.length_nil, List.cons_append, List.nil_append, List.append_nil, List.replicate, List.set_cons_zero, List.set_cons_succ, List.getElem?_cons_zero, List.getElem?_cons_succ, Option.some.injEq, exists_eq_left', exists_eq_left, exists_and_left, D.int.injEq, D.bl.injEq, D.str.injEq, D.tup.injEq, D.lst.injEq, D.ref.injEq, List.cons.injEq, and_true, true_and, reduceCtorEq, false_and, and_false, exists_false, or_false, false_or, exists_const, Bool.false_eq_true, if_true, if_false, decide_eq_true_eq, Ob.lst.injEq, Ob.slt.injEq, Ob.dic.injEq, seqD_ref, lstD_ref, seqD_tup, seqD_lst, lstD_lst, lstR_lst, Sto.set_same, Sto.set_set, atI_0, atI_1, atI_2, Nat.reduceAdd, ixN_30, ixN_32, lstD_tup, seqD_row, List.append_assoc, false_or, or_false, cut_d1, cut_t1, sz_0, sz_1, sz_2, sz_3, sz_4, sz_5, sz_6, sz_7, sz_8, sz_9, sz_10, sz_11, sz_12]
  rcases hv.ty (S := S) with ⟨x, rfl⟩ | ⟨ds, rfl⟩ | ⟨hs, ht, t, e, k1, k2, _⟩
  · refine ⟨"str", rfl, ?_⟩
    rw [if_pos (by decide)]
    have hx := hv.txt.2
    have q : Q (.bl (isNm x)) S := q
    rw [nm_eq] at q
    refine .inr ⟨_, rfl, small_sz (by omega), ?_⟩
    by_cases h1 : 1 ≤ x.length
    · rw [if_pos (by omega)]
      rw [decide_eq_true h1, Bool.true_and] at q
      by_cases h8 : x.length ≤ 8
      · rw [if_pos (by omega)]
        rw [decide_eq_true h8, Bool.true_and] at q
        refine ⟨_, rfl, letters h8 (fun c S' Py hPy => ?_) ⟨_, ?_, drp_of q⟩⟩
        · simp only [Tg.d, wipeD, dWkA, dTupK, dTupL, dTupIx, dDictP, dDc2, dFor, dWhile, dLc, dLc2, dDc, dNextG, iSeq, iR1, iR2, iEn, iZpA, iZ2, iZ3, dSortK, dSortKF, dSortSet, dSortSetF, dBreak, bSortT, bSortTF, bSum, bSumL, bSumLF, bMaxL, bMinL, dDicE, bSortD, bSortDF, dGet2, oInA, oNotInA, oIxA, gdSubA, dSeq, dSet, dIf, dIfS, dTst, dOp, dUn, dVar, dCB, aCons, aNil, aStar, dRet, dRetN, dNext, dDrop, dLst, dTup, dC, dAnd, dOr, dNot, dAndV, dOrV, dNotV, dPar, dAsg, gdName, gdSub, gdTup, gdCons, gdNil, gdSlot, dIsi, dIsi2, dSlot, dSetSlot, dMethSl, dMakeSl, dCall, dCallP, dBM, dFrz, dLstF, dLcF, dLc2F, dDcF, dSlF, dListVF, bListF, bListDF, bSortSF, oAddLF, oRepLF, dSl, dNoP, dPart, dListV, dTru, dOrT, EndsD, startD, oLtI, oLeI, oGtI, oGeI, oIx, oMulI, oPowI, oAddI, oSubI, oModI, oDivI, oI, oI0, oEqD, oNeD, oInD, oNotInD, oAddL, oAddT, oAddS, oRepL, bLen, bAbs, bInt, bMin2, bMax2, bAll, bAny, bTuple, bList, bListD, bSortS, mAppend, mPop, mPopAt, mExtend, mIndex, dFld, dSetFld, dAddFld, gdFld, dMeth, dMake, dPar3, dRevT, oAddTK, dSortSetT, dSortSetTF, gdLst, gdAll, dRevL, dRevLF, dYes, dFrzA, oNegI, bSortG, bSortGF, dSlK, oIsB, oNotB, bSortTS, bSortTSF, bSortI, bSortIF, iDi, dDisp, iEnS, dEi, oTimes, oEqO, oNeO, mClear, mReverse, dMethP, dMethSlP, dMakeP, dMakeSlP, oGeD, oCmpD, dSortSetBF, dSortKDF, dDcT, dLenSetT, dLenSetS, dChain, dAug, iTxt, oInS, oLtS, dDinN, dDin1, gdSubN, dSetDef, iDinK, iDinI, dDcN, dSortSetX, dSortSetXF, dSortSetXT, dSortSetXTF, dChain3, dLenSetXT, dDictN, bMinG, oIxS, dListZip, dDc2T, dSortDTF, dSortSetX0, dSortSetX0F, dRaise, dCallS, dMethS, dMethSlS, dCatch, dIsX, dIsX2, dXf, oInC, bStrI, bIntS, dTry0, gdTail, gdTailT, bMaxG, dCatch2, dRaise0, oLeS, dMaxK, dTupI, dSlS, dCatchN, dIsXN, tupOf_lst, tupOf_ref, tupOf_tup, List.map_cons, List.map_nil, List.length_cons, List.length_nil, List.cons_append, List.nil_append, List.append_nil, List.replicate, List.set_cons_zero, List.set_cons_succ, List.getElem?_cons_zero, List.getElem?_cons_succ, Option.some.injEq, exists_eq_left', exists_eq_left, exists_and_left, D.int.injEq, D.bl.injEq, D.str.injEq, D.tup.injEq, D.lst.injEq, D.ref.injEq, List.cons.injEq, and_true, true_and, reduceCtorEq, false_and, and_false, exists_false, or_false, false_or, exists_const, Bool.false_eq_true, if_true, if_false, decide_eq_true_eq, Ob.lst.injEq, Ob.slt.injEq, Ob.dic.injEq, seqD_ref, lstD_ref, seqD_tup, seqD_lst, lstD_lst, lstR_lst, Sto.set_same, Sto.set_set, atI_0, atI_1, atI_2, Nat.reduceAdd, ixN_30, ixN_32, lstD_tup, seqD_row, List.append_assoc, false_or, or_false, cut_d1, cut_t1, sz_0, sz_1, sz_2, sz_3, sz_4, sz_5, sz_6, sz_7, sz_8, sz_9, sz_10, sz_11, sz_12]
          refine ⟨c, rfl, ?_⟩
          rw [in_letters]
          exact hPy
        · rw [List.map_map]; rfl
      · rw [if_neg (by omega)]
        rw [decide_eq_false h8, Bool.false_and] at q
        exact drp_of q
    · rw [if_neg (by omega)]
      rw [decide_eq_false h1, Bool.false_and] at q
      exact drp_of q
  · exact ⟨"tuple", rfl, by rw [if_neg (by decide)]; exact drp_of q⟩
  · refine ⟨t, e, ?_⟩
    rw [k1, if_neg (by decide)]
    rw [nm_non hs] at q
    exact drp_of q
theorem v__law_is_name_k10 : ∀ ds S Q E, sp__law_is_name_k10 ds S Q E → d__law_is_name_k10 (EndsD Q) (startD N__law_is_name_k10 ds) S := by
  rintro ds S Q E ⟨v, rfl, hv, q⟩
  simp only [d__law_is_name_k10, N__law_is_name_k10, dWkA, dTupK, dTupL, dTupIx, dDictP, dDc2, dFor, dWhile, dLc, dLc2, dDc, dNextG, iSeq, iR1, iR2, iEn, iZpA, iZ2, iZ3, dSortK, dSortKF, dSortSet, dSortSetF, dBreak, bSortT, bSortTF, bSum, bSumL, bSumLF, bMaxL, bMinL, dDicE, bSortD, bSortDF, dGet2, oInA, oNotInA, oIxA, gdSubA, dSeq, dSet, dIf, dIfS, dTst, dOp, dUn, dVar, dCB, aCons, aNil, aStar, dRet, dRetN, dNext, dDrop, dLst, dTup, dC, dAnd, dOr, dNot, dAndV, dOrV, dNotV, dPar, dAsg, gdName, gdSub, gdTup, gdCons, gdNil, gdSlot, dIsi, dIsi2, dSlot, dSetSlot, dMethSl, dMakeSl, dCall, dCallP, dBM, dFrz, dLstF, dLcF, dLc2F, dDcF, dSlF, dListVF, bListF, bListDF, bSortSF, oAddLF, oRepLF, dSl, dNoP, dPart, dListV, dTru, dOrT, EndsD, startD, oLtI, oLeI, oGtI, oGeI, oIx, oMulI, oPowI, oAddI, oSubI, oModI, oDivI, oI, oI0, oEqD, oNeD, oInD, oNotInD, oAddL, oAddT, oAddS, oRepL, bLen, bAbs, bInt, bMin2, bMax2, bAll, bAny, bTuple, bList, bListD, bSortS, mAppend, mPop, mPopAt, mExtend, mIndex, dFld, dSetFld, dAddFld, gdFld, dMeth, dMake, dPar3, dRevT, oAddTK, dSortSetT, dSortSetTF, gdLst, gdAll, dRevL, dRevLF, dYes, dFrzA, oNegI, bSortG, bSortGF, dSlK, oIsB, oNotB, bSortTS, bSortTSF, bSortI, bSortIF, iDi, dDisp, iEnS, dEi, oTimes, oEqO, oNeO, mClear, mReverse, dMethP, dMethSlP, dMakeP, dMakeSlP, oGeD, oCmpD, dSortSetBF, dSortKDF, dDcT, dLenSetT, dLenSetS, dChain, dAug, iTxt, oInS, oLtS, dDinN, dDin1, gdSubN, dSetDef, iDinK, iDinI, dDcN, dSortSetX, dSortSetXF, dSortSetXT, dSortSetXTF, dChain3, dLenSetXT, dDictN, bMinG, oIxS, dListZip, dDc2T, dSortDTF, dSortSetX0, dSortSetX0F, dRaise, dCallS, dMethS, dMethSlS, dCatch, dIsX, dIsX2, dXf, oInC, bStrI, bIntS, dTry0, gdTail, gdTailT, bMaxG, dCatch2, dRaise0, oLeS, dMaxK, dTupI, dSlS, dCatchN, dIsXN, tupOf_lst, tupOf_ref, tupOf_tup, List.map_cons, List.map_nil, List.length_cons, List.length_nil, List.cons_append, List.nil_append, List.append_nil, List.replicate, List.set_cons_zero, List.set_cons_succ, List.getElem?_cons_zero, List.getElem?_cons_succ, Option.some.injEq, exists_eq_left', exists_eq_left, exists_and_left, D.int.injEq, D.bl.injEq, D.str.injEq, D.tup.injEq, D.lst.injEq, D.ref.injEq, List.cons.injEq, and_true, true_and, reduceCtorEq, false_and, and_false, exists_false, or_false, false_or, exists_const, Bool.false_eq_true, if_true, if_false, decide_eq_true_eq, Ob.lst.injEq, Ob.slt.injEq, Ob.dic.injEq, seqD_ref, lstD_ref, seqD_tup, seqD_lst, lstD_lst, lstR_lst, Sto.set_same, Sto.set_set, atI_0, atI_1, atI_2, Nat.reduceAdd, ixN_30, ixN_32, lstD_tup, seqD_row, List.append_assoc, false_or, or_false, cut_d1, cut_t1, sz_0, sz_1, sz_2, sz_3, sz_4, sz_5, sz_6, sz_7, sz_8, sz_9, sz_10, sz_11, sz_12]
  rcases hv.ty (S := S) with ⟨x, rfl⟩ | ⟨ds, rfl⟩ | ⟨hs, ht, t, e, k1, k2, _⟩
  · refine ⟨"str", rfl, ?_⟩
    rw [if_pos (by decide)]
    have hx := hv.txt.2
    have q : Q (.bl (isNm x)) S := q
    rw [nm_eq] at q
    refine .inr ⟨_, rfl, small_sz (by omega), ?_⟩
    by_cases h1 : 1 ≤ x.length
    · rw [if_pos (by omega)]
      rw [decide_eq_true h1, Bool.true_and] at q
      by_cases h8 : x.length ≤ 8
      · rw [if_pos (by omega)]
        rw [decide_eq_true h8, Bool.true_and] at q
        refine ⟨_, rfl, letters h8 (fun c S' Py hPy => ?_) ⟨_, ?_, drp_of q⟩⟩
        · simp only [Tg.d, wipeD, dWkA, dTupK, dTupL, dTupIx, dDictP, dDc2, dFor, dWhile, dLc, dLc2, dDc, dNextG, iSeq, iR1, iR2, iEn, iZpA, iZ2, iZ3, dSortK, dSortKF, dSortSet, dSortSetF, dBreak, bSortT, bSortTF, bSum, bSumL, bSumLF, bMaxL, bMinL, dDicE, bSortD, bSortDF, dGet2, oInA, oNotInA, oIxA, gdSubA, dSeq, dSet, dIf, dIfS, dTst, dOp, dUn, dVar, dCB, aCons, aNil, aStar, dRet, dRetN, dNext, dDrop, dLst, dTup, dC, dAnd, dOr, dNot, dAndV, dOrV, dNotV, dPar, dAsg, gdName, gdSub, gdTup, gdCons, gdNil, gdSlot, dIsi, dIsi2, dSlot, dSetSlot, dMethSl, dMakeSl, dCall, dCallP, dBM, dFrz, dLstF, dLcF, dLc2F, dDcF, dSlF, dListVF, bListF, bListDF, bSortSF, oAddLF, oRepLF, dSl, dNoP, dPart, dListV, dTru, dOrT, EndsD, startD, oLtI, oLeI, oGtI, oGeI, oIx, oMulI, oPowI, oAddI, oSubI, oModI, oDivI, oI, oI0, oEqD, oNeD, oInD, oNotInD, oAddL, oAddT, oAddS, oRepL, bLen, bAbs, bInt, bMin2, bMax2, bAll, bAny, bTuple, bList, bListD, bSortS, mAppend, mPop, mPopAt, mExtend, mIndex, dFld, dSetFld, dAddFld, gdFld, dMeth, dMake, dPar3, dRevT, oAddTK, dSortSetT, dSortSetTF, gdLst, gdAll, dRevL, dRevLF, dYes, dFrzA, oNegI, bSortG, bSortGF, dSlK, oIsB, oNotB, bSortTS, bSortTSF, bSortI, bSortIF, iDi, dDisp, iEnS, dEi, oTimes, oEqO, oNeO, mClear, mReverse, dMethP, dMethSlP, dMakeP, dMakeSlP, oGeD, oCmpD, dSortSetBF, dSortKDF, dDcT, dLenSetT, dLenSetS, dChain, dAug, iTxt, oInS, oLtS, dDinN, dDin1, gdSubN, dSetDef, iDinK, iDinI, dDcN, dSortSetX, dSortSetXF, dSortSetXT, dSortSetXTF, dChain3, dLenSetXT, dDictN, bMinG, oIxS, dListZip, dDc2T, dSortDTF, dSortSetX0, dSortSetX0F, dRaise, dCallS, dMethS, dMethSlS, dCatch, dIsX, dIsX2, dXf, oInC, bStrI, bIntS, dTry0, gdTail, gdTailT, bMaxG, dCatch2, dRaise0, oLeS, dMaxK, dTupI, dSlS, dCatchN, dIsXN, tupOf_lst, tupOf_ref, tupOf_tup, List.map_cons, List.map_nil, List.length_cons, List.length_nil, List.cons_append, List.nil_append, List.append_nil, List.replicate, List.set_cons_zero, List.set_cons_succ, List.getElem?_cons_zero, List.getElem?_cons_succ, Option.some.injEq, exists_eq_left', exists_eq_left, exists_and_left, D.int.injEq, D.bl.injEq, D.str.injEq, D.tup.injEq, D.lst.injEq, D.ref.injEq, List.cons.injEq, and_true, true_and, reduceCtorEq, false_and, and_false, exists_false, or_false, false_or, exists_const, Bool.false_eq_true, if_true, if_false, decide_eq_true_eq, Ob.lst.injEq, Ob.slt.injEq, Ob.dic.injEq, seqD_ref, lstD_ref, seqD_tup, seqD_lst, lstD_lst, lstR_lst, Sto.set_same, Sto.set_set, atI_0, atI_1, atI_2, Nat.reduceAdd, ixN_30, ixN_32, lstD_tup, seqD_row, List.append_assoc, false_or, or_false, cut_d1, cut_t1, sz_0, sz_1, sz_2, sz_3, sz_4, sz_5, sz_6, sz_7, sz_8, sz_9, sz_10, sz_11, sz_12]
          refine ⟨c, rfl, ?_⟩
          rw [in_letters]
          exact hPy
        · rw [List.map_map]; rfl
      · rw [if_neg (by omega)]
        rw [decide_eq_false h8, Bool.false_and] at q
        exact drp_of q
    · rw [if_neg (by omega)]
      rw [decide_eq_false h1, Bool.false_and] at q
      exact drp_of q
  · exact ⟨"tuple", rfl, by rw [if_neg (by decide)]; exact drp_of q⟩
  · refine ⟨t, e, ?_⟩
    rw [k1, if_neg (by decide)]
    rw [nm_non hs] at q
    exact drp_of q
theorem rows2_strs (xs : List Str) : rows2 (xs.map D.str) ((xs.drop 1).map D.str) = (xs.zip (xs.drop 1)).map fun p => D.tup [.str p.1, .str p.2] := by
  unfold rows2
  rw [List.zip_map, List.map_map]
  rfl
theorem up_comp {S : Sto} {xs : List Str} {gs : Gs} {Q : List D → Sto → Prop} {te : DE} {i j : Nat} {ρ : En} (hz : xs.length ≤ 1000) (ok : gs.ok S) (hte : ∀ (a b : Str) (S' : Sto) (Py : DK), Py (.bl (ltS a b)) S' → (Tg.many [i, j]).d (.tup [.str a, .str b]) ρ fun ρ1 => te ρ1 S' Py)
    (q : Q ((xs.zip (xs.drop 1)).map fun p => D.bl (ltS p.1 p.2)) S) : compW gs (.many [i, j]) dYes te ρ Q (rows2 (xs.map D.str) ((xs.map D.str).drop 1)) [] S := by
  rw [← List.map_drop, rows2_strs]
  exact compW_all (fun p : Str × Str => D.tup [.str p.1, .str p.2]) (fun p => D.bl (ltS p.1 p.2)) ok (small_sz (by rw [List.length_zip, List.length_drop]; omega)) (fun p hp S' Py hs' hPy => hte p.1 p.2 S' Py hPy) q
theorem up_eq10 (xs : List Str) : ((xs.zip (xs.drop 1)).map fun p => ltS p.1 p.2).all id = upB xs := by
  unfold upB
  rw [List.all_map]
  rfl
theorem v_rises_k10 : ∀ ds S Q E, sp_rises_k10 ds S Q E → d_rises_k10 (EndsD Q) (startD N_rises_k10 ds) S := by
  rintro ds S Q E ⟨v, xs, rfl, hv, hz, q⟩
  simp only [d_rises_k10, N_rises_k10, dWkA, dTupK, dTupL, dTupIx, dDictP, dDc2, dFor, dWhile, dLc, dLc2, dDc, dNextG, iSeq, iR1, iR2, iEn, iZpA, iZ2, iZ3, dSortK, dSortKF, dSortSet, dSortSetF, dBreak, bSortT, bSortTF, bSum, bSumL, bSumLF, bMaxL, bMinL, dDicE, bSortD, bSortDF, dGet2, oInA, oNotInA, oIxA, gdSubA, dSeq, dSet, dIf, dIfS, dTst, dOp, dUn, dVar, dCB, aCons, aNil, aStar, dRet, dRetN, dNext, dDrop, dLst, dTup, dC, dAnd, dOr, dNot, dAndV, dOrV, dNotV, dPar, dAsg, gdName, gdSub, gdTup, gdCons, gdNil, gdSlot, dIsi, dIsi2, dSlot, dSetSlot, dMethSl, dMakeSl, dCall, dCallP, dBM, dFrz, dLstF, dLcF, dLc2F, dDcF, dSlF, dListVF, bListF, bListDF, bSortSF, oAddLF, oRepLF, dSl, dNoP, dPart, dListV, dTru, dOrT, EndsD, startD, oLtI, oLeI, oGtI, oGeI, oIx, oMulI, oPowI, oAddI, oSubI, oModI, oDivI, oI, oI0, oEqD, oNeD, oInD, oNotInD, oAddL, oAddT, oAddS, oRepL, bLen, bAbs, bInt, bMin2, bMax2, bAll, bAny, bTuple, bList, bListD, bSortS, mAppend, mPop, mPopAt, mExtend, mIndex, dFld, dSetFld, dAddFld, gdFld, dMeth, dMake, dPar3, dRevT, oAddTK, dSortSetT, dSortSetTF, gdLst, gdAll, dRevL, dRevLF, dYes, dFrzA, oNegI, bSortG, bSortGF, dSlK, oIsB, oNotB, bSortTS, bSortTSF, bSortI, bSortIF, iDi, dDisp, iEnS, dEi, oTimes, oEqO, oNeO, mClear, mReverse, dMethP, dMethSlP, dMakeP, dMakeSlP, oGeD, oCmpD, dSortSetBF, dSortKDF, dDcT, dLenSetT, dLenSetS, dChain, dAug, iTxt, oInS, oLtS, dDinN, dDin1, gdSubN, dSetDef, iDinK, iDinI, dDcN, dSortSetX, dSortSetXF, dSortSetXT, dSortSetXTF, dChain3, dLenSetXT, dDictN, bMinG, oIxS, dListZip, dDc2T, dSortDTF, dSortSetX0, dSortSetX0F, dRaise, dCallS, dMethS, dMethSlS, dCatch, dIsX, dIsX2, dXf, oInC, bStrI, bIntS, dTry0, gdTail, gdTailT, bMaxG, dCatch2, dRaise0, oLeS, dMaxK, dTupI, dSlS, dCatchN, dIsXN, tupOf_lst, tupOf_ref, tupOf_tup, List.map_cons, List.map_nil, List.length_cons, List.length_nil, List.cons_append, List.nil_append, List.append_nil, List.replicate, List.set_cons_zero, List.set_cons_succ, List.getElem?_cons_zero, List.getElem?_cons_succ, Option.some.injEq, exists_eq_left', exists_eq_left, exists_and_left, D.int.injEq, D.bl.injEq, D.str.injEq, D.tup.injEq, D.lst.injEq, D.ref.injEq, List.cons.injEq, and_true, true_and, reduceCtorEq, false_and, and_false, exists_false, or_false, false_or, exists_const, Bool.false_eq_true, if_true, if_false, decide_eq_true_eq, Ob.lst.injEq, Ob.slt.injEq, Ob.dic.injEq, seqD_ref, lstD_ref, seqD_tup, seqD_lst, lstD_lst, lstR_lst, Sto.set_same, Sto.set_set, atI_0, atI_1, atI_2, Nat.reduceAdd, ixN_30, ixN_32, lstD_tup, seqD_row, List.append_assoc, false_or, or_false, cut_d1, cut_t1, sz_0, sz_1, sz_2, sz_3, sz_4, sz_5, sz_6, sz_7, sz_8, sz_9, sz_10, sz_11, sz_12]
  have hs : seqD S v = some (xs.map .str) := by rcases hv with rfl | rfl <;> rfl
  refine ⟨_, hs, _, _, ⟨rfl, rfl⟩, _, rfl, _, rfl, ?_⟩
  refine up_comp hz (fun g hg => (nomatch hg)) (fun a b S' Py hPy => ?_) ⟨_, by rw [List.map_map]; rfl, ?_⟩
  · simp only [Tg.d, wipeD, dWkA, dTupK, dTupL, dTupIx, dDictP, dDc2, dFor, dWhile, dLc, dLc2, dDc, dNextG, iSeq, iR1, iR2, iEn, iZpA, iZ2, iZ3, dSortK, dSortKF, dSortSet, dSortSetF, dBreak, bSortT, bSortTF, bSum, bSumL, bSumLF, bMaxL, bMinL, dDicE, bSortD, bSortDF, dGet2, oInA, oNotInA, oIxA, gdSubA, dSeq, dSet, dIf, dIfS, dTst, dOp, dUn, dVar, dCB, aCons, aNil, aStar, dRet, dRetN, dNext, dDrop, dLst, dTup, dC, dAnd, dOr, dNot, dAndV, dOrV, dNotV, dPar, dAsg, gdName, gdSub, gdTup, gdCons, gdNil, gdSlot, dIsi, dIsi2, dSlot, dSetSlot, dMethSl, dMakeSl, dCall, dCallP, dBM, dFrz, dLstF, dLcF, dLc2F, dDcF, dSlF, dListVF, bListF, bListDF, bSortSF, oAddLF, oRepLF, dSl, dNoP, dPart, dListV, dTru, dOrT, EndsD, startD, oLtI, oLeI, oGtI, oGeI, oIx, oMulI, oPowI, oAddI, oSubI, oModI, oDivI, oI, oI0, oEqD, oNeD, oInD, oNotInD, oAddL, oAddT, oAddS, oRepL, bLen, bAbs, bInt, bMin2, bMax2, bAll, bAny, bTuple, bList, bListD, bSortS, mAppend, mPop, mPopAt, mExtend, mIndex, dFld, dSetFld, dAddFld, gdFld, dMeth, dMake, dPar3, dRevT, oAddTK, dSortSetT, dSortSetTF, gdLst, gdAll, dRevL, dRevLF, dYes, dFrzA, oNegI, bSortG, bSortGF, dSlK, oIsB, oNotB, bSortTS, bSortTSF, bSortI, bSortIF, iDi, dDisp, iEnS, dEi, oTimes, oEqO, oNeO, mClear, mReverse, dMethP, dMethSlP, dMakeP, dMakeSlP, oGeD, oCmpD, dSortSetBF, dSortKDF, dDcT, dLenSetT, dLenSetS, dChain, dAug, iTxt, oInS, oLtS, dDinN, dDin1, gdSubN, dSetDef, iDinK, iDinI, dDcN, dSortSetX, dSortSetXF, dSortSetXT, dSortSetXTF, dChain3, dLenSetXT, dDictN, bMinG, oIxS, dListZip, dDc2T, dSortDTF, dSortSetX0, dSortSetX0F, dRaise, dCallS, dMethS, dMethSlS, dCatch, dIsX, dIsX2, dXf, oInC, bStrI, bIntS, dTry0, gdTail, gdTailT, bMaxG, dCatch2, dRaise0, oLeS, dMaxK, dTupI, dSlS, dCatchN, dIsXN, tupOf_lst, tupOf_ref, tupOf_tup, List.map_cons, List.map_nil, List.length_cons, List.length_nil, List.cons_append, List.nil_append, List.append_nil, List.replicate, List.set_cons_zero, List.set_cons_succ, List.getElem?_cons_zero, List.getElem?_cons_succ, Option.some.injEq, exists_eq_left', exists_eq_left, exists_and_left, D.int.injEq, D.bl.injEq, D.str.injEq, D.tup.injEq, D.lst.injEq, D.ref.injEq, List.cons.injEq, and_true, true_and, reduceCtorEq, false_and, and_false, exists_false, or_false, false_or, exists_const, Bool.false_eq_true, if_true, if_false, decide_eq_true_eq, Ob.lst.injEq, Ob.slt.injEq, Ob.dic.injEq, seqD_ref, lstD_ref, seqD_tup, seqD_lst, lstD_lst, lstR_lst, Sto.set_same, Sto.set_set, atI_0, atI_1, atI_2, Nat.reduceAdd, ixN_30, ixN_32, lstD_tup, seqD_row, List.append_assoc, false_or, or_false, cut_d1, cut_t1, sz_0, sz_1, sz_2, sz_3, sz_4, sz_5, sz_6, sz_7, sz_8, sz_9, sz_10, sz_11, sz_12]
    exact ⟨_, rfl, _, rfl, _, rfl, _, rfl, hPy⟩
  · rw [up_eq10]
    exact drp_of q
theorem v__law_goes_up_k10 : ∀ ds S Q E, sp__law_goes_up_k10 ds S Q E → d__law_goes_up_k10 (EndsD Q) (startD N__law_goes_up_k10 ds) S := by
  rintro ds S Q E ⟨v, xs, rfl, hv, hz, q⟩
  simp only [d__law_goes_up_k10, N__law_goes_up_k10, dWkA, dTupK, dTupL, dTupIx, dDictP, dDc2, dFor, dWhile, dLc, dLc2, dDc, dNextG, iSeq, iR1, iR2, iEn, iZpA, iZ2, iZ3, dSortK, dSortKF, dSortSet, dSortSetF, dBreak, bSortT, bSortTF, bSum, bSumL, bSumLF, bMaxL, bMinL, dDicE, bSortD, bSortDF, dGet2, oInA, oNotInA, oIxA, gdSubA, dSeq, dSet, dIf, dIfS, dTst, dOp, dUn, dVar, dCB, aCons, aNil, aStar, dRet, dRetN, dNext, dDrop, dLst, dTup, dC, dAnd, dOr, dNot, dAndV, dOrV, dNotV, dPar, dAsg, gdName, gdSub, gdTup, gdCons, gdNil, gdSlot, dIsi, dIsi2, dSlot, dSetSlot, dMethSl, dMakeSl, dCall, dCallP, dBM, dFrz, dLstF, dLcF, dLc2F, dDcF, dSlF, dListVF, bListF, bListDF, bSortSF, oAddLF, oRepLF, dSl, dNoP, dPart, dListV, dTru, dOrT, EndsD, startD, oLtI, oLeI, oGtI, oGeI, oIx, oMulI, oPowI, oAddI, oSubI, oModI, oDivI, oI, oI0, oEqD, oNeD, oInD, oNotInD, oAddL, oAddT, oAddS, oRepL, bLen, bAbs, bInt, bMin2, bMax2, bAll, bAny, bTuple, bList, bListD, bSortS, mAppend, mPop, mPopAt, mExtend, mIndex, dFld, dSetFld, dAddFld, gdFld, dMeth, dMake, dPar3, dRevT, oAddTK, dSortSetT, dSortSetTF, gdLst, gdAll, dRevL, dRevLF, dYes, dFrzA, oNegI, bSortG, bSortGF, dSlK, oIsB, oNotB, bSortTS, bSortTSF, bSortI, bSortIF, iDi, dDisp, iEnS, dEi, oTimes, oEqO, oNeO, mClear, mReverse, dMethP, dMethSlP, dMakeP, dMakeSlP, oGeD, oCmpD, dSortSetBF, dSortKDF, dDcT, dLenSetT, dLenSetS, dChain, dAug, iTxt, oInS, oLtS, dDinN, dDin1, gdSubN, dSetDef, iDinK, iDinI, dDcN, dSortSetX, dSortSetXF, dSortSetXT, dSortSetXTF, dChain3, dLenSetXT, dDictN, bMinG, oIxS, dListZip, dDc2T, dSortDTF, dSortSetX0, dSortSetX0F, dRaise, dCallS, dMethS, dMethSlS, dCatch, dIsX, dIsX2, dXf, oInC, bStrI, bIntS, dTry0, gdTail, gdTailT, bMaxG, dCatch2, dRaise0, oLeS, dMaxK, dTupI, dSlS, dCatchN, dIsXN, tupOf_lst, tupOf_ref, tupOf_tup, List.map_cons, List.map_nil, List.length_cons, List.length_nil, List.cons_append, List.nil_append, List.append_nil, List.replicate, List.set_cons_zero, List.set_cons_succ, List.getElem?_cons_zero, List.getElem?_cons_succ, Option.some.injEq, exists_eq_left', exists_eq_left, exists_and_left, D.int.injEq, D.bl.injEq, D.str.injEq, D.tup.injEq, D.lst.injEq, D.ref.injEq, List.cons.injEq, and_true, true_and, reduceCtorEq, false_and, and_false, exists_false, or_false, false_or, exists_const, Bool.false_eq_true, if_true, if_false, decide_eq_true_eq, Ob.lst.injEq, Ob.slt.injEq, Ob.dic.injEq, seqD_ref, lstD_ref, seqD_tup, seqD_lst, lstD_lst, lstR_lst, Sto.set_same, Sto.set_set, atI_0, atI_1, atI_2, Nat.reduceAdd, ixN_30, ixN_32, lstD_tup, seqD_row, List.append_assoc, false_or, or_false, cut_d1, cut_t1, sz_0, sz_1, sz_2, sz_3, sz_4, sz_5, sz_6, sz_7, sz_8, sz_9, sz_10, sz_11, sz_12]
  rcases hv with rfl | rfl
  · refine .inr ⟨_, rfl, _, _, ⟨rfl, rfl⟩, _, rfl, _, rfl, ?_⟩
    refine up_comp hz (fun g hg => (nomatch hg)) (fun a b S' Py hPy => ?_) ⟨_, by rw [List.map_map]; rfl, ?_⟩
    · simp only [Tg.d, wipeD, dWkA, dTupK, dTupL, dTupIx, dDictP, dDc2, dFor, dWhile, dLc, dLc2, dDc, dNextG, iSeq, iR1, iR2, iEn, iZpA, iZ2, iZ3, dSortK, dSortKF, dSortSet, dSortSetF, dBreak, bSortT, bSortTF, bSum, bSumL, bSumLF, bMaxL, bMinL, dDicE, bSortD, bSortDF, dGet2, oInA, oNotInA, oIxA, gdSubA, dSeq, dSet, dIf, dIfS, dTst, dOp, dUn, dVar, dCB, aCons, aNil, aStar, dRet, dRetN, dNext, dDrop, dLst, dTup, dC, dAnd, dOr, dNot, dAndV, dOrV, dNotV, dPar, dAsg, gdName, gdSub, gdTup, gdCons, gdNil, gdSlot, dIsi, dIsi2, dSlot, dSetSlot, dMethSl, dMakeSl, dCall, dCallP, dBM, dFrz, dLstF, dLcF, dLc2F, dDcF, dSlF, dListVF, bListF, bListDF, bSortSF, oAddLF, oRepLF, dSl, dNoP, dPart, dListV, dTru, dOrT, EndsD, startD, oLtI, oLeI, oGtI, oGeI, oIx, oMulI, oPowI, oAddI, oSubI, oModI, oDivI, oI, oI0, oEqD, oNeD, oInD, oNotInD, oAddL, oAddT, oAddS, oRepL, bLen, bAbs, bInt, bMin2, bMax2, bAll, bAny, bTuple, bList, bListD, bSortS, mAppend, mPop, mPopAt, mExtend, mIndex, dFld, dSetFld, dAddFld, gdFld, dMeth, dMake, dPar3, dRevT, oAddTK, dSortSetT, dSortSetTF, gdLst, gdAll, dRevL, dRevLF, dYes, dFrzA, oNegI, bSortG, bSortGF, dSlK, oIsB, oNotB, bSortTS, bSortTSF, bSortI, bSortIF, iDi, dDisp, iEnS, dEi, oTimes, oEqO, oNeO, mClear, mReverse, dMethP, dMethSlP, dMakeP, dMakeSlP, oGeD, oCmpD, dSortSetBF, dSortKDF, dDcT, dLenSetT, dLenSetS, dChain, dAug, iTxt, oInS, oLtS, dDinN, dDin1, gdSubN, dSetDef, iDinK, iDinI, dDcN, dSortSetX, dSortSetXF, dSortSetXT, dSortSetXTF, dChain3, dLenSetXT, dDictN, bMinG, oIxS, dListZip, dDc2T, dSortDTF, dSortSetX0, dSortSetX0F, dRaise, dCallS, dMethS, dMethSlS, dCatch, dIsX, dIsX2, dXf, oInC, bStrI, bIntS, dTry0, gdTail, gdTailT, bMaxG, dCatch2, dRaise0, oLeS, dMaxK, dTupI, dSlS, dCatchN, dIsXN, tupOf_lst, tupOf_ref, tupOf_tup, List.map_cons, List.map_nil, List.length_cons, List.length_nil, List.cons_append, List.nil_append, List.append_nil, List.replicate, List.set_cons_zero, List.set_cons_succ, List.getElem?_cons_zero, List.getElem?_cons_succ, Option.some.injEq, exists_eq_left', exists_eq_left, exists_and_left, D.int.injEq, D.bl.injEq, D.str.injEq, D.tup.injEq, D.lst.injEq, D.ref.injEq, List.cons.injEq, and_true, true_and, reduceCtorEq, false_and, and_false, exists_false, or_false, false_or, exists_const, Bool.false_eq_true, if_true, if_false, decide_eq_true_eq, Ob.lst.injEq, Ob.slt.injEq, Ob.dic.injEq, seqD_ref, lstD_ref, seqD_tup, seqD_lst, lstD_lst, lstR_lst, Sto.set_same, Sto.set_set, atI_0, atI_1, atI_2, Nat.reduceAdd, ixN_30, ixN_32, lstD_tup, seqD_row, List.append_assoc, false_or, or_false, cut_d1, cut_t1, sz_0, sz_1, sz_2, sz_3, sz_4, sz_5, sz_6, sz_7, sz_8, sz_9, sz_10, sz_11, sz_12]
      exact ⟨_, rfl, _, rfl, _, rfl, _, rfl, hPy⟩
    · rw [up_eq10]
      exact drp_of q
  · refine .inl ⟨_, rfl, _, _, ⟨rfl, rfl⟩, _, rfl, _, rfl, ?_⟩
    refine up_comp hz (fun g hg => (nomatch hg)) (fun a b S' Py hPy => ?_) ⟨_, by rw [List.map_map]; rfl, ?_⟩
    · simp only [Tg.d, wipeD, dWkA, dTupK, dTupL, dTupIx, dDictP, dDc2, dFor, dWhile, dLc, dLc2, dDc, dNextG, iSeq, iR1, iR2, iEn, iZpA, iZ2, iZ3, dSortK, dSortKF, dSortSet, dSortSetF, dBreak, bSortT, bSortTF, bSum, bSumL, bSumLF, bMaxL, bMinL, dDicE, bSortD, bSortDF, dGet2, oInA, oNotInA, oIxA, gdSubA, dSeq, dSet, dIf, dIfS, dTst, dOp, dUn, dVar, dCB, aCons, aNil, aStar, dRet, dRetN, dNext, dDrop, dLst, dTup, dC, dAnd, dOr, dNot, dAndV, dOrV, dNotV, dPar, dAsg, gdName, gdSub, gdTup, gdCons, gdNil, gdSlot, dIsi, dIsi2, dSlot, dSetSlot, dMethSl, dMakeSl, dCall, dCallP, dBM, dFrz, dLstF, dLcF, dLc2F, dDcF, dSlF, dListVF, bListF, bListDF, bSortSF, oAddLF, oRepLF, dSl, dNoP, dPart, dListV, dTru, dOrT, EndsD, startD, oLtI, oLeI, oGtI, oGeI, oIx, oMulI, oPowI, oAddI, oSubI, oModI, oDivI, oI, oI0, oEqD, oNeD, oInD, oNotInD, oAddL, oAddT, oAddS, oRepL, bLen, bAbs, bInt, bMin2, bMax2, bAll, bAny, bTuple, bList, bListD, bSortS, mAppend, mPop, mPopAt, mExtend, mIndex, dFld, dSetFld, dAddFld, gdFld, dMeth, dMake, dPar3, dRevT, oAddTK, dSortSetT, dSortSetTF, gdLst, gdAll, dRevL, dRevLF, dYes, dFrzA, oNegI, bSortG, bSortGF, dSlK, oIsB, oNotB, bSortTS, bSortTSF, bSortI, bSortIF, iDi, dDisp, iEnS, dEi, oTimes, oEqO, oNeO, mClear, mReverse, dMethP, dMethSlP, dMakeP, dMakeSlP, oGeD, oCmpD, dSortSetBF, dSortKDF, dDcT, dLenSetT, dLenSetS, dChain, dAug, iTxt, oInS, oLtS, dDinN, dDin1, gdSubN, dSetDef, iDinK, iDinI, dDcN, dSortSetX, dSortSetXF, dSortSetXT, dSortSetXTF, dChain3, dLenSetXT, dDictN, bMinG, oIxS, dListZip, dDc2T, dSortDTF, dSortSetX0, dSortSetX0F, dRaise, dCallS, dMethS, dMethSlS, dCatch, dIsX, dIsX2, dXf, oInC, bStrI, bIntS, dTry0, gdTail, gdTailT, bMaxG, dCatch2, dRaise0, oLeS, dMaxK, dTupI, dSlS, dCatchN, dIsXN, tupOf_lst, tupOf_ref, tupOf_tup, List.map_cons, List.map_nil, List.length_cons, List.length_nil, List.cons_append, List.nil_append, List.append_nil, List.replicate, List.set_cons_zero, List.set_cons_succ, List.getElem?_cons_zero, List.getElem?_cons_succ, Option.some.injEq, exists_eq_left', exists_eq_left, exists_and_left, D.int.injEq, D.bl.injEq, D.str.injEq, D.tup.injEq, D.lst.injEq, D.ref.injEq, List.cons.injEq, and_true, true_and, reduceCtorEq, false_and, and_false, exists_false, or_false, false_or, exists_const, Bool.false_eq_true, if_true, if_false, decide_eq_true_eq, Ob.lst.injEq, Ob.slt.injEq, Ob.dic.injEq, seqD_ref, lstD_ref, seqD_tup, seqD_lst, lstD_lst, lstR_lst, Sto.set_same, Sto.set_set, atI_0, atI_1, atI_2, Nat.reduceAdd, ixN_30, ixN_32, lstD_tup, seqD_row, List.append_assoc, false_or, or_false, cut_d1, cut_t1, sz_0, sz_1, sz_2, sz_3, sz_4, sz_5, sz_6, sz_7, sz_8, sz_9, sz_10, sz_11, sz_12]
      exact ⟨_, rfl, _, rfl, _, rfl, _, rfl, hPy⟩
    · rw [up_eq10]
      exact drp_of q
theorem hd_not {d : D} (h : ∀ a b, d ≠ .tup [a, b]) : hdB d = false := by
  unfold hdB
  split
  · exact absurd rfl (h _ _)
  · rfl
theorem ts_not {ns : List Str} {d : D} (h : ∀ a b, d ≠ .tup [a, b]) : tsB ns d = false := by
  unfold tsB
  split
  · exact absurd rfl (h _ _)
  · rfl
theorem rl_not {ns : List Str} {d : D} (h : ∀ a b, d ≠ .tup [a, b]) : rlB ns d = false := by
  unfold rlB
  split
  · exact absurd rfl (h _ _)
  · rfl
theorem net_not {d : D} (h : ∀ a b, d ≠ .tup [a, b]) : netB d = false := by
  unfold netB
  split
  · exact absurd rfl (h _ _)
  · rfl
theorem An.pair {S : Sto} {d : D} (h : An d) : (∃ a b, d = .tup [a, b] ∧ An a ∧ An b) ∨ ((∀ a b, d ≠ .tup [a, b]) ∧ ((∃ ds, d = .tup ds ∧ ds.length ≠ 2 ∧ ds.length ≤ 300) ∨ ∃ t, tyD S d = some t ∧ isK t "tuple" = false)) := by
  rcases h.ty (S := S) with ⟨x, rfl⟩ | ⟨ds, rfl⟩ | ⟨hs, ht, t, e, k1, k2, _⟩
  · exact .inr ⟨fun a b e => (nomatch e), .inr ⟨"str", rfl, by decide⟩⟩
  · obtain ⟨h1, h2⟩ := h.kids
    by_cases e : ds.length = 2
    · match ds, e with
      | [a, b], _ => exact .inl ⟨a, b, rfl, h2 a (by simp), h2 b (by simp)⟩
    · exact .inr ⟨fun a b z => by
        have z : ds = [a, b] := by injection z
        rw [z] at e
        exact e rfl, .inl ⟨ds, rfl, e, h1⟩⟩
  · exact .inr ⟨fun a b z => ht _ z, .inr ⟨t, e, k2⟩⟩
theorem c_tuple {S : Sto} {d : D} {Q : DK} {E : DXK} (h : An d) (q1 : ∀ a b, d = .tup [a, b] → An a → An b → Q (.bl true) S) (q2 : (∀ a b, d ≠ .tup [a, b]) → Q (.bl false) S) : sp_is_tuple [d, .int 2] S Q E := by
  rcases h.pair (S := S) with ⟨a, b, rfl, ha, hb⟩ | ⟨hn, ⟨ds, rfl, hl, _⟩ | ⟨t, e, k⟩⟩
  · exact ⟨_, 2, rfl, .inr ⟨_, rfl, q1 a b rfl ha hb⟩⟩
  · refine ⟨_, 2, rfl, .inr ⟨_, rfl, ?_⟩⟩
    rw [decide_eq_false (by omega)]
    exact q2 hn
  · exact ⟨_, 2, rfl, .inl ⟨⟨t, e, k⟩, q2 hn⟩⟩
theorem hd_tup {a b : D} (h : ∀ vs, b ≠ .tup vs) : hdB (.tup [a, b]) = false := by
  unfold hdB
  split
  · rename_i e; injection e with e; injection e with _ e; injection e with e; exact absurd e (h _)
  · rfl
theorem An.tup_ty {S : Sto} {d : D} (h : An d) : (∃ ds, d = .tup ds) ∨ ((∀ ds, d ≠ .tup ds) ∧ ∃ t, tyD S d = some t ∧ isK t "tuple" = false) := by
  rcases h.ty (S := S) with ⟨x, rfl⟩ | ⟨ds, rfl⟩ | ⟨hs, ht, t, e, k1, k2, _⟩
  · exact .inr ⟨fun ds e => (nomatch e), "str", rfl, by decide⟩
  · exact .inl ⟨ds, rfl⟩
  · exact .inr ⟨ht, t, e, k2⟩
theorem An.str_ty {S : Sto} {d : D} (h : An d) : (∃ x, d = .str x) ∨ ((∀ x, d ≠ .str x) ∧ ∃ t, tyD S d = some t ∧ isK t "str" = false) := by
  rcases h.ty (S := S) with ⟨x, rfl⟩ | ⟨ds, rfl⟩ | ⟨hs, ht, t, e, k1, k2, _⟩
  · exact .inl ⟨x, rfl⟩
  · exact .inr ⟨fun ds e => (nomatch e), "tuple", rfl, by decide⟩
  · exact .inr ⟨hs, t, e, k1⟩
theorem hd_nm {a b : D} (h : nmB a = false) : hdB (.tup [a, b]) = false := by
  cases b <;> first | rfl | (show (nmB a && _) = false; rw [h]; rfl)
theorem nm_txts : ∀ {vs : List D}, vs.all nmB = true → vs = (vs.map txt).map .str
  | [], _ => rfl
  | v :: vs, h => by
    rw [List.all_cons, Bool.and_eq_true] at h
    rw [List.map_cons, List.map_cons, ← nm_txts h.2]
    cases v <;> first | rfl | cases h.1
theorem all_id {f : D → Bool} {vs : List D} : (vs.map f).all id = vs.all f := by
  rw [List.all_map]
  rfl
theorem v_is_header_k10 : ∀ ds S Q E, sp_is_header_k10 ds S Q E → d_is_header_k10 (EndsD Q) (startD N_is_header_k10 ds) S := by
  rintro ds S Q E ⟨v, rfl, hv, q⟩
  simp only [d_is_header_k10, N_is_header_k10, dWkA, dTupK, dTupL, dTupIx, dDictP, dDc2, dFor, dWhile, dLc, dLc2, dDc, dNextG, iSeq, iR1, iR2, iEn, iZpA, iZ2, iZ3, dSortK, dSortKF, dSortSet, dSortSetF, dBreak, bSortT, bSortTF, bSum, bSumL, bSumLF, bMaxL, bMinL, dDicE, bSortD, bSortDF, dGet2, oInA, oNotInA, oIxA, gdSubA, dSeq, dSet, dIf, dIfS, dTst, dOp, dUn, dVar, dCB, aCons, aNil, aStar, dRet, dRetN, dNext, dDrop, dLst, dTup, dC, dAnd, dOr, dNot, dAndV, dOrV, dNotV, dPar, dAsg, gdName, gdSub, gdTup, gdCons, gdNil, gdSlot, dIsi, dIsi2, dSlot, dSetSlot, dMethSl, dMakeSl, dCall, dCallP, dBM, dFrz, dLstF, dLcF, dLc2F, dDcF, dSlF, dListVF, bListF, bListDF, bSortSF, oAddLF, oRepLF, dSl, dNoP, dPart, dListV, dTru, dOrT, EndsD, startD, oLtI, oLeI, oGtI, oGeI, oIx, oMulI, oPowI, oAddI, oSubI, oModI, oDivI, oI, oI0, oEqD, oNeD, oInD, oNotInD, oAddL, oAddT, oAddS, oRepL, bLen, bAbs, bInt, bMin2, bMax2, bAll, bAny, bTuple, bList, bListD, bSortS, mAppend, mPop, mPopAt, mExtend, mIndex, dFld, dSetFld, dAddFld, gdFld, dMeth, dMake, dPar3, dRevT, oAddTK, dSortSetT, dSortSetTF, gdLst, gdAll, dRevL, dRevLF, dYes, dFrzA, oNegI, bSortG, bSortGF, dSlK, oIsB, oNotB, bSortTS, bSortTSF, bSortI, bSortIF, iDi, dDisp, iEnS, dEi, oTimes, oEqO, oNeO, mClear, mReverse, dMethP, dMethSlP, dMakeP, dMakeSlP, oGeD, oCmpD, dSortSetBF, dSortKDF, dDcT, dLenSetT, dLenSetS, dChain, dAug, iTxt, oInS, oLtS, dDinN, dDin1, gdSubN, dSetDef, iDinK, iDinI, dDcN, dSortSetX, dSortSetXF, dSortSetXT, dSortSetXTF, dChain3, dLenSetXT, dDictN, bMinG, oIxS, dListZip, dDc2T, dSortDTF, dSortSetX0, dSortSetX0F, dRaise, dCallS, dMethS, dMethSlS, dCatch, dIsX, dIsX2, dXf, oInC, bStrI, bIntS, dTry0, gdTail, gdTailT, bMaxG, dCatch2, dRaise0, oLeS, dMaxK, dTupI, dSlS, dCatchN, dIsXN, tupOf_lst, tupOf_ref, tupOf_tup, List.map_cons, List.map_nil, List.length_cons, List.length_nil, List.cons_append, List.nil_append, List.append_nil, List.replicate, List.set_cons_zero, List.set_cons_succ, List.getElem?_cons_zero, List.getElem?_cons_succ, Option.some.injEq, exists_eq_left', exists_eq_left, exists_and_left, D.int.injEq, D.bl.injEq, D.str.injEq, D.tup.injEq, D.lst.injEq, D.ref.injEq, List.cons.injEq, and_true, true_and, reduceCtorEq, false_and, and_false, exists_false, or_false, false_or, exists_const, Bool.false_eq_true, if_true, if_false, decide_eq_true_eq, Ob.lst.injEq, Ob.slt.injEq, Ob.dic.injEq, seqD_ref, lstD_ref, seqD_tup, seqD_lst, lstD_lst, lstR_lst, Sto.set_same, Sto.set_set, atI_0, atI_1, atI_2, Nat.reduceAdd, ixN_30, ixN_32, lstD_tup, seqD_row, List.append_assoc, false_or, or_false, cut_d1, cut_t1, sz_0, sz_1, sz_2, sz_3, sz_4, sz_5, sz_6, sz_7, sz_8, sz_9, sz_10, sz_11, sz_12]
  refine c_tuple hv (fun a b e ha hb => ?_) fun hn => ?_
  · subst e
    refine ⟨_, rfl, ?_⟩
    rw [if_neg (by simp)]
    refine ⟨_, rfl, _, atI_0 _ _, a, rfl, ha, _, rfl, ?_⟩
    cases e1 : nmB a with
    | false =>
      rw [if_pos (by decide)]
      rw [hd_nm e1] at q
      exact drp_of q
    | true =>
      rw [if_neg (by decide)]
      refine ⟨_, rfl, _, atI_1 _ _ _, ?_⟩
      rcases hb.tup_ty (S := S) with ⟨vs, rfl⟩ | ⟨hn, t, e, k⟩
      · refine ⟨"tuple", rfl, ?_⟩
        rw [if_neg (by decide)]
        have q : Q (.bl (nmB a && (decide (vs.length ≤ 3) && (vs.all nmB && upB (vs.map txt))))) S := q
        rw [e1, Bool.true_and] at q
        obtain ⟨hl, hk⟩ := hb.kids
        refine ⟨_, rfl, _, atI_1 _ _ _, .inl ⟨_, rfl, ?_⟩⟩
        by_cases h3 : vs.length ≤ 3
        · rw [if_pos (by omega)]
          rw [decide_eq_true h3, Bool.true_and] at q
          refine ⟨_, rfl, _, atI_1 _ _ _, _, rfl, ?_⟩
          refine compW_self (fun v => .bl (nmB v)) gs_tup (small_sz (by omega)) (fun v hv S' Py hs' hPy => ?_) ⟨vs.map nmB, by rw [List.map_map]; rfl, ?_⟩
          · simp only [Tg.d, wipeD, dWkA, dTupK, dTupL, dTupIx, dDictP, dDc2, dFor, dWhile, dLc, dLc2, dDc, dNextG, iSeq, iR1, iR2, iEn, iZpA, iZ2, iZ3, dSortK, dSortKF, dSortSet, dSortSetF, dBreak, bSortT, bSortTF, bSum, bSumL, bSumLF, bMaxL, bMinL, dDicE, bSortD, bSortDF, dGet2, oInA, oNotInA, oIxA, gdSubA, dSeq, dSet, dIf, dIfS, dTst, dOp, dUn, dVar, dCB, aCons, aNil, aStar, dRet, dRetN, dNext, dDrop, dLst, dTup, dC, dAnd, dOr, dNot, dAndV, dOrV, dNotV, dPar, dAsg, gdName, gdSub, gdTup, gdCons, gdNil, gdSlot, dIsi, dIsi2, dSlot, dSetSlot, dMethSl, dMakeSl, dCall, dCallP, dBM, dFrz, dLstF, dLcF, dLc2F, dDcF, dSlF, dListVF, bListF, bListDF, bSortSF, oAddLF, oRepLF, dSl, dNoP, dPart, dListV, dTru, dOrT, EndsD, startD, oLtI, oLeI, oGtI, oGeI, oIx, oMulI, oPowI, oAddI, oSubI, oModI, oDivI, oI, oI0, oEqD, oNeD, oInD, oNotInD, oAddL, oAddT, oAddS, oRepL, bLen, bAbs, bInt, bMin2, bMax2, bAll, bAny, bTuple, bList, bListD, bSortS, mAppend, mPop, mPopAt, mExtend, mIndex, dFld, dSetFld, dAddFld, gdFld, dMeth, dMake, dPar3, dRevT, oAddTK, dSortSetT, dSortSetTF, gdLst, gdAll, dRevL, dRevLF, dYes, dFrzA, oNegI, bSortG, bSortGF, dSlK, oIsB, oNotB, bSortTS, bSortTSF, bSortI, bSortIF, iDi, dDisp, iEnS, dEi, oTimes, oEqO, oNeO, mClear, mReverse, dMethP, dMethSlP, dMakeP, dMakeSlP, oGeD, oCmpD, dSortSetBF, dSortKDF, dDcT, dLenSetT, dLenSetS, dChain, dAug, iTxt, oInS, oLtS, dDinN, dDin1, gdSubN, dSetDef, iDinK, iDinI, dDcN, dSortSetX, dSortSetXF, dSortSetXT, dSortSetXTF, dChain3, dLenSetXT, dDictN, bMinG, oIxS, dListZip, dDc2T, dSortDTF, dSortSetX0, dSortSetX0F, dRaise, dCallS, dMethS, dMethSlS, dCatch, dIsX, dIsX2, dXf, oInC, bStrI, bIntS, dTry0, gdTail, gdTailT, bMaxG, dCatch2, dRaise0, oLeS, dMaxK, dTupI, dSlS, dCatchN, dIsXN, tupOf_lst, tupOf_ref, tupOf_tup, List.map_cons, List.map_nil, List.length_cons, List.length_nil, List.cons_append, List.nil_append, List.append_nil, List.replicate, List.set_cons_zero, List.set_cons_succ, List.getElem?_cons_zero, List.getElem?_cons_succ, Option.some.injEq, exists_eq_left', exists_eq_left, exists_and_left, D.int.injEq, D.bl.injEq, D.str.injEq, D.tup.injEq, D.lst.injEq, D.ref.injEq, List.cons.injEq, and_true, true_and, reduceCtorEq, false_and, and_false, exists_false, or_false, false_or, exists_const, Bool.false_eq_true, if_true, if_false, decide_eq_true_eq, Ob.lst.injEq, Ob.slt.injEq, Ob.dic.injEq, seqD_ref, lstD_ref, seqD_tup, seqD_lst, lstD_lst, lstR_lst, Sto.set_same, Sto.set_set, atI_0, atI_1, atI_2, Nat.reduceAdd, ixN_30, ixN_32, lstD_tup, seqD_row, List.append_assoc, false_or, or_false, cut_d1, cut_t1, sz_0, sz_1, sz_2, sz_3, sz_4, sz_5, sz_6, sz_7, sz_8, sz_9, sz_10, sz_11, sz_12]
            exact ⟨v, rfl, hk v hv, hPy⟩
          rw [all_id]
          cases e2 : vs.all nmB with
          | false =>
            rw [if_neg (by decide)]
            rw [e2, Bool.false_and] at q
            exact drp_of q
          | true =>
            rw [if_pos rfl]
            rw [e2, Bool.true_and] at q
            exact ⟨_, rfl, _, atI_1 _ _ _, _, vs.map txt, rfl, .inl (by rw [← nm_txts e2]), by rw [List.length_map]; omega, drp_of q⟩
        · rw [if_neg (by omega)]
          rw [decide_eq_false h3, Bool.false_and] at q
          exact drp_of q
      · refine ⟨t, e, ?_⟩
        rw [k, if_pos (by decide)]
        rw [hd_tup hn] at q
        exact drp_of q
  · refine ⟨_, rfl, ?_⟩
    rw [if_pos (by simp)]
    rw [hd_not hn] at q
    exact drp_of q
theorem ts_str {ns : List Str} {a b : D} (h : ∀ x, a ≠ .str x) : tsB ns (.tup [a, b]) = false := by
  cases a <;> first | rfl | exact absurd rfl (h _)
theorem ts_str2 {ns : List Str} {a b : D} (h : ∀ x, b ≠ .str x) : tsB ns (.tup [a, b]) = false := by
  cases a <;> cases b <;> first | rfl | exact absurd rfl (h _)
theorem ts_in {ns : List Str} {x : Str} {b : D} (h : x ∉ ns) : tsB ns (.tup [.str x, b]) = false := by
  cases b <;> first | rfl | (show (decide (x ∈ ns) && _) = false; rw [decide_eq_false h]; rfl)
theorem ts_shape {ns : List Str} {d : D} (h : tsB ns d = true) : ∃ x y, d = .tup [.str x, .str y] ∧ x ∈ ns := by
  unfold tsB at h
  split at h
  · rw [Bool.and_eq_true, decide_eq_true_iff] at h
    exact ⟨_, _, rfl, h.1⟩
  · cases h
theorem hd_shape {d : D} (h : hdB d = true) : ∃ (x : Str) (vs : List D), d = .tup [.str x, .tup vs] ∧ isNm x = true := by
  unfold hdB at h
  split at h
  · rename_i a vs
    rw [Bool.and_eq_true] at h
    cases a <;> first | exact ⟨_, _, rfl, h.1⟩ | cases h.1
  · cases h
theorem rl_nm {ns : List Str} {a b : D} (h : nmB b = false) : rlB ns (.tup [a, b]) = false := by
  cases a <;> first | rfl | (show (nmB b && _) = false; rw [h]; rfl)
theorem rl_tup {ns : List Str} {a b : D} (h : ∀ vs, a ≠ .tup vs) : rlB ns (.tup [a, b]) = false := by
  cases a <;> first | rfl | exact absurd rfl (h _)
theorem net_tup {a b : D} (h : (∀ vs, a ≠ .tup vs) ∨ ∀ vs, b ≠ .tup vs) : netB (.tup [a, b]) = false := by
  rcases h with h | h
  · cases a <;> first | rfl | exact absurd rfl (h _)
  · cases a <;> cases b <;> first | rfl | exact absurd rfl (h _)
theorem v_is_test_k10 : ∀ ds S Q E, sp_is_test_k10 ds S Q E → d_is_test_k10 (EndsD Q) (startD N_is_test_k10 ds) S := by
  rintro ds S Q E ⟨v, ns, rfl, hv, hns, q⟩
  simp only [d_is_test_k10, N_is_test_k10, dWkA, dTupK, dTupL, dTupIx, dDictP, dDc2, dFor, dWhile, dLc, dLc2, dDc, dNextG, iSeq, iR1, iR2, iEn, iZpA, iZ2, iZ3, dSortK, dSortKF, dSortSet, dSortSetF, dBreak, bSortT, bSortTF, bSum, bSumL, bSumLF, bMaxL, bMinL, dDicE, bSortD, bSortDF, dGet2, oInA, oNotInA, oIxA, gdSubA, dSeq, dSet, dIf, dIfS, dTst, dOp, dUn, dVar, dCB, aCons, aNil, aStar, dRet, dRetN, dNext, dDrop, dLst, dTup, dC, dAnd, dOr, dNot, dAndV, dOrV, dNotV, dPar, dAsg, gdName, gdSub, gdTup, gdCons, gdNil, gdSlot, dIsi, dIsi2, dSlot, dSetSlot, dMethSl, dMakeSl, dCall, dCallP, dBM, dFrz, dLstF, dLcF, dLc2F, dDcF, dSlF, dListVF, bListF, bListDF, bSortSF, oAddLF, oRepLF, dSl, dNoP, dPart, dListV, dTru, dOrT, EndsD, startD, oLtI, oLeI, oGtI, oGeI, oIx, oMulI, oPowI, oAddI, oSubI, oModI, oDivI, oI, oI0, oEqD, oNeD, oInD, oNotInD, oAddL, oAddT, oAddS, oRepL, bLen, bAbs, bInt, bMin2, bMax2, bAll, bAny, bTuple, bList, bListD, bSortS, mAppend, mPop, mPopAt, mExtend, mIndex, dFld, dSetFld, dAddFld, gdFld, dMeth, dMake, dPar3, dRevT, oAddTK, dSortSetT, dSortSetTF, gdLst, gdAll, dRevL, dRevLF, dYes, dFrzA, oNegI, bSortG, bSortGF, dSlK, oIsB, oNotB, bSortTS, bSortTSF, bSortI, bSortIF, iDi, dDisp, iEnS, dEi, oTimes, oEqO, oNeO, mClear, mReverse, dMethP, dMethSlP, dMakeP, dMakeSlP, oGeD, oCmpD, dSortSetBF, dSortKDF, dDcT, dLenSetT, dLenSetS, dChain, dAug, iTxt, oInS, oLtS, dDinN, dDin1, gdSubN, dSetDef, iDinK, iDinI, dDcN, dSortSetX, dSortSetXF, dSortSetXT, dSortSetXTF, dChain3, dLenSetXT, dDictN, bMinG, oIxS, dListZip, dDc2T, dSortDTF, dSortSetX0, dSortSetX0F, dRaise, dCallS, dMethS, dMethSlS, dCatch, dIsX, dIsX2, dXf, oInC, bStrI, bIntS, dTry0, gdTail, gdTailT, bMaxG, dCatch2, dRaise0, oLeS, dMaxK, dTupI, dSlS, dCatchN, dIsXN, tupOf_lst, tupOf_ref, tupOf_tup, List.map_cons, List.map_nil, List.length_cons, List.length_nil, List.cons_append, List.nil_append, List.append_nil, List.replicate, List.set_cons_zero, List.set_cons_succ, List.getElem?_cons_zero, List.getElem?_cons_succ, Option.some.injEq, exists_eq_left', exists_eq_left, exists_and_left, D.int.injEq, D.bl.injEq, D.str.injEq, D.tup.injEq, D.lst.injEq, D.ref.injEq, List.cons.injEq, and_true, true_and, reduceCtorEq, false_and, and_false, exists_false, or_false, false_or, exists_const, Bool.false_eq_true, if_true, if_false, decide_eq_true_eq, Ob.lst.injEq, Ob.slt.injEq, Ob.dic.injEq, seqD_ref, lstD_ref, seqD_tup, seqD_lst, lstD_lst, lstR_lst, Sto.set_same, Sto.set_set, atI_0, atI_1, atI_2, Nat.reduceAdd, ixN_30, ixN_32, lstD_tup, seqD_row, List.append_assoc, false_or, or_false, cut_d1, cut_t1, sz_0, sz_1, sz_2, sz_3, sz_4, sz_5, sz_6, sz_7, sz_8, sz_9, sz_10, sz_11, sz_12]
  refine c_tuple hv (fun a b e ha hb => ?_) fun hn => ?_
  · subst e
    refine ⟨_, rfl, ?_⟩
    rw [if_neg (by simp)]
    refine ⟨_, rfl, _, atI_0 _ _, ?_⟩
    rcases ha.str_ty (S := S) with ⟨x, rfl⟩ | ⟨hn, t, e, k⟩
    · refine ⟨"str", rfl, ?_⟩
      rw [if_neg (by decide)]
      refine ⟨_, rfl, _, atI_0 _ _, .inr (.inl ⟨x, ns, rfl, rfl, _, rfl, ?_⟩)⟩
      by_cases hx : x ∈ ns
      · rw [if_neg (by simp [hx])]
        refine ⟨_, rfl, _, atI_1 _ _ _, ?_⟩
        rcases hb.str_ty (S := S) with ⟨y, rfl⟩ | ⟨hn, t, e, k⟩
        · have q : Q (.bl (decide (x ∈ ns) && (decide (y = "") || isNm y))) S := q
          rw [decide_eq_true hx, Bool.true_and] at q
          refine ⟨"str", rfl, ?_⟩
          rw [if_pos (by decide)]
          refine ⟨_, rfl, _, atI_1 _ _ _, _, pyR_str _ _, _, pyR_str _ _, (shp_str hb.txt.1).ok, (shp_str (by decide +kernel)).ok, ?_⟩
          rw [eqv_str]
          by_cases he : y = ""
          · rw [if_pos (decide_eq_true he)]
            rw [decide_eq_true he, Bool.true_or] at q
            exact drp_of q
          · rw [if_neg (by rw [decide_eq_true_eq]; exact he)]
            rw [decide_eq_false he, Bool.false_or] at q
            exact ⟨_, rfl, _, atI_1 _ _ _, _, rfl, hb, drp_of q⟩
        · refine ⟨t, e, ?_⟩
          rw [k, if_neg (by decide)]
          refine ⟨_, rfl, _, atI_1 _ _ _, _, rfl, hb, drp_of ?_⟩
          rw [nm_non hn]
          rw [ts_str2 hn] at q
          exact q
      · rw [if_pos (by simp [hx])]
        rw [ts_in hx] at q
        exact drp_of q
    · refine ⟨t, e, ?_⟩
      rw [k, if_pos (by decide)]
      rw [ts_str hn] at q
      exact drp_of q
  · refine ⟨_, rfl, ?_⟩
    rw [if_pos (by simp)]
    rw [ts_not hn] at q
    exact drp_of q
theorem thin_out : ∀ xs : List Str, ∃ zs : List Str, zs.Nodup ∧ (∀ b, b ∈ zs ↔ b ∈ xs) ∧ zs.length ≤ xs.length ∧ (zs.length = xs.length → xs.Nodup)
  | [] => ⟨[], List.nodup_nil, fun _ => Iff.rfl, Nat.le_refl _, fun _ => List.nodup_nil⟩
  | a :: r => by
    obtain ⟨zs, h1, h2, h3, h4⟩ := thin_out r
    by_cases h : a ∈ r
    · refine ⟨zs, h1, fun b => ?_, by rw [List.length_cons]; omega, fun e => by rw [List.length_cons] at e; omega⟩
      rw [List.mem_cons, h2]
      exact ⟨.inr, fun z => z.elim (fun e => e ▸ h) id⟩
    · refine ⟨a :: zs, List.nodup_cons.mpr ⟨fun z => h ((h2 a).mp z), h1⟩, fun b => ?_, by rw [List.length_cons, List.length_cons]; omega, fun e => ?_⟩
      · rw [List.mem_cons, List.mem_cons, h2]
      · rw [List.length_cons, List.length_cons] at e
        exact List.nodup_cons.mpr ⟨h, h4 (by omega)⟩
theorem nodup_len {xs ys : List Str} (h1 : ys.Nodup) (h2 : ∀ b, b ∈ ys ↔ b ∈ xs) : decide (ys.length = xs.length) = decide xs.Nodup := by
  obtain ⟨zs, z1, z2, z3, z4⟩ := thin_out xs
  have a := nd_len h1 z1 fun b hb => (z2 b).mpr ((h2 b).mp hb)
  have b := nd_len z1 h1 fun b hb => (h2 b).mpr ((z2 b).mp hb)
  rw [Bool.eq_iff_iff, decide_eq_true_iff, decide_eq_true_iff]
  refine ⟨fun e => z4 (by omega), fun h => ?_⟩
  have c := nd_len h h1 fun b hb => (h2 b).mpr hb
  omega
theorem v_is_rule_k10 : ∀ ds S Q E, sp_is_rule_k10 ds S Q E → d_is_rule_k10 (EndsD Q) (startD N_is_rule_k10 ds) S := by
  rintro ds S Q E ⟨v, ns, rfl, hv, hns, q⟩
  simp only [d_is_rule_k10, N_is_rule_k10, dWkA, dTupK, dTupL, dTupIx, dDictP, dDc2, dFor, dWhile, dLc, dLc2, dDc, dNextG, iSeq, iR1, iR2, iEn, iZpA, iZ2, iZ3, dSortK, dSortKF, dSortSet, dSortSetF, dBreak, bSortT, bSortTF, bSum, bSumL, bSumLF, bMaxL, bMinL, dDicE, bSortD, bSortDF, dGet2, oInA, oNotInA, oIxA, gdSubA, dSeq, dSet, dIf, dIfS, dTst, dOp, dUn, dVar, dCB, aCons, aNil, aStar, dRet, dRetN, dNext, dDrop, dLst, dTup, dC, dAnd, dOr, dNot, dAndV, dOrV, dNotV, dPar, dAsg, gdName, gdSub, gdTup, gdCons, gdNil, gdSlot, dIsi, dIsi2, dSlot, dSetSlot, dMethSl, dMakeSl, dCall, dCallP, dBM, dFrz, dLstF, dLcF, dLc2F, dDcF, dSlF, dListVF, bListF, bListDF, bSortSF, oAddLF, oRepLF, dSl, dNoP, dPart, dListV, dTru, dOrT, EndsD, startD, oLtI, oLeI, oGtI, oGeI, oIx, oMulI, oPowI, oAddI, oSubI, oModI, oDivI, oI, oI0, oEqD, oNeD, oInD, oNotInD, oAddL, oAddT, oAddS, oRepL, bLen, bAbs, bInt, bMin2, bMax2, bAll, bAny, bTuple, bList, bListD, bSortS, mAppend, mPop, mPopAt, mExtend, mIndex, dFld, dSetFld, dAddFld, gdFld, dMeth, dMake, dPar3, dRevT, oAddTK, dSortSetT, dSortSetTF, gdLst, gdAll, dRevL, dRevLF, dYes, dFrzA, oNegI, bSortG, bSortGF, dSlK, oIsB, oNotB, bSortTS, bSortTSF, bSortI, bSortIF, iDi, dDisp, iEnS, dEi, oTimes, oEqO, oNeO, mClear, mReverse, dMethP, dMethSlP, dMakeP, dMakeSlP, oGeD, oCmpD, dSortSetBF, dSortKDF, dDcT, dLenSetT, dLenSetS, dChain, dAug, iTxt, oInS, oLtS, dDinN, dDin1, gdSubN, dSetDef, iDinK, iDinI, dDcN, dSortSetX, dSortSetXF, dSortSetXT, dSortSetXTF, dChain3, dLenSetXT, dDictN, bMinG, oIxS, dListZip, dDc2T, dSortDTF, dSortSetX0, dSortSetX0F, dRaise, dCallS, dMethS, dMethSlS, dCatch, dIsX, dIsX2, dXf, oInC, bStrI, bIntS, dTry0, gdTail, gdTailT, bMaxG, dCatch2, dRaise0, oLeS, dMaxK, dTupI, dSlS, dCatchN, dIsXN, tupOf_lst, tupOf_ref, tupOf_tup, List.map_cons, List.map_nil, List.length_cons, List.length_nil, List.cons_append, List.nil_append, List.append_nil, List.replicate, List.set_cons_zero, List.set_cons_succ, List.getElem?_cons_zero, List.getElem?_cons_succ, Option.some.injEq, exists_eq_left', exists_eq_left, exists_and_left, D.int.injEq, D.bl.injEq, D.str.injEq, D.tup.injEq, D.lst.injEq, D.ref.injEq, List.cons.injEq, and_true, true_and, reduceCtorEq, false_and, and_false, exists_false, or_false, false_or, exists_const, Bool.false_eq_true, if_true, if_false, decide_eq_true_eq, Ob.lst.injEq, Ob.slt.injEq, Ob.dic.injEq, seqD_ref, lstD_ref, seqD_tup, seqD_lst, lstD_lst, lstR_lst, Sto.set_same, Sto.set_set, atI_0, atI_1, atI_2, Nat.reduceAdd, ixN_30, ixN_32, lstD_tup, seqD_row, List.append_assoc, false_or, or_false, cut_d1, cut_t1, sz_0, sz_1, sz_2, sz_3, sz_4, sz_5, sz_6, sz_7, sz_8, sz_9, sz_10, sz_11, sz_12]
  refine c_tuple hv (fun a b e ha hb => ?_) fun hn => ?_
  · subst e
    refine ⟨_, rfl, ?_⟩
    rw [if_neg (by simp)]
    refine ⟨_, rfl, _, atI_1 _ _ _, b, rfl, hb, _, rfl, ?_⟩
    cases e1 : nmB b with
    | false =>
      rw [if_pos (by decide)]
      rw [rl_nm e1] at q
      exact drp_of q
    | true =>
      rw [if_neg (by decide)]
      refine ⟨_, rfl, _, atI_0 _ _, ?_⟩
      rcases ha.tup_ty (S := S) with ⟨vs, rfl⟩ | ⟨hn, t, e, k⟩
      · refine ⟨"tuple", rfl, ?_⟩
        rw [if_neg (by decide)]
        have q : Q (.bl (nmB b && (vs.all (tsB ns) && decide ((vs.map fun t => txt (fstD t)).Nodup)))) S := q
        rw [e1, Bool.true_and] at q
        obtain ⟨hl, hk⟩ := ha.kids
        refine ⟨_, rfl, _, atI_0 _ _, _, rfl, ?_⟩
        refine compW_self (fun v => .bl (tsB ns v)) gs_tup (small_sz (by omega)) (fun v hv S' Py hs' hPy => ?_) ⟨vs.map (tsB ns), by rw [List.map_map]; rfl, ?_⟩
        · simp only [Tg.d, wipeD, dWkA, dTupK, dTupL, dTupIx, dDictP, dDc2, dFor, dWhile, dLc, dLc2, dDc, dNextG, iSeq, iR1, iR2, iEn, iZpA, iZ2, iZ3, dSortK, dSortKF, dSortSet, dSortSetF, dBreak, bSortT, bSortTF, bSum, bSumL, bSumLF, bMaxL, bMinL, dDicE, bSortD, bSortDF, dGet2, oInA, oNotInA, oIxA, gdSubA, dSeq, dSet, dIf, dIfS, dTst, dOp, dUn, dVar, dCB, aCons, aNil, aStar, dRet, dRetN, dNext, dDrop, dLst, dTup, dC, dAnd, dOr, dNot, dAndV, dOrV, dNotV, dPar, dAsg, gdName, gdSub, gdTup, gdCons, gdNil, gdSlot, dIsi, dIsi2, dSlot, dSetSlot, dMethSl, dMakeSl, dCall, dCallP, dBM, dFrz, dLstF, dLcF, dLc2F, dDcF, dSlF, dListVF, bListF, bListDF, bSortSF, oAddLF, oRepLF, dSl, dNoP, dPart, dListV, dTru, dOrT, EndsD, startD, oLtI, oLeI, oGtI, oGeI, oIx, oMulI, oPowI, oAddI, oSubI, oModI, oDivI, oI, oI0, oEqD, oNeD, oInD, oNotInD, oAddL, oAddT, oAddS, oRepL, bLen, bAbs, bInt, bMin2, bMax2, bAll, bAny, bTuple, bList, bListD, bSortS, mAppend, mPop, mPopAt, mExtend, mIndex, dFld, dSetFld, dAddFld, gdFld, dMeth, dMake, dPar3, dRevT, oAddTK, dSortSetT, dSortSetTF, gdLst, gdAll, dRevL, dRevLF, dYes, dFrzA, oNegI, bSortG, bSortGF, dSlK, oIsB, oNotB, bSortTS, bSortTSF, bSortI, bSortIF, iDi, dDisp, iEnS, dEi, oTimes, oEqO, oNeO, mClear, mReverse, dMethP, dMethSlP, dMakeP, dMakeSlP, oGeD, oCmpD, dSortSetBF, dSortKDF, dDcT, dLenSetT, dLenSetS, dChain, dAug, iTxt, oInS, oLtS, dDinN, dDin1, gdSubN, dSetDef, iDinK, iDinI, dDcN, dSortSetX, dSortSetXF, dSortSetXT, dSortSetXTF, dChain3, dLenSetXT, dDictN, bMinG, oIxS, dListZip, dDc2T, dSortDTF, dSortSetX0, dSortSetX0F, dRaise, dCallS, dMethS, dMethSlS, dCatch, dIsX, dIsX2, dXf, oInC, bStrI, bIntS, dTry0, gdTail, gdTailT, bMaxG, dCatch2, dRaise0, oLeS, dMaxK, dTupI, dSlS, dCatchN, dIsXN, tupOf_lst, tupOf_ref, tupOf_tup, List.map_cons, List.map_nil, List.length_cons, List.length_nil, List.cons_append, List.nil_append, List.append_nil, List.replicate, List.set_cons_zero, List.set_cons_succ, List.getElem?_cons_zero, List.getElem?_cons_succ, Option.some.injEq, exists_eq_left', exists_eq_left, exists_and_left, D.int.injEq, D.bl.injEq, D.str.injEq, D.tup.injEq, D.lst.injEq, D.ref.injEq, List.cons.injEq, and_true, true_and, reduceCtorEq, false_and, and_false, exists_false, or_false, false_or, exists_const, Bool.false_eq_true, if_true, if_false, decide_eq_true_eq, Ob.lst.injEq, Ob.slt.injEq, Ob.dic.injEq, seqD_ref, lstD_ref, seqD_tup, seqD_lst, lstD_lst, lstR_lst, Sto.set_same, Sto.set_set, atI_0, atI_1, atI_2, Nat.reduceAdd, ixN_30, ixN_32, lstD_tup, seqD_row, List.append_assoc, false_or, or_false, cut_d1, cut_t1, sz_0, sz_1, sz_2, sz_3, sz_4, sz_5, sz_6, sz_7, sz_8, sz_9, sz_10, sz_11, sz_12]
          exact ⟨v, ns, rfl, hk v hv, hns, hPy⟩
        rw [all_id]
        cases e2 : vs.all (tsB ns) with
        | false =>
          rw [if_pos (by decide)]
          rw [e2, Bool.false_and] at q
          exact drp_of q
        | true =>
          rw [if_neg (by decide)]
          rw [e2, Bool.true_and] at q
          refine ⟨_, rfl, _, atI_0 _ _, _, rfl, ?_⟩
          refine compW_self (fun v => .str (txt (fstD v))) gs_tup (small_sz (by omega)) (fun v hv S' Py hs' hPy => ?_) ?_
          · simp only [Tg.d, wipeD, dWkA, dTupK, dTupL, dTupIx, dDictP, dDc2, dFor, dWhile, dLc, dLc2, dDc, dNextG, iSeq, iR1, iR2, iEn, iZpA, iZ2, iZ3, dSortK, dSortKF, dSortSet, dSortSetF, dBreak, bSortT, bSortTF, bSum, bSumL, bSumLF, bMaxL, bMinL, dDicE, bSortD, bSortDF, dGet2, oInA, oNotInA, oIxA, gdSubA, dSeq, dSet, dIf, dIfS, dTst, dOp, dUn, dVar, dCB, aCons, aNil, aStar, dRet, dRetN, dNext, dDrop, dLst, dTup, dC, dAnd, dOr, dNot, dAndV, dOrV, dNotV, dPar, dAsg, gdName, gdSub, gdTup, gdCons, gdNil, gdSlot, dIsi, dIsi2, dSlot, dSetSlot, dMethSl, dMakeSl, dCall, dCallP, dBM, dFrz, dLstF, dLcF, dLc2F, dDcF, dSlF, dListVF, bListF, bListDF, bSortSF, oAddLF, oRepLF, dSl, dNoP, dPart, dListV, dTru, dOrT, EndsD, startD, oLtI, oLeI, oGtI, oGeI, oIx, oMulI, oPowI, oAddI, oSubI, oModI, oDivI, oI, oI0, oEqD, oNeD, oInD, oNotInD, oAddL, oAddT, oAddS, oRepL, bLen, bAbs, bInt, bMin2, bMax2, bAll, bAny, bTuple, bList, bListD, bSortS, mAppend, mPop, mPopAt, mExtend, mIndex, dFld, dSetFld, dAddFld, gdFld, dMeth, dMake, dPar3, dRevT, oAddTK, dSortSetT, dSortSetTF, gdLst, gdAll, dRevL, dRevLF, dYes, dFrzA, oNegI, bSortG, bSortGF, dSlK, oIsB, oNotB, bSortTS, bSortTSF, bSortI, bSortIF, iDi, dDisp, iEnS, dEi, oTimes, oEqO, oNeO, mClear, mReverse, dMethP, dMethSlP, dMakeP, dMakeSlP, oGeD, oCmpD, dSortSetBF, dSortKDF, dDcT, dLenSetT, dLenSetS, dChain, dAug, iTxt, oInS, oLtS, dDinN, dDin1, gdSubN, dSetDef, iDinK, iDinI, dDcN, dSortSetX, dSortSetXF, dSortSetXT, dSortSetXTF, dChain3, dLenSetXT, dDictN, bMinG, oIxS, dListZip, dDc2T, dSortDTF, dSortSetX0, dSortSetX0F, dRaise, dCallS, dMethS, dMethSlS, dCatch, dIsX, dIsX2, dXf, oInC, bStrI, bIntS, dTry0, gdTail, gdTailT, bMaxG, dCatch2, dRaise0, oLeS, dMaxK, dTupI, dSlS, dCatchN, dIsXN, tupOf_lst, tupOf_ref, tupOf_tup, List.map_cons, List.map_nil, List.length_cons, List.length_nil, List.cons_append, List.nil_append, List.append_nil, List.replicate, List.set_cons_zero, List.set_cons_succ, List.getElem?_cons_zero, List.getElem?_cons_succ, Option.some.injEq, exists_eq_left', exists_eq_left, exists_and_left, D.int.injEq, D.bl.injEq, D.str.injEq, D.tup.injEq, D.lst.injEq, D.ref.injEq, List.cons.injEq, and_true, true_and, reduceCtorEq, false_and, and_false, exists_false, or_false, false_or, exists_const, Bool.false_eq_true, if_true, if_false, decide_eq_true_eq, Ob.lst.injEq, Ob.slt.injEq, Ob.dic.injEq, seqD_ref, lstD_ref, seqD_tup, seqD_lst, lstD_lst, lstR_lst, Sto.set_same, Sto.set_set, atI_0, atI_1, atI_2, Nat.reduceAdd, ixN_30, ixN_32, lstD_tup, seqD_row, List.append_assoc, false_or, or_false, cut_d1, cut_t1, sz_0, sz_1, sz_2, sz_3, sz_4, sz_5, sz_6, sz_7, sz_8, sz_9, sz_10, sz_11, sz_12]
            obtain ⟨x, y, rfl, _⟩ := ts_shape (List.all_eq_true.mp e2 v hv)
            exact ⟨_, rfl, _, atI_0 _ _, hPy⟩
          · refine ⟨vs.map fun t => txt (fstD t), by rw [List.map_map]; rfl, by rw [List.length_map]; omega, fun ys hyn hym => ?_⟩
            refine ⟨_, rfl, _, atI_0 _ _, .inl ⟨_, rfl, _, pyR_int _ _, _, pyR_int _ _, rfl, rfl, ?_⟩⟩
            rw [eqv_int]
            have := nodup_len hyn hym
            rw [List.length_map] at this
            rw [show ((ys.length : Int) == (vs.length : Int)) = decide ((vs.map fun t => txt (fstD t)).Nodup) from by
              rw [← this, Bool.eq_iff_iff, beq_iff_eq, decide_eq_true_iff]
              omega]
            exact drp_of q
      · refine ⟨t, e, ?_⟩
        rw [k, if_pos (by decide)]
        rw [rl_tup hn] at q
        exact drp_of q
  · refine ⟨_, rfl, ?_⟩
    rw [if_pos (by simp)]
    rw [rl_not hn] at q
    exact drp_of q
theorem v_is_world_k10 : ∀ ds S Q E, sp_is_world_k10 ds S Q E → d_is_world_k10 (EndsD Q) (startD N_is_world_k10 ds) S := by
  rintro ds S Q E ⟨v, rfl, hv, q⟩
  simp only [d_is_world_k10, N_is_world_k10, dWkA, dTupK, dTupL, dTupIx, dDictP, dDc2, dFor, dWhile, dLc, dLc2, dDc, dNextG, iSeq, iR1, iR2, iEn, iZpA, iZ2, iZ3, dSortK, dSortKF, dSortSet, dSortSetF, dBreak, bSortT, bSortTF, bSum, bSumL, bSumLF, bMaxL, bMinL, dDicE, bSortD, bSortDF, dGet2, oInA, oNotInA, oIxA, gdSubA, dSeq, dSet, dIf, dIfS, dTst, dOp, dUn, dVar, dCB, aCons, aNil, aStar, dRet, dRetN, dNext, dDrop, dLst, dTup, dC, dAnd, dOr, dNot, dAndV, dOrV, dNotV, dPar, dAsg, gdName, gdSub, gdTup, gdCons, gdNil, gdSlot, dIsi, dIsi2, dSlot, dSetSlot, dMethSl, dMakeSl, dCall, dCallP, dBM, dFrz, dLstF, dLcF, dLc2F, dDcF, dSlF, dListVF, bListF, bListDF, bSortSF, oAddLF, oRepLF, dSl, dNoP, dPart, dListV, dTru, dOrT, EndsD, startD, oLtI, oLeI, oGtI, oGeI, oIx, oMulI, oPowI, oAddI, oSubI, oModI, oDivI, oI, oI0, oEqD, oNeD, oInD, oNotInD, oAddL, oAddT, oAddS, oRepL, bLen, bAbs, bInt, bMin2, bMax2, bAll, bAny, bTuple, bList, bListD, bSortS, mAppend, mPop, mPopAt, mExtend, mIndex, dFld, dSetFld, dAddFld, gdFld, dMeth, dMake, dPar3, dRevT, oAddTK, dSortSetT, dSortSetTF, gdLst, gdAll, dRevL, dRevLF, dYes, dFrzA, oNegI, bSortG, bSortGF, dSlK, oIsB, oNotB, bSortTS, bSortTSF, bSortI, bSortIF, iDi, dDisp, iEnS, dEi, oTimes, oEqO, oNeO, mClear, mReverse, dMethP, dMethSlP, dMakeP, dMakeSlP, oGeD, oCmpD, dSortSetBF, dSortKDF, dDcT, dLenSetT, dLenSetS, dChain, dAug, iTxt, oInS, oLtS, dDinN, dDin1, gdSubN, dSetDef, iDinK, iDinI, dDcN, dSortSetX, dSortSetXF, dSortSetXT, dSortSetXTF, dChain3, dLenSetXT, dDictN, bMinG, oIxS, dListZip, dDc2T, dSortDTF, dSortSetX0, dSortSetX0F, dRaise, dCallS, dMethS, dMethSlS, dCatch, dIsX, dIsX2, dXf, oInC, bStrI, bIntS, dTry0, gdTail, gdTailT, bMaxG, dCatch2, dRaise0, oLeS, dMaxK, dTupI, dSlS, dCatchN, dIsXN, tupOf_lst, tupOf_ref, tupOf_tup, List.map_cons, List.map_nil, List.length_cons, List.length_nil, List.cons_append, List.nil_append, List.append_nil, List.replicate, List.set_cons_zero, List.set_cons_succ, List.getElem?_cons_zero, List.getElem?_cons_succ, Option.some.injEq, exists_eq_left', exists_eq_left, exists_and_left, D.int.injEq, D.bl.injEq, D.str.injEq, D.tup.injEq, D.lst.injEq, D.ref.injEq, List.cons.injEq, and_true, true_and, reduceCtorEq, false_and, and_false, exists_false, or_false, false_or, exists_const, Bool.false_eq_true, if_true, if_false, decide_eq_true_eq, Ob.lst.injEq, Ob.slt.injEq, Ob.dic.injEq, seqD_ref, lstD_ref, seqD_tup, seqD_lst, lstD_lst, lstR_lst, Sto.set_same, Sto.set_set, atI_0, atI_1, atI_2, Nat.reduceAdd, ixN_30, ixN_32, lstD_tup, seqD_row, List.append_assoc, false_or, or_false, cut_d1, cut_t1, sz_0, sz_1, sz_2, sz_3, sz_4, sz_5, sz_6, sz_7, sz_8, sz_9, sz_10, sz_11, sz_12]
  refine c_tuple hv (fun a b e ha hb => ?_) fun hn => ?_
  · subst e
    refine ⟨_, rfl, ?_⟩
    rw [if_neg (by simp)]
    refine ⟨_, rfl, _, atI_0 _ _, ?_⟩
    rcases ha.tup_ty (S := S) with ⟨hs, rfl⟩ | ⟨hn, t, e, k⟩
    · refine ⟨"tuple", rfl, ?_⟩
      rw [if_neg (by decide)]
      refine ⟨_, rfl, _, atI_1 _ _ _, ?_⟩
      rcases hb.tup_ty (S := S) with ⟨rs, rfl⟩ | ⟨hn, t, e, k⟩
      · refine ⟨"tuple", rfl, ?_⟩
        rw [if_neg (by decide)]
        have q : Q (.bl (hs.all hdB && (upB (hs.map fun h => txt (fstD h)) && rs.all (rlB (hs.map fun h => txt (fstD h)))))) S := q
        obtain ⟨hl, hk⟩ := ha.kids
        obtain ⟨hl2, hk2⟩ := hb.kids
        refine ⟨_, rfl, _, atI_0 _ _, _, rfl, ?_⟩
        refine compW_self (fun v => .bl (hdB v)) gs_tup (small_sz (by omega)) (fun v hv S' Py hs' hPy => ?_) ⟨hs.map hdB, by rw [List.map_map]; rfl, ?_⟩
        · simp only [Tg.d, wipeD, dWkA, dTupK, dTupL, dTupIx, dDictP, dDc2, dFor, dWhile, dLc, dLc2, dDc, dNextG, iSeq, iR1, iR2, iEn, iZpA, iZ2, iZ3, dSortK, dSortKF, dSortSet, dSortSetF, dBreak, bSortT, bSortTF, bSum, bSumL, bSumLF, bMaxL, bMinL, dDicE, bSortD, bSortDF, dGet2, oInA, oNotInA, oIxA, gdSubA, dSeq, dSet, dIf, dIfS, dTst, dOp, dUn, dVar, dCB, aCons, aNil, aStar, dRet, dRetN, dNext, dDrop, dLst, dTup, dC, dAnd, dOr, dNot, dAndV, dOrV, dNotV, dPar, dAsg, gdName, gdSub, gdTup, gdCons, gdNil, gdSlot, dIsi, dIsi2, dSlot, dSetSlot, dMethSl, dMakeSl, dCall, dCallP, dBM, dFrz, dLstF, dLcF, dLc2F, dDcF, dSlF, dListVF, bListF, bListDF, bSortSF, oAddLF, oRepLF, dSl, dNoP, dPart, dListV, dTru, dOrT, EndsD, startD, oLtI, oLeI, oGtI, oGeI, oIx, oMulI, oPowI, oAddI, oSubI, oModI, oDivI, oI, oI0, oEqD, oNeD, oInD, oNotInD, oAddL, oAddT, oAddS, oRepL, bLen, bAbs, bInt, bMin2, bMax2, bAll, bAny, bTuple, bList, bListD, bSortS, mAppend, mPop, mPopAt, mExtend, mIndex, dFld, dSetFld, dAddFld, gdFld, dMeth, dMake, dPar3, dRevT, oAddTK, dSortSetT, dSortSetTF, gdLst, gdAll, dRevL, dRevLF, dYes, dFrzA, oNegI, bSortG, bSortGF, dSlK, oIsB, oNotB, bSortTS, bSortTSF, bSortI, bSortIF, iDi, dDisp, iEnS, dEi, oTimes, oEqO, oNeO, mClear, mReverse, dMethP, dMethSlP, dMakeP, dMakeSlP, oGeD, oCmpD, dSortSetBF, dSortKDF, dDcT, dLenSetT, dLenSetS, dChain, dAug, iTxt, oInS, oLtS, dDinN, dDin1, gdSubN, dSetDef, iDinK, iDinI, dDcN, dSortSetX, dSortSetXF, dSortSetXT, dSortSetXTF, dChain3, dLenSetXT, dDictN, bMinG, oIxS, dListZip, dDc2T, dSortDTF, dSortSetX0, dSortSetX0F, dRaise, dCallS, dMethS, dMethSlS, dCatch, dIsX, dIsX2, dXf, oInC, bStrI, bIntS, dTry0, gdTail, gdTailT, bMaxG, dCatch2, dRaise0, oLeS, dMaxK, dTupI, dSlS, dCatchN, dIsXN, tupOf_lst, tupOf_ref, tupOf_tup, List.map_cons, List.map_nil, List.length_cons, List.length_nil, List.cons_append, List.nil_append, List.append_nil, List.replicate, List.set_cons_zero, List.set_cons_succ, List.getElem?_cons_zero, List.getElem?_cons_succ, Option.some.injEq, exists_eq_left', exists_eq_left, exists_and_left, D.int.injEq, D.bl.injEq, D.str.injEq, D.tup.injEq, D.lst.injEq, D.ref.injEq, List.cons.injEq, and_true, true_and, reduceCtorEq, false_and, and_false, exists_false, or_false, false_or, exists_const, Bool.false_eq_true, if_true, if_false, decide_eq_true_eq, Ob.lst.injEq, Ob.slt.injEq, Ob.dic.injEq, seqD_ref, lstD_ref, seqD_tup, seqD_lst, lstD_lst, lstR_lst, Sto.set_same, Sto.set_set, atI_0, atI_1, atI_2, Nat.reduceAdd, ixN_30, ixN_32, lstD_tup, seqD_row, List.append_assoc, false_or, or_false, cut_d1, cut_t1, sz_0, sz_1, sz_2, sz_3, sz_4, sz_5, sz_6, sz_7, sz_8, sz_9, sz_10, sz_11, sz_12]
          exact ⟨v, rfl, hk v hv, hPy⟩
        rw [all_id]
        cases e2 : hs.all hdB with
        | false =>
          rw [if_pos (by decide)]
          rw [e2, Bool.false_and] at q
          exact drp_of q
        | true =>
          rw [if_neg (by decide)]
          rw [e2, Bool.true_and] at q
          refine ⟨_, rfl, _, atI_0 _ _, _, rfl, ?_⟩
          refine compW_self (fun v => .str (txt (fstD v))) gs_tup (small_sz (by omega)) (fun v hv S' Py hs' hPy => ?_) ?_
          · simp only [Tg.d, wipeD, dWkA, dTupK, dTupL, dTupIx, dDictP, dDc2, dFor, dWhile, dLc, dLc2, dDc, dNextG, iSeq, iR1, iR2, iEn, iZpA, iZ2, iZ3, dSortK, dSortKF, dSortSet, dSortSetF, dBreak, bSortT, bSortTF, bSum, bSumL, bSumLF, bMaxL, bMinL, dDicE, bSortD, bSortDF, dGet2, oInA, oNotInA, oIxA, gdSubA, dSeq, dSet, dIf, dIfS, dTst, dOp, dUn, dVar, dCB, aCons, aNil, aStar, dRet, dRetN, dNext, dDrop, dLst, dTup, dC, dAnd, dOr, dNot, dAndV, dOrV, dNotV, dPar, dAsg, gdName, gdSub, gdTup, gdCons, gdNil, gdSlot, dIsi, dIsi2, dSlot, dSetSlot, dMethSl, dMakeSl, dCall, dCallP, dBM, dFrz, dLstF, dLcF, dLc2F, dDcF, dSlF, dListVF, bListF, bListDF, bSortSF, oAddLF, oRepLF, dSl, dNoP, dPart, dListV, dTru, dOrT, EndsD, startD, oLtI, oLeI, oGtI, oGeI, oIx, oMulI, oPowI, oAddI, oSubI, oModI, oDivI, oI, oI0, oEqD, oNeD, oInD, oNotInD, oAddL, oAddT, oAddS, oRepL, bLen, bAbs, bInt, bMin2, bMax2, bAll, bAny, bTuple, bList, bListD, bSortS, mAppend, mPop, mPopAt, mExtend, mIndex, dFld, dSetFld, dAddFld, gdFld, dMeth, dMake, dPar3, dRevT, oAddTK, dSortSetT, dSortSetTF, gdLst, gdAll, dRevL, dRevLF, dYes, dFrzA, oNegI, bSortG, bSortGF, dSlK, oIsB, oNotB, bSortTS, bSortTSF, bSortI, bSortIF, iDi, dDisp, iEnS, dEi, oTimes, oEqO, oNeO, mClear, mReverse, dMethP, dMethSlP, dMakeP, dMakeSlP, oGeD, oCmpD, dSortSetBF, dSortKDF, dDcT, dLenSetT, dLenSetS, dChain, dAug, iTxt, oInS, oLtS, dDinN, dDin1, gdSubN, dSetDef, iDinK, iDinI, dDcN, dSortSetX, dSortSetXF, dSortSetXT, dSortSetXTF, dChain3, dLenSetXT, dDictN, bMinG, oIxS, dListZip, dDc2T, dSortDTF, dSortSetX0, dSortSetX0F, dRaise, dCallS, dMethS, dMethSlS, dCatch, dIsX, dIsX2, dXf, oInC, bStrI, bIntS, dTry0, gdTail, gdTailT, bMaxG, dCatch2, dRaise0, oLeS, dMaxK, dTupI, dSlS, dCatchN, dIsXN, tupOf_lst, tupOf_ref, tupOf_tup, List.map_cons, List.map_nil, List.length_cons, List.length_nil, List.cons_append, List.nil_append, List.append_nil, List.replicate, List.set_cons_zero, List.set_cons_succ, List.getElem?_cons_zero, List.getElem?_cons_succ, Option.some.injEq, exists_eq_left', exists_eq_left, exists_and_left, D.int.injEq, D.bl.injEq, D.str.injEq, D.tup.injEq, D.lst.injEq, D.ref.injEq, List.cons.injEq, and_true, true_and, reduceCtorEq, false_and, and_false, exists_false, or_false, false_or, exists_const, Bool.false_eq_true, if_true, if_false, decide_eq_true_eq, Ob.lst.injEq, Ob.slt.injEq, Ob.dic.injEq, seqD_ref, lstD_ref, seqD_tup, seqD_lst, lstD_lst, lstR_lst, Sto.set_same, Sto.set_set, atI_0, atI_1, atI_2, Nat.reduceAdd, ixN_30, ixN_32, lstD_tup, seqD_row, List.append_assoc, false_or, or_false, cut_d1, cut_t1, sz_0, sz_1, sz_2, sz_3, sz_4, sz_5, sz_6, sz_7, sz_8, sz_9, sz_10, sz_11, sz_12]
            obtain ⟨x, vs, rfl, _⟩ := hd_shape (List.all_eq_true.mp e2 v hv)
            exact ⟨_, rfl, _, atI_0 _ _, hPy⟩
          rw [show (hs.map fun v => D.str (txt (fstD v))) = (hs.map fun h => txt (fstD h)).map .str from by rw [List.map_map]; rfl]
          have hns : NsA (hs.map fun h => txt (fstD h)) := ⟨by rw [List.length_map]; omega, fun n hn => by
            obtain ⟨h, hh, rfl⟩ := List.mem_map.mp hn
            obtain ⟨x, vs, rfl, hx⟩ := hd_shape (List.all_eq_true.mp e2 h hh)
            exact nm_ok hx⟩
          refine ⟨_, _, rfl, .inr rfl, hns.1, _, rfl, ?_⟩
          cases e3 : upB (hs.map fun h => txt (fstD h)) with
          | false =>
            rw [if_neg (by decide)]
            rw [e3, Bool.false_and] at q
            exact drp_of q
          | true =>
            rw [if_pos rfl]
            rw [e3, Bool.true_and] at q
            refine ⟨_, rfl, _, atI_1 _ _ _, _, rfl, ?_⟩
            refine compW_self (fun v => .bl (rlB (hs.map fun h => txt (fstD h)) v)) gs_tup (small_sz (by omega)) (fun v hv S' Py hs' hPy => ?_) ⟨rs.map (rlB (hs.map fun h => txt (fstD h))), by rw [List.map_map]; rfl, ?_⟩
            · simp only [Tg.d, wipeD, dWkA, dTupK, dTupL, dTupIx, dDictP, dDc2, dFor, dWhile, dLc, dLc2, dDc, dNextG, iSeq, iR1, iR2, iEn, iZpA, iZ2, iZ3, dSortK, dSortKF, dSortSet, dSortSetF, dBreak, bSortT, bSortTF, bSum, bSumL, bSumLF, bMaxL, bMinL, dDicE, bSortD, bSortDF, dGet2, oInA, oNotInA, oIxA, gdSubA, dSeq, dSet, dIf, dIfS, dTst, dOp, dUn, dVar, dCB, aCons, aNil, aStar, dRet, dRetN, dNext, dDrop, dLst, dTup, dC, dAnd, dOr, dNot, dAndV, dOrV, dNotV, dPar, dAsg, gdName, gdSub, gdTup, gdCons, gdNil, gdSlot, dIsi, dIsi2, dSlot, dSetSlot, dMethSl, dMakeSl, dCall, dCallP, dBM, dFrz, dLstF, dLcF, dLc2F, dDcF, dSlF, dListVF, bListF, bListDF, bSortSF, oAddLF, oRepLF, dSl, dNoP, dPart, dListV, dTru, dOrT, EndsD, startD, oLtI, oLeI, oGtI, oGeI, oIx, oMulI, oPowI, oAddI, oSubI, oModI, oDivI, oI, oI0, oEqD, oNeD, oInD, oNotInD, oAddL, oAddT, oAddS, oRepL, bLen, bAbs, bInt, bMin2, bMax2, bAll, bAny, bTuple, bList, bListD, bSortS, mAppend, mPop, mPopAt, mExtend, mIndex, dFld, dSetFld, dAddFld, gdFld, dMeth, dMake, dPar3, dRevT, oAddTK, dSortSetT, dSortSetTF, gdLst, gdAll, dRevL, dRevLF, dYes, dFrzA, oNegI, bSortG, bSortGF, dSlK, oIsB, oNotB, bSortTS, bSortTSF, bSortI, bSortIF, iDi, dDisp, iEnS, dEi, oTimes, oEqO, oNeO, mClear, mReverse, dMethP, dMethSlP, dMakeP, dMakeSlP, oGeD, oCmpD, dSortSetBF, dSortKDF, dDcT, dLenSetT, dLenSetS, dChain, dAug, iTxt, oInS, oLtS, dDinN, dDin1, gdSubN, dSetDef, iDinK, iDinI, dDcN, dSortSetX, dSortSetXF, dSortSetXT, dSortSetXTF, dChain3, dLenSetXT, dDictN, bMinG, oIxS, dListZip, dDc2T, dSortDTF, dSortSetX0, dSortSetX0F, dRaise, dCallS, dMethS, dMethSlS, dCatch, dIsX, dIsX2, dXf, oInC, bStrI, bIntS, dTry0, gdTail, gdTailT, bMaxG, dCatch2, dRaise0, oLeS, dMaxK, dTupI, dSlS, dCatchN, dIsXN, tupOf_lst, tupOf_ref, tupOf_tup, List.map_cons, List.map_nil, List.length_cons, List.length_nil, List.cons_append, List.nil_append, List.append_nil, List.replicate, List.set_cons_zero, List.set_cons_succ, List.getElem?_cons_zero, List.getElem?_cons_succ, Option.some.injEq, exists_eq_left', exists_eq_left, exists_and_left, D.int.injEq, D.bl.injEq, D.str.injEq, D.tup.injEq, D.lst.injEq, D.ref.injEq, List.cons.injEq, and_true, true_and, reduceCtorEq, false_and, and_false, exists_false, or_false, false_or, exists_const, Bool.false_eq_true, if_true, if_false, decide_eq_true_eq, Ob.lst.injEq, Ob.slt.injEq, Ob.dic.injEq, seqD_ref, lstD_ref, seqD_tup, seqD_lst, lstD_lst, lstR_lst, Sto.set_same, Sto.set_set, atI_0, atI_1, atI_2, Nat.reduceAdd, ixN_30, ixN_32, lstD_tup, seqD_row, List.append_assoc, false_or, or_false, cut_d1, cut_t1, sz_0, sz_1, sz_2, sz_3, sz_4, sz_5, sz_6, sz_7, sz_8, sz_9, sz_10, sz_11, sz_12]
              exact ⟨v, _, rfl, hk2 v hv, hns, hPy⟩
            rw [all_id]
            exact drp_of q
      · refine ⟨t, e, ?_⟩
        rw [k, if_pos (by decide)]
        rw [net_tup (.inr hn)] at q
        exact drp_of q
    · refine ⟨t, e, ?_⟩
      rw [k, if_pos (by decide)]
      rw [net_tup (.inl hn)] at q
      exact drp_of q
  · refine ⟨_, rfl, ?_⟩
    rw [if_pos (by simp)]
    rw [net_not hn] at q
    exact drp_of q
theorem forW_self {gs : Gs} {t : Tg} {body : DS} {E : DEnds} {es : List D} {ρ : En} {S : Sto} (J : Nat → En → Sto → Prop) (h0 : J 0 ρ S)
    (h : ∀ (i : Nat) (a : D) (ρ : En) (S : Sto) (E' : DEnds), es[i]? = some a → J i ρ S → E'.rt = E.rt → E'.bk = E.nx → (∀ ρ2 S2 ρ3 S3, Wk ρ3 ρ2 → S3.sub S2 → J (i + 1) ρ3 S3 → E'.nx ρ2 S2 ∧ E'.ct ρ2 S2) → gs.ok S ∧ t.d a ρ fun ρ1 => body E' ρ1 S)
    (hf : ∀ ρ S, J es.length ρ S → gs.ok S ∧ E.nx ρ S) : forW gs t body E es ρ S := by
  have := forW_all (gs := gs) (t := t) (body := body) (E := E) (id : D → D) J es 0 h0 (fun i a ρ S E' e j e1 e2 k => by rw [Nat.zero_add] at j k; exact h i a ρ S E' e j e1 e2 k) (fun ρ S j => by rw [Nat.zero_add] at j; exact hf ρ S j)
  rw [List.map_id] at this
  exact this
theorem all_take {f : D → Bool} {es : List D} {i : Nat} {a : D} (h : es[i]? = some a) (h1 : (es.take i).all f = true) (h2 : f a = true) : (es.take (i + 1)).all f = true := by
  obtain ⟨hi, rfl⟩ := List.getElem?_eq_some_iff.mp h
  rw [List.take_add_one, List.getElem?_eq_getElem hi, List.all_append, h1]
  simp [h2]
theorem all_not {f : D → Bool} {es : List D} {i : Nat} {a : D} (h : es[i]? = some a) (h2 : f a = false) : es.all f = false := by
  rw [List.all_eq_false]
  exact ⟨a, List.mem_of_getElem? h, by rw [h2]; decide⟩
theorem not_in {S : Sto} {d : D} {ns : List Str} {neg : Bool} (h : An d) (hn : ∀ x, d ≠ .str x) (hns : NsA ns) : ∃ p qs, pyR S d = some p ∧ pyR S (.lst (ns.map .str)) = some (.list qs) ∧ SeqAt.shaped p = true ∧ SeqAt.shaped (.list qs) = true ∧ (qs.any fun z => PyData.eqv z p) = false := by
  obtain ⟨p, e, hs⟩ := h.py
  refine ⟨p, ns.map PyData.str, pyR_of e, pyR_of (pyD_lst (pyDs_strs ns)), hs, (shp_list (n := 0) (shp_map fun n hn => shp_str (hns.2 n hn))).ok, ?_⟩
  rw [List.any_map, List.any_eq_false]
  intro x hx
  have hp : ∀ y, p ≠ .str y := fun y ey => by
    subst ey
    obtain ⟨n, hn1, h1, h2⟩ := h
    match n, d, h1, e with
    | n + 1, .str x, _, _ => exact hn x rfl
    | n + 1, .non, _, e => cases e
    | n + 1, .bl _, _, e => cases e
    | n + 1, .int _, _, e => cases e
    | n + 1, .tup ds, h1, e =>
      obtain ⟨p2, e2, _⟩ := th_py h1
      obtain ⟨ps, e3, _⟩ := th_py.th_pys (L := 300) (n := n) (ds := ds) fun d hd => (thD h1).2 d hd
      rw [pyD_tup e3] at e
      cases e
    | n + 1, .lst ds, h1, e =>
      obtain ⟨ps, e3, _⟩ := th_py.th_pys (L := 300) (n := n) (ds := ds) fun d hd => (thD h1).2 d hd
      rw [pyD_lst e3] at e
      cases e
  cases p <;> first | (simp [PyData.eqv]; done) | exact absurd rfl (hp _)
section
variable {S : Sto} {E : DEnds} {hs rs : List D} {b1 b2 b3 b4 b5 b6 b7 : Option D}
theorem seen_in {l : Nat} {ts : List D} {tg : List Str} {V a2 a3 : Option D} (ht : NsA tg) (hx : An (.tup ts)) (hl : S l = none)
    (bad : (ts.all (tsB tg) && decide ((ts.map fun t => txt (fstD t)).Nodup)) = false → ∀ S3, S.sub S3 → E.rt (.bl false) S3)
    (good : (ts.all (tsB tg) && decide ((ts.map fun t => txt (fstD t)).Nodup)) = true → ∀ b5 S3, S.sub S3 → E.nx [V, a2, some (.lst (tg.map .str)), a3, some (.ref l), b5, b6, b7] S3) :
    forW (gsOf (.tup ts) (.lst ts)) (.one 5) (dSeq
                      (dIfS
                        (dOr (dNot (dTst (dIsi "tuple" (dVar 5))))
                          (dOr (dTst (dOp oNeD (dCB bLen (aCons (dVar 5) aNil)) (dC (D.int 2))))
                            (dOr (dTst (dOp oNotInA (dOp oIx (dVar 5) (dC (D.int 0))) (dVar 2)))
                              (dTst (dOp oInA (dOp oIx (dVar 5) (dC (D.int 0))) (dVar 4))))))
                        (dRet (dC (D.bl false))) dNext)
                      (dSeq
                        (dIfS
                          (dOr (dNot (dTst (dIsi "str" (dOp oIx (dVar 5) (dC (D.int 0))))))
                            (dNot (dTst (dIsi "str" (dOp oIx (dVar 5) (dC (D.int 1)))))))
                          (dRet (dC (D.bl false))) dNext)
                        (dSeq
                          (dIfS
                            (dAnd (dTst (dOp oNeD (dOp oIx (dVar 5) (dC (D.int 1))) (dC (D.str (Str.ofString "")))))
                              (dNot (dTst (dCall sp__law_is_name_k10 noX (aCons (dOp oIx (dVar 5) (dC (D.int 1))) aNil)))))
                            (dRet (dC (D.bl false))) dNext)
                          (dDrop (dBM "list" mAppend (dVar 4) (aCons (dOp oIx (dVar 5) (dC (D.int 0))) aNil)))))) E ts
      [V, a2, some (.lst (tg.map .str)), a3, some (.ref l), b5, b6, b7] (S.set l (.lst [])) := by
  obtain ⟨hl3, hk⟩ := hx.kids
  refine forW_self (fun n ρ S' => ∃ b5, ρ = [V, a2, some (.lst (tg.map .str)), a3, some (.ref l), b5, b6, b7] ∧ S' = S.set l (.lst (((ts.take n).map fun t => txt (fstD t)).map .str)) ∧ (ts.take n).all (tsB tg) = true ∧ ((ts.take n).map fun t => txt (fstD t)).Nodup) ⟨_, rfl, rfl, rfl, List.nodup_nil⟩ ?_ ?_
  · rintro i a ρ S2 E' hi ⟨b5, rfl, rfl, hal, hnd⟩ hrt hbk hnx
    have hA := hk a (List.mem_of_getElem? hi)
    have hi2 := (List.getElem?_eq_some_iff.mp hi).1
    have hts : ts.take (i + 1) = ts.take i ++ [a] := by
      obtain ⟨_, e⟩ := List.getElem?_eq_some_iff.mp hi
      rw [List.take_add_one, hi]
      rfl
    have bad1 : tsB tg a = false → E'.rt (.bl false) (S.set l (.lst (((ts.take i).map fun t => txt (fstD t)).map .str))) := fun h => by
      rw [hrt]
      refine bad ?_ _ (Sto.sub_set hl)
      rw [all_not hi h]
      rfl
    have bad2 : txt (fstD a) ∈ ((ts.take i).map fun t => txt (fstD t)) → E'.rt (.bl false) (S.set l (.lst (((ts.take i).map fun t => txt (fstD t)).map .str))) := fun h => by
      rw [hrt]
      refine bad ?_ _ (Sto.sub_set hl)
      rw [Bool.and_eq_false_iff]
      refine .inr (decide_eq_false fun z => ?_)
      rw [← List.take_append_drop (i + 1) ts, hts, List.map_append, List.map_append] at z
      have z := (List.nodup_append.mp (List.nodup_append.mp z).1).2.2 _ h (txt (fstD a)) (by simp)
      exact z rfl
    have good1 : tsB tg a = true → txt (fstD a) ∉ ((ts.take i).map fun t => txt (fstD t)) → ∀ b5, E'.nx [V, a2, some (.lst (tg.map .str)), a3, some (.ref l), b5, b6, b7] (S.set l (.lst (((ts.take (i + 1)).map fun t => txt (fstD t)).map .str))) := fun h h2 b5 => (hnx _ _ _ _ (Wk.refl _) (Sto.sub_refl _) ⟨_, rfl, rfl, all_take hi hal h, by
      rw [hts, List.map_append]
      refine List.nodup_append.mpr ⟨hnd, by simp, fun x hx y hy => ?_⟩
      rw [List.map_cons, List.map_nil, List.mem_singleton] at hy
      subst hy
      exact fun e => h2 (e ▸ hx)⟩).1
    clear hrt hbk hnx bad good
    refine ⟨gs_tup, ?_⟩
    simp only [Tg.d, setsE, dWkA, dTupK, dTupL, dTupIx, dDictP, dDc2, dFor, dWhile, dLc, dLc2, dDc, dNextG, iSeq, iR1, iR2, iEn, iZpA, iZ2, iZ3, dSortK, dSortKF, dSortSet, dSortSetF, dBreak, bSortT, bSortTF, bSum, bSumL, bSumLF, bMaxL, bMinL, dDicE, bSortD, bSortDF, dGet2, oInA, oNotInA, oIxA, gdSubA, dSeq, dSet, dIf, dIfS, dTst, dOp, dUn, dVar, dCB, aCons, aNil, aStar, dRet, dRetN, dNext, dDrop, dLst, dTup, dC, dAnd, dOr, dNot, dAndV, dOrV, dNotV, dPar, dAsg, gdName, gdSub, gdTup, gdCons, gdNil, gdSlot, dIsi, dIsi2, dSlot, dSetSlot, dMethSl, dMakeSl, dCall, dCallP, dBM, dFrz, dLstF, dLcF, dLc2F, dDcF, dSlF, dListVF, bListF, bListDF, bSortSF, oAddLF, oRepLF, dSl, dNoP, dPart, dListV, dTru, dOrT, EndsD, startD, oLtI, oLeI, oGtI, oGeI, oIx, oMulI, oPowI, oAddI, oSubI, oModI, oDivI, oI, oI0, oEqD, oNeD, oInD, oNotInD, oAddL, oAddT, oAddS, oRepL, bLen, bAbs, bInt, bMin2, bMax2, bAll, bAny, bTuple, bList, bListD, bSortS, mAppend, mPop, mPopAt, mExtend, mIndex, dFld, dSetFld, dAddFld, gdFld, dMeth, dMake, dPar3, dRevT, oAddTK, dSortSetT, dSortSetTF, gdLst, gdAll, dRevL, dRevLF, dYes, dFrzA, oNegI, bSortG, bSortGF, dSlK, oIsB, oNotB, bSortTS, bSortTSF, bSortI, bSortIF, iDi, dDisp, iEnS, dEi, oTimes, oEqO, oNeO, mClear, mReverse, dMethP, dMethSlP, dMakeP, dMakeSlP, oGeD, oCmpD, dSortSetBF, dSortKDF, dDcT, dLenSetT, dLenSetS, dChain, dAug, iTxt, oInS, oLtS, dDinN, dDin1, gdSubN, dSetDef, iDinK, iDinI, dDcN, dSortSetX, dSortSetXF, dSortSetXT, dSortSetXTF, dChain3, dLenSetXT, dDictN, bMinG, oIxS, dListZip, dDc2T, dSortDTF, dSortSetX0, dSortSetX0F, dRaise, dCallS, dMethS, dMethSlS, dCatch, dIsX, dIsX2, dXf, oInC, bStrI, bIntS, dTry0, gdTail, gdTailT, bMaxG, dCatch2, dRaise0, oLeS, dMaxK, dTupI, dSlS, dCatchN, dIsXN, tupOf_lst, tupOf_ref, tupOf_tup, List.map_cons, List.map_nil, List.length_cons, List.length_nil, List.cons_append, List.nil_append, List.append_nil, List.replicate, List.set_cons_zero, List.set_cons_succ, List.getElem?_cons_zero, List.getElem?_cons_succ, Option.some.injEq, exists_eq_left', exists_eq_left, exists_and_left, D.int.injEq, D.bl.injEq, D.str.injEq, D.tup.injEq, D.lst.injEq, D.ref.injEq, List.cons.injEq, and_true, true_and, reduceCtorEq, false_and, and_false, exists_false, or_false, false_or, exists_const, Bool.false_eq_true, if_true, if_false, decide_eq_true_eq, Ob.lst.injEq, Ob.slt.injEq, Ob.dic.injEq, seqD_ref, lstD_ref, seqD_tup, seqD_lst, lstD_lst, lstR_lst, Sto.set_same, Sto.set_set, atI_0, atI_1, atI_2, Nat.reduceAdd, ixN_30, ixN_32, lstD_tup, seqD_row, List.append_assoc, false_or, or_false, cut_d1, cut_t1, sz_0, sz_1, sz_2, sz_3, sz_4, sz_5, sz_6, sz_7, sz_8, sz_9, sz_10, sz_11, sz_12]
    rcases hA.pair (S := S.set l (.lst (((ts.take i).map fun t => txt (fstD t)).map .str))) with ⟨x, y, rfl, hx, hy⟩ | ⟨hn, ⟨ds, rfl, h2, h3⟩ | ⟨t, e, k⟩⟩
    · refine ⟨"tuple", rfl, ?_⟩
      rw [if_neg (by decide)]
      refine .inl ⟨_, rfl, _, pyR_int _ _, _, pyR_int _ _, rfl, rfl, ?_⟩
      rw [if_neg (by rw [eqv_int]; simp)]
      refine ⟨_, rfl, _, atI_0 _ _, ?_⟩
      rcases hx.str_ty (S := S) with ⟨z, rfl⟩ | ⟨hn, _⟩
      · refine .inr (.inl ⟨z, tg, rfl, rfl, _, rfl, ?_⟩)
        by_cases hz : z ∈ tg
        · rw [if_neg (by simp [hz])]
          refine ⟨_, rfl, _, atI_0 _ _, .inr (.inl ⟨z, (ts.take i).map fun t => txt (fstD t), rfl, by rw [seqD_ref, Sto.set_same], _, rfl, ?_⟩)⟩
          by_cases hz2 : z ∈ (ts.take i).map fun t => txt (fstD t)
          · rw [if_pos (by simpa using hz2)]
            exact bad2 hz2
          · rw [if_neg (by simpa using hz2)]
            refine ⟨_, rfl, _, atI_0 _ _, "str", rfl, ?_⟩
            rw [if_neg (by decide)]
            refine ⟨_, rfl, _, atI_1 _ _ _, ?_⟩
            rcases hy.str_ty (S := S.set l (.lst (((ts.take i).map fun t => txt (fstD t)).map .str))) with ⟨u, rfl⟩ | ⟨hn, t, e, k⟩
            · refine ⟨"str", rfl, ?_⟩
              rw [if_neg (by decide)]
              refine ⟨_, rfl, _, atI_1 _ _ _, _, pyR_str _ _, _, pyR_str _ _, (shp_str hy.txt.1).ok, (shp_str (by decide +kernel)).ok, ?_⟩
              have ht2 : tsB tg (.tup [.str z, .str u]) = (decide (z ∈ tg) && (decide (u = "") || isNm u)) := rfl
              rw [decide_eq_true hz, Bool.true_and] at ht2
              have app : tsB tg (.tup [.str z, .str u]) = true → tyB (S.set l (.lst (((ts.take i).map fun t => txt (fstD t)).map .str))) "list" (.ref l) ∧ ∃ ds, seqD (S.set l (.lst (((ts.take i).map fun t => txt (fstD t)).map .str))) (.tup [.str z, .str u]) = some ds ∧ ∃ x, atI ds 0 = some x ∧ ∃ x_1, (S.set l (.lst (((ts.take i).map fun t => txt (fstD t)).map .str))) l = some (.lst x_1) ∧ x_1.length < sizeLine ∧ E'.nx [V, a2, some (.lst (tg.map .str)), a3, some (.ref l), some (.tup [.str z, .str u]), b6, b7] ((S.set l (.lst (((ts.take i).map fun t => txt (fstD t)).map .str))).set l (.lst (x_1 ++ [x]))) := fun h => by
                have hsl := sizeLine_eq
                refine ⟨tyB_at Sto.set_same, _, rfl, _, atI_0 _ _, _, Sto.set_same, by rw [List.length_map, List.length_map, List.length_take]; omega, ?_⟩
                have := good1 h hz2 (some (.tup [.str z, .str u]))
                rw [hts, List.map_append, List.map_append] at this
                rw [Sto.set_set]
                exact this
              by_cases hu : u = ""
              · rw [if_neg (by rw [eqv_str]; simp [hu])]
                rw [decide_eq_true hu, Bool.true_or] at ht2
                exact app ht2
              · rw [if_pos (by rw [eqv_str, decide_eq_false hu]; rfl)]
                rw [decide_eq_false hu, Bool.false_or] at ht2
                refine ⟨_, rfl, _, atI_1 _ _ _, _, rfl, hy, _, rfl, ?_⟩
                cases e6 : nmB (.str u) with
                | false =>
                  rw [if_pos (by decide)]
                  exact bad1 (ht2.trans e6)
                | true =>
                  rw [if_neg (by decide)]
                  exact app (ht2.trans e6)
            · refine ⟨t, e, ?_⟩
              rw [k, if_pos (by decide)]
              exact bad1 (ts_str2 hn)
        · rw [if_pos (by simp [hz])]
          exact bad1 (ts_in hz)
      · obtain ⟨p, qs, g1, g2, g3, g4, g5⟩ := not_in (S := S.set l (.lst (((ts.take i).map fun t => txt (fstD t)).map .str))) (neg := true) hx hn ht
        refine .inl ⟨p, g1, qs, g2, g3, g4, ?_⟩
        rw [g5, if_pos (by decide)]
        exact bad1 (ts_str hn)
    · refine ⟨"tuple", rfl, ?_⟩
      rw [if_neg (by decide)]
      refine .inl ⟨_, rfl, _, pyR_int _ _, _, pyR_int _ _, rfl, rfl, ?_⟩
      rw [if_pos (by rw [eqv_int]; simp; omega)]
      exact bad1 (ts_not hn)
    · refine ⟨t, e, ?_⟩
      rw [k, if_pos (by decide)]
      exact bad1 (ts_not hn)
  · rintro ρ S2 ⟨b5, rfl, rfl, hal, hnd⟩
    rw [List.take_length] at hal hnd ⊢
    exact ⟨gs_tup, good (by rw [hal, decide_eq_true hnd]; rfl) _ _ (Sto.sub_set hl)⟩
theorem net3 {V : D} {tags : List Str} (hb : An (.tup rs)) (ht : NsA tags) (hV : V = .tup [.tup hs, .tup rs]) (bad : rs.all (rlB tags) = false → ∀ S', S.sub S' → E.rt (.bl false) S') (good : rs.all (rlB tags) = true → ∀ b3 b4 b5 S', S.sub S' → E.nx [some V, b1, some (.lst (tags.map .str)), b3, b4, b5, b6, b7] S') : t__law_is_net_k10 E [some V, b1, some (.lst (tags.map .str)), b3, b4, b5, b6, b7] S := by
  subst hV
  simp only [t__law_is_net_k10, dWkA, dTupK, dTupL, dTupIx, dDictP, dDc2, dFor, dWhile, dLc, dLc2, dDc, dNextG, iSeq, iR1, iR2, iEn, iZpA, iZ2, iZ3, dSortK, dSortKF, dSortSet, dSortSetF, dBreak, bSortT, bSortTF, bSum, bSumL, bSumLF, bMaxL, bMinL, dDicE, bSortD, bSortDF, dGet2, oInA, oNotInA, oIxA, gdSubA, dSeq, dSet, dIf, dIfS, dTst, dOp, dUn, dVar, dCB, aCons, aNil, aStar, dRet, dRetN, dNext, dDrop, dLst, dTup, dC, dAnd, dOr, dNot, dAndV, dOrV, dNotV, dPar, dAsg, gdName, gdSub, gdTup, gdCons, gdNil, gdSlot, dIsi, dIsi2, dSlot, dSetSlot, dMethSl, dMakeSl, dCall, dCallP, dBM, dFrz, dLstF, dLcF, dLc2F, dDcF, dSlF, dListVF, bListF, bListDF, bSortSF, oAddLF, oRepLF, dSl, dNoP, dPart, dListV, dTru, dOrT, EndsD, startD, oLtI, oLeI, oGtI, oGeI, oIx, oMulI, oPowI, oAddI, oSubI, oModI, oDivI, oI, oI0, oEqD, oNeD, oInD, oNotInD, oAddL, oAddT, oAddS, oRepL, bLen, bAbs, bInt, bMin2, bMax2, bAll, bAny, bTuple, bList, bListD, bSortS, mAppend, mPop, mPopAt, mExtend, mIndex, dFld, dSetFld, dAddFld, gdFld, dMeth, dMake, dPar3, dRevT, oAddTK, dSortSetT, dSortSetTF, gdLst, gdAll, dRevL, dRevLF, dYes, dFrzA, oNegI, bSortG, bSortGF, dSlK, oIsB, oNotB, bSortTS, bSortTSF, bSortI, bSortIF, iDi, dDisp, iEnS, dEi, oTimes, oEqO, oNeO, mClear, mReverse, dMethP, dMethSlP, dMakeP, dMakeSlP, oGeD, oCmpD, dSortSetBF, dSortKDF, dDcT, dLenSetT, dLenSetS, dChain, dAug, iTxt, oInS, oLtS, dDinN, dDin1, gdSubN, dSetDef, iDinK, iDinI, dDcN, dSortSetX, dSortSetXF, dSortSetXT, dSortSetXTF, dChain3, dLenSetXT, dDictN, bMinG, oIxS, dListZip, dDc2T, dSortDTF, dSortSetX0, dSortSetX0F, dRaise, dCallS, dMethS, dMethSlS, dCatch, dIsX, dIsX2, dXf, oInC, bStrI, bIntS, dTry0, gdTail, gdTailT, bMaxG, dCatch2, dRaise0, oLeS, dMaxK, dTupI, dSlS, dCatchN, dIsXN, tupOf_lst, tupOf_ref, tupOf_tup, List.map_cons, List.map_nil, List.length_cons, List.length_nil, List.cons_append, List.nil_append, List.append_nil, List.replicate, List.set_cons_zero, List.set_cons_succ, List.getElem?_cons_zero, List.getElem?_cons_succ, Option.some.injEq, exists_eq_left', exists_eq_left, exists_and_left, D.int.injEq, D.bl.injEq, D.str.injEq, D.tup.injEq, D.lst.injEq, D.ref.injEq, List.cons.injEq, and_true, true_and, reduceCtorEq, false_and, and_false, exists_false, or_false, false_or, exists_const, Bool.false_eq_true, if_true, if_false, decide_eq_true_eq, Ob.lst.injEq, Ob.slt.injEq, Ob.dic.injEq, seqD_ref, lstD_ref, seqD_tup, seqD_lst, lstD_lst, lstR_lst, Sto.set_same, Sto.set_set, atI_0, atI_1, atI_2, Nat.reduceAdd, ixN_30, ixN_32, lstD_tup, seqD_row, List.append_assoc, false_or, or_false, cut_d1, cut_t1, sz_0, sz_1, sz_2, sz_3, sz_4, sz_5, sz_6, sz_7, sz_8, sz_9, sz_10, sz_11, sz_12]
  obtain ⟨hl, hk⟩ := hb.kids
  refine forW_self (fun n ρ S' => (∃ b3 b4 b5, ρ = [some (.tup [.tup hs, .tup rs]), b1, some (.lst (tags.map .str)), b3, b4, b5, b6, b7]) ∧ S.sub S' ∧ (rs.take n).all (rlB tags) = true) ⟨⟨_, _, _, rfl⟩, Sto.sub_refl _, rfl⟩ ?_ ?_
  · rintro i a ρ S2 E' hi ⟨⟨b3, b4, b5, rfl⟩, hsb, hal⟩ hrt hbk hnx
    have hA := hk a (List.mem_of_getElem? hi)
    have bad' : rlB tags a = false → ∀ S3, S2.sub S3 → E'.rt (.bl false) S3 := fun h S3 hs3 => by
      rw [hrt]
      exact bad (all_not hi h) S3 (Sto.sub_trans hsb hs3)
    have good' : rlB tags a = true → ∀ b3 b4 b5 S3, S2.sub S3 → E'.nx [some (.tup [.tup hs, .tup rs]), b1, some (.lst (tags.map .str)), b3, b4, b5, b6, b7] S3 := fun h b3 b4 b5 S3 hs3 => (hnx _ _ _ _ (Wk.refl _) (Sto.sub_refl _) ⟨⟨_, _, _, rfl⟩, Sto.sub_trans hsb hs3, all_take hi hal h⟩).1
    clear hrt hbk hnx bad good
    refine ⟨gs_tup, ?_⟩
    simp only [Tg.d, setsE, dWkA, dTupK, dTupL, dTupIx, dDictP, dDc2, dFor, dWhile, dLc, dLc2, dDc, dNextG, iSeq, iR1, iR2, iEn, iZpA, iZ2, iZ3, dSortK, dSortKF, dSortSet, dSortSetF, dBreak, bSortT, bSortTF, bSum, bSumL, bSumLF, bMaxL, bMinL, dDicE, bSortD, bSortDF, dGet2, oInA, oNotInA, oIxA, gdSubA, dSeq, dSet, dIf, dIfS, dTst, dOp, dUn, dVar, dCB, aCons, aNil, aStar, dRet, dRetN, dNext, dDrop, dLst, dTup, dC, dAnd, dOr, dNot, dAndV, dOrV, dNotV, dPar, dAsg, gdName, gdSub, gdTup, gdCons, gdNil, gdSlot, dIsi, dIsi2, dSlot, dSetSlot, dMethSl, dMakeSl, dCall, dCallP, dBM, dFrz, dLstF, dLcF, dLc2F, dDcF, dSlF, dListVF, bListF, bListDF, bSortSF, oAddLF, oRepLF, dSl, dNoP, dPart, dListV, dTru, dOrT, EndsD, startD, oLtI, oLeI, oGtI, oGeI, oIx, oMulI, oPowI, oAddI, oSubI, oModI, oDivI, oI, oI0, oEqD, oNeD, oInD, oNotInD, oAddL, oAddT, oAddS, oRepL, bLen, bAbs, bInt, bMin2, bMax2, bAll, bAny, bTuple, bList, bListD, bSortS, mAppend, mPop, mPopAt, mExtend, mIndex, dFld, dSetFld, dAddFld, gdFld, dMeth, dMake, dPar3, dRevT, oAddTK, dSortSetT, dSortSetTF, gdLst, gdAll, dRevL, dRevLF, dYes, dFrzA, oNegI, bSortG, bSortGF, dSlK, oIsB, oNotB, bSortTS, bSortTSF, bSortI, bSortIF, iDi, dDisp, iEnS, dEi, oTimes, oEqO, oNeO, mClear, mReverse, dMethP, dMethSlP, dMakeP, dMakeSlP, oGeD, oCmpD, dSortSetBF, dSortKDF, dDcT, dLenSetT, dLenSetS, dChain, dAug, iTxt, oInS, oLtS, dDinN, dDin1, gdSubN, dSetDef, iDinK, iDinI, dDcN, dSortSetX, dSortSetXF, dSortSetXT, dSortSetXTF, dChain3, dLenSetXT, dDictN, bMinG, oIxS, dListZip, dDc2T, dSortDTF, dSortSetX0, dSortSetX0F, dRaise, dCallS, dMethS, dMethSlS, dCatch, dIsX, dIsX2, dXf, oInC, bStrI, bIntS, dTry0, gdTail, gdTailT, bMaxG, dCatch2, dRaise0, oLeS, dMaxK, dTupI, dSlS, dCatchN, dIsXN, tupOf_lst, tupOf_ref, tupOf_tup, List.map_cons, List.map_nil, List.length_cons, List.length_nil, List.cons_append, List.nil_append, List.append_nil, List.replicate, List.set_cons_zero, List.set_cons_succ, List.getElem?_cons_zero, List.getElem?_cons_succ, Option.some.injEq, exists_eq_left', exists_eq_left, exists_and_left, D.int.injEq, D.bl.injEq, D.str.injEq, D.tup.injEq, D.lst.injEq, D.ref.injEq, List.cons.injEq, and_true, true_and, reduceCtorEq, false_and, and_false, exists_false, or_false, false_or, exists_const, Bool.false_eq_true, if_true, if_false, decide_eq_true_eq, Ob.lst.injEq, Ob.slt.injEq, Ob.dic.injEq, seqD_ref, lstD_ref, seqD_tup, seqD_lst, lstD_lst, lstR_lst, Sto.set_same, Sto.set_set, atI_0, atI_1, atI_2, Nat.reduceAdd, ixN_30, ixN_32, lstD_tup, seqD_row, List.append_assoc, false_or, or_false, cut_d1, cut_t1, sz_0, sz_1, sz_2, sz_3, sz_4, sz_5, sz_6, sz_7, sz_8, sz_9, sz_10, sz_11, sz_12]
    rcases hA.pair (S := S2) with ⟨x, y, rfl, hx, hy⟩ | ⟨hn, ⟨ds, rfl, h2, h3⟩ | ⟨t, e, k⟩⟩
    · refine ⟨"tuple", rfl, ?_⟩
      rw [if_neg (by decide)]
      refine .inl ⟨_, rfl, _, pyR_int _ _, _, pyR_int _ _, rfl, rfl, ?_⟩
      rw [if_neg (by rw [eqv_int]; simp)]
      refine ⟨_, rfl, _, atI_1 _ _ _, y, rfl, hy, _, rfl, ?_⟩
      cases e1 : nmB y with
      | false =>
        rw [if_pos (by decide)]
        exact bad' (rl_nm e1) _ (Sto.sub_refl _)
      | true =>
        rw [if_neg (by decide)]
        refine ⟨_, rfl, _, atI_0 _ _, ?_⟩
        rcases hx.tup_ty (S := S2) with ⟨ts, rfl⟩ | ⟨hn, t, e, k⟩
        · refine ⟨"tuple", rfl, ?_⟩
          rw [if_neg (by decide)]
          intro l hl2
          refine ⟨_, rfl, _, atI_0 _ _, _, rfl, ?_⟩
          have s2 : S2.sub (S2.set l (.lst [])) := Sto.sub_set hl2
          have he : rlB tags (.tup [.tup ts, y]) = (nmB y && (ts.all (tsB tags) && decide ((ts.map fun t => txt (fstD t)).Nodup))) := rfl
          rw [e1, Bool.true_and] at he
          refine seen_in ht hx hl2 (fun h S3 s3 => bad' ?_ S3 s3) fun h b5 S3 s3 => good' (he.trans h) _ _ _ S3 s3
          rw [he]
          exact h
        · refine ⟨t, e, ?_⟩
          rw [k, if_pos (by decide)]
          exact bad' (rl_tup hn) _ (Sto.sub_refl _)
    · refine ⟨"tuple", rfl, ?_⟩
      rw [if_neg (by decide)]
      refine .inl ⟨_, rfl, _, pyR_int _ _, _, pyR_int _ _, rfl, rfl, ?_⟩
      rw [if_pos (by rw [eqv_int]; simp; omega)]
      exact bad' (rl_not hn) _ (Sto.sub_refl _)
    · refine ⟨t, e, ?_⟩
      rw [k, if_pos (by decide)]
      exact bad' (rl_not hn) _ (Sto.sub_refl _)
  · rintro ρ S2 ⟨⟨b3, b4, b5, rfl⟩, hsb, hal⟩
    rw [List.take_length] at hal
    exact ⟨gs_tup, good hal _ _ _ _ hsb⟩
theorem net1 (ha : An (.tup hs)) (hb : An (.tup rs)) (q : ∀ S', S.sub S' → E.rt (.bl (netB (.tup [.tup hs, .tup rs]))) S') : t3__law_is_net_k10 E [some (.tup [.tup hs, .tup rs]), b1, b2, b3, b4, b5, b6, b7] S := by
  simp only [t3__law_is_net_k10, dWkA, dTupK, dTupL, dTupIx, dDictP, dDc2, dFor, dWhile, dLc, dLc2, dDc, dNextG, iSeq, iR1, iR2, iEn, iZpA, iZ2, iZ3, dSortK, dSortKF, dSortSet, dSortSetF, dBreak, bSortT, bSortTF, bSum, bSumL, bSumLF, bMaxL, bMinL, dDicE, bSortD, bSortDF, dGet2, oInA, oNotInA, oIxA, gdSubA, dSeq, dSet, dIf, dIfS, dTst, dOp, dUn, dVar, dCB, aCons, aNil, aStar, dRet, dRetN, dNext, dDrop, dLst, dTup, dC, dAnd, dOr, dNot, dAndV, dOrV, dNotV, dPar, dAsg, gdName, gdSub, gdTup, gdCons, gdNil, gdSlot, dIsi, dIsi2, dSlot, dSetSlot, dMethSl, dMakeSl, dCall, dCallP, dBM, dFrz, dLstF, dLcF, dLc2F, dDcF, dSlF, dListVF, bListF, bListDF, bSortSF, oAddLF, oRepLF, dSl, dNoP, dPart, dListV, dTru, dOrT, EndsD, startD, oLtI, oLeI, oGtI, oGeI, oIx, oMulI, oPowI, oAddI, oSubI, oModI, oDivI, oI, oI0, oEqD, oNeD, oInD, oNotInD, oAddL, oAddT, oAddS, oRepL, bLen, bAbs, bInt, bMin2, bMax2, bAll, bAny, bTuple, bList, bListD, bSortS, mAppend, mPop, mPopAt, mExtend, mIndex, dFld, dSetFld, dAddFld, gdFld, dMeth, dMake, dPar3, dRevT, oAddTK, dSortSetT, dSortSetTF, gdLst, gdAll, dRevL, dRevLF, dYes, dFrzA, oNegI, bSortG, bSortGF, dSlK, oIsB, oNotB, bSortTS, bSortTSF, bSortI, bSortIF, iDi, dDisp, iEnS, dEi, oTimes, oEqO, oNeO, mClear, mReverse, dMethP, dMethSlP, dMakeP, dMakeSlP, oGeD, oCmpD, dSortSetBF, dSortKDF, dDcT, dLenSetT, dLenSetS, dChain, dAug, iTxt, oInS, oLtS, dDinN, dDin1, gdSubN, dSetDef, iDinK, iDinI, dDcN, dSortSetX, dSortSetXF, dSortSetXT, dSortSetXTF, dChain3, dLenSetXT, dDictN, bMinG, oIxS, dListZip, dDc2T, dSortDTF, dSortSetX0, dSortSetX0F, dRaise, dCallS, dMethS, dMethSlS, dCatch, dIsX, dIsX2, dXf, oInC, bStrI, bIntS, dTry0, gdTail, gdTailT, bMaxG, dCatch2, dRaise0, oLeS, dMaxK, dTupI, dSlS, dCatchN, dIsXN, tupOf_lst, tupOf_ref, tupOf_tup, List.map_cons, List.map_nil, List.length_cons, List.length_nil, List.cons_append, List.nil_append, List.append_nil, List.replicate, List.set_cons_zero, List.set_cons_succ, List.getElem?_cons_zero, List.getElem?_cons_succ, Option.some.injEq, exists_eq_left', exists_eq_left, exists_and_left, D.int.injEq, D.bl.injEq, D.str.injEq, D.tup.injEq, D.lst.injEq, D.ref.injEq, List.cons.injEq, and_true, true_and, reduceCtorEq, false_and, and_false, exists_false, or_false, false_or, exists_const, Bool.false_eq_true, if_true, if_false, decide_eq_true_eq, Ob.lst.injEq, Ob.slt.injEq, Ob.dic.injEq, seqD_ref, lstD_ref, seqD_tup, seqD_lst, lstD_lst, lstR_lst, Sto.set_same, Sto.set_set, atI_0, atI_1, atI_2, Nat.reduceAdd, ixN_30, ixN_32, lstD_tup, seqD_row, List.append_assoc, false_or, or_false, cut_d1, cut_t1, sz_0, sz_1, sz_2, sz_3, sz_4, sz_5, sz_6, sz_7, sz_8, sz_9, sz_10, sz_11, sz_12]
  obtain ⟨hl, hk⟩ := ha.kids
  refine forW_self (fun n ρ S' => (∃ b1, ρ = [some (.tup [.tup hs, .tup rs]), b1, b2, b3, b4, b5, b6, b7]) ∧ S.sub S' ∧ (hs.take n).all hdB = true) ⟨⟨_, rfl⟩, Sto.sub_refl _, rfl⟩ ?_ ?_
  · rintro i a ρ S2 E' hi ⟨⟨b1, rfl⟩, hsb, hal⟩ hrt hbk hnx
    have hA := hk a (List.mem_of_getElem? hi)
    have bad : hdB a = false → E'.rt (.bl false) S2 := fun h => by
      have := q S2 hsb
      rw [show netB (.tup [.tup hs, .tup rs]) = false from by
        show (hs.all hdB && _) = false
        rw [all_not hi h]
        rfl] at this
      rw [hrt]
      exact this
    have good : hdB a = true → ∀ b1, E'.nx [some (.tup [.tup hs, .tup rs]), b1, b2, b3, b4, b5, b6, b7] S2 := fun h b1 => (hnx _ _ _ _ (Wk.refl _) (Sto.sub_refl _) ⟨⟨_, rfl⟩, hsb, all_take hi hal h⟩).1
    clear hrt hbk hnx q
    refine ⟨gs_tup, ?_⟩
    simp only [Tg.d, setsE, dWkA, dTupK, dTupL, dTupIx, dDictP, dDc2, dFor, dWhile, dLc, dLc2, dDc, dNextG, iSeq, iR1, iR2, iEn, iZpA, iZ2, iZ3, dSortK, dSortKF, dSortSet, dSortSetF, dBreak, bSortT, bSortTF, bSum, bSumL, bSumLF, bMaxL, bMinL, dDicE, bSortD, bSortDF, dGet2, oInA, oNotInA, oIxA, gdSubA, dSeq, dSet, dIf, dIfS, dTst, dOp, dUn, dVar, dCB, aCons, aNil, aStar, dRet, dRetN, dNext, dDrop, dLst, dTup, dC, dAnd, dOr, dNot, dAndV, dOrV, dNotV, dPar, dAsg, gdName, gdSub, gdTup, gdCons, gdNil, gdSlot, dIsi, dIsi2, dSlot, dSetSlot, dMethSl, dMakeSl, dCall, dCallP, dBM, dFrz, dLstF, dLcF, dLc2F, dDcF, dSlF, dListVF, bListF, bListDF, bSortSF, oAddLF, oRepLF, dSl, dNoP, dPart, dListV, dTru, dOrT, EndsD, startD, oLtI, oLeI, oGtI, oGeI, oIx, oMulI, oPowI, oAddI, oSubI, oModI, oDivI, oI, oI0, oEqD, oNeD, oInD, oNotInD, oAddL, oAddT, oAddS, oRepL, bLen, bAbs, bInt, bMin2, bMax2, bAll, bAny, bTuple, bList, bListD, bSortS, mAppend, mPop, mPopAt, mExtend, mIndex, dFld, dSetFld, dAddFld, gdFld, dMeth, dMake, dPar3, dRevT, oAddTK, dSortSetT, dSortSetTF, gdLst, gdAll, dRevL, dRevLF, dYes, dFrzA, oNegI, bSortG, bSortGF, dSlK, oIsB, oNotB, bSortTS, bSortTSF, bSortI, bSortIF, iDi, dDisp, iEnS, dEi, oTimes, oEqO, oNeO, mClear, mReverse, dMethP, dMethSlP, dMakeP, dMakeSlP, oGeD, oCmpD, dSortSetBF, dSortKDF, dDcT, dLenSetT, dLenSetS, dChain, dAug, iTxt, oInS, oLtS, dDinN, dDin1, gdSubN, dSetDef, iDinK, iDinI, dDcN, dSortSetX, dSortSetXF, dSortSetXT, dSortSetXTF, dChain3, dLenSetXT, dDictN, bMinG, oIxS, dListZip, dDc2T, dSortDTF, dSortSetX0, dSortSetX0F, dRaise, dCallS, dMethS, dMethSlS, dCatch, dIsX, dIsX2, dXf, oInC, bStrI, bIntS, dTry0, gdTail, gdTailT, bMaxG, dCatch2, dRaise0, oLeS, dMaxK, dTupI, dSlS, dCatchN, dIsXN, tupOf_lst, tupOf_ref, tupOf_tup, List.map_cons, List.map_nil, List.length_cons, List.length_nil, List.cons_append, List.nil_append, List.append_nil, List.replicate, List.set_cons_zero, List.set_cons_succ, List.getElem?_cons_zero, List.getElem?_cons_succ, Option.some.injEq, exists_eq_left', exists_eq_left, exists_and_left, D.int.injEq, D.bl.injEq, D.str.injEq, D.tup.injEq, D.lst.injEq, D.ref.injEq, List.cons.injEq, and_true, true_and, reduceCtorEq, false_and, and_false, exists_false, or_false, false_or, exists_const, Bool.false_eq_true, if_true, if_false, decide_eq_true_eq, Ob.lst.injEq, Ob.slt.injEq, Ob.dic.injEq, seqD_ref, lstD_ref, seqD_tup, seqD_lst, lstD_lst, lstR_lst, Sto.set_same, Sto.set_set, atI_0, atI_1, atI_2, Nat.reduceAdd, ixN_30, ixN_32, lstD_tup, seqD_row, List.append_assoc, false_or, or_false, cut_d1, cut_t1, sz_0, sz_1, sz_2, sz_3, sz_4, sz_5, sz_6, sz_7, sz_8, sz_9, sz_10, sz_11, sz_12]
    rcases hA.pair (S := S2) with ⟨x, y, rfl, hx, hy⟩ | ⟨hn, ⟨ds, rfl, h2, h3⟩ | ⟨t, e, k⟩⟩
    · refine ⟨"tuple", rfl, ?_⟩
      rw [if_neg (by decide)]
      refine .inl ⟨_, rfl, _, pyR_int _ _, _, pyR_int _ _, rfl, rfl, ?_⟩
      rw [if_neg (by rw [eqv_int]; simp)]
      refine ⟨_, rfl, _, atI_0 _ _, x, rfl, hx, _, rfl, ?_⟩
      cases e1 : nmB x with
      | false =>
        rw [if_pos (by decide)]
        exact bad (hd_nm e1)
      | true =>
        rw [if_neg (by decide)]
        refine ⟨_, rfl, _, atI_1 _ _ _, ?_⟩
        rcases hy.tup_ty (S := S2) with ⟨vs, rfl⟩ | ⟨hn, t, e, k⟩
        · refine ⟨"tuple", rfl, ?_⟩
          rw [if_neg (by decide)]
          obtain ⟨hl3, hk3⟩ := hy.kids
          have he : hdB (.tup [x, .tup vs]) = (nmB x && (decide (vs.length ≤ 3) && (vs.all nmB && upB (vs.map txt)))) := rfl
          rw [e1, Bool.true_and] at he
          refine ⟨_, rfl, _, atI_1 _ _ _, .inl ⟨_, rfl, ?_⟩⟩
          by_cases h3 : vs.length ≤ 3
          · rw [if_neg (by omega)]
            rw [decide_eq_true h3, Bool.true_and] at he
            refine ⟨_, rfl, _, atI_1 _ _ _, _, rfl, ?_⟩
            refine compW_self (fun v => .bl (nmB v)) gs_tup (small_sz (by omega)) (fun v hv S' Py hs' hPy => ?_) ⟨vs.map nmB, by rw [List.map_map]; rfl, ?_⟩
            · simp only [Tg.d, wipeD, dWkA, dTupK, dTupL, dTupIx, dDictP, dDc2, dFor, dWhile, dLc, dLc2, dDc, dNextG, iSeq, iR1, iR2, iEn, iZpA, iZ2, iZ3, dSortK, dSortKF, dSortSet, dSortSetF, dBreak, bSortT, bSortTF, bSum, bSumL, bSumLF, bMaxL, bMinL, dDicE, bSortD, bSortDF, dGet2, oInA, oNotInA, oIxA, gdSubA, dSeq, dSet, dIf, dIfS, dTst, dOp, dUn, dVar, dCB, aCons, aNil, aStar, dRet, dRetN, dNext, dDrop, dLst, dTup, dC, dAnd, dOr, dNot, dAndV, dOrV, dNotV, dPar, dAsg, gdName, gdSub, gdTup, gdCons, gdNil, gdSlot, dIsi, dIsi2, dSlot, dSetSlot, dMethSl, dMakeSl, dCall, dCallP, dBM, dFrz, dLstF, dLcF, dLc2F, dDcF, dSlF, dListVF, bListF, bListDF, bSortSF, oAddLF, oRepLF, dSl, dNoP, dPart, dListV, dTru, dOrT, EndsD, startD, oLtI, oLeI, oGtI, oGeI, oIx, oMulI, oPowI, oAddI, oSubI, oModI, oDivI, oI, oI0, oEqD, oNeD, oInD, oNotInD, oAddL, oAddT, oAddS, oRepL, bLen, bAbs, bInt, bMin2, bMax2, bAll, bAny, bTuple, bList, bListD, bSortS, mAppend, mPop, mPopAt, mExtend, mIndex, dFld, dSetFld, dAddFld, gdFld, dMeth, dMake, dPar3, dRevT, oAddTK, dSortSetT, dSortSetTF, gdLst, gdAll, dRevL, dRevLF, dYes, dFrzA, oNegI, bSortG, bSortGF, dSlK, oIsB, oNotB, bSortTS, bSortTSF, bSortI, bSortIF, iDi, dDisp, iEnS, dEi, oTimes, oEqO, oNeO, mClear, mReverse, dMethP, dMethSlP, dMakeP, dMakeSlP, oGeD, oCmpD, dSortSetBF, dSortKDF, dDcT, dLenSetT, dLenSetS, dChain, dAug, iTxt, oInS, oLtS, dDinN, dDin1, gdSubN, dSetDef, iDinK, iDinI, dDcN, dSortSetX, dSortSetXF, dSortSetXT, dSortSetXTF, dChain3, dLenSetXT, dDictN, bMinG, oIxS, dListZip, dDc2T, dSortDTF, dSortSetX0, dSortSetX0F, dRaise, dCallS, dMethS, dMethSlS, dCatch, dIsX, dIsX2, dXf, oInC, bStrI, bIntS, dTry0, gdTail, gdTailT, bMaxG, dCatch2, dRaise0, oLeS, dMaxK, dTupI, dSlS, dCatchN, dIsXN, tupOf_lst, tupOf_ref, tupOf_tup, List.map_cons, List.map_nil, List.length_cons, List.length_nil, List.cons_append, List.nil_append, List.append_nil, List.replicate, List.set_cons_zero, List.set_cons_succ, List.getElem?_cons_zero, List.getElem?_cons_succ, Option.some.injEq, exists_eq_left', exists_eq_left, exists_and_left, D.int.injEq, D.bl.injEq, D.str.injEq, D.tup.injEq, D.lst.injEq, D.ref.injEq, List.cons.injEq, and_true, true_and, reduceCtorEq, false_and, and_false, exists_false, or_false, false_or, exists_const, Bool.false_eq_true, if_true, if_false, decide_eq_true_eq, Ob.lst.injEq, Ob.slt.injEq, Ob.dic.injEq, seqD_ref, lstD_ref, seqD_tup, seqD_lst, lstD_lst, lstR_lst, Sto.set_same, Sto.set_set, atI_0, atI_1, atI_2, Nat.reduceAdd, ixN_30, ixN_32, lstD_tup, seqD_row, List.append_assoc, false_or, or_false, cut_d1, cut_t1, sz_0, sz_1, sz_2, sz_3, sz_4, sz_5, sz_6, sz_7, sz_8, sz_9, sz_10, sz_11, sz_12]
              exact ⟨v, rfl, hk3 v hv, hPy⟩
            rw [all_id]
            cases e2 : vs.all nmB with
            | false =>
              rw [if_pos (by decide)]
              rw [e2, Bool.false_and] at he
              exact bad he
            | true =>
              rw [if_neg (by decide)]
              rw [e2, Bool.true_and] at he
              refine ⟨_, rfl, _, atI_1 _ _ _, _, vs.map txt, rfl, .inl (by rw [← nm_txts e2]), by rw [List.length_map]; omega, _, rfl, ?_⟩
              cases e3 : upB (vs.map txt) with
              | false =>
                rw [if_pos (by decide)]
                exact bad (he.trans e3)
              | true =>
                rw [if_neg (by decide)]
                exact good (he.trans e3) _
          · rw [if_pos (by omega)]
            rw [decide_eq_false h3, Bool.false_and] at he
            exact bad he
        · refine ⟨t, e, ?_⟩
          rw [k, if_pos (by decide)]
          exact bad (hd_tup hn)
    · refine ⟨"tuple", rfl, ?_⟩
      rw [if_neg (by decide)]
      refine .inl ⟨_, rfl, _, pyR_int _ _, _, pyR_int _ _, rfl, rfl, ?_⟩
      rw [if_pos (by rw [eqv_int]; simp; omega)]
      exact bad (hd_not hn)
    · refine ⟨t, e, ?_⟩
      rw [k, if_pos (by decide)]
      exact bad (hd_not hn)
  · rintro ρ S2 ⟨⟨b1, rfl⟩, hsb, hal⟩
    rw [List.take_length] at hal
    refine ⟨gs_tup, ?_⟩
    simp only [t2__law_is_net_k10, dWkA, dTupK, dTupL, dTupIx, dDictP, dDc2, dFor, dWhile, dLc, dLc2, dDc, dNextG, iSeq, iR1, iR2, iEn, iZpA, iZ2, iZ3, dSortK, dSortKF, dSortSet, dSortSetF, dBreak, bSortT, bSortTF, bSum, bSumL, bSumLF, bMaxL, bMinL, dDicE, bSortD, bSortDF, dGet2, oInA, oNotInA, oIxA, gdSubA, dSeq, dSet, dIf, dIfS, dTst, dOp, dUn, dVar, dCB, aCons, aNil, aStar, dRet, dRetN, dNext, dDrop, dLst, dTup, dC, dAnd, dOr, dNot, dAndV, dOrV, dNotV, dPar, dAsg, gdName, gdSub, gdTup, gdCons, gdNil, gdSlot, dIsi, dIsi2, dSlot, dSetSlot, dMethSl, dMakeSl, dCall, dCallP, dBM, dFrz, dLstF, dLcF, dLc2F, dDcF, dSlF, dListVF, bListF, bListDF, bSortSF, oAddLF, oRepLF, dSl, dNoP, dPart, dListV, dTru, dOrT, EndsD, startD, oLtI, oLeI, oGtI, oGeI, oIx, oMulI, oPowI, oAddI, oSubI, oModI, oDivI, oI, oI0, oEqD, oNeD, oInD, oNotInD, oAddL, oAddT, oAddS, oRepL, bLen, bAbs, bInt, bMin2, bMax2, bAll, bAny, bTuple, bList, bListD, bSortS, mAppend, mPop, mPopAt, mExtend, mIndex, dFld, dSetFld, dAddFld, gdFld, dMeth, dMake, dPar3, dRevT, oAddTK, dSortSetT, dSortSetTF, gdLst, gdAll, dRevL, dRevLF, dYes, dFrzA, oNegI, bSortG, bSortGF, dSlK, oIsB, oNotB, bSortTS, bSortTSF, bSortI, bSortIF, iDi, dDisp, iEnS, dEi, oTimes, oEqO, oNeO, mClear, mReverse, dMethP, dMethSlP, dMakeP, dMakeSlP, oGeD, oCmpD, dSortSetBF, dSortKDF, dDcT, dLenSetT, dLenSetS, dChain, dAug, iTxt, oInS, oLtS, dDinN, dDin1, gdSubN, dSetDef, iDinK, iDinI, dDcN, dSortSetX, dSortSetXF, dSortSetXT, dSortSetXTF, dChain3, dLenSetXT, dDictN, bMinG, oIxS, dListZip, dDc2T, dSortDTF, dSortSetX0, dSortSetX0F, dRaise, dCallS, dMethS, dMethSlS, dCatch, dIsX, dIsX2, dXf, oInC, bStrI, bIntS, dTry0, gdTail, gdTailT, bMaxG, dCatch2, dRaise0, oLeS, dMaxK, dTupI, dSlS, dCatchN, dIsXN, tupOf_lst, tupOf_ref, tupOf_tup, List.map_cons, List.map_nil, List.length_cons, List.length_nil, List.cons_append, List.nil_append, List.append_nil, List.replicate, List.set_cons_zero, List.set_cons_succ, List.getElem?_cons_zero, List.getElem?_cons_succ, Option.some.injEq, exists_eq_left', exists_eq_left, exists_and_left, D.int.injEq, D.bl.injEq, D.str.injEq, D.tup.injEq, D.lst.injEq, D.ref.injEq, List.cons.injEq, and_true, true_and, reduceCtorEq, false_and, and_false, exists_false, or_false, false_or, exists_const, Bool.false_eq_true, if_true, if_false, decide_eq_true_eq, Ob.lst.injEq, Ob.slt.injEq, Ob.dic.injEq, seqD_ref, lstD_ref, seqD_tup, seqD_lst, lstD_lst, lstR_lst, Sto.set_same, Sto.set_set, atI_0, atI_1, atI_2, Nat.reduceAdd, ixN_30, ixN_32, lstD_tup, seqD_row, List.append_assoc, false_or, or_false, cut_d1, cut_t1, sz_0, sz_1, sz_2, sz_3, sz_4, sz_5, sz_6, sz_7, sz_8, sz_9, sz_10, sz_11, sz_12]
    refine compW_self (fun v => .str (txt (fstD v))) gs_tup (small_sz (by omega)) (fun v hv S' Py hs' hPy => ?_) ?_
    · simp only [Tg.d, wipeD, dWkA, dTupK, dTupL, dTupIx, dDictP, dDc2, dFor, dWhile, dLc, dLc2, dDc, dNextG, iSeq, iR1, iR2, iEn, iZpA, iZ2, iZ3, dSortK, dSortKF, dSortSet, dSortSetF, dBreak, bSortT, bSortTF, bSum, bSumL, bSumLF, bMaxL, bMinL, dDicE, bSortD, bSortDF, dGet2, oInA, oNotInA, oIxA, gdSubA, dSeq, dSet, dIf, dIfS, dTst, dOp, dUn, dVar, dCB, aCons, aNil, aStar, dRet, dRetN, dNext, dDrop, dLst, dTup, dC, dAnd, dOr, dNot, dAndV, dOrV, dNotV, dPar, dAsg, gdName, gdSub, gdTup, gdCons, gdNil, gdSlot, dIsi, dIsi2, dSlot, dSetSlot, dMethSl, dMakeSl, dCall, dCallP, dBM, dFrz, dLstF, dLcF, dLc2F, dDcF, dSlF, dListVF, bListF, bListDF, bSortSF, oAddLF, oRepLF, dSl, dNoP, dPart, dListV, dTru, dOrT, EndsD, startD, oLtI, oLeI, oGtI, oGeI, oIx, oMulI, oPowI, oAddI, oSubI, oModI, oDivI, oI, oI0, oEqD, oNeD, oInD, oNotInD, oAddL, oAddT, oAddS, oRepL, bLen, bAbs, bInt, bMin2, bMax2, bAll, bAny, bTuple, bList, bListD, bSortS, mAppend, mPop, mPopAt, mExtend, mIndex, dFld, dSetFld, dAddFld, gdFld, dMeth, dMake, dPar3, dRevT, oAddTK, dSortSetT, dSortSetTF, gdLst, gdAll, dRevL, dRevLF, dYes, dFrzA, oNegI, bSortG, bSortGF, dSlK, oIsB, oNotB, bSortTS, bSortTSF, bSortI, bSortIF, iDi, dDisp, iEnS, dEi, oTimes, oEqO, oNeO, mClear, mReverse, dMethP, dMethSlP, dMakeP, dMakeSlP, oGeD, oCmpD, dSortSetBF, dSortKDF, dDcT, dLenSetT, dLenSetS, dChain, dAug, iTxt, oInS, oLtS, dDinN, dDin1, gdSubN, dSetDef, iDinK, iDinI, dDcN, dSortSetX, dSortSetXF, dSortSetXT, dSortSetXTF, dChain3, dLenSetXT, dDictN, bMinG, oIxS, dListZip, dDc2T, dSortDTF, dSortSetX0, dSortSetX0F, dRaise, dCallS, dMethS, dMethSlS, dCatch, dIsX, dIsX2, dXf, oInC, bStrI, bIntS, dTry0, gdTail, gdTailT, bMaxG, dCatch2, dRaise0, oLeS, dMaxK, dTupI, dSlS, dCatchN, dIsXN, tupOf_lst, tupOf_ref, tupOf_tup, List.map_cons, List.map_nil, List.length_cons, List.length_nil, List.cons_append, List.nil_append, List.append_nil, List.replicate, List.set_cons_zero, List.set_cons_succ, List.getElem?_cons_zero, List.getElem?_cons_succ, Option.some.injEq, exists_eq_left', exists_eq_left, exists_and_left, D.int.injEq, D.bl.injEq, D.str.injEq, D.tup.injEq, D.lst.injEq, D.ref.injEq, List.cons.injEq, and_true, true_and, reduceCtorEq, false_and, and_false, exists_false, or_false, false_or, exists_const, Bool.false_eq_true, if_true, if_false, decide_eq_true_eq, Ob.lst.injEq, Ob.slt.injEq, Ob.dic.injEq, seqD_ref, lstD_ref, seqD_tup, seqD_lst, lstD_lst, lstR_lst, Sto.set_same, Sto.set_set, atI_0, atI_1, atI_2, Nat.reduceAdd, ixN_30, ixN_32, lstD_tup, seqD_row, List.append_assoc, false_or, or_false, cut_d1, cut_t1, sz_0, sz_1, sz_2, sz_3, sz_4, sz_5, sz_6, sz_7, sz_8, sz_9, sz_10, sz_11, sz_12]
      obtain ⟨x, vs, rfl, _⟩ := hd_shape (List.all_eq_true.mp hal v hv)
      exact ⟨_, rfl, _, atI_0 _ _, hPy⟩
    rw [show (hs.map fun v => D.str (txt (fstD v))) = (hs.map fun h => txt (fstD h)).map .str from by rw [List.map_map]; rfl]
    have hns : NsA (hs.map fun h => txt (fstD h)) := ⟨by rw [List.length_map]; omega, fun n hn => by
      obtain ⟨h, hh, rfl⟩ := List.mem_map.mp hn
      obtain ⟨x, vs, rfl, hx⟩ := hd_shape (List.all_eq_true.mp hal h hh)
      exact nm_ok hx⟩
    have he : netB (.tup [.tup hs, .tup rs]) = (hs.all hdB && (upB (hs.map fun h => txt (fstD h)) && rs.all (rlB (hs.map fun h => txt (fstD h))))) := rfl
    rw [hal, Bool.true_and] at he
    refine net3 hb hns rfl (fun h S' s' => ?_) fun h b3 b4 b5 S' s' => ?_
    · have := q S' (Sto.sub_trans hsb s')
      rw [he, h, Bool.and_false] at this
      exact this
    · refine ⟨_, rfl, _, _, rfl, .inr rfl, hns.1, ?_⟩
      have := q S' (Sto.sub_trans hsb s')
      rw [he, h, Bool.and_true] at this
      exact this
end
def isTup : D → Bool
  | .tup _ => true
  | _ => false
theorem tup_no {d : D} (h : ∀ ds, d ≠ .tup ds) : isTup d = false := by
  cases d <;> first | rfl | exact absurd rfl (h _)
theorem v__law_is_net_k10 : ∀ ds S Q E, sp__law_is_net_k10 ds S Q E → d__law_is_net_k10 (EndsD Q) (startD N__law_is_net_k10 ds) S := by
  rintro ds S Q E ⟨v, rfl, hv, q⟩
  simp only [d__law_is_net_k10, N__law_is_net_k10, dWkA, dTupK, dTupL, dTupIx, dDictP, dDc2, dFor, dWhile, dLc, dLc2, dDc, dNextG, iSeq, iR1, iR2, iEn, iZpA, iZ2, iZ3, dSortK, dSortKF, dSortSet, dSortSetF, dBreak, bSortT, bSortTF, bSum, bSumL, bSumLF, bMaxL, bMinL, dDicE, bSortD, bSortDF, dGet2, oInA, oNotInA, oIxA, gdSubA, dSeq, dSet, dIf, dIfS, dTst, dOp, dUn, dVar, dCB, aCons, aNil, aStar, dRet, dRetN, dNext, dDrop, dLst, dTup, dC, dAnd, dOr, dNot, dAndV, dOrV, dNotV, dPar, dAsg, gdName, gdSub, gdTup, gdCons, gdNil, gdSlot, dIsi, dIsi2, dSlot, dSetSlot, dMethSl, dMakeSl, dCall, dCallP, dBM, dFrz, dLstF, dLcF, dLc2F, dDcF, dSlF, dListVF, bListF, bListDF, bSortSF, oAddLF, oRepLF, dSl, dNoP, dPart, dListV, dTru, dOrT, EndsD, startD, oLtI, oLeI, oGtI, oGeI, oIx, oMulI, oPowI, oAddI, oSubI, oModI, oDivI, oI, oI0, oEqD, oNeD, oInD, oNotInD, oAddL, oAddT, oAddS, oRepL, bLen, bAbs, bInt, bMin2, bMax2, bAll, bAny, bTuple, bList, bListD, bSortS, mAppend, mPop, mPopAt, mExtend, mIndex, dFld, dSetFld, dAddFld, gdFld, dMeth, dMake, dPar3, dRevT, oAddTK, dSortSetT, dSortSetTF, gdLst, gdAll, dRevL, dRevLF, dYes, dFrzA, oNegI, bSortG, bSortGF, dSlK, oIsB, oNotB, bSortTS, bSortTSF, bSortI, bSortIF, iDi, dDisp, iEnS, dEi, oTimes, oEqO, oNeO, mClear, mReverse, dMethP, dMethSlP, dMakeP, dMakeSlP, oGeD, oCmpD, dSortSetBF, dSortKDF, dDcT, dLenSetT, dLenSetS, dChain, dAug, iTxt, oInS, oLtS, dDinN, dDin1, gdSubN, dSetDef, iDinK, iDinI, dDcN, dSortSetX, dSortSetXF, dSortSetXT, dSortSetXTF, dChain3, dLenSetXT, dDictN, bMinG, oIxS, dListZip, dDc2T, dSortDTF, dSortSetX0, dSortSetX0F, dRaise, dCallS, dMethS, dMethSlS, dCatch, dIsX, dIsX2, dXf, oInC, bStrI, bIntS, dTry0, gdTail, gdTailT, bMaxG, dCatch2, dRaise0, oLeS, dMaxK, dTupI, dSlS, dCatchN, dIsXN, tupOf_lst, tupOf_ref, tupOf_tup, List.map_cons, List.map_nil, List.length_cons, List.length_nil, List.cons_append, List.nil_append, List.append_nil, List.replicate, List.set_cons_zero, List.set_cons_succ, List.getElem?_cons_zero, List.getElem?_cons_succ, Option.some.injEq, exists_eq_left', exists_eq_left, exists_and_left, D.int.injEq, D.bl.injEq, D.str.injEq, D.tup.injEq, D.lst.injEq, D.ref.injEq, List.cons.injEq, and_true, true_and, reduceCtorEq, false_and, and_false, exists_false, or_false, false_or, exists_const, Bool.false_eq_true, if_true, if_false, decide_eq_true_eq, Ob.lst.injEq, Ob.slt.injEq, Ob.dic.injEq, seqD_ref, lstD_ref, seqD_tup, seqD_lst, lstD_lst, lstR_lst, Sto.set_same, Sto.set_set, atI_0, atI_1, atI_2, Nat.reduceAdd, ixN_30, ixN_32, lstD_tup, seqD_row, List.append_assoc, false_or, or_false, cut_d1, cut_t1, sz_0, sz_1, sz_2, sz_3, sz_4, sz_5, sz_6, sz_7, sz_8, sz_9, sz_10, sz_11, sz_12]
  rcases hv.pair (S := S) with ⟨x, y, rfl, hx, hy⟩ | ⟨hn, ⟨ds, rfl, h2, h3⟩ | ⟨t, e, k⟩⟩
  · refine ⟨"tuple", rfl, ?_⟩
    rw [if_neg (by decide)]
    refine .inl ⟨_, rfl, _, pyR_int _ _, _, pyR_int _ _, rfl, rfl, ?_⟩
    rw [if_neg (by rw [eqv_int]; simp)]
    refine ⟨_, rfl, ?_⟩
    refine compW_self (fun v => .bl (isTup v)) gs_tup (small_sz (by show 2 ≤ 16777216; decide)) (fun v hv S' Py hs' hPy => ?_) ⟨[isTup x, isTup y], rfl, ?_⟩
    · simp only [Tg.d, wipeD, dWkA, dTupK, dTupL, dTupIx, dDictP, dDc2, dFor, dWhile, dLc, dLc2, dDc, dNextG, iSeq, iR1, iR2, iEn, iZpA, iZ2, iZ3, dSortK, dSortKF, dSortSet, dSortSetF, dBreak, bSortT, bSortTF, bSum, bSumL, bSumLF, bMaxL, bMinL, dDicE, bSortD, bSortDF, dGet2, oInA, oNotInA, oIxA, gdSubA, dSeq, dSet, dIf, dIfS, dTst, dOp, dUn, dVar, dCB, aCons, aNil, aStar, dRet, dRetN, dNext, dDrop, dLst, dTup, dC, dAnd, dOr, dNot, dAndV, dOrV, dNotV, dPar, dAsg, gdName, gdSub, gdTup, gdCons, gdNil, gdSlot, dIsi, dIsi2, dSlot, dSetSlot, dMethSl, dMakeSl, dCall, dCallP, dBM, dFrz, dLstF, dLcF, dLc2F, dDcF, dSlF, dListVF, bListF, bListDF, bSortSF, oAddLF, oRepLF, dSl, dNoP, dPart, dListV, dTru, dOrT, EndsD, startD, oLtI, oLeI, oGtI, oGeI, oIx, oMulI, oPowI, oAddI, oSubI, oModI, oDivI, oI, oI0, oEqD, oNeD, oInD, oNotInD, oAddL, oAddT, oAddS, oRepL, bLen, bAbs, bInt, bMin2, bMax2, bAll, bAny, bTuple, bList, bListD, bSortS, mAppend, mPop, mPopAt, mExtend, mIndex, dFld, dSetFld, dAddFld, gdFld, dMeth, dMake, dPar3, dRevT, oAddTK, dSortSetT, dSortSetTF, gdLst, gdAll, dRevL, dRevLF, dYes, dFrzA, oNegI, bSortG, bSortGF, dSlK, oIsB, oNotB, bSortTS, bSortTSF, bSortI, bSortIF, iDi, dDisp, iEnS, dEi, oTimes, oEqO, oNeO, mClear, mReverse, dMethP, dMethSlP, dMakeP, dMakeSlP, oGeD, oCmpD, dSortSetBF, dSortKDF, dDcT, dLenSetT, dLenSetS, dChain, dAug, iTxt, oInS, oLtS, dDinN, dDin1, gdSubN, dSetDef, iDinK, iDinI, dDcN, dSortSetX, dSortSetXF, dSortSetXT, dSortSetXTF, dChain3, dLenSetXT, dDictN, bMinG, oIxS, dListZip, dDc2T, dSortDTF, dSortSetX0, dSortSetX0F, dRaise, dCallS, dMethS, dMethSlS, dCatch, dIsX, dIsX2, dXf, oInC, bStrI, bIntS, dTry0, gdTail, gdTailT, bMaxG, dCatch2, dRaise0, oLeS, dMaxK, dTupI, dSlS, dCatchN, dIsXN, tupOf_lst, tupOf_ref, tupOf_tup, List.map_cons, List.map_nil, List.length_cons, List.length_nil, List.cons_append, List.nil_append, List.append_nil, List.replicate, List.set_cons_zero, List.set_cons_succ, List.getElem?_cons_zero, List.getElem?_cons_succ, Option.some.injEq, exists_eq_left', exists_eq_left, exists_and_left, D.int.injEq, D.bl.injEq, D.str.injEq, D.tup.injEq, D.lst.injEq, D.ref.injEq, List.cons.injEq, and_true, true_and, reduceCtorEq, false_and, and_false, exists_false, or_false, false_or, exists_const, Bool.false_eq_true, if_true, if_false, decide_eq_true_eq, Ob.lst.injEq, Ob.slt.injEq, Ob.dic.injEq, seqD_ref, lstD_ref, seqD_tup, seqD_lst, lstD_lst, lstR_lst, Sto.set_same, Sto.set_set, atI_0, atI_1, atI_2, Nat.reduceAdd, ixN_30, ixN_32, lstD_tup, seqD_row, List.append_assoc, false_or, or_false, cut_d1, cut_t1, sz_0, sz_1, sz_2, sz_3, sz_4, sz_5, sz_6, sz_7, sz_8, sz_9, sz_10, sz_11, sz_12]
      have hA : An v := by
        rcases List.mem_cons.mp hv with rfl | hv
        · exact hx
        · rw [List.mem_singleton.mp hv]; exact hy
      rcases hA.tup_ty (S := S') with ⟨ds, rfl⟩ | ⟨hn, t, e, k⟩
      · exact ⟨"tuple", rfl, hPy⟩
      · refine ⟨t, e, ?_⟩
        rw [k]
        rw [tup_no hn] at hPy
        exact hPy
    · rcases hx.tup_ty (S := S) with ⟨hs, rfl⟩ | ⟨hn, _⟩
      · rcases hy.tup_ty (S := S) with ⟨rs, rfl⟩ | ⟨hn, _⟩
        · rw [if_neg (by simp [isTup])]
          exact net1 hx hy fun S' s' => ⟨S, s', q⟩
        · rw [if_pos (by simp [tup_no hn])]
          rw [net_tup (.inr hn)] at q
          exact drp_of q
      · rw [if_pos (by simp [tup_no hn])]
        rw [net_tup (.inl hn)] at q
        exact drp_of q
  · refine ⟨"tuple", rfl, ?_⟩
    rw [if_neg (by decide)]
    refine .inl ⟨_, rfl, _, pyR_int _ _, _, pyR_int _ _, rfl, rfl, ?_⟩
    rw [if_pos (by rw [eqv_int]; simp; omega)]
    rw [net_not hn] at q
    exact drp_of q
  · refine ⟨t, e, ?_⟩
    rw [k, if_pos (by decide)]
    rw [net_not hn] at q
    exact drp_of q
theorem rt_ask {l : Nat} {S : Sto} {E : DEnds} {es : List D} {b1 b2 b4 b5 b6 b7 b8 b9 : Option D} (hes : ∀ e ∈ es, Pt e) (q : ∀ S1, S.sub S1 → E.rt (.bl true) S1) :
    t__law_right_k10 E [some (.ref l), b1, b2, some (.lst es), b4, b5, b6, b7, b8, b9] S := by
  simp only [t__law_right_k10, dWkA, dTupK, dTupL, dTupIx, dDictP, dDc2, dFor, dWhile, dLc, dLc2, dDc, dNextG, iSeq, iR1, iR2, iEn, iZpA, iZ2, iZ3, dSortK, dSortKF, dSortSet, dSortSetF, dBreak, bSortT, bSortTF, bSum, bSumL, bSumLF, bMaxL, bMinL, dDicE, bSortD, bSortDF, dGet2, oInA, oNotInA, oIxA, gdSubA, dSeq, dSet, dIf, dIfS, dTst, dOp, dUn, dVar, dCB, aCons, aNil, aStar, dRet, dRetN, dNext, dDrop, dLst, dTup, dC, dAnd, dOr, dNot, dAndV, dOrV, dNotV, dPar, dAsg, gdName, gdSub, gdTup, gdCons, gdNil, gdSlot, dIsi, dIsi2, dSlot, dSetSlot, dMethSl, dMakeSl, dCall, dCallP, dBM, dFrz, dLstF, dLcF, dLc2F, dDcF, dSlF, dListVF, bListF, bListDF, bSortSF, oAddLF, oRepLF, dSl, dNoP, dPart, dListV, dTru, dOrT, EndsD, startD, oLtI, oLeI, oGtI, oGeI, oIx, oMulI, oPowI, oAddI, oSubI, oModI, oDivI, oI, oI0, oEqD, oNeD, oInD, oNotInD, oAddL, oAddT, oAddS, oRepL, bLen, bAbs, bInt, bMin2, bMax2, bAll, bAny, bTuple, bList, bListD, bSortS, mAppend, mPop, mPopAt, mExtend, mIndex, dFld, dSetFld, dAddFld, gdFld, dMeth, dMake, dPar3, dRevT, oAddTK, dSortSetT, dSortSetTF, gdLst, gdAll, dRevL, dRevLF, dYes, dFrzA, oNegI, bSortG, bSortGF, dSlK, oIsB, oNotB, bSortTS, bSortTSF, bSortI, bSortIF, iDi, dDisp, iEnS, dEi, oTimes, oEqO, oNeO, mClear, mReverse, dMethP, dMethSlP, dMakeP, dMakeSlP, oGeD, oCmpD, dSortSetBF, dSortKDF, dDcT, dLenSetT, dLenSetS, dChain, dAug, iTxt, oInS, oLtS, dDinN, dDin1, gdSubN, dSetDef, iDinK, iDinI, dDcN, dSortSetX, dSortSetXF, dSortSetXT, dSortSetXTF, dChain3, dLenSetXT, dDictN, bMinG, oIxS, dListZip, dDc2T, dSortDTF, dSortSetX0, dSortSetX0F, dRaise, dCallS, dMethS, dMethSlS, dCatch, dIsX, dIsX2, dXf, oInC, bStrI, bIntS, dTry0, gdTail, gdTailT, bMaxG, dCatch2, dRaise0, oLeS, dMaxK, dTupI, dSlS, dCatchN, dIsXN, bRepr, tupOf_lst, tupOf_ref, tupOf_tup, List.map_cons, List.map_nil, List.length_cons, List.length_nil, List.cons_append, List.nil_append, List.append_nil, List.replicate, List.set_cons_zero, List.set_cons_succ, List.getElem?_cons_zero, List.getElem?_cons_succ, Option.some.injEq, exists_eq_left', exists_eq_left, exists_and_left, D.int.injEq, D.bl.injEq, D.str.injEq, D.tup.injEq, D.lst.injEq, D.ref.injEq, List.cons.injEq, and_true, true_and, reduceCtorEq, false_and, and_false, exists_false, or_false, false_or, exists_const, Bool.false_eq_true, if_true, if_false, decide_eq_true_eq, Ob.lst.injEq, Ob.slt.injEq, Ob.dic.injEq, seqD_ref, lstD_ref, seqD_tup, seqD_lst, lstD_lst, lstR_lst, Sto.set_same, Sto.set_set, atI_0, atI_1, atI_2, Nat.reduceAdd, ixN_30, ixN_32, lstD_tup, seqD_row, List.append_assoc, false_or, or_false, cut_d1, cut_t1, sz_0, sz_1, sz_2, sz_3, sz_4, sz_5, sz_6, sz_7, sz_8, sz_9, sz_10, sz_11, sz_12]
  refine forW_self (fun n ρ S' => (∃ b4 b8 b9, ρ = [some (.ref l), b1, b2, some (.lst es), b4, b5, b6, b7, b8, b9]) ∧ S.sub S') ⟨⟨_, _, _, rfl⟩, Sto.sub_refl _⟩ ?_ ?_
  · rintro i e ρ S2 E' hi ⟨⟨b4, b8, b9, rfl⟩, hs⟩ hrt hbk hnx
    refine ⟨gs_lst, ?_⟩
    obtain ⟨h1, h2⟩ := hes e (List.mem_of_getElem? hi)
    obtain ⟨p, hp, hsh⟩ := th_shw2 h1 (by decide) (by omega)
    have hA : An e := ⟨16, by decide, h1, by omega⟩
    simp only [Tg.d, setsE, dWkA, dTupK, dTupL, dTupIx, dDictP, dDc2, dFor, dWhile, dLc, dLc2, dDc, dNextG, iSeq, iR1, iR2, iEn, iZpA, iZ2, iZ3, dSortK, dSortKF, dSortSet, dSortSetF, dBreak, bSortT, bSortTF, bSum, bSumL, bSumLF, bMaxL, bMinL, dDicE, bSortD, bSortDF, dGet2, oInA, oNotInA, oIxA, gdSubA, dSeq, dSet, dIf, dIfS, dTst, dOp, dUn, dVar, dCB, aCons, aNil, aStar, dRet, dRetN, dNext, dDrop, dLst, dTup, dC, dAnd, dOr, dNot, dAndV, dOrV, dNotV, dPar, dAsg, gdName, gdSub, gdTup, gdCons, gdNil, gdSlot, dIsi, dIsi2, dSlot, dSetSlot, dMethSl, dMakeSl, dCall, dCallP, dBM, dFrz, dLstF, dLcF, dLc2F, dDcF, dSlF, dListVF, bListF, bListDF, bSortSF, oAddLF, oRepLF, dSl, dNoP, dPart, dListV, dTru, dOrT, EndsD, startD, oLtI, oLeI, oGtI, oGeI, oIx, oMulI, oPowI, oAddI, oSubI, oModI, oDivI, oI, oI0, oEqD, oNeD, oInD, oNotInD, oAddL, oAddT, oAddS, oRepL, bLen, bAbs, bInt, bMin2, bMax2, bAll, bAny, bTuple, bList, bListD, bSortS, mAppend, mPop, mPopAt, mExtend, mIndex, dFld, dSetFld, dAddFld, gdFld, dMeth, dMake, dPar3, dRevT, oAddTK, dSortSetT, dSortSetTF, gdLst, gdAll, dRevL, dRevLF, dYes, dFrzA, oNegI, bSortG, bSortGF, dSlK, oIsB, oNotB, bSortTS, bSortTSF, bSortI, bSortIF, iDi, dDisp, iEnS, dEi, oTimes, oEqO, oNeO, mClear, mReverse, dMethP, dMethSlP, dMakeP, dMakeSlP, oGeD, oCmpD, dSortSetBF, dSortKDF, dDcT, dLenSetT, dLenSetS, dChain, dAug, iTxt, oInS, oLtS, dDinN, dDin1, gdSubN, dSetDef, iDinK, iDinI, dDcN, dSortSetX, dSortSetXF, dSortSetXT, dSortSetXTF, dChain3, dLenSetXT, dDictN, bMinG, oIxS, dListZip, dDc2T, dSortDTF, dSortSetX0, dSortSetX0F, dRaise, dCallS, dMethS, dMethSlS, dCatch, dIsX, dIsX2, dXf, oInC, bStrI, bIntS, dTry0, gdTail, gdTailT, bMaxG, dCatch2, dRaise0, oLeS, dMaxK, dTupI, dSlS, dCatchN, dIsXN, bRepr, tupOf_lst, tupOf_ref, tupOf_tup, List.map_cons, List.map_nil, List.length_cons, List.length_nil, List.cons_append, List.nil_append, List.append_nil, List.replicate, List.set_cons_zero, List.set_cons_succ, List.getElem?_cons_zero, List.getElem?_cons_succ, Option.some.injEq, exists_eq_left', exists_eq_left, exists_and_left, D.int.injEq, D.bl.injEq, D.str.injEq, D.tup.injEq, D.lst.injEq, D.ref.injEq, List.cons.injEq, and_true, true_and, reduceCtorEq, false_and, and_false, exists_false, or_false, false_or, exists_const, Bool.false_eq_true, if_true, if_false, decide_eq_true_eq, Ob.lst.injEq, Ob.slt.injEq, Ob.dic.injEq, seqD_ref, lstD_ref, seqD_tup, seqD_lst, lstD_lst, lstR_lst, Sto.set_same, Sto.set_set, atI_0, atI_1, atI_2, Nat.reduceAdd, ixN_30, ixN_32, lstD_tup, seqD_row, List.append_assoc, false_or, or_false, cut_d1, cut_t1, sz_0, sz_1, sz_2, sz_3, sz_4, sz_5, sz_6, sz_7, sz_8, sz_9, sz_10, sz_11, sz_12]
    refine ⟨p, pyR_of hp, hsh, e, rfl, hA, ?_⟩
    refine ⟨_, _, ⟨rfl, rfl⟩, e, rfl, hA, ?_⟩
    refine ⟨e, rfl, hA, ?_⟩
    refine c__law_same (same_of rfl) ⟨_, rfl, ?_⟩
    rw [if_neg (by decide)]
    refine ⟨p, pyR_of hp, hsh, _, _, rfl, rfl, _, rfl, ?_⟩
    rw [if_neg (by simp)]
    exact (hnx _ _ _ _ (Wk.refl _) (Sto.sub_refl _) ⟨⟨_, _, _, rfl⟩, hs⟩).1
  · rintro ρ S2 ⟨⟨b4, b8, b9, rfl⟩, hs⟩
    exact ⟨gs_lst, q _ hs⟩
theorem lr_ref {S : Sto} {m : Nat} {ds : List D} (h : S m = some (.lst ds)) : lstR S (.ref m) = some ds := by
  simp [lstR, h]
def ptB (d : D) : Bool := thB 300 16 d && decide (wt 16 d ≤ 100000)
theorem pt_b {d : D} (h : ptB d = true) : Pt d := by
  unfold ptB at h
  rw [Bool.and_eq_true, decide_eq_true_iff] at h
  exact h
theorem pt_all {ds : List D} (h : ds.all ptB = true) : ∀ d ∈ ds, Pt d := fun d hd => pt_b (List.all_eq_true.mp h d hd)
structure Hd (S0 S : Sto) (l : Nat) (acc : List D) : Prop where
  no : S0 l = none
  at_ : S l = some (.lst acc)
  sub : S0.sub S
  pt : ∀ e ∈ acc, Pt e
theorem Hd.app {S0 S : Sto} {l : Nat} {acc es : List D} (h : Hd S0 S l acc) (he : ∀ e ∈ es, Pt e) : Hd S0 (S.set l (.lst (acc ++ es))) l (acc ++ es) := ⟨h.no, Sto.set_same, fun m o e => by
    have : m ≠ l := fun z => by rw [z, h.no] at e; cases e
    rw [Sto.set_ne this]
    exact h.sub _ _ e, fun e hm => (List.mem_append.mp hm).elim (h.pt e) (he e)⟩
theorem Hd.new {S0 S : Sto} {l : Nat} {acc : List D} (hs : S0.sub S) (hl : S l = none) (he : ∀ e ∈ acc, Pt e) : Hd S0 (S.set l (.lst acc)) l acc := ⟨none_of_sub hs hl, Sto.set_same, Sto.sub_trans hs (Sto.sub_set hl), he⟩
theorem Hd.put {S0 S : Sto} {l l3 : Nat} {acc : List D} {o : Ob} (h : Hd S0 S l acc) (n : l ≠ l3) (hl : S l3 = none) : Hd S0 (S.set l3 o) l acc := ⟨h.no, by rw [Sto.set_ne n]; exact h.at_, Sto.sub_trans h.sub (Sto.sub_set hl), h.pt⟩
section
variable {S S0 : Sto} {E : DEnds} {l : Nat} {acc es : List D} {gs : Gs} {te : DA} {b1 b2 b3 b4 b5 b6 b7 : Option D}
theorem al1 (f : D → D) (h0 : Hd S0 S l acc) (hf : (es.map f).all ptB = true) (hn : acc.length + es.length ≤ 1000) (ok : ∀ S, gs.ok S)
    (hte : ∀ d S' R, R [f d] S' → te [some (.ref l), some d, b2, b3, b4, b5, b6, b7] S' R)
    (q : ∀ b1 S' acc', Hd S0 S' l acc' → acc'.length = acc.length + es.length → E.nx [some (.ref l), b1, b2, b3, b4, b5, b6, b7] S') :
    forW gs (.one 1) (dDrop (dBM "list" mAppend (dVar 0) te)) E es [some (.ref l), b1, b2, b3, b4, b5, b6, b7] S := by
  have hp := pt_all hf
  refine forW_self (fun n ρ S' => (∃ b1, ρ = [some (.ref l), b1, b2, b3, b4, b5, b6, b7]) ∧ ∃ acc', Hd S0 S' l acc' ∧ acc'.length = acc.length + n) ⟨⟨_, rfl⟩, acc, h0, rfl⟩ ?_ ?_
  · rintro i d ρ S2 E' hi ⟨⟨b1, rfl⟩, acc', hH, hl⟩ hrt hbk hnx
    have hsl := sizeLine_eq
    have hi2 := (List.getElem?_eq_some_iff.mp hi).1
    refine ⟨ok _, ?_⟩
    simp only [Tg.d, setsE, dWkA, dTupK, dTupL, dTupIx, dDictP, dDc2, dFor, dWhile, dLc, dLc2, dDc, dNextG, iSeq, iR1, iR2, iEn, iZpA, iZ2, iZ3, dSortK, dSortKF, dSortSet, dSortSetF, dBreak, bSortT, bSortTF, bSum, bSumL, bSumLF, bMaxL, bMinL, dDicE, bSortD, bSortDF, dGet2, oInA, oNotInA, oIxA, gdSubA, dSeq, dSet, dIf, dIfS, dTst, dOp, dUn, dVar, dCB, aCons, aNil, aStar, dRet, dRetN, dNext, dDrop, dLst, dTup, dC, dAnd, dOr, dNot, dAndV, dOrV, dNotV, dPar, dAsg, gdName, gdSub, gdTup, gdCons, gdNil, gdSlot, dIsi, dIsi2, dSlot, dSetSlot, dMethSl, dMakeSl, dCall, dCallP, dBM, dFrz, dLstF, dLcF, dLc2F, dDcF, dSlF, dListVF, bListF, bListDF, bSortSF, oAddLF, oRepLF, dSl, dNoP, dPart, dListV, dTru, dOrT, EndsD, startD, oLtI, oLeI, oGtI, oGeI, oIx, oMulI, oPowI, oAddI, oSubI, oModI, oDivI, oI, oI0, oEqD, oNeD, oInD, oNotInD, oAddL, oAddT, oAddS, oRepL, bLen, bAbs, bInt, bMin2, bMax2, bAll, bAny, bTuple, bList, bListD, bSortS, mAppend, mPop, mPopAt, mExtend, mIndex, dFld, dSetFld, dAddFld, gdFld, dMeth, dMake, dPar3, dRevT, oAddTK, dSortSetT, dSortSetTF, gdLst, gdAll, dRevL, dRevLF, dYes, dFrzA, oNegI, bSortG, bSortGF, dSlK, oIsB, oNotB, bSortTS, bSortTSF, bSortI, bSortIF, iDi, dDisp, iEnS, dEi, oTimes, oEqO, oNeO, mClear, mReverse, dMethP, dMethSlP, dMakeP, dMakeSlP, oGeD, oCmpD, dSortSetBF, dSortKDF, dDcT, dLenSetT, dLenSetS, dChain, dAug, iTxt, oInS, oLtS, dDinN, dDin1, gdSubN, dSetDef, iDinK, iDinI, dDcN, dSortSetX, dSortSetXF, dSortSetXT, dSortSetXTF, dChain3, dLenSetXT, dDictN, bMinG, oIxS, dListZip, dDc2T, dSortDTF, dSortSetX0, dSortSetX0F, dRaise, dCallS, dMethS, dMethSlS, dCatch, dIsX, dIsX2, dXf, oInC, bStrI, bIntS, dTry0, gdTail, gdTailT, bMaxG, dCatch2, dRaise0, oLeS, dMaxK, dTupI, dSlS, dCatchN, dIsXN, tupOf_lst, tupOf_ref, tupOf_tup, List.map_cons, List.map_nil, List.length_cons, List.length_nil, List.cons_append, List.nil_append, List.append_nil, List.replicate, List.set_cons_zero, List.set_cons_succ, List.getElem?_cons_zero, List.getElem?_cons_succ, Option.some.injEq, exists_eq_left', exists_eq_left, exists_and_left, D.int.injEq, D.bl.injEq, D.str.injEq, D.tup.injEq, D.lst.injEq, D.ref.injEq, List.cons.injEq, and_true, true_and, reduceCtorEq, false_and, and_false, exists_false, or_false, false_or, exists_const, Bool.false_eq_true, if_true, if_false, decide_eq_true_eq, Ob.lst.injEq, Ob.slt.injEq, Ob.dic.injEq, seqD_ref, lstD_ref, seqD_tup, seqD_lst, lstD_lst, lstR_lst, Sto.set_same, Sto.set_set, atI_0, atI_1, atI_2, Nat.reduceAdd, ixN_30, ixN_32, lstD_tup, seqD_row, List.append_assoc, false_or, or_false, cut_d1, cut_t1, sz_0, sz_1, sz_2, sz_3, sz_4, sz_5, sz_6, sz_7, sz_8, sz_9, sz_10, sz_11, sz_12]
    refine ⟨tyB_at hH.at_, hte d _ _ ⟨_, _, rfl, hH.at_, by omega, ?_⟩⟩
    have hd : Pt (f d) := hp _ (List.mem_map.mpr ⟨d, List.mem_of_getElem? hi, rfl⟩)
    exact (hnx _ _ _ _ (Wk.refl _) (Sto.sub_refl _) ⟨⟨_, rfl⟩, _, hH.app (es := [f d]) (fun e he => by rw [List.mem_singleton.mp he]; exact hd), by rw [List.length_append, hl]; rfl⟩).1
  · rintro ρ S2 ⟨⟨b1, rfl⟩, acc', hH, hl⟩
    exact ⟨ok _, q _ _ _ hH hl⟩
theorem al3 (f : D → D) (h0 : Hd S0 S l acc) (hf : (es.map f).all ptB = true) (hn : acc.length + es.length ≤ 1000) (ok : ∀ S, gs.ok S)
    (hte : ∀ d S' R, R [f d] S' → te [some (.ref l), b1, b2, some d, b4, b5, b6, b7] S' R)
    (q : ∀ b3 S' acc', Hd S0 S' l acc' → acc'.length = acc.length + es.length → E.nx [some (.ref l), b1, b2, b3, b4, b5, b6, b7] S') :
    forW gs (.one 3) (dDrop (dBM "list" mAppend (dVar 0) te)) E es [some (.ref l), b1, b2, b3, b4, b5, b6, b7] S := by
  have hp := pt_all hf
  refine forW_self (fun n ρ S' => (∃ b3, ρ = [some (.ref l), b1, b2, b3, b4, b5, b6, b7]) ∧ ∃ acc', Hd S0 S' l acc' ∧ acc'.length = acc.length + n) ⟨⟨_, rfl⟩, acc, h0, rfl⟩ ?_ ?_
  · rintro i d ρ S2 E' hi ⟨⟨b3, rfl⟩, acc', hH, hl⟩ hrt hbk hnx
    have hsl := sizeLine_eq
    have hi2 := (List.getElem?_eq_some_iff.mp hi).1
    refine ⟨ok _, ?_⟩
    simp only [Tg.d, setsE, dWkA, dTupK, dTupL, dTupIx, dDictP, dDc2, dFor, dWhile, dLc, dLc2, dDc, dNextG, iSeq, iR1, iR2, iEn, iZpA, iZ2, iZ3, dSortK, dSortKF, dSortSet, dSortSetF, dBreak, bSortT, bSortTF, bSum, bSumL, bSumLF, bMaxL, bMinL, dDicE, bSortD, bSortDF, dGet2, oInA, oNotInA, oIxA, gdSubA, dSeq, dSet, dIf, dIfS, dTst, dOp, dUn, dVar, dCB, aCons, aNil, aStar, dRet, dRetN, dNext, dDrop, dLst, dTup, dC, dAnd, dOr, dNot, dAndV, dOrV, dNotV, dPar, dAsg, gdName, gdSub, gdTup, gdCons, gdNil, gdSlot, dIsi, dIsi2, dSlot, dSetSlot, dMethSl, dMakeSl, dCall, dCallP, dBM, dFrz, dLstF, dLcF, dLc2F, dDcF, dSlF, dListVF, bListF, bListDF, bSortSF, oAddLF, oRepLF, dSl, dNoP, dPart, dListV, dTru, dOrT, EndsD, startD, oLtI, oLeI, oGtI, oGeI, oIx, oMulI, oPowI, oAddI, oSubI, oModI, oDivI, oI, oI0, oEqD, oNeD, oInD, oNotInD, oAddL, oAddT, oAddS, oRepL, bLen, bAbs, bInt, bMin2, bMax2, bAll, bAny, bTuple, bList, bListD, bSortS, mAppend, mPop, mPopAt, mExtend, mIndex, dFld, dSetFld, dAddFld, gdFld, dMeth, dMake, dPar3, dRevT, oAddTK, dSortSetT, dSortSetTF, gdLst, gdAll, dRevL, dRevLF, dYes, dFrzA, oNegI, bSortG, bSortGF, dSlK, oIsB, oNotB, bSortTS, bSortTSF, bSortI, bSortIF, iDi, dDisp, iEnS, dEi, oTimes, oEqO, oNeO, mClear, mReverse, dMethP, dMethSlP, dMakeP, dMakeSlP, oGeD, oCmpD, dSortSetBF, dSortKDF, dDcT, dLenSetT, dLenSetS, dChain, dAug, iTxt, oInS, oLtS, dDinN, dDin1, gdSubN, dSetDef, iDinK, iDinI, dDcN, dSortSetX, dSortSetXF, dSortSetXT, dSortSetXTF, dChain3, dLenSetXT, dDictN, bMinG, oIxS, dListZip, dDc2T, dSortDTF, dSortSetX0, dSortSetX0F, dRaise, dCallS, dMethS, dMethSlS, dCatch, dIsX, dIsX2, dXf, oInC, bStrI, bIntS, dTry0, gdTail, gdTailT, bMaxG, dCatch2, dRaise0, oLeS, dMaxK, dTupI, dSlS, dCatchN, dIsXN, tupOf_lst, tupOf_ref, tupOf_tup, List.map_cons, List.map_nil, List.length_cons, List.length_nil, List.cons_append, List.nil_append, List.append_nil, List.replicate, List.set_cons_zero, List.set_cons_succ, List.getElem?_cons_zero, List.getElem?_cons_succ, Option.some.injEq, exists_eq_left', exists_eq_left, exists_and_left, D.int.injEq, D.bl.injEq, D.str.injEq, D.tup.injEq, D.lst.injEq, D.ref.injEq, List.cons.injEq, and_true, true_and, reduceCtorEq, false_and, and_false, exists_false, or_false, false_or, exists_const, Bool.false_eq_true, if_true, if_false, decide_eq_true_eq, Ob.lst.injEq, Ob.slt.injEq, Ob.dic.injEq, seqD_ref, lstD_ref, seqD_tup, seqD_lst, lstD_lst, lstR_lst, Sto.set_same, Sto.set_set, atI_0, atI_1, atI_2, Nat.reduceAdd, ixN_30, ixN_32, lstD_tup, seqD_row, List.append_assoc, false_or, or_false, cut_d1, cut_t1, sz_0, sz_1, sz_2, sz_3, sz_4, sz_5, sz_6, sz_7, sz_8, sz_9, sz_10, sz_11, sz_12]
    refine ⟨tyB_at hH.at_, hte d _ _ ⟨_, _, rfl, hH.at_, by omega, ?_⟩⟩
    have hd : Pt (f d) := hp _ (List.mem_map.mpr ⟨d, List.mem_of_getElem? hi, rfl⟩)
    exact (hnx _ _ _ _ (Wk.refl _) (Sto.sub_refl _) ⟨⟨_, rfl⟩, _, hH.app (es := [f d]) (fun e he => by rw [List.mem_singleton.mp he]; exact hd), by rw [List.length_append, hl]; rfl⟩).1
  · rintro ρ S2 ⟨⟨b3, rfl⟩, acc', hH, hl⟩
    exact ⟨ok _, q _ _ _ hH hl⟩
end
def hdA : D := .tup [.str "a", .tup [.str "x", .str "y"]]
def rlA : D := .tup [.tup [.tup [.str "a", .str "x"]], .str "yes"]
theorem bh2 {S S0 : Sto} {E : DEnds} {l : Nat} {acc : List D} {b1 b2 b3 b4 b7 : Option D} (h : Hd S0 S l acc) (hn : acc.length ≤ 100) (q : ∀ es, (∀ e ∈ es, Pt e) → es.length ≤ 200 → E.rt (.lst es) S) :
    t__law_by_hand_k10 E [some (.ref l), b1, b2, b3, b4, some hdA, some rlA, b7] S := by
  have hsl := sizeLine_eq
  simp only [t__law_by_hand_k10, hdA, rlA, dWkA, dTupK, dTupL, dTupIx, dDictP, dDc2, dFor, dWhile, dLc, dLc2, dDc, dNextG, iSeq, iR1, iR2, iEn, iZpA, iZ2, iZ3, dSortK, dSortKF, dSortSet, dSortSetF, dBreak, bSortT, bSortTF, bSum, bSumL, bSumLF, bMaxL, bMinL, dDicE, bSortD, bSortDF, dGet2, oInA, oNotInA, oIxA, gdSubA, dSeq, dSet, dIf, dIfS, dTst, dOp, dUn, dVar, dCB, aCons, aNil, aStar, dRet, dRetN, dNext, dDrop, dLst, dTup, dC, dAnd, dOr, dNot, dAndV, dOrV, dNotV, dPar, dAsg, gdName, gdSub, gdTup, gdCons, gdNil, gdSlot, dIsi, dIsi2, dSlot, dSetSlot, dMethSl, dMakeSl, dCall, dCallP, dBM, dFrz, dLstF, dLcF, dLc2F, dDcF, dSlF, dListVF, bListF, bListDF, bSortSF, oAddLF, oRepLF, dSl, dNoP, dPart, dListV, dTru, dOrT, EndsD, startD, oLtI, oLeI, oGtI, oGeI, oIx, oMulI, oPowI, oAddI, oSubI, oModI, oDivI, oI, oI0, oEqD, oNeD, oInD, oNotInD, oAddL, oAddT, oAddS, oRepL, bLen, bAbs, bInt, bMin2, bMax2, bAll, bAny, bTuple, bList, bListD, bSortS, mAppend, mPop, mPopAt, mExtend, mIndex, dFld, dSetFld, dAddFld, gdFld, dMeth, dMake, dPar3, dRevT, oAddTK, dSortSetT, dSortSetTF, gdLst, gdAll, dRevL, dRevLF, dYes, dFrzA, oNegI, bSortG, bSortGF, dSlK, oIsB, oNotB, bSortTS, bSortTSF, bSortI, bSortIF, iDi, dDisp, iEnS, dEi, oTimes, oEqO, oNeO, mClear, mReverse, dMethP, dMethSlP, dMakeP, dMakeSlP, oGeD, oCmpD, dSortSetBF, dSortKDF, dDcT, dLenSetT, dLenSetS, dChain, dAug, iTxt, oInS, oLtS, dDinN, dDin1, gdSubN, dSetDef, iDinK, iDinI, dDcN, dSortSetX, dSortSetXF, dSortSetXT, dSortSetXTF, dChain3, dLenSetXT, dDictN, bMinG, oIxS, dListZip, dDc2T, dSortDTF, dSortSetX0, dSortSetX0F, dRaise, dCallS, dMethS, dMethSlS, dCatch, dIsX, dIsX2, dXf, oInC, bStrI, bIntS, dTry0, gdTail, gdTailT, bMaxG, dCatch2, dRaise0, oLeS, dMaxK, dTupI, dSlS, dCatchN, dIsXN, tupOf_lst, tupOf_ref, tupOf_tup, List.map_cons, List.map_nil, List.length_cons, List.length_nil, List.cons_append, List.nil_append, List.append_nil, List.replicate, List.set_cons_zero, List.set_cons_succ, List.getElem?_cons_zero, List.getElem?_cons_succ, Option.some.injEq, exists_eq_left', exists_eq_left, exists_and_left, D.int.injEq, D.bl.injEq, D.str.injEq, D.tup.injEq, D.lst.injEq, D.ref.injEq, List.cons.injEq, and_true, true_and, reduceCtorEq, false_and, and_false, exists_false, or_false, false_or, exists_const, Bool.false_eq_true, if_true, if_false, decide_eq_true_eq, Ob.lst.injEq, Ob.slt.injEq, Ob.dic.injEq, seqD_ref, lstD_ref, seqD_tup, seqD_lst, lstD_lst, lstR_lst, Sto.set_same, Sto.set_set, atI_0, atI_1, atI_2, Nat.reduceAdd, ixN_30, ixN_32, lstD_tup, seqD_row, List.append_assoc, false_or, or_false, cut_d1, cut_t1, sz_0, sz_1, sz_2, sz_3, sz_4, sz_5, sz_6, sz_7, sz_8, sz_9, sz_10, sz_11, sz_12]
  refine ⟨acc, lr_ref h.at_, by omega, ?_⟩
  refine ⟨by simp only [List.length_append, List.length_cons, List.length_nil]; omega, by simp only [List.length_append, List.length_cons, List.length_nil]; omega, ?_⟩
  refine compW_all (fun c : Nat => D.str ⟨#[c]⟩) (fun c => D.tup [.str ⟨#[c]⟩, .tup [.str "x", .str "y", .str "z"]]) Gs.ok_nil (small_sz (by decide +kernel)) (fun c hc S' Py hs' hPy => ?_) ?_
  · simp only [Tg.d, wipeD, dWkA, dTupK, dTupL, dTupIx, dDictP, dDc2, dFor, dWhile, dLc, dLc2, dDc, dNextG, iSeq, iR1, iR2, iEn, iZpA, iZ2, iZ3, dSortK, dSortKF, dSortSet, dSortSetF, dBreak, bSortT, bSortTF, bSum, bSumL, bSumLF, bMaxL, bMinL, dDicE, bSortD, bSortDF, dGet2, oInA, oNotInA, oIxA, gdSubA, dSeq, dSet, dIf, dIfS, dTst, dOp, dUn, dVar, dCB, aCons, aNil, aStar, dRet, dRetN, dNext, dDrop, dLst, dTup, dC, dAnd, dOr, dNot, dAndV, dOrV, dNotV, dPar, dAsg, gdName, gdSub, gdTup, gdCons, gdNil, gdSlot, dIsi, dIsi2, dSlot, dSetSlot, dMethSl, dMakeSl, dCall, dCallP, dBM, dFrz, dLstF, dLcF, dLc2F, dDcF, dSlF, dListVF, bListF, bListDF, bSortSF, oAddLF, oRepLF, dSl, dNoP, dPart, dListV, dTru, dOrT, EndsD, startD, oLtI, oLeI, oGtI, oGeI, oIx, oMulI, oPowI, oAddI, oSubI, oModI, oDivI, oI, oI0, oEqD, oNeD, oInD, oNotInD, oAddL, oAddT, oAddS, oRepL, bLen, bAbs, bInt, bMin2, bMax2, bAll, bAny, bTuple, bList, bListD, bSortS, mAppend, mPop, mPopAt, mExtend, mIndex, dFld, dSetFld, dAddFld, gdFld, dMeth, dMake, dPar3, dRevT, oAddTK, dSortSetT, dSortSetTF, gdLst, gdAll, dRevL, dRevLF, dYes, dFrzA, oNegI, bSortG, bSortGF, dSlK, oIsB, oNotB, bSortTS, bSortTSF, bSortI, bSortIF, iDi, dDisp, iEnS, dEi, oTimes, oEqO, oNeO, mClear, mReverse, dMethP, dMethSlP, dMakeP, dMakeSlP, oGeD, oCmpD, dSortSetBF, dSortKDF, dDcT, dLenSetT, dLenSetS, dChain, dAug, iTxt, oInS, oLtS, dDinN, dDin1, gdSubN, dSetDef, iDinK, iDinI, dDcN, dSortSetX, dSortSetXF, dSortSetXT, dSortSetXTF, dChain3, dLenSetXT, dDictN, bMinG, oIxS, dListZip, dDc2T, dSortDTF, dSortSetX0, dSortSetX0F, dRaise, dCallS, dMethS, dMethSlS, dCatch, dIsX, dIsX2, dXf, oInC, bStrI, bIntS, dTry0, gdTail, gdTailT, bMaxG, dCatch2, dRaise0, oLeS, dMaxK, dTupI, dSlS, dCatchN, dIsXN, tupOf_lst, tupOf_ref, tupOf_tup, List.map_cons, List.map_nil, List.length_cons, List.length_nil, List.cons_append, List.nil_append, List.append_nil, List.replicate, List.set_cons_zero, List.set_cons_succ, List.getElem?_cons_zero, List.getElem?_cons_succ, Option.some.injEq, exists_eq_left', exists_eq_left, exists_and_left, D.int.injEq, D.bl.injEq, D.str.injEq, D.tup.injEq, D.lst.injEq, D.ref.injEq, List.cons.injEq, and_true, true_and, reduceCtorEq, false_and, and_false, exists_false, or_false, false_or, exists_const, Bool.false_eq_true, if_true, if_false, decide_eq_true_eq, Ob.lst.injEq, Ob.slt.injEq, Ob.dic.injEq, seqD_ref, lstD_ref, seqD_tup, seqD_lst, lstD_lst, lstR_lst, Sto.set_same, Sto.set_set, atI_0, atI_1, atI_2, Nat.reduceAdd, ixN_30, ixN_32, lstD_tup, seqD_row, List.append_assoc, false_or, or_false, cut_d1, cut_t1, sz_0, sz_1, sz_2, sz_3, sz_4, sz_5, sz_6, sz_7, sz_8, sz_9, sz_10, sz_11, sz_12]
    exact hPy
  refine .inr ⟨by simp, by decide, by decide, by decide, ?_⟩
  refine ⟨small_sz (by decide +kernel), by simp only [List.length_append, List.length_cons, List.length_nil]; omega, by simp only [List.length_append, List.length_cons, List.length_nil]; omega, by simp only [List.length_append, List.length_cons, List.length_nil]; omega, ?_⟩
  refine q _ (fun e he => (List.mem_append.mp he).elim (h.pt e) (pt_all (by decide +kernel) e)) ?_
  simp only [List.length_append, List.length_cons, List.length_nil]
  omega
theorem v__law_by_hand_k10 : ∀ ds S Q E, sp__law_by_hand_k10 ds S Q E → d__law_by_hand_k10 (EndsD Q) (startD N__law_by_hand_k10 ds) S := by
  rintro ds S Q E ⟨rfl, q⟩
  have hsl := sizeLine_eq
  simp only [d__law_by_hand_k10, N__law_by_hand_k10, dWkA, dTupK, dTupL, dTupIx, dDictP, dDc2, dFor, dWhile, dLc, dLc2, dDc, dNextG, iSeq, iR1, iR2, iEn, iZpA, iZ2, iZ3, dSortK, dSortKF, dSortSet, dSortSetF, dBreak, bSortT, bSortTF, bSum, bSumL, bSumLF, bMaxL, bMinL, dDicE, bSortD, bSortDF, dGet2, oInA, oNotInA, oIxA, gdSubA, dSeq, dSet, dIf, dIfS, dTst, dOp, dUn, dVar, dCB, aCons, aNil, aStar, dRet, dRetN, dNext, dDrop, dLst, dTup, dC, dAnd, dOr, dNot, dAndV, dOrV, dNotV, dPar, dAsg, gdName, gdSub, gdTup, gdCons, gdNil, gdSlot, dIsi, dIsi2, dSlot, dSetSlot, dMethSl, dMakeSl, dCall, dCallP, dBM, dFrz, dLstF, dLcF, dLc2F, dDcF, dSlF, dListVF, bListF, bListDF, bSortSF, oAddLF, oRepLF, dSl, dNoP, dPart, dListV, dTru, dOrT, EndsD, startD, oLtI, oLeI, oGtI, oGeI, oIx, oMulI, oPowI, oAddI, oSubI, oModI, oDivI, oI, oI0, oEqD, oNeD, oInD, oNotInD, oAddL, oAddT, oAddS, oRepL, bLen, bAbs, bInt, bMin2, bMax2, bAll, bAny, bTuple, bList, bListD, bSortS, mAppend, mPop, mPopAt, mExtend, mIndex, dFld, dSetFld, dAddFld, gdFld, dMeth, dMake, dPar3, dRevT, oAddTK, dSortSetT, dSortSetTF, gdLst, gdAll, dRevL, dRevLF, dYes, dFrzA, oNegI, bSortG, bSortGF, dSlK, oIsB, oNotB, bSortTS, bSortTSF, bSortI, bSortIF, iDi, dDisp, iEnS, dEi, oTimes, oEqO, oNeO, mClear, mReverse, dMethP, dMethSlP, dMakeP, dMakeSlP, oGeD, oCmpD, dSortSetBF, dSortKDF, dDcT, dLenSetT, dLenSetS, dChain, dAug, iTxt, oInS, oLtS, dDinN, dDin1, gdSubN, dSetDef, iDinK, iDinI, dDcN, dSortSetX, dSortSetXF, dSortSetXT, dSortSetXTF, dChain3, dLenSetXT, dDictN, bMinG, oIxS, dListZip, dDc2T, dSortDTF, dSortSetX0, dSortSetX0F, dRaise, dCallS, dMethS, dMethSlS, dCatch, dIsX, dIsX2, dXf, oInC, bStrI, bIntS, dTry0, gdTail, gdTailT, bMaxG, dCatch2, dRaise0, oLeS, dMaxK, dTupI, dSlS, dCatchN, dIsXN, tupOf_lst, tupOf_ref, tupOf_tup, List.map_cons, List.map_nil, List.length_cons, List.length_nil, List.cons_append, List.nil_append, List.append_nil, List.replicate, List.set_cons_zero, List.set_cons_succ, List.getElem?_cons_zero, List.getElem?_cons_succ, Option.some.injEq, exists_eq_left', exists_eq_left, exists_and_left, D.int.injEq, D.bl.injEq, D.str.injEq, D.tup.injEq, D.lst.injEq, D.ref.injEq, List.cons.injEq, and_true, true_and, reduceCtorEq, false_and, and_false, exists_false, or_false, false_or, exists_const, Bool.false_eq_true, if_true, if_false, decide_eq_true_eq, Ob.lst.injEq, Ob.slt.injEq, Ob.dic.injEq, seqD_ref, lstD_ref, seqD_tup, seqD_lst, lstD_lst, lstR_lst, Sto.set_same, Sto.set_set, atI_0, atI_1, atI_2, Nat.reduceAdd, ixN_30, ixN_32, lstD_tup, seqD_row, List.append_assoc, false_or, or_false, cut_d1, cut_t1, sz_0, sz_1, sz_2, sz_3, sz_4, sz_5, sz_6, sz_7, sz_8, sz_9, sz_10, sz_11, sz_12]
  refine ⟨_, _, ⟨rfl, rfl⟩, _, _, rfl, rfl, fun l hl => ?_⟩
  refine al1 (fun d => .tup [d, .tup []]) (Hd.new (Sto.sub_refl _) hl (pt_all (by decide +kernel))) (by decide +kernel) (by decide) (fun _ => gs_lst) (fun d S' R h => by simp only [dWkA, dTupK, dTupL, dTupIx, dDictP, dDc2, dFor, dWhile, dLc, dLc2, dDc, dNextG, iSeq, iR1, iR2, iEn, iZpA, iZ2, iZ3, dSortK, dSortKF, dSortSet, dSortSetF, dBreak, bSortT, bSortTF, bSum, bSumL, bSumLF, bMaxL, bMinL, dDicE, bSortD, bSortDF, dGet2, oInA, oNotInA, oIxA, gdSubA, dSeq, dSet, dIf, dIfS, dTst, dOp, dUn, dVar, dCB, aCons, aNil, aStar, dRet, dRetN, dNext, dDrop, dLst, dTup, dC, dAnd, dOr, dNot, dAndV, dOrV, dNotV, dPar, dAsg, gdName, gdSub, gdTup, gdCons, gdNil, gdSlot, dIsi, dIsi2, dSlot, dSetSlot, dMethSl, dMakeSl, dCall, dCallP, dBM, dFrz, dLstF, dLcF, dLc2F, dDcF, dSlF, dListVF, bListF, bListDF, bSortSF, oAddLF, oRepLF, dSl, dNoP, dPart, dListV, dTru, dOrT, EndsD, startD, oLtI, oLeI, oGtI, oGeI, oIx, oMulI, oPowI, oAddI, oSubI, oModI, oDivI, oI, oI0, oEqD, oNeD, oInD, oNotInD, oAddL, oAddT, oAddS, oRepL, bLen, bAbs, bInt, bMin2, bMax2, bAll, bAny, bTuple, bList, bListD, bSortS, mAppend, mPop, mPopAt, mExtend, mIndex, dFld, dSetFld, dAddFld, gdFld, dMeth, dMake, dPar3, dRevT, oAddTK, dSortSetT, dSortSetTF, gdLst, gdAll, dRevL, dRevLF, dYes, dFrzA, oNegI, bSortG, bSortGF, dSlK, oIsB, oNotB, bSortTS, bSortTSF, bSortI, bSortIF, iDi, dDisp, iEnS, dEi, oTimes, oEqO, oNeO, mClear, mReverse, dMethP, dMethSlP, dMakeP, dMakeSlP, oGeD, oCmpD, dSortSetBF, dSortKDF, dDcT, dLenSetT, dLenSetS, dChain, dAug, iTxt, oInS, oLtS, dDinN, dDin1, gdSubN, dSetDef, iDinK, iDinI, dDcN, dSortSetX, dSortSetXF, dSortSetXT, dSortSetXTF, dChain3, dLenSetXT, dDictN, bMinG, oIxS, dListZip, dDc2T, dSortDTF, dSortSetX0, dSortSetX0F, dRaise, dCallS, dMethS, dMethSlS, dCatch, dIsX, dIsX2, dXf, oInC, bStrI, bIntS, dTry0, gdTail, gdTailT, bMaxG, dCatch2, dRaise0, oLeS, dMaxK, dTupI, dSlS, dCatchN, dIsXN, tupOf_lst, tupOf_ref, tupOf_tup, List.map_cons, List.map_nil, List.length_cons, List.length_nil, List.cons_append, List.nil_append, List.append_nil, List.replicate, List.set_cons_zero, List.set_cons_succ, List.getElem?_cons_zero, List.getElem?_cons_succ, Option.some.injEq, exists_eq_left', exists_eq_left, exists_and_left, D.int.injEq, D.bl.injEq, D.str.injEq, D.tup.injEq, D.lst.injEq, D.ref.injEq, List.cons.injEq, and_true, true_and, reduceCtorEq, false_and, and_false, exists_false, or_false, false_or, exists_const, Bool.false_eq_true, if_true, if_false, decide_eq_true_eq, Ob.lst.injEq, Ob.slt.injEq, Ob.dic.injEq, seqD_ref, lstD_ref, seqD_tup, seqD_lst, lstD_lst, lstR_lst, Sto.set_same, Sto.set_set, atI_0, atI_1, atI_2, Nat.reduceAdd, ixN_30, ixN_32, lstD_tup, seqD_row, List.append_assoc, false_or, or_false, cut_d1, cut_t1, sz_0, sz_1, sz_2, sz_3, sz_4, sz_5, sz_6, sz_7, sz_8, sz_9, sz_10, sz_11, sz_12]; exact h) fun b1 S1 acc1 h1 e1 => ?_
  refine al1 (fun d => .tup [d, .tup []]) h1 (by decide +kernel) (by rw [e1]; decide) (fun _ => gs_lst) (fun d S' R h => by simp only [dWkA, dTupK, dTupL, dTupIx, dDictP, dDc2, dFor, dWhile, dLc, dLc2, dDc, dNextG, iSeq, iR1, iR2, iEn, iZpA, iZ2, iZ3, dSortK, dSortKF, dSortSet, dSortSetF, dBreak, bSortT, bSortTF, bSum, bSumL, bSumLF, bMaxL, bMinL, dDicE, bSortD, bSortDF, dGet2, oInA, oNotInA, oIxA, gdSubA, dSeq, dSet, dIf, dIfS, dTst, dOp, dUn, dVar, dCB, aCons, aNil, aStar, dRet, dRetN, dNext, dDrop, dLst, dTup, dC, dAnd, dOr, dNot, dAndV, dOrV, dNotV, dPar, dAsg, gdName, gdSub, gdTup, gdCons, gdNil, gdSlot, dIsi, dIsi2, dSlot, dSetSlot, dMethSl, dMakeSl, dCall, dCallP, dBM, dFrz, dLstF, dLcF, dLc2F, dDcF, dSlF, dListVF, bListF, bListDF, bSortSF, oAddLF, oRepLF, dSl, dNoP, dPart, dListV, dTru, dOrT, EndsD, startD, oLtI, oLeI, oGtI, oGeI, oIx, oMulI, oPowI, oAddI, oSubI, oModI, oDivI, oI, oI0, oEqD, oNeD, oInD, oNotInD, oAddL, oAddT, oAddS, oRepL, bLen, bAbs, bInt, bMin2, bMax2, bAll, bAny, bTuple, bList, bListD, bSortS, mAppend, mPop, mPopAt, mExtend, mIndex, dFld, dSetFld, dAddFld, gdFld, dMeth, dMake, dPar3, dRevT, oAddTK, dSortSetT, dSortSetTF, gdLst, gdAll, dRevL, dRevLF, dYes, dFrzA, oNegI, bSortG, bSortGF, dSlK, oIsB, oNotB, bSortTS, bSortTSF, bSortI, bSortIF, iDi, dDisp, iEnS, dEi, oTimes, oEqO, oNeO, mClear, mReverse, dMethP, dMethSlP, dMakeP, dMakeSlP, oGeD, oCmpD, dSortSetBF, dSortKDF, dDcT, dLenSetT, dLenSetS, dChain, dAug, iTxt, oInS, oLtS, dDinN, dDin1, gdSubN, dSetDef, iDinK, iDinI, dDcN, dSortSetX, dSortSetXF, dSortSetXT, dSortSetXTF, dChain3, dLenSetXT, dDictN, bMinG, oIxS, dListZip, dDc2T, dSortDTF, dSortSetX0, dSortSetX0F, dRaise, dCallS, dMethS, dMethSlS, dCatch, dIsX, dIsX2, dXf, oInC, bStrI, bIntS, dTry0, gdTail, gdTailT, bMaxG, dCatch2, dRaise0, oLeS, dMaxK, dTupI, dSlS, dCatchN, dIsXN, tupOf_lst, tupOf_ref, tupOf_tup, List.map_cons, List.map_nil, List.length_cons, List.length_nil, List.cons_append, List.nil_append, List.append_nil, List.replicate, List.set_cons_zero, List.set_cons_succ, List.getElem?_cons_zero, List.getElem?_cons_succ, Option.some.injEq, exists_eq_left', exists_eq_left, exists_and_left, D.int.injEq, D.bl.injEq, D.str.injEq, D.tup.injEq, D.lst.injEq, D.ref.injEq, List.cons.injEq, and_true, true_and, reduceCtorEq, false_and, and_false, exists_false, or_false, false_or, exists_const, Bool.false_eq_true, if_true, if_false, decide_eq_true_eq, Ob.lst.injEq, Ob.slt.injEq, Ob.dic.injEq, seqD_ref, lstD_ref, seqD_tup, seqD_lst, lstD_lst, lstR_lst, Sto.set_same, Sto.set_set, atI_0, atI_1, atI_2, Nat.reduceAdd, ixN_30, ixN_32, lstD_tup, seqD_row, List.append_assoc, false_or, or_false, cut_d1, cut_t1, sz_0, sz_1, sz_2, sz_3, sz_4, sz_5, sz_6, sz_7, sz_8, sz_9, sz_10, sz_11, sz_12]; exact h) fun b1 S2 acc2 h2 e2 => ?_
  refine al1 (fun d => .tup [d, .tup []]) h2 (by decide +kernel) (by rw [e2, e1]; decide) (fun _ => gs_lst) (fun d S' R h => by simp only [dWkA, dTupK, dTupL, dTupIx, dDictP, dDc2, dFor, dWhile, dLc, dLc2, dDc, dNextG, iSeq, iR1, iR2, iEn, iZpA, iZ2, iZ3, dSortK, dSortKF, dSortSet, dSortSetF, dBreak, bSortT, bSortTF, bSum, bSumL, bSumLF, bMaxL, bMinL, dDicE, bSortD, bSortDF, dGet2, oInA, oNotInA, oIxA, gdSubA, dSeq, dSet, dIf, dIfS, dTst, dOp, dUn, dVar, dCB, aCons, aNil, aStar, dRet, dRetN, dNext, dDrop, dLst, dTup, dC, dAnd, dOr, dNot, dAndV, dOrV, dNotV, dPar, dAsg, gdName, gdSub, gdTup, gdCons, gdNil, gdSlot, dIsi, dIsi2, dSlot, dSetSlot, dMethSl, dMakeSl, dCall, dCallP, dBM, dFrz, dLstF, dLcF, dLc2F, dDcF, dSlF, dListVF, bListF, bListDF, bSortSF, oAddLF, oRepLF, dSl, dNoP, dPart, dListV, dTru, dOrT, EndsD, startD, oLtI, oLeI, oGtI, oGeI, oIx, oMulI, oPowI, oAddI, oSubI, oModI, oDivI, oI, oI0, oEqD, oNeD, oInD, oNotInD, oAddL, oAddT, oAddS, oRepL, bLen, bAbs, bInt, bMin2, bMax2, bAll, bAny, bTuple, bList, bListD, bSortS, mAppend, mPop, mPopAt, mExtend, mIndex, dFld, dSetFld, dAddFld, gdFld, dMeth, dMake, dPar3, dRevT, oAddTK, dSortSetT, dSortSetTF, gdLst, gdAll, dRevL, dRevLF, dYes, dFrzA, oNegI, bSortG, bSortGF, dSlK, oIsB, oNotB, bSortTS, bSortTSF, bSortI, bSortIF, iDi, dDisp, iEnS, dEi, oTimes, oEqO, oNeO, mClear, mReverse, dMethP, dMethSlP, dMakeP, dMakeSlP, oGeD, oCmpD, dSortSetBF, dSortKDF, dDcT, dLenSetT, dLenSetS, dChain, dAug, iTxt, oInS, oLtS, dDinN, dDin1, gdSubN, dSetDef, iDinK, iDinI, dDcN, dSortSetX, dSortSetXF, dSortSetXT, dSortSetXTF, dChain3, dLenSetXT, dDictN, bMinG, oIxS, dListZip, dDc2T, dSortDTF, dSortSetX0, dSortSetX0F, dRaise, dCallS, dMethS, dMethSlS, dCatch, dIsX, dIsX2, dXf, oInC, bStrI, bIntS, dTry0, gdTail, gdTailT, bMaxG, dCatch2, dRaise0, oLeS, dMaxK, dTupI, dSlS, dCatchN, dIsXN, tupOf_lst, tupOf_ref, tupOf_tup, List.map_cons, List.map_nil, List.length_cons, List.length_nil, List.cons_append, List.nil_append, List.append_nil, List.replicate, List.set_cons_zero, List.set_cons_succ, List.getElem?_cons_zero, List.getElem?_cons_succ, Option.some.injEq, exists_eq_left', exists_eq_left, exists_and_left, D.int.injEq, D.bl.injEq, D.str.injEq, D.tup.injEq, D.lst.injEq, D.ref.injEq, List.cons.injEq, and_true, true_and, reduceCtorEq, false_and, and_false, exists_false, or_false, false_or, exists_const, Bool.false_eq_true, if_true, if_false, decide_eq_true_eq, Ob.lst.injEq, Ob.slt.injEq, Ob.dic.injEq, seqD_ref, lstD_ref, seqD_tup, seqD_lst, lstD_lst, lstR_lst, Sto.set_same, Sto.set_set, atI_0, atI_1, atI_2, Nat.reduceAdd, ixN_30, ixN_32, lstD_tup, seqD_row, List.append_assoc, false_or, or_false, cut_d1, cut_t1, sz_0, sz_1, sz_2, sz_3, sz_4, sz_5, sz_6, sz_7, sz_8, sz_9, sz_10, sz_11, sz_12]; exact h) fun b1 S3 acc3 h3 e3 => ?_
  refine al1 (fun d => .tup [d, .tup []]) h3 (by decide +kernel) (by rw [e3, e2, e1]; decide) (fun _ => gs_lst) (fun d S' R h => by simp only [dWkA, dTupK, dTupL, dTupIx, dDictP, dDc2, dFor, dWhile, dLc, dLc2, dDc, dNextG, iSeq, iR1, iR2, iEn, iZpA, iZ2, iZ3, dSortK, dSortKF, dSortSet, dSortSetF, dBreak, bSortT, bSortTF, bSum, bSumL, bSumLF, bMaxL, bMinL, dDicE, bSortD, bSortDF, dGet2, oInA, oNotInA, oIxA, gdSubA, dSeq, dSet, dIf, dIfS, dTst, dOp, dUn, dVar, dCB, aCons, aNil, aStar, dRet, dRetN, dNext, dDrop, dLst, dTup, dC, dAnd, dOr, dNot, dAndV, dOrV, dNotV, dPar, dAsg, gdName, gdSub, gdTup, gdCons, gdNil, gdSlot, dIsi, dIsi2, dSlot, dSetSlot, dMethSl, dMakeSl, dCall, dCallP, dBM, dFrz, dLstF, dLcF, dLc2F, dDcF, dSlF, dListVF, bListF, bListDF, bSortSF, oAddLF, oRepLF, dSl, dNoP, dPart, dListV, dTru, dOrT, EndsD, startD, oLtI, oLeI, oGtI, oGeI, oIx, oMulI, oPowI, oAddI, oSubI, oModI, oDivI, oI, oI0, oEqD, oNeD, oInD, oNotInD, oAddL, oAddT, oAddS, oRepL, bLen, bAbs, bInt, bMin2, bMax2, bAll, bAny, bTuple, bList, bListD, bSortS, mAppend, mPop, mPopAt, mExtend, mIndex, dFld, dSetFld, dAddFld, gdFld, dMeth, dMake, dPar3, dRevT, oAddTK, dSortSetT, dSortSetTF, gdLst, gdAll, dRevL, dRevLF, dYes, dFrzA, oNegI, bSortG, bSortGF, dSlK, oIsB, oNotB, bSortTS, bSortTSF, bSortI, bSortIF, iDi, dDisp, iEnS, dEi, oTimes, oEqO, oNeO, mClear, mReverse, dMethP, dMethSlP, dMakeP, dMakeSlP, oGeD, oCmpD, dSortSetBF, dSortKDF, dDcT, dLenSetT, dLenSetS, dChain, dAug, iTxt, oInS, oLtS, dDinN, dDin1, gdSubN, dSetDef, iDinK, iDinI, dDcN, dSortSetX, dSortSetXF, dSortSetXT, dSortSetXTF, dChain3, dLenSetXT, dDictN, bMinG, oIxS, dListZip, dDc2T, dSortDTF, dSortSetX0, dSortSetX0F, dRaise, dCallS, dMethS, dMethSlS, dCatch, dIsX, dIsX2, dXf, oInC, bStrI, bIntS, dTry0, gdTail, gdTailT, bMaxG, dCatch2, dRaise0, oLeS, dMaxK, dTupI, dSlS, dCatchN, dIsXN, tupOf_lst, tupOf_ref, tupOf_tup, List.map_cons, List.map_nil, List.length_cons, List.length_nil, List.cons_append, List.nil_append, List.append_nil, List.replicate, List.set_cons_zero, List.set_cons_succ, List.getElem?_cons_zero, List.getElem?_cons_succ, Option.some.injEq, exists_eq_left', exists_eq_left, exists_and_left, D.int.injEq, D.bl.injEq, D.str.injEq, D.tup.injEq, D.lst.injEq, D.ref.injEq, List.cons.injEq, and_true, true_and, reduceCtorEq, false_and, and_false, exists_false, or_false, false_or, exists_const, Bool.false_eq_true, if_true, if_false, decide_eq_true_eq, Ob.lst.injEq, Ob.slt.injEq, Ob.dic.injEq, seqD_ref, lstD_ref, seqD_tup, seqD_lst, lstD_lst, lstR_lst, Sto.set_same, Sto.set_set, atI_0, atI_1, atI_2, Nat.reduceAdd, ixN_30, ixN_32, lstD_tup, seqD_row, List.append_assoc, false_or, or_false, cut_d1, cut_t1, sz_0, sz_1, sz_2, sz_3, sz_4, sz_5, sz_6, sz_7, sz_8, sz_9, sz_10, sz_11, sz_12]; exact h) fun b1 S4 acc4 h4 e4 => ?_
  have n4 : acc4.length = 25 := by rw [e4, e3, e2, e1]; rfl
  refine ⟨_, rfl, _, rfl, acc4, lr_ref h4.at_, by omega, fun l2 hl2 l3 hl3 => ?_⟩
  simp only [dWkA, dTupK, dTupL, dTupIx, dDictP, dDc2, dFor, dWhile, dLc, dLc2, dDc, dNextG, iSeq, iR1, iR2, iEn, iZpA, iZ2, iZ3, dSortK, dSortKF, dSortSet, dSortSetF, dBreak, bSortT, bSortTF, bSum, bSumL, bSumLF, bMaxL, bMinL, dDicE, bSortD, bSortDF, dGet2, oInA, oNotInA, oIxA, gdSubA, dSeq, dSet, dIf, dIfS, dTst, dOp, dUn, dVar, dCB, aCons, aNil, aStar, dRet, dRetN, dNext, dDrop, dLst, dTup, dC, dAnd, dOr, dNot, dAndV, dOrV, dNotV, dPar, dAsg, gdName, gdSub, gdTup, gdCons, gdNil, gdSlot, dIsi, dIsi2, dSlot, dSetSlot, dMethSl, dMakeSl, dCall, dCallP, dBM, dFrz, dLstF, dLcF, dLc2F, dDcF, dSlF, dListVF, bListF, bListDF, bSortSF, oAddLF, oRepLF, dSl, dNoP, dPart, dListV, dTru, dOrT, EndsD, startD, oLtI, oLeI, oGtI, oGeI, oIx, oMulI, oPowI, oAddI, oSubI, oModI, oDivI, oI, oI0, oEqD, oNeD, oInD, oNotInD, oAddL, oAddT, oAddS, oRepL, bLen, bAbs, bInt, bMin2, bMax2, bAll, bAny, bTuple, bList, bListD, bSortS, mAppend, mPop, mPopAt, mExtend, mIndex, dFld, dSetFld, dAddFld, gdFld, dMeth, dMake, dPar3, dRevT, oAddTK, dSortSetT, dSortSetTF, gdLst, gdAll, dRevL, dRevLF, dYes, dFrzA, oNegI, bSortG, bSortGF, dSlK, oIsB, oNotB, bSortTS, bSortTSF, bSortI, bSortIF, iDi, dDisp, iEnS, dEi, oTimes, oEqO, oNeO, mClear, mReverse, dMethP, dMethSlP, dMakeP, dMakeSlP, oGeD, oCmpD, dSortSetBF, dSortKDF, dDcT, dLenSetT, dLenSetS, dChain, dAug, iTxt, oInS, oLtS, dDinN, dDin1, gdSubN, dSetDef, iDinK, iDinI, dDcN, dSortSetX, dSortSetXF, dSortSetXT, dSortSetXTF, dChain3, dLenSetXT, dDictN, bMinG, oIxS, dListZip, dDc2T, dSortDTF, dSortSetX0, dSortSetX0F, dRaise, dCallS, dMethS, dMethSlS, dCatch, dIsX, dIsX2, dXf, oInC, bStrI, bIntS, dTry0, gdTail, gdTailT, bMaxG, dCatch2, dRaise0, oLeS, dMaxK, dTupI, dSlS, dCatchN, dIsXN, tupOf_lst, tupOf_ref, tupOf_tup, List.map_cons, List.map_nil, List.length_cons, List.length_nil, List.cons_append, List.nil_append, List.append_nil, List.replicate, List.set_cons_zero, List.set_cons_succ, List.getElem?_cons_zero, List.getElem?_cons_succ, Option.some.injEq, exists_eq_left', exists_eq_left, exists_and_left, D.int.injEq, D.bl.injEq, D.str.injEq, D.tup.injEq, D.lst.injEq, D.ref.injEq, List.cons.injEq, and_true, true_and, reduceCtorEq, false_and, and_false, exists_false, or_false, false_or, exists_const, Bool.false_eq_true, if_true, if_false, decide_eq_true_eq, Ob.lst.injEq, Ob.slt.injEq, Ob.dic.injEq, seqD_ref, lstD_ref, seqD_tup, seqD_lst, lstD_lst, lstR_lst, Sto.set_same, Sto.set_set, atI_0, atI_1, atI_2, Nat.reduceAdd, ixN_30, ixN_32, lstD_tup, seqD_row, List.append_assoc, false_or, or_false, cut_d1, cut_t1, sz_0, sz_1, sz_2, sz_3, sz_4, sz_5, sz_6, sz_7, sz_8, sz_9, sz_10, sz_11, sz_12]
  clear h1 h2 h3 e1 e2 e3 e4
  have n23 : l2 ≠ l3 := fun e => by rw [← e, Sto.set_same] at hl3; cases hl3
  refine ⟨tyB_at Sto.set_same, by omega, _, lr_ref Sto.set_same, small_sz (by decide), small_sz (by decide), ?_⟩
  have A : Hd S (S4.set l2 (.lst (acc4 ++ [.tup [.tup [.tup [.str "a", .tup [.str "x\n"]]], .tup []], .tup [hdA, .tup []]]))) l2 (acc4 ++ [.tup [.tup [.tup [.str "a", .tup [.str "x\n"]]], .tup []], .tup [hdA, .tup []]]) := Hd.new h4.sub hl2 fun e he => (List.mem_append.mp he).elim (h4.pt e) (pt_all (by decide +kernel) e)
  have A2 := A.put n23 hl3 (o := .lst [.tup [.tup [.str "a", .str ""]], .tup [.tup [.str "a", .str "none"]], .tup [.tup [.str "b", .str "x"]], .tup [.tup [.str "a", .str "x"], .tup [.str "a", .str "y"]], .tup [.tup [.str "a", .int 1]], .tup [.tup [.str "a"]], .tup [.str "a", .str "x"]])
  refine al3 (fun d => .tup [.tup [hdA], .tup [.tup [d, .str "yes"]]]) A2 (by decide +kernel) (by rw [List.length_append, n4]; decide) (fun _ => gs_lst) (fun d S' R h => by simp only [dWkA, dTupK, dTupL, dTupIx, dDictP, dDc2, dFor, dWhile, dLc, dLc2, dDc, dNextG, iSeq, iR1, iR2, iEn, iZpA, iZ2, iZ3, dSortK, dSortKF, dSortSet, dSortSetF, dBreak, bSortT, bSortTF, bSum, bSumL, bSumLF, bMaxL, bMinL, dDicE, bSortD, bSortDF, dGet2, oInA, oNotInA, oIxA, gdSubA, dSeq, dSet, dIf, dIfS, dTst, dOp, dUn, dVar, dCB, aCons, aNil, aStar, dRet, dRetN, dNext, dDrop, dLst, dTup, dC, dAnd, dOr, dNot, dAndV, dOrV, dNotV, dPar, dAsg, gdName, gdSub, gdTup, gdCons, gdNil, gdSlot, dIsi, dIsi2, dSlot, dSetSlot, dMethSl, dMakeSl, dCall, dCallP, dBM, dFrz, dLstF, dLcF, dLc2F, dDcF, dSlF, dListVF, bListF, bListDF, bSortSF, oAddLF, oRepLF, dSl, dNoP, dPart, dListV, dTru, dOrT, EndsD, startD, oLtI, oLeI, oGtI, oGeI, oIx, oMulI, oPowI, oAddI, oSubI, oModI, oDivI, oI, oI0, oEqD, oNeD, oInD, oNotInD, oAddL, oAddT, oAddS, oRepL, bLen, bAbs, bInt, bMin2, bMax2, bAll, bAny, bTuple, bList, bListD, bSortS, mAppend, mPop, mPopAt, mExtend, mIndex, dFld, dSetFld, dAddFld, gdFld, dMeth, dMake, dPar3, dRevT, oAddTK, dSortSetT, dSortSetTF, gdLst, gdAll, dRevL, dRevLF, dYes, dFrzA, oNegI, bSortG, bSortGF, dSlK, oIsB, oNotB, bSortTS, bSortTSF, bSortI, bSortIF, iDi, dDisp, iEnS, dEi, oTimes, oEqO, oNeO, mClear, mReverse, dMethP, dMethSlP, dMakeP, dMakeSlP, oGeD, oCmpD, dSortSetBF, dSortKDF, dDcT, dLenSetT, dLenSetS, dChain, dAug, iTxt, oInS, oLtS, dDinN, dDin1, gdSubN, dSetDef, iDinK, iDinI, dDcN, dSortSetX, dSortSetXF, dSortSetXT, dSortSetXTF, dChain3, dLenSetXT, dDictN, bMinG, oIxS, dListZip, dDc2T, dSortDTF, dSortSetX0, dSortSetX0F, dRaise, dCallS, dMethS, dMethSlS, dCatch, dIsX, dIsX2, dXf, oInC, bStrI, bIntS, dTry0, gdTail, gdTailT, bMaxG, dCatch2, dRaise0, oLeS, dMaxK, dTupI, dSlS, dCatchN, dIsXN, tupOf_lst, tupOf_ref, tupOf_tup, List.map_cons, List.map_nil, List.length_cons, List.length_nil, List.cons_append, List.nil_append, List.append_nil, List.replicate, List.set_cons_zero, List.set_cons_succ, List.getElem?_cons_zero, List.getElem?_cons_succ, Option.some.injEq, exists_eq_left', exists_eq_left, exists_and_left, D.int.injEq, D.bl.injEq, D.str.injEq, D.tup.injEq, D.lst.injEq, D.ref.injEq, List.cons.injEq, and_true, true_and, reduceCtorEq, false_and, and_false, exists_false, or_false, false_or, exists_const, Bool.false_eq_true, if_true, if_false, decide_eq_true_eq, Ob.lst.injEq, Ob.slt.injEq, Ob.dic.injEq, seqD_ref, lstD_ref, seqD_tup, seqD_lst, lstD_lst, lstR_lst, Sto.set_same, Sto.set_set, atI_0, atI_1, atI_2, Nat.reduceAdd, ixN_30, ixN_32, lstD_tup, seqD_row, List.append_assoc, false_or, or_false, cut_d1, cut_t1, sz_0, sz_1, sz_2, sz_3, sz_4, sz_5, sz_6, sz_7, sz_8, sz_9, sz_10, sz_11, sz_12]; exact h) fun b3 S5 acc5 h5 e5 => ?_
  refine al3 (fun d => .tup [.tup [hdA], .tup [.tup [.tup [], d]]]) h5 (by decide +kernel) (by rw [e5, List.length_append, n4]; decide) (fun _ => gs_lst) (fun d S' R h => by simp only [dWkA, dTupK, dTupL, dTupIx, dDictP, dDc2, dFor, dWhile, dLc, dLc2, dDc, dNextG, iSeq, iR1, iR2, iEn, iZpA, iZ2, iZ3, dSortK, dSortKF, dSortSet, dSortSetF, dBreak, bSortT, bSortTF, bSum, bSumL, bSumLF, bMaxL, bMinL, dDicE, bSortD, bSortDF, dGet2, oInA, oNotInA, oIxA, gdSubA, dSeq, dSet, dIf, dIfS, dTst, dOp, dUn, dVar, dCB, aCons, aNil, aStar, dRet, dRetN, dNext, dDrop, dLst, dTup, dC, dAnd, dOr, dNot, dAndV, dOrV, dNotV, dPar, dAsg, gdName, gdSub, gdTup, gdCons, gdNil, gdSlot, dIsi, dIsi2, dSlot, dSetSlot, dMethSl, dMakeSl, dCall, dCallP, dBM, dFrz, dLstF, dLcF, dLc2F, dDcF, dSlF, dListVF, bListF, bListDF, bSortSF, oAddLF, oRepLF, dSl, dNoP, dPart, dListV, dTru, dOrT, EndsD, startD, oLtI, oLeI, oGtI, oGeI, oIx, oMulI, oPowI, oAddI, oSubI, oModI, oDivI, oI, oI0, oEqD, oNeD, oInD, oNotInD, oAddL, oAddT, oAddS, oRepL, bLen, bAbs, bInt, bMin2, bMax2, bAll, bAny, bTuple, bList, bListD, bSortS, mAppend, mPop, mPopAt, mExtend, mIndex, dFld, dSetFld, dAddFld, gdFld, dMeth, dMake, dPar3, dRevT, oAddTK, dSortSetT, dSortSetTF, gdLst, gdAll, dRevL, dRevLF, dYes, dFrzA, oNegI, bSortG, bSortGF, dSlK, oIsB, oNotB, bSortTS, bSortTSF, bSortI, bSortIF, iDi, dDisp, iEnS, dEi, oTimes, oEqO, oNeO, mClear, mReverse, dMethP, dMethSlP, dMakeP, dMakeSlP, oGeD, oCmpD, dSortSetBF, dSortKDF, dDcT, dLenSetT, dLenSetS, dChain, dAug, iTxt, oInS, oLtS, dDinN, dDin1, gdSubN, dSetDef, iDinK, iDinI, dDcN, dSortSetX, dSortSetXF, dSortSetXT, dSortSetXTF, dChain3, dLenSetXT, dDictN, bMinG, oIxS, dListZip, dDc2T, dSortDTF, dSortSetX0, dSortSetX0F, dRaise, dCallS, dMethS, dMethSlS, dCatch, dIsX, dIsX2, dXf, oInC, bStrI, bIntS, dTry0, gdTail, gdTailT, bMaxG, dCatch2, dRaise0, oLeS, dMaxK, dTupI, dSlS, dCatchN, dIsXN, tupOf_lst, tupOf_ref, tupOf_tup, List.map_cons, List.map_nil, List.length_cons, List.length_nil, List.cons_append, List.nil_append, List.append_nil, List.replicate, List.set_cons_zero, List.set_cons_succ, List.getElem?_cons_zero, List.getElem?_cons_succ, Option.some.injEq, exists_eq_left', exists_eq_left, exists_and_left, D.int.injEq, D.bl.injEq, D.str.injEq, D.tup.injEq, D.lst.injEq, D.ref.injEq, List.cons.injEq, and_true, true_and, reduceCtorEq, false_and, and_false, exists_false, or_false, false_or, exists_const, Bool.false_eq_true, if_true, if_false, decide_eq_true_eq, Ob.lst.injEq, Ob.slt.injEq, Ob.dic.injEq, seqD_ref, lstD_ref, seqD_tup, seqD_lst, lstD_lst, lstR_lst, Sto.set_same, Sto.set_set, atI_0, atI_1, atI_2, Nat.reduceAdd, ixN_30, ixN_32, lstD_tup, seqD_row, List.append_assoc, false_or, or_false, cut_d1, cut_t1, sz_0, sz_1, sz_2, sz_3, sz_4, sz_5, sz_6, sz_7, sz_8, sz_9, sz_10, sz_11, sz_12]; exact h) fun b3 S6 acc6 h6 e6 => ?_
  exact bh2 h6 (by rw [e6, e5, List.length_append, n4]; decide) fun es he hl => drp_of (q es _ he hl h6.sub)
theorem wts_leB {n B : Nat} : ∀ {ds : List D}, (∀ d ∈ ds, wt n d ≤ B) → wts n ds ≤ ds.length * (B + 1)
  | [], _ => by rw [wts_nil]; exact Nat.zero_le _
  | d :: ds, h => by
    have h1 := h d List.mem_cons_self
    have h2 := wts_leB (n := n) (B := B) (ds := ds) fun x hx => h x (List.mem_cons_of_mem _ hx)
    rw [wts_cons, List.length_cons, Nat.add_mul]
    omega
def RwK (m : Nat) (r : List Str) : Prop := r.length ≤ m ∧ ∀ v ∈ r, PyData.strOk v = true ∧ v.length ≤ 8
theorem th_strs {m : Nat} {r : List Str} (h : RwK m r) (hm : m ≤ 8) : thB 8 2 (.tup (r.map .str)) = true ∧ wt 2 (.tup (r.map .str)) ≤ 72 := by
  refine ⟨th_tup.mpr ⟨by rw [List.length_map]; have := h.1; omega, fun d hd => ?_⟩, ?_⟩
  · obtain ⟨v, hv, rfl⟩ := List.mem_map.mp hd
    exact (h.2 v hv).1
  · have h1 := wts_leB (n := 1) (B := 8) (ds := r.map D.str) fun d hd => by
      obtain ⟨v, hv, rfl⟩ := List.mem_map.mp hd
      exact (h.2 v hv).2
    rw [wt_tup]
    rw [List.length_map] at h1
    have h2 := h.1
    omega
theorem nm_short {s : Str} (h : isNm s = true) : s.length ≤ 8 := by
  unfold isNm at h
  rw [Bool.and_eq_true, Bool.and_eq_true, decide_eq_true_iff, decide_eq_true_iff] at h
  exact h.2.1
theorem v__law_sizes_k10 : ∀ ds S Q E, sp__law_sizes_k10 ds S Q E → d__law_sizes_k10 (EndsD Q) (startD N__law_sizes_k10 ds) S := by
  rintro ds S Q E ⟨l, c, rfl, hB, hc, q⟩
  simp only [d__law_sizes_k10, N__law_sizes_k10, sp__law_of, frzO_lst, dWkA, dTupK, dTupL, dTupIx, dDictP, dDc2, dFor, dWhile, dLc, dLc2, dDc, dNextG, iSeq, iR1, iR2, iEn, iZpA, iZ2, iZ3, dSortK, dSortKF, dSortSet, dSortSetF, dBreak, bSortT, bSortTF, bSum, bSumL, bSumLF, bMaxL, bMinL, dDicE, bSortD, bSortDF, dGet2, oInA, oNotInA, oIxA, gdSubA, dSeq, dSet, dIf, dIfS, dTst, dOp, dUn, dVar, dCB, aCons, aNil, aStar, dRet, dRetN, dNext, dDrop, dLst, dTup, dC, dAnd, dOr, dNot, dAndV, dOrV, dNotV, dPar, dAsg, gdName, gdSub, gdTup, gdCons, gdNil, gdSlot, dIsi, dIsi2, dSlot, dSetSlot, dMethSl, dMakeSl, dCall, dCallP, dBM, dFrz, dLstF, dLcF, dLc2F, dDcF, dSlF, dListVF, bListF, bListDF, bSortSF, oAddLF, oRepLF, dSl, dNoP, dPart, dListV, dTru, dOrT, EndsD, startD, oLtI, oLeI, oGtI, oGeI, oIx, oMulI, oPowI, oAddI, oSubI, oModI, oDivI, oI, oI0, oEqD, oNeD, oInD, oNotInD, oAddL, oAddT, oAddS, oRepL, bLen, bAbs, bInt, bMin2, bMax2, bAll, bAny, bTuple, bList, bListD, bSortS, mAppend, mPop, mPopAt, mExtend, mIndex, tupOf_lst, tupOf_ref, tupOf_tup, List.map_cons, List.map_nil, List.length_cons, List.length_nil, List.cons_append, List.nil_append, List.append_nil, List.replicate, List.set_cons_zero, List.set_cons_succ, List.getElem?_cons_zero, List.getElem?_cons_succ, Option.some.injEq, exists_eq_left', exists_eq_left, exists_and_left, D.int.injEq, D.bl.injEq, D.str.injEq, D.tup.injEq, D.lst.injEq, D.ref.injEq, List.cons.injEq, and_true, true_and, reduceCtorEq, false_and, and_false, exists_false, or_false, false_or, exists_const, Bool.false_eq_true, if_true, if_false, decide_eq_true_eq, Ob.lst.injEq, Ob.slt.injEq, Ob.dic.injEq, seqD_ref, lstD_ref, seqD_tup, seqD_lst, lstD_lst, lstR_lst, Sto.set_same, Sto.set_set, atI_0, atI_1, atI_2, Nat.reduceAdd, ixN_30, ixN_32]
  iterate 10 (refine ⟨small_sz (by decide), fun l' hl' => ?_⟩; rw [Sto.del_set hl'])
  refine ⟨l, _, ⟨rfl, rfl⟩, _, fun _ => rfl, rfl, by simp, by simp, c, hB, by omega, fun e o he hO => drp_of ?_⟩
  have he' : e ∈ [[2], [1, 2], [2, 2], [1, 1, 2], [2, 1, 1], [3, 3], [1, 1, 1, 1], [2, 2, 2], [3, 2, 3]].map fun ss : List Int => D.lst (ss.map .int) := he
  obtain ⟨ss, hs, rfl⟩ := List.mem_map.mp he'
  have key : ∀ ss ∈ ([[2], [1, 2], [2, 2], [1, 1, 2], [2, 1, 1], [3, 3], [1, 1, 1, 1], [2, 2, 2], [3, 2, 3]] : List (List Int)), ss.length ≤ 4 ∧ (∀ s ∈ ss, 1 ≤ s ∧ s ≤ 3) ∧ ss ≠ [] := by decide
  exact q ss o (key ss hs).1 (key ss hs).2.1 (key ss hs).2.2 hO
theorem net_parts {w : Wd} (hw : WS w) : (∀ d ∈ w.hs.map headD, thB 200 4 d = true ∧ wt 4 d ≤ 100) ∧ ∀ d ∈ w.rs.map ruleD, thB 200 4 d = true ∧ wt 4 d ≤ 1910 := by
  have hn : ∀ n ∈ w.names, n.length ≤ 8 := fun n hn => by
    obtain ⟨h, hh, rfl⟩ := List.mem_map.mp hn
    exact nm_short (hw.nm h hh)
  have h1 : ∀ d ∈ w.hs.map headD, thB 200 4 d = true ∧ wt 4 d ≤ 100 := fun d hd => by
    obtain ⟨h, hh, rfl⟩ := List.mem_map.mp hd
    have hr : RwK 8 h.2 := ⟨by have := hw.v3 h hh; omega, fun v hv => ⟨(hw.so h hh).2 v hv, nm_short (hw.vnm h hh v hv)⟩⟩
    obtain ⟨a1, a2⟩ := th_strs hr (Nat.le_refl _)
    obtain ⟨a3, a4⟩ := th_le (n := 3) a1 (by decide)
    have a5 := nm_short (hw.nm h hh)
    refine ⟨th_tup.mpr ⟨by show 2 ≤ 200; decide, fun x hx => ?_⟩, ?_⟩
    · rcases List.mem_cons.mp hx with rfl | hx
      · exact (hw.so h hh).1
      · rw [List.mem_singleton.mp hx]
        exact th_wide a3 (by decide)
    · show wts 3 [_, _] ≤ 100
      rw [wts_cons, wts_cons, wts_nil, a4]
      show h.1.length + 1 + _ ≤ 100
      omega
  have h2 : ∀ d ∈ w.rs.map ruleD, thB 200 4 d = true ∧ wt 4 d ≤ 1910 := fun d hd => by
    obtain ⟨r, hr, rfl⟩ := List.mem_map.mp hd
    have htl := hw.tl r hr
    have a0 : ∀ x ∈ r.1.map fun t => D.tup [D.str t.1, D.str t.2], thB 200 2 x = true ∧ wt 2 x ≤ 18 := fun x hx => by
      obtain ⟨t, ht, rfl⟩ := List.mem_map.mp hx
      have b1 := (hw.ro r hr).2 t ht
      have b2 := hn _ (hw.tn r hr t ht)
      have b3 : t.2.length ≤ 8 := by
        rcases hw.tv r hr t ht with e | e
        · rw [e]; decide
        · exact nm_short e
      refine ⟨th_tup.mpr ⟨by show 2 ≤ 200; decide, fun x hx => ?_⟩, ?_⟩
      · rcases List.mem_cons.mp hx with rfl | hx
        · exact b1.1
        · rw [List.mem_singleton.mp hx]
          exact b1.2
      · show wts 1 [_, _] ≤ 18
        rw [wts_cons, wts_cons, wts_nil]
        show t.1.length + 1 + (t.2.length + 1 + 0) ≤ 18
        omega
    have a1 : thB 200 3 (.tup (r.1.map fun t => D.tup [D.str t.1, D.str t.2])) = true := th_tup.mpr ⟨by rw [List.length_map]; omega, fun x hx => (a0 x hx).1⟩
    have a2 : wt 3 (.tup (r.1.map fun t => D.tup [D.str t.1, D.str t.2])) ≤ 1900 := by
      have := wts_leB fun x hx => (a0 x hx).2
      rw [List.length_map] at this
      rw [wt_tup]
      omega
    have a5 := nm_short (hw.an r hr)
    refine ⟨th_tup.mpr ⟨by show 2 ≤ 200; decide, fun x hx => ?_⟩, ?_⟩
    · rcases List.mem_cons.mp hx with rfl | hx
      · exact a1
      · rw [List.mem_singleton.mp hx]
        exact (hw.ro r hr).1
    · show wts 3 [_, _] ≤ 1910
      rw [wts_cons, wts_cons, wts_nil]
      show wt 3 (.tup (r.1.map fun t => D.tup [D.str t.1, D.str t.2])) + 1 + (r.2.length + 1 + 0) ≤ 1910
      omega
  exact ⟨h1, h2⟩
theorem part_t {ds es : List D} {m B : Nat} (h : ∀ d ∈ ds, thB 200 4 d = true ∧ wt 4 d ≤ B) (hs : ∀ e ∈ es, e ∈ ds) (hl : es.length ≤ m) (hm : m ≤ 200) : thB 200 5 (.tup es) = true ∧ wt 5 (.tup es) ≤ m * (B + 1) := by
  refine ⟨th_tup.mpr ⟨by omega, fun e he => (h e (hs e he)).1⟩, ?_⟩
  rw [wt_tup]
  exact Nat.le_trans (wts_leB fun e he => (h e (hs e he)).2) (Nat.mul_le_mul_right _ hl)
theorem pt_of {ds : List D} (hl : ds.length ≤ 4) (h : ∀ d ∈ ds, thB 200 5 d = true ∧ wt 5 d ≤ 17200) : Pt (.tup ds) := by
  refine Th.mono (K := 200) (m := 6) (V := 70000) ⟨th_tup.mpr ⟨by omega, fun d hd => (h d hd).1⟩, ?_⟩ (by decide) (by decide) (by decide)
  rw [wt_tup]
  have := wts_leB fun d hd => (h d hd).2
  omega
theorem lis_th {L : Nat} (hL : L ≤ 1000) : ∀ {n : Nat} {d : D}, thB L n d = true → ∃ d', lisO n d = some d' ∧ thB L n d' = true ∧ wt n d' = wt n d
  | n + 1, .non, _ => ⟨_, rfl, rfl, rfl⟩
  | n + 1, .bl b, _ => ⟨_, rfl, rfl, rfl⟩
  | n + 1, .int i, h => ⟨_, rfl, h, rfl⟩
  | n + 1, .str x, h => ⟨_, rfl, h, rfl⟩
  | n + 1, .tup ds, h => by
    obtain ⟨h1, h2⟩ := thD h
    obtain ⟨es, e1, e2, e3, e4⟩ := lis_ths hL (n := n) ds h2
    exact ⟨.lst es, lisO_tup e1 (small_sz (by omega)), th_lst.mpr ⟨by omega, e3⟩, e4⟩
  | n + 1, .lst ds, h => by
    obtain ⟨h1, h2⟩ := thD h
    obtain ⟨es, e1, e2, e3, e4⟩ := lis_ths hL (n := n) ds h2
    refine ⟨.lst es, ?_, th_lst.mpr ⟨by omega, e3⟩, e4⟩
    show (if ds.length ≤ sizeLine then (mapO (lisO n) ds).map D.lst else none) = _
    rw [if_pos (small_sz (by omega)), e1]
    rfl
where
  lis_ths {L : Nat} (hL : L ≤ 1000) {n : Nat} : ∀ ds : List D, (∀ d ∈ ds, thB L n d = true) → ∃ es, mapO (lisO n) ds = some es ∧ es.length = ds.length ∧ (∀ e ∈ es, thB L n e = true) ∧ wts n es = wts n ds
    | [], _ => ⟨[], rfl, rfl, fun e h => (nomatch h), rfl⟩
    | d :: ds, h => by
      obtain ⟨d', a1, a2, a3⟩ := lis_th hL (h d List.mem_cons_self)
      obtain ⟨es, e1, e2, e3, e4⟩ := lis_ths hL ds fun x hx => h x (List.mem_cons_of_mem _ hx)
      refine ⟨d' :: es, by unfold mapO; rw [a1, e1], by rw [List.length_cons, List.length_cons, e2], fun e he => ?_, by rw [wts_cons, wts_cons, a3, e4]⟩
      rcases List.mem_cons.mp he with rfl | he
      · exact a2
      · exact e3 e he
def deepN : Nat → D
  | 0 => .str "a"
  | n + 1 => .tup [deepN n]
section
variable {l : Nat} {w : Wd} {S : Sto} {E : DEnds} {es : List D} {b1 b2 b3 b4 b5 b6 b7 b8 b9 : Option D} {c : Int}
theorem H_th (hw : WS w) {hs : List D} (h : ∀ e ∈ hs, e ∈ w.hs.map headD) (hl : hs.length ≤ 4) : thB 200 5 (.tup hs) = true ∧ wt 5 (.tup hs) ≤ 17200 := by
  obtain ⟨a, b⟩ := part_t (net_parts hw).1 h hl (by decide)
  exact ⟨a, by omega⟩
theorem R_th (hw : WS w) {rs : List D} (h : ∀ e ∈ rs, e ∈ w.rs.map ruleD) (hl : rs.length ≤ 9) : thB 200 5 (.tup rs) = true ∧ wt 5 (.tup rs) ≤ 17200 := by
  obtain ⟨a, b⟩ := part_t (net_parts hw).2 h hl (by decide)
  exact ⟨a, by omega⟩
theorem hsl4 (hw : WS w) : (w.hs.map headD).length ≤ 4 := by rw [List.length_map]; exact hw.h4
theorem rsl9 (hw : WS w) : (w.rs.map ruleD).length ≤ 9 := by rw [List.length_map]; exact hw.r9
theorem net_th (hw : WS w) : thB 200 6 w.d = true ∧ wt 6 w.d ≤ 18000 := by
  obtain ⟨a1, a2⟩ := part_t (net_parts hw).1 (fun _ h => h) (hsl4 hw) (by decide)
  obtain ⟨b1, b2⟩ := part_t (net_parts hw).2 (fun _ h => h) (rsl9 hw) (by decide)
  refine ⟨th_tup.mpr ⟨by show 2 ≤ 200; decide, fun x hx => ?_⟩, ?_⟩
  · rcases List.mem_cons.mp hx with rfl | hx
    · exact a1
    · rw [List.mem_singleton.mp hx]; exact b1
  · show wts 5 [.tup (w.hs.map headD), .tup (w.rs.map ruleD)] ≤ 18000
    rw [wts_cons, wts_cons, wts_nil]
    omega
theorem pair_pt {a b : D} (ha : thB 200 5 a = true ∧ wt 5 a ≤ 17200) (hb : thB 200 5 b = true ∧ wt 5 b ≤ 17200) : Pt (.tup [a, b]) := pt_of (by show 2 ≤ 4; decide) fun d hd => by
  rcases List.mem_cons.mp hd with rfl | hd
  · exact ha
  · rw [List.mem_singleton.mp hd]; exact hb
theorem rt_b (hw : WS w) (hes : ∀ e ∈ es, Pt e) (hel : es.length ≤ 900) (hB : Bx S l c) (hc : c ≤ 2 ^ 36) {ms : List D} (hms : ∀ m ∈ ms, thB 200 4 m = true ∧ wt 4 m ≤ 1000) (hml : ms.length ≤ 50) (q : ∀ es' b4 b7 S1, (∀ e ∈ es', Pt e) → es'.length ≤ es.length + 6 → Fr l S S1 → Bx S1 l (c + 100) → E.nx [some (.ref l), b1, b2, some (.lst es'), b4, some w.d, some (.lst ms), b7, b8, b9] S1) :
    t2__law_right_k10 E [some (.ref l), b1, b2, some (.lst es), b4, some w.d, some (.lst ms), b7, b8, b9] S := by
  have hsl := sizeLine_eq
  simp only [t2__law_right_k10, dWkA, dTupK, dTupL, dTupIx, dDictP, dDc2, dFor, dWhile, dLc, dLc2, dDc, dNextG, iSeq, iR1, iR2, iEn, iZpA, iZ2, iZ3, dSortK, dSortKF, dSortSet, dSortSetF, dBreak, bSortT, bSortTF, bSum, bSumL, bSumLF, bMaxL, bMinL, dDicE, bSortD, bSortDF, dGet2, oInA, oNotInA, oIxA, gdSubA, dSeq, dSet, dIf, dIfS, dTst, dOp, dUn, dVar, dCB, aCons, aNil, aStar, dRet, dRetN, dNext, dDrop, dLst, dTup, dC, dAnd, dOr, dNot, dAndV, dOrV, dNotV, dPar, dAsg, gdName, gdSub, gdTup, gdCons, gdNil, gdSlot, dIsi, dIsi2, dSlot, dSetSlot, dMethSl, dMakeSl, dCall, dCallP, dBM, dFrz, dLstF, dLcF, dLc2F, dDcF, dSlF, dListVF, bListF, bListDF, bSortSF, oAddLF, oRepLF, dSl, dNoP, dPart, dListV, dTru, dOrT, EndsD, startD, oLtI, oLeI, oGtI, oGeI, oIx, oMulI, oPowI, oAddI, oSubI, oModI, oDivI, oI, oI0, oEqD, oNeD, oInD, oNotInD, oAddL, oAddT, oAddS, oRepL, bLen, bAbs, bInt, bMin2, bMax2, bAll, bAny, bTuple, bList, bListD, bSortS, mAppend, mPop, mPopAt, mExtend, mIndex, dFld, dSetFld, dAddFld, gdFld, dMeth, dMake, dPar3, dRevT, oAddTK, dSortSetT, dSortSetTF, gdLst, gdAll, dRevL, dRevLF, dYes, dFrzA, oNegI, bSortG, bSortGF, dSlK, oIsB, oNotB, bSortTS, bSortTSF, bSortI, bSortIF, iDi, dDisp, iEnS, dEi, oTimes, oEqO, oNeO, mClear, mReverse, dMethP, dMethSlP, dMakeP, dMakeSlP, oGeD, oCmpD, dSortSetBF, dSortKDF, dDcT, dLenSetT, dLenSetS, dChain, dAug, iTxt, oInS, oLtS, dDinN, dDin1, gdSubN, dSetDef, iDinK, iDinI, dDcN, dSortSetX, dSortSetXF, dSortSetXT, dSortSetXTF, dChain3, dLenSetXT, dDictN, bMinG, oIxS, dListZip, dDc2T, dSortDTF, dSortSetX0, dSortSetX0F, dRaise, dCallS, dMethS, dMethSlS, dCatch, dIsX, dIsX2, dXf, oInC, bStrI, bIntS, dTry0, gdTail, gdTailT, bMaxG, dCatch2, dRaise0, oLeS, dMaxK, dTupI, dSlS, dCatchN, dIsXN, tupOf_lst, tupOf_ref, tupOf_tup, List.map_cons, List.map_nil, List.length_cons, List.length_nil, List.cons_append, List.nil_append, List.append_nil, List.replicate, List.set_cons_zero, List.set_cons_succ, List.getElem?_cons_zero, List.getElem?_cons_succ, Option.some.injEq, exists_eq_left', exists_eq_left, exists_and_left, D.int.injEq, D.bl.injEq, D.str.injEq, D.tup.injEq, D.lst.injEq, D.ref.injEq, List.cons.injEq, and_true, true_and, reduceCtorEq, false_and, and_false, exists_false, or_false, false_or, exists_const, Bool.false_eq_true, if_true, if_false, decide_eq_true_eq, Ob.lst.injEq, Ob.slt.injEq, Ob.dic.injEq, seqD_ref, lstD_ref, seqD_tup, seqD_lst, lstD_lst, lstR_lst, Sto.set_same, Sto.set_set, atI_0, atI_1, atI_2, Nat.reduceAdd, ixN_30, ixN_32, lstD_tup, seqD_row, List.append_assoc, false_or, or_false, cut_d1, cut_t1, sz_0, sz_1, sz_2, sz_3, sz_4, sz_5, sz_6, sz_7, sz_8, sz_9, sz_10, sz_11, sz_12]
  refine ⟨by decide, ?_⟩
  obtain ⟨t1, t2⟩ := net_th hw
  refine forW_all (fun k : Nat => D.int k) (fun n ρ S' => ∃ es' b4 b7, ρ = [some (.ref l), b1, b2, some (.lst es'), b4, some w.d, some (.lst ms), b7, b8, b9] ∧ (∀ e ∈ es', Pt e) ∧ es'.length ≤ es.length + 2 * n ∧ Fr l S S' ∧ Bx S' l (c + 32 * n)) (List.range (Int.toNat 3)) 0 ⟨es, _, _, rfl, hes, by omega, Fr.refl, by simpa using hB⟩ ?_ ?_
  · rintro i k ρ S2 E' hi ⟨es', b4, b7, rfl, hes', hel', hf, hB2⟩ hrt hbk hnx
    clear hrt hbk q
    rw [Nat.zero_add] at hnx hB2 hel'
    have hi2 : i < 3 := by
      have := (List.getElem?_eq_some_iff.mp hi).1
      rwa [List.length_range] at this
    refine ⟨Gs.ok_nil, ?_⟩
    simp only [Tg.d, setsE, dWkA, dTupK, dTupL, dTupIx, dDictP, dDc2, dFor, dWhile, dLc, dLc2, dDc, dNextG, iSeq, iR1, iR2, iEn, iZpA, iZ2, iZ3, dSortK, dSortKF, dSortSet, dSortSetF, dBreak, bSortT, bSortTF, bSum, bSumL, bSumLF, bMaxL, bMinL, dDicE, bSortD, bSortDF, dGet2, oInA, oNotInA, oIxA, gdSubA, dSeq, dSet, dIf, dIfS, dTst, dOp, dUn, dVar, dCB, aCons, aNil, aStar, dRet, dRetN, dNext, dDrop, dLst, dTup, dC, dAnd, dOr, dNot, dAndV, dOrV, dNotV, dPar, dAsg, gdName, gdSub, gdTup, gdCons, gdNil, gdSlot, dIsi, dIsi2, dSlot, dSetSlot, dMethSl, dMakeSl, dCall, dCallP, dBM, dFrz, dLstF, dLcF, dLc2F, dDcF, dSlF, dListVF, bListF, bListDF, bSortSF, oAddLF, oRepLF, dSl, dNoP, dPart, dListV, dTru, dOrT, EndsD, startD, oLtI, oLeI, oGtI, oGeI, oIx, oMulI, oPowI, oAddI, oSubI, oModI, oDivI, oI, oI0, oEqD, oNeD, oInD, oNotInD, oAddL, oAddT, oAddS, oRepL, bLen, bAbs, bInt, bMin2, bMax2, bAll, bAny, bTuple, bList, bListD, bSortS, mAppend, mPop, mPopAt, mExtend, mIndex, dFld, dSetFld, dAddFld, gdFld, dMeth, dMake, dPar3, dRevT, oAddTK, dSortSetT, dSortSetTF, gdLst, gdAll, dRevL, dRevLF, dYes, dFrzA, oNegI, bSortG, bSortGF, dSlK, oIsB, oNotB, bSortTS, bSortTSF, bSortI, bSortIF, iDi, dDisp, iEnS, dEi, oTimes, oEqO, oNeO, mClear, mReverse, dMethP, dMethSlP, dMakeP, dMakeSlP, oGeD, oCmpD, dSortSetBF, dSortKDF, dDcT, dLenSetT, dLenSetS, dChain, dAug, iTxt, oInS, oLtS, dDinN, dDin1, gdSubN, dSetDef, iDinK, iDinI, dDcN, dSortSetX, dSortSetXF, dSortSetXT, dSortSetXTF, dChain3, dLenSetXT, dDictN, bMinG, oIxS, dListZip, dDc2T, dSortDTF, dSortSetX0, dSortSetX0F, dRaise, dCallS, dMethS, dMethSlS, dCatch, dIsX, dIsX2, dXf, oInC, bStrI, bIntS, dTry0, gdTail, gdTailT, bMaxG, dCatch2, dRaise0, oLeS, dMaxK, dTupI, dSlS, dCatchN, dIsXN, tupOf_lst, tupOf_ref, tupOf_tup, List.map_cons, List.map_nil, List.length_cons, List.length_nil, List.cons_append, List.nil_append, List.append_nil, List.replicate, List.set_cons_zero, List.set_cons_succ, List.getElem?_cons_zero, List.getElem?_cons_succ, Option.some.injEq, exists_eq_left', exists_eq_left, exists_and_left, D.int.injEq, D.bl.injEq, D.str.injEq, D.tup.injEq, D.lst.injEq, D.ref.injEq, List.cons.injEq, and_true, true_and, reduceCtorEq, false_and, and_false, exists_false, or_false, false_or, exists_const, Bool.false_eq_true, if_true, if_false, decide_eq_true_eq, Ob.lst.injEq, Ob.slt.injEq, Ob.dic.injEq, seqD_ref, lstD_ref, seqD_tup, seqD_lst, lstD_lst, lstR_lst, Sto.set_same, Sto.set_set, atI_0, atI_1, atI_2, Nat.reduceAdd, ixN_30, ixN_32, lstD_tup, seqD_row, List.append_assoc, false_or, or_false, cut_d1, cut_t1, sz_0, sz_1, sz_2, sz_3, sz_4, sz_5, sz_6, sz_7, sz_8, sz_9, sz_10, sz_11, sz_12]
    refine ⟨l, w.d, ms, 200, 4, 21000, c + 32 * i, rfl, t1, by decide, by omega, by decide, fun m hm => ?_, hml, by decide, by decide, hB2, by omega, fun r S3 hr hf3 hB3 hn3 => ?_⟩
    · exact ⟨th_wide (hms m hm).1 (by decide), by have := (hms m hm).2; omega⟩
    have hr2 : Th 201 10 41000 r := hr.mono (by decide) (by omega)
    refine ⟨l, r, ms, 201, 4, 42000, c + 32 * i + 2 * (6 : Nat), rfl, hr2.1, by decide, by have := hr2.2; omega, by decide, fun m hm => ?_, hml, by decide, by decide, hB3, by omega, fun r2 S4 hr4 hf4 hB4 hn4 => ?_⟩
    · exact ⟨th_wide (hms m hm).1 (by decide), by have := (hms m hm).2; omega⟩
    have hr5 : Th 202 14 83000 r2 := hr4.mono (by decide) (by have := hr2.2; omega)
    refine ⟨by omega, (hnx _ _ _ _ (Wk.refl _) (Sto.sub_refl _) ⟨_, _, _, rfl, fun e he => ?_, by rw [List.length_append]; show es'.length + 2 ≤ _; omega, (hf.trans hf3).trans hf4, hB4.mono (by push_cast; omega)⟩).1⟩
    rcases List.mem_append.mp he with he | he
    · exact hes' e he
    rcases List.mem_cons.mp he with rfl | he
    · exact hr2.mono (by decide) (by decide) (by decide)
    · rw [List.mem_singleton.mp he]
      exact hr5.mono (by decide) (by decide) (by decide)
  · rintro ρ S2 ⟨es', b4, b7, rfl, hes', hel', hf, hB2⟩
    rw [List.length_range, show (0 + Int.toNat 3 : Nat) = 3 from rfl] at hB2 hel'
    exact ⟨Gs.ok_nil, q _ _ _ _ hes' (by omega) hf (hB2.mono (by omega))⟩
theorem rt_m (hw : WS w) (hne : w.hs ≠ []) (hes : ∀ e ∈ es, Pt e) (hel : es.length ≤ 900) (hB : Bx S l c) (hc : c ≤ 2 ^ 36) (q : ∀ es' b4 b6 b7 S1, (∀ e ∈ es', Pt e) → es'.length ≤ es.length + 6 → Fr l S S1 → Bx S1 l (c + 100) → E.nx [some (.ref l), b1, b2, some (.lst es'), b4, some w.d, b6, b7, b8, b9] S1) :
    t3__law_right_k10 E [some (.ref l), b1, b2, some (.lst es), b4, some w.d, b6, b7, b8, b9] S := by
  have hsl := sizeLine_eq
  simp only [t3__law_right_k10, dWkA, dTupK, dTupL, dTupIx, dDictP, dDc2, dFor, dWhile, dLc, dLc2, dDc, dNextG, iSeq, iR1, iR2, iEn, iZpA, iZ2, iZ3, dSortK, dSortKF, dSortSet, dSortSetF, dBreak, bSortT, bSortTF, bSum, bSumL, bSumLF, bMaxL, bMinL, dDicE, bSortD, bSortDF, dGet2, oInA, oNotInA, oIxA, gdSubA, dSeq, dSet, dIf, dIfS, dTst, dOp, dUn, dVar, dCB, aCons, aNil, aStar, dRet, dRetN, dNext, dDrop, dLst, dTup, dC, dAnd, dOr, dNot, dAndV, dOrV, dNotV, dPar, dAsg, gdName, gdSub, gdTup, gdCons, gdNil, gdSlot, dIsi, dIsi2, dSlot, dSetSlot, dMethSl, dMakeSl, dCall, dCallP, dBM, dFrz, dLstF, dLcF, dLc2F, dDcF, dSlF, dListVF, bListF, bListDF, bSortSF, oAddLF, oRepLF, dSl, dNoP, dPart, dListV, dTru, dOrT, EndsD, startD, oLtI, oLeI, oGtI, oGeI, oIx, oMulI, oPowI, oAddI, oSubI, oModI, oDivI, oI, oI0, oEqD, oNeD, oInD, oNotInD, oAddL, oAddT, oAddS, oRepL, bLen, bAbs, bInt, bMin2, bMax2, bAll, bAny, bTuple, bList, bListD, bSortS, mAppend, mPop, mPopAt, mExtend, mIndex, dFld, dSetFld, dAddFld, gdFld, dMeth, dMake, dPar3, dRevT, oAddTK, dSortSetT, dSortSetTF, gdLst, gdAll, dRevL, dRevLF, dYes, dFrzA, oNegI, bSortG, bSortGF, dSlK, oIsB, oNotB, bSortTS, bSortTSF, bSortI, bSortIF, iDi, dDisp, iEnS, dEi, oTimes, oEqO, oNeO, mClear, mReverse, dMethP, dMethSlP, dMakeP, dMakeSlP, oGeD, oCmpD, dSortSetBF, dSortKDF, dDcT, dLenSetT, dLenSetS, dChain, dAug, iTxt, oInS, oLtS, dDinN, dDin1, gdSubN, dSetDef, iDinK, iDinI, dDcN, dSortSetX, dSortSetXF, dSortSetXT, dSortSetXTF, dChain3, dLenSetXT, dDictN, bMinG, oIxS, dListZip, dDc2T, dSortDTF, dSortSetX0, dSortSetX0F, dRaise, dCallS, dMethS, dMethSlS, dCatch, dIsX, dIsX2, dXf, oInC, bStrI, bIntS, dTry0, gdTail, gdTailT, bMaxG, dCatch2, dRaise0, oLeS, dMaxK, dTupI, dSlS, dCatchN, dIsXN, tupOf_lst, tupOf_ref, tupOf_tup, List.map_cons, List.map_nil, List.length_cons, List.length_nil, List.cons_append, List.nil_append, List.append_nil, List.replicate, List.set_cons_zero, List.set_cons_succ, List.getElem?_cons_zero, List.getElem?_cons_succ, Option.some.injEq, exists_eq_left', exists_eq_left, exists_and_left, D.int.injEq, D.bl.injEq, D.str.injEq, D.tup.injEq, D.lst.injEq, D.ref.injEq, List.cons.injEq, and_true, true_and, reduceCtorEq, false_and, and_false, exists_false, or_false, false_or, exists_const, Bool.false_eq_true, if_true, if_false, decide_eq_true_eq, Ob.lst.injEq, Ob.slt.injEq, Ob.dic.injEq, seqD_ref, lstD_ref, seqD_tup, seqD_lst, lstD_lst, lstR_lst, Sto.set_same, Sto.set_set, atI_0, atI_1, atI_2, Nat.reduceAdd, ixN_30, ixN_32, lstD_tup, seqD_row, List.append_assoc, false_or, or_false, cut_d1, cut_t1, sz_0, sz_1, sz_2, sz_3, sz_4, sz_5, sz_6, sz_7, sz_8, sz_9, sz_10, sz_11, sz_12]
  obtain ⟨h0, hr, e⟩ := List.exists_cons_of_ne_nil hne
  have hh0 : h0 ∈ w.hs := by rw [e]; exact List.mem_cons_self
  have at0 : atI (w.hs.map headD) 0 = some (headD h0) := by rw [e]; exact atI_0 _ _
  refine ⟨_, rfl, _, atI_0 _ _, _, rfl, _, at0, _, rfl, _, atI_0 _ _, _, rfl, _, at0, _, rfl, _, atI_0 _ _, ?_⟩
  refine rt_b hw hes hel hB hc (fun m hm => ?_) (by show 6 ≤ 50; decide) fun es' b4 b7 S1 h1 h2 h3 h4 => q _ _ _ _ _ h1 h2 h3 h4
  rcases List.mem_cons.mp hm with rfl | hm
  · exact ⟨by decide +kernel, by decide +kernel⟩
  rcases List.mem_cons.mp hm with rfl | hm
  · exact ⟨by decide +kernel, by decide +kernel⟩
  rcases List.mem_cons.mp hm with rfl | hm
  · exact ⟨by decide +kernel, by decide +kernel⟩
  rcases List.mem_cons.mp hm with rfl | hm
  · obtain ⟨a, b⟩ := (net_parts hw).1 _ (List.mem_map.mpr ⟨h0, hh0, rfl⟩)
    exact ⟨a, by omega⟩
  rcases List.mem_cons.mp hm with rfl | hm
  · refine ⟨(hw.so h0 hh0).1, ?_⟩
    have := nm_short (hw.nm h0 hh0)
    show h0.1.length ≤ 1000
    omega
  · rw [List.mem_singleton.mp hm]
    exact ⟨by decide +kernel, by decide +kernel⟩
theorem rt_p (hw : WS w) (hne : w.hs ≠ []) (hes : ∀ e ∈ es, Pt e) (hel : es.length ≤ 800) (hB : Bx S l c) (hc : c ≤ 2 ^ 36) (q : ∀ es' b4 b6 b7 S1, (∀ e ∈ es', Pt e) → es'.length ≤ es.length + 8 → Fr l S S1 → Bx S1 l (c + 100) → E.nx [some (.ref l), b1, b2, some (.lst es'), b4, some w.d, b6, b7, b8, b9] S1) :
    t4__law_right_k10 E [some (.ref l), b1, b2, some (.lst es), b4, some w.d, b6, b7, b8, b9] S := by
  have hsl := sizeLine_eq
  simp only [t4__law_right_k10, dWkA, dTupK, dTupL, dTupIx, dDictP, dDc2, dFor, dWhile, dLc, dLc2, dDc, dNextG, iSeq, iR1, iR2, iEn, iZpA, iZ2, iZ3, dSortK, dSortKF, dSortSet, dSortSetF, dBreak, bSortT, bSortTF, bSum, bSumL, bSumLF, bMaxL, bMinL, dDicE, bSortD, bSortDF, dGet2, oInA, oNotInA, oIxA, gdSubA, dSeq, dSet, dIf, dIfS, dTst, dOp, dUn, dVar, dCB, aCons, aNil, aStar, dRet, dRetN, dNext, dDrop, dLst, dTup, dC, dAnd, dOr, dNot, dAndV, dOrV, dNotV, dPar, dAsg, gdName, gdSub, gdTup, gdCons, gdNil, gdSlot, dIsi, dIsi2, dSlot, dSetSlot, dMethSl, dMakeSl, dCall, dCallP, dBM, dFrz, dLstF, dLcF, dLc2F, dDcF, dSlF, dListVF, bListF, bListDF, bSortSF, oAddLF, oRepLF, dSl, dNoP, dPart, dListV, dTru, dOrT, EndsD, startD, oLtI, oLeI, oGtI, oGeI, oIx, oMulI, oPowI, oAddI, oSubI, oModI, oDivI, oI, oI0, oEqD, oNeD, oInD, oNotInD, oAddL, oAddT, oAddS, oRepL, bLen, bAbs, bInt, bMin2, bMax2, bAll, bAny, bTuple, bList, bListD, bSortS, mAppend, mPop, mPopAt, mExtend, mIndex, dFld, dSetFld, dAddFld, gdFld, dMeth, dMake, dPar3, dRevT, oAddTK, dSortSetT, dSortSetTF, gdLst, gdAll, dRevL, dRevLF, dYes, dFrzA, oNegI, bSortG, bSortGF, dSlK, oIsB, oNotB, bSortTS, bSortTSF, bSortI, bSortIF, iDi, dDisp, iEnS, dEi, oTimes, oEqO, oNeO, mClear, mReverse, dMethP, dMethSlP, dMakeP, dMakeSlP, oGeD, oCmpD, dSortSetBF, dSortKDF, dDcT, dLenSetT, dLenSetS, dChain, dAug, iTxt, oInS, oLtS, dDinN, dDin1, gdSubN, dSetDef, iDinK, iDinI, dDcN, dSortSetX, dSortSetXF, dSortSetXT, dSortSetXTF, dChain3, dLenSetXT, dDictN, bMinG, oIxS, dListZip, dDc2T, dSortDTF, dSortSetX0, dSortSetX0F, dRaise, dCallS, dMethS, dMethSlS, dCatch, dIsX, dIsX2, dXf, oInC, bStrI, bIntS, dTry0, gdTail, gdTailT, bMaxG, dCatch2, dRaise0, oLeS, dMaxK, dTupI, dSlS, dCatchN, dIsXN, tupOf_lst, tupOf_ref, tupOf_tup, List.map_cons, List.map_nil, List.length_cons, List.length_nil, List.cons_append, List.nil_append, List.append_nil, List.replicate, List.set_cons_zero, List.set_cons_succ, List.getElem?_cons_zero, List.getElem?_cons_succ, Option.some.injEq, exists_eq_left', exists_eq_left, exists_and_left, D.int.injEq, D.bl.injEq, D.str.injEq, D.tup.injEq, D.lst.injEq, D.ref.injEq, List.cons.injEq, and_true, true_and, reduceCtorEq, false_and, and_false, exists_false, or_false, false_or, exists_const, Bool.false_eq_true, if_true, if_false, decide_eq_true_eq, Ob.lst.injEq, Ob.slt.injEq, Ob.dic.injEq, seqD_ref, lstD_ref, seqD_tup, seqD_lst, lstD_lst, lstR_lst, Sto.set_same, Sto.set_set, atI_0, atI_1, atI_2, Nat.reduceAdd, ixN_30, ixN_32, lstD_tup, seqD_row, List.append_assoc, false_or, or_false, cut_d1, cut_t1, sz_0, sz_1, sz_2, sz_3, sz_4, sz_5, sz_6, sz_7, sz_8, sz_9, sz_10, sz_11, sz_12]
  have h4 := hsl4 hw
  have h9 := rsl9 hw
  refine ⟨_, rfl, _, atI_0 _ _, .inr ⟨_, rfl, _, rfl, _, atI_1 _ _ _, _, rfl, _, atI_0 _ _, _, rfl, _, atI_1 _ _ _, _, rfl, by omega, by omega, ?_⟩⟩
  refine rt_m hw hne (fun e he => ?_) (by rw [List.length_append]; show es.length + 2 ≤ _; omega) hB hc fun es' b4 b6 b7 S1 h1 h2 h3 h4 => q _ _ _ _ _ h1 (by rw [List.length_append] at h2; exact Nat.le_trans h2 (by show es.length + 2 + 6 ≤ _; omega)) h3 h4
  rcases List.mem_append.mp he with he | he
  · exact hes e he
  rcases List.mem_cons.mp he with rfl | he
  · exact pair_pt (H_th hw (fun e he => List.mem_of_mem_drop he) (by rw [List.length_drop]; omega)) (R_th hw (fun _ h => h) h9)
  · rw [List.mem_singleton.mp he]
    exact pair_pt (H_th hw (fun _ h => h) h4) (R_th hw (fun e he => List.mem_reverse.mp he) (by rw [List.length_reverse]; omega))
theorem rt_o (hw : WS w) (hne : w.hs ≠ []) (hes : ∀ e ∈ es, Pt e) (hel : es.length ≤ 700) (hB : Bx S l c) (hc : c ≤ 2 ^ 36) (q : ∀ es' b4 b6 b7 S1, (∀ e ∈ es', Pt e) → es'.length ≤ es.length + 20 → Fr l S S1 → Bx S1 l (c + 100) → E.nx [some (.ref l), b1, b2, some (.lst es'), b4, some w.d, b6, b7, b8, b9] S1) :
    t5__law_right_k10 E [some (.ref l), b1, b2, some (.lst es), b4, some w.d, b6, b7, b8, b9] S := by
  have hsl := sizeLine_eq
  simp only [t5__law_right_k10, dWkA, dTupK, dTupL, dTupIx, dDictP, dDc2, dFor, dWhile, dLc, dLc2, dDc, dNextG, iSeq, iR1, iR2, iEn, iZpA, iZ2, iZ3, dSortK, dSortKF, dSortSet, dSortSetF, dBreak, bSortT, bSortTF, bSum, bSumL, bSumLF, bMaxL, bMinL, dDicE, bSortD, bSortDF, dGet2, oInA, oNotInA, oIxA, gdSubA, dSeq, dSet, dIf, dIfS, dTst, dOp, dUn, dVar, dCB, aCons, aNil, aStar, dRet, dRetN, dNext, dDrop, dLst, dTup, dC, dAnd, dOr, dNot, dAndV, dOrV, dNotV, dPar, dAsg, gdName, gdSub, gdTup, gdCons, gdNil, gdSlot, dIsi, dIsi2, dSlot, dSetSlot, dMethSl, dMakeSl, dCall, dCallP, dBM, dFrz, dLstF, dLcF, dLc2F, dDcF, dSlF, dListVF, bListF, bListDF, bSortSF, oAddLF, oRepLF, dSl, dNoP, dPart, dListV, dTru, dOrT, EndsD, startD, oLtI, oLeI, oGtI, oGeI, oIx, oMulI, oPowI, oAddI, oSubI, oModI, oDivI, oI, oI0, oEqD, oNeD, oInD, oNotInD, oAddL, oAddT, oAddS, oRepL, bLen, bAbs, bInt, bMin2, bMax2, bAll, bAny, bTuple, bList, bListD, bSortS, mAppend, mPop, mPopAt, mExtend, mIndex, dFld, dSetFld, dAddFld, gdFld, dMeth, dMake, dPar3, dRevT, oAddTK, dSortSetT, dSortSetTF, gdLst, gdAll, dRevL, dRevLF, dYes, dFrzA, oNegI, bSortG, bSortGF, dSlK, oIsB, oNotB, bSortTS, bSortTSF, bSortI, bSortIF, iDi, dDisp, iEnS, dEi, oTimes, oEqO, oNeO, mClear, mReverse, dMethP, dMethSlP, dMakeP, dMakeSlP, oGeD, oCmpD, dSortSetBF, dSortKDF, dDcT, dLenSetT, dLenSetS, dChain, dAug, iTxt, oInS, oLtS, dDinN, dDin1, gdSubN, dSetDef, iDinK, iDinI, dDcN, dSortSetX, dSortSetXF, dSortSetXT, dSortSetXTF, dChain3, dLenSetXT, dDictN, bMinG, oIxS, dListZip, dDc2T, dSortDTF, dSortSetX0, dSortSetX0F, dRaise, dCallS, dMethS, dMethSlS, dCatch, dIsX, dIsX2, dXf, oInC, bStrI, bIntS, dTry0, gdTail, gdTailT, bMaxG, dCatch2, dRaise0, oLeS, dMaxK, dTupI, dSlS, dCatchN, dIsXN, tupOf_lst, tupOf_ref, tupOf_tup, List.map_cons, List.map_nil, List.length_cons, List.length_nil, List.cons_append, List.nil_append, List.append_nil, List.replicate, List.set_cons_zero, List.set_cons_succ, List.getElem?_cons_zero, List.getElem?_cons_succ, Option.some.injEq, exists_eq_left', exists_eq_left, exists_and_left, D.int.injEq, D.bl.injEq, D.str.injEq, D.tup.injEq, D.lst.injEq, D.ref.injEq, List.cons.injEq, and_true, true_and, reduceCtorEq, false_and, and_false, exists_false, or_false, false_or, exists_const, Bool.false_eq_true, if_true, if_false, decide_eq_true_eq, Ob.lst.injEq, Ob.slt.injEq, Ob.dic.injEq, seqD_ref, lstD_ref, seqD_tup, seqD_lst, lstD_lst, lstR_lst, Sto.set_same, Sto.set_set, atI_0, atI_1, atI_2, Nat.reduceAdd, ixN_30, ixN_32, lstD_tup, seqD_row, List.append_assoc, false_or, or_false, cut_d1, cut_t1, sz_0, sz_1, sz_2, sz_3, sz_4, sz_5, sz_6, sz_7, sz_8, sz_9, sz_10, sz_11, sz_12]
  have h4 := hsl4 hw
  have h9 := rsl9 hw
  obtain ⟨t1, t2⟩ := net_th hw
  obtain ⟨u1, u2⟩ := th_le (n := 8) t1 (by decide)
  obtain ⟨d', g1, g2, g3⟩ := lis_th (by decide) u1
  have HH := H_th hw (fun _ h => h) h4
  have RR := R_th hw (fun _ h => h) h9
  refine c__law_lists g1 ?_
  refine ⟨_, rfl, _, rfl, small_sz (by show 2 ≤ 16777216; decide), .inr ⟨_, rfl, _, rfl, _, rfl, small_sz (by show 3 ≤ 16777216; decide), _, rfl, _, atI_0 _ _, _, rfl, by omega, _, rfl, _, atI_1 _ _ _, by omega, ?_⟩⟩
  refine rt_p hw hne (fun e he => ?_) (by rw [List.length_append]; show es.length + 7 ≤ _; omega) hB hc fun es' b4 b6 b7 S1 h1 h2 h3 h4 => q _ _ _ _ _ h1 (by rw [List.length_append] at h2; exact Nat.le_trans h2 (by show es.length + 7 + 8 ≤ _; omega)) h3 h4
  rcases List.mem_append.mp he with he | he
  · exact hes e he
  rcases List.mem_cons.mp he with rfl | he
  · exact pair_pt HH RR
  rcases List.mem_cons.mp he with rfl | he
  · exact Th.mono (K := 200) (m := 8) (V := 18000) ⟨g2, by omega⟩ (by decide) (by decide) (by decide)
  rcases List.mem_cons.mp he with rfl | he
  · exact (pair_pt HH RR : Pt (.tup [.tup (w.hs.map headD), .tup (w.rs.map ruleD)]))
  rcases List.mem_cons.mp he with rfl | he
  · exact (pair_pt RR HH : Pt (.tup [.tup (w.rs.map ruleD), .tup (w.hs.map headD)]))
  rcases List.mem_cons.mp he with rfl | he
  · exact (pt_of (by show 1 ≤ 4; decide) fun d hd => by rw [List.mem_singleton.mp hd]; exact HH : Pt (.tup [.tup (w.hs.map headD)]))
  rcases List.mem_cons.mp he with rfl | he
  · exact (pt_of (by show 3 ≤ 4; decide) fun d hd => by
      rcases List.mem_cons.mp hd with rfl | hd
      · exact HH
      rcases List.mem_cons.mp hd with rfl | hd
      · exact RR
      · rw [List.mem_singleton.mp hd]; exact RR : Pt (.tup [.tup (w.hs.map headD), .tup (w.rs.map ruleD), .tup (w.rs.map ruleD)]))
  · rw [List.mem_singleton.mp he]
    exact pair_pt (H_th hw (fun e he => List.mem_reverse.mp he) (by rw [List.length_reverse]; omega)) RR
theorem rt_turns (hes : ∀ e ∈ es, Pt e) (hel : es.length ≤ 300) (hB : Bx S l c) (hc : c ≤ 2 ^ 30) (q : ∀ S1, Fr l S S1 → Bx S1 l (c + 8100000) → E.rt (.bl true) S1) :
    t6__law_right_k10 E [some (.ref l), b1, b2, some (.lst es), b4, b5, b6, b7, b8, b9] S := by
  have hsl := sizeLine_eq
  simp only [t6__law_right_k10, dWkA, dTupK, dTupL, dTupIx, dDictP, dDc2, dFor, dWhile, dLc, dLc2, dDc, dNextG, iSeq, iR1, iR2, iEn, iZpA, iZ2, iZ3, dSortK, dSortKF, dSortSet, dSortSetF, dBreak, bSortT, bSortTF, bSum, bSumL, bSumLF, bMaxL, bMinL, dDicE, bSortD, bSortDF, dGet2, oInA, oNotInA, oIxA, gdSubA, dSeq, dSet, dIf, dIfS, dTst, dOp, dUn, dVar, dCB, aCons, aNil, aStar, dRet, dRetN, dNext, dDrop, dLst, dTup, dC, dAnd, dOr, dNot, dAndV, dOrV, dNotV, dPar, dAsg, gdName, gdSub, gdTup, gdCons, gdNil, gdSlot, dIsi, dIsi2, dSlot, dSetSlot, dMethSl, dMakeSl, dCall, dCallP, dBM, dFrz, dLstF, dLcF, dLc2F, dDcF, dSlF, dListVF, bListF, bListDF, bSortSF, oAddLF, oRepLF, dSl, dNoP, dPart, dListV, dTru, dOrT, EndsD, startD, oLtI, oLeI, oGtI, oGeI, oIx, oMulI, oPowI, oAddI, oSubI, oModI, oDivI, oI, oI0, oEqD, oNeD, oInD, oNotInD, oAddL, oAddT, oAddS, oRepL, bLen, bAbs, bInt, bMin2, bMax2, bAll, bAny, bTuple, bList, bListD, bSortS, mAppend, mPop, mPopAt, mExtend, mIndex, dFld, dSetFld, dAddFld, gdFld, dMeth, dMake, dPar3, dRevT, oAddTK, dSortSetT, dSortSetTF, gdLst, gdAll, dRevL, dRevLF, dYes, dFrzA, oNegI, bSortG, bSortGF, dSlK, oIsB, oNotB, bSortTS, bSortTSF, bSortI, bSortIF, iDi, dDisp, iEnS, dEi, oTimes, oEqO, oNeO, mClear, mReverse, dMethP, dMethSlP, dMakeP, dMakeSlP, oGeD, oCmpD, dSortSetBF, dSortKDF, dDcT, dLenSetT, dLenSetS, dChain, dAug, iTxt, oInS, oLtS, dDinN, dDin1, gdSubN, dSetDef, iDinK, iDinI, dDcN, dSortSetX, dSortSetXF, dSortSetXT, dSortSetXTF, dChain3, dLenSetXT, dDictN, bMinG, oIxS, dListZip, dDc2T, dSortDTF, dSortSetX0, dSortSetX0F, dRaise, dCallS, dMethS, dMethSlS, dCatch, dIsX, dIsX2, dXf, oInC, bStrI, bIntS, dTry0, gdTail, gdTailT, bMaxG, dCatch2, dRaise0, oLeS, dMaxK, dTupI, dSlS, dCatchN, dIsXN, tupOf_lst, tupOf_ref, tupOf_tup, List.map_cons, List.map_nil, List.length_cons, List.length_nil, List.cons_append, List.nil_append, List.append_nil, List.replicate, List.set_cons_zero, List.set_cons_succ, List.getElem?_cons_zero, List.getElem?_cons_succ, Option.some.injEq, exists_eq_left', exists_eq_left, exists_and_left, D.int.injEq, D.bl.injEq, D.str.injEq, D.tup.injEq, D.lst.injEq, D.ref.injEq, List.cons.injEq, and_true, true_and, reduceCtorEq, false_and, and_false, exists_false, or_false, false_or, exists_const, Bool.false_eq_true, if_true, if_false, decide_eq_true_eq, Ob.lst.injEq, Ob.slt.injEq, Ob.dic.injEq, seqD_ref, lstD_ref, seqD_tup, seqD_lst, lstD_lst, lstR_lst, Sto.set_same, Sto.set_set, atI_0, atI_1, atI_2, Nat.reduceAdd, ixN_30, ixN_32, lstD_tup, seqD_row, List.append_assoc, false_or, or_false, cut_d1, cut_t1, sz_0, sz_1, sz_2, sz_3, sz_4, sz_5, sz_6, sz_7, sz_8, sz_9, sz_10, sz_11, sz_12]
  refine ⟨by decide, ?_⟩
  refine forW_all (fun k : Nat => D.int k) (fun n ρ S' => ∃ b2 es' b4 b5 b6 b7 b8 b9, ρ = [some (.ref l), b1, b2, some (.lst es'), b4, b5, b6, b7, b8, b9] ∧ (∀ e ∈ es', Pt e) ∧ es'.length ≤ 300 + 20 * n ∧ Fr l S S' ∧ Bx S' l (c + 1000200 * n)) (List.range (Int.toNat 8)) 0 ⟨_, es, _, _, _, _, _, _, rfl, hes, by omega, Fr.refl, by simpa using hB⟩ ?_ ?_
  · rintro i k ρ S2 E' hi ⟨b2, es', b4, b5, b6, b7, b8, b9, rfl, hes', hel', hf, hB2⟩ hrt hbk hnx
    clear hrt hbk q
    rw [Nat.zero_add] at hnx hB2 hel'
    have hi2 : i < 8 := by
      have := (List.getElem?_eq_some_iff.mp hi).1
      rwa [List.length_range] at this
    refine ⟨Gs.ok_nil, ?_⟩
    simp only [Tg.d, setsE, dWkA, dTupK, dTupL, dTupIx, dDictP, dDc2, dFor, dWhile, dLc, dLc2, dDc, dNextG, iSeq, iR1, iR2, iEn, iZpA, iZ2, iZ3, dSortK, dSortKF, dSortSet, dSortSetF, dBreak, bSortT, bSortTF, bSum, bSumL, bSumLF, bMaxL, bMinL, dDicE, bSortD, bSortDF, dGet2, oInA, oNotInA, oIxA, gdSubA, dSeq, dSet, dIf, dIfS, dTst, dOp, dUn, dVar, dCB, aCons, aNil, aStar, dRet, dRetN, dNext, dDrop, dLst, dTup, dC, dAnd, dOr, dNot, dAndV, dOrV, dNotV, dPar, dAsg, gdName, gdSub, gdTup, gdCons, gdNil, gdSlot, dIsi, dIsi2, dSlot, dSetSlot, dMethSl, dMakeSl, dCall, dCallP, dBM, dFrz, dLstF, dLcF, dLc2F, dDcF, dSlF, dListVF, bListF, bListDF, bSortSF, oAddLF, oRepLF, dSl, dNoP, dPart, dListV, dTru, dOrT, EndsD, startD, oLtI, oLeI, oGtI, oGeI, oIx, oMulI, oPowI, oAddI, oSubI, oModI, oDivI, oI, oI0, oEqD, oNeD, oInD, oNotInD, oAddL, oAddT, oAddS, oRepL, bLen, bAbs, bInt, bMin2, bMax2, bAll, bAny, bTuple, bList, bListD, bSortS, mAppend, mPop, mPopAt, mExtend, mIndex, dFld, dSetFld, dAddFld, gdFld, dMeth, dMake, dPar3, dRevT, oAddTK, dSortSetT, dSortSetTF, gdLst, gdAll, dRevL, dRevLF, dYes, dFrzA, oNegI, bSortG, bSortGF, dSlK, oIsB, oNotB, bSortTS, bSortTSF, bSortI, bSortIF, iDi, dDisp, iEnS, dEi, oTimes, oEqO, oNeO, mClear, mReverse, dMethP, dMethSlP, dMakeP, dMakeSlP, oGeD, oCmpD, dSortSetBF, dSortKDF, dDcT, dLenSetT, dLenSetS, dChain, dAug, iTxt, oInS, oLtS, dDinN, dDin1, gdSubN, dSetDef, iDinK, iDinI, dDcN, dSortSetX, dSortSetXF, dSortSetXT, dSortSetXTF, dChain3, dLenSetXT, dDictN, bMinG, oIxS, dListZip, dDc2T, dSortDTF, dSortSetX0, dSortSetX0F, dRaise, dCallS, dMethS, dMethSlS, dCatch, dIsX, dIsX2, dXf, oInC, bStrI, bIntS, dTry0, gdTail, gdTailT, bMaxG, dCatch2, dRaise0, oLeS, dMaxK, dTupI, dSlS, dCatchN, dIsXN, tupOf_lst, tupOf_ref, tupOf_tup, List.map_cons, List.map_nil, List.length_cons, List.length_nil, List.cons_append, List.nil_append, List.append_nil, List.replicate, List.set_cons_zero, List.set_cons_succ, List.getElem?_cons_zero, List.getElem?_cons_succ, Option.some.injEq, exists_eq_left', exists_eq_left, exists_and_left, D.int.injEq, D.bl.injEq, D.str.injEq, D.tup.injEq, D.lst.injEq, D.ref.injEq, List.cons.injEq, and_true, true_and, reduceCtorEq, false_and, and_false, exists_false, or_false, false_or, exists_const, Bool.false_eq_true, if_true, if_false, decide_eq_true_eq, Ob.lst.injEq, Ob.slt.injEq, Ob.dic.injEq, seqD_ref, lstD_ref, seqD_tup, seqD_lst, lstD_lst, lstR_lst, Sto.set_same, Sto.set_set, atI_0, atI_1, atI_2, Nat.reduceAdd, ixN_30, ixN_32, lstD_tup, seqD_row, List.append_assoc, false_or, or_false, cut_d1, cut_t1, sz_0, sz_1, sz_2, sz_3, sz_4, sz_5, sz_6, sz_7, sz_8, sz_9, sz_10, sz_11, sz_12]
    refine ⟨l, _, rfl, hB2, by omega, fun ss o hl4 hss hs0 hO => ?_⟩
    have hB3 := Bx.of (S := S2) (l := l) hO
    refine ⟨l, _, ss, _, rfl, fun _ => rfl, hl4, hss, hB3, by omega, fun w o2 hw hx hwl hv2 hr2 hO2 => ?_⟩
    have hne : w.hs ≠ [] := fun z => by rw [z] at hwl; exact hs0 (List.length_eq_zero_iff.mp hwl.symm)
    have hB4 := Bx.of (S := S2.set l o) (l := l) hO2
    have hf4 : Fr l S ((S2.set l o).set l o2) := hf.box.box
    generalize (S2.set l o).set l o2 = S4 at hB4 hf4
    obtain ⟨hp1, hp2⟩ := net_parts hw
    have hh4 := hw.h4
    have hr9 := hw.r9
    refine rt_o hw hne hes' (by omega) hB4 (by omega) fun es2 b4 b6 b7 S5 h1 h2 h3 h4 => (hnx _ _ _ _ (Wk.refl _) (Sto.sub_refl _) ⟨_, es2, _, _, _, _, _, _, rfl, h1, by omega, hf4.trans h3, h4.mono (by push_cast; omega)⟩).1
  · rintro ρ S2 ⟨b2, es', b4, b5, b6, b7, b8, b9, rfl, hes', hel', hf, hB2⟩
    rw [List.length_range, show (0 + Int.toNat 8 : Nat) = 8 from rfl] at hB2
    exact ⟨Gs.ok_nil, rt_ask hes' fun S3 s3 => q _ (hf.sub s3) ((hB2.sub s3).mono (by omega))⟩
end
theorem v__law_right_k10 : ∀ ds S Q E, sp__law_right_k10 ds S Q E → d__law_right_k10 (EndsD Q) (startD N__law_right_k10 ds) S := by
  rintro ds S Q E ⟨l, c, rfl, hB, hc, q⟩
  have hsl := sizeLine_eq
  simp only [d__law_right_k10, N__law_right_k10, dWkA, dTupK, dTupL, dTupIx, dDictP, dDc2, dFor, dWhile, dLc, dLc2, dDc, dNextG, iSeq, iR1, iR2, iEn, iZpA, iZ2, iZ3, dSortK, dSortKF, dSortSet, dSortSetF, dBreak, bSortT, bSortTF, bSum, bSumL, bSumLF, bMaxL, bMinL, dDicE, bSortD, bSortDF, dGet2, oInA, oNotInA, oIxA, gdSubA, dSeq, dSet, dIf, dIfS, dTst, dOp, dUn, dVar, dCB, aCons, aNil, aStar, dRet, dRetN, dNext, dDrop, dLst, dTup, dC, dAnd, dOr, dNot, dAndV, dOrV, dNotV, dPar, dAsg, gdName, gdSub, gdTup, gdCons, gdNil, gdSlot, dIsi, dIsi2, dSlot, dSetSlot, dMethSl, dMakeSl, dCall, dCallP, dBM, dFrz, dLstF, dLcF, dLc2F, dDcF, dSlF, dListVF, bListF, bListDF, bSortSF, oAddLF, oRepLF, dSl, dNoP, dPart, dListV, dTru, dOrT, EndsD, startD, oLtI, oLeI, oGtI, oGeI, oIx, oMulI, oPowI, oAddI, oSubI, oModI, oDivI, oI, oI0, oEqD, oNeD, oInD, oNotInD, oAddL, oAddT, oAddS, oRepL, bLen, bAbs, bInt, bMin2, bMax2, bAll, bAny, bTuple, bList, bListD, bSortS, mAppend, mPop, mPopAt, mExtend, mIndex, dFld, dSetFld, dAddFld, gdFld, dMeth, dMake, dPar3, dRevT, oAddTK, dSortSetT, dSortSetTF, gdLst, gdAll, dRevL, dRevLF, dYes, dFrzA, oNegI, bSortG, bSortGF, dSlK, oIsB, oNotB, bSortTS, bSortTSF, bSortI, bSortIF, iDi, dDisp, iEnS, dEi, oTimes, oEqO, oNeO, mClear, mReverse, dMethP, dMethSlP, dMakeP, dMakeSlP, oGeD, oCmpD, dSortSetBF, dSortKDF, dDcT, dLenSetT, dLenSetS, dChain, dAug, iTxt, oInS, oLtS, dDinN, dDin1, gdSubN, dSetDef, iDinK, iDinI, dDcN, dSortSetX, dSortSetXF, dSortSetXT, dSortSetXTF, dChain3, dLenSetXT, dDictN, bMinG, oIxS, dListZip, dDc2T, dSortDTF, dSortSetX0, dSortSetX0F, dRaise, dCallS, dMethS, dMethSlS, dCatch, dIsX, dIsX2, dXf, oInC, bStrI, bIntS, dTry0, gdTail, gdTailT, bMaxG, dCatch2, dRaise0, oLeS, dMaxK, dTupI, dSlS, dCatchN, dIsXN, tupOf_lst, tupOf_ref, tupOf_tup, List.map_cons, List.map_nil, List.length_cons, List.length_nil, List.cons_append, List.nil_append, List.append_nil, List.replicate, List.set_cons_zero, List.set_cons_succ, List.getElem?_cons_zero, List.getElem?_cons_succ, Option.some.injEq, exists_eq_left', exists_eq_left, exists_and_left, D.int.injEq, D.bl.injEq, D.str.injEq, D.tup.injEq, D.lst.injEq, D.ref.injEq, List.cons.injEq, and_true, true_and, reduceCtorEq, false_and, and_false, exists_false, or_false, false_or, exists_const, Bool.false_eq_true, if_true, if_false, decide_eq_true_eq, Ob.lst.injEq, Ob.slt.injEq, Ob.dic.injEq, seqD_ref, lstD_ref, seqD_tup, seqD_lst, lstD_lst, lstR_lst, Sto.set_same, Sto.set_set, atI_0, atI_1, atI_2, Nat.reduceAdd, ixN_30, ixN_32, lstD_tup, seqD_row, List.append_assoc, false_or, or_false, cut_d1, cut_t1, sz_0, sz_1, sz_2, sz_3, sz_4, sz_5, sz_6, sz_7, sz_8, sz_9, sz_10, sz_11, sz_12]
  refine ⟨by decide, ?_⟩
  refine forW_all (fun k : Nat => D.int k) (fun n ρ S' => (∃ b2, ρ = [some (.ref l), some (deepN n), b2, none, none, none, none, none, none, none]) ∧ S' = S) (List.range (Int.toNat 11)) 0 ⟨⟨_, rfl⟩, rfl⟩ ?_ ?_
  · rintro i k ρ S2 E' hi ⟨⟨b2, rfl⟩, rfl⟩ hrt hbk hnx
    rw [Nat.zero_add] at hnx ⊢
    refine ⟨Gs.ok_nil, ?_⟩
    simp only [Tg.d, setsE, dWkA, dTupK, dTupL, dTupIx, dDictP, dDc2, dFor, dWhile, dLc, dLc2, dDc, dNextG, iSeq, iR1, iR2, iEn, iZpA, iZ2, iZ3, dSortK, dSortKF, dSortSet, dSortSetF, dBreak, bSortT, bSortTF, bSum, bSumL, bSumLF, bMaxL, bMinL, dDicE, bSortD, bSortDF, dGet2, oInA, oNotInA, oIxA, gdSubA, dSeq, dSet, dIf, dIfS, dTst, dOp, dUn, dVar, dCB, aCons, aNil, aStar, dRet, dRetN, dNext, dDrop, dLst, dTup, dC, dAnd, dOr, dNot, dAndV, dOrV, dNotV, dPar, dAsg, gdName, gdSub, gdTup, gdCons, gdNil, gdSlot, dIsi, dIsi2, dSlot, dSetSlot, dMethSl, dMakeSl, dCall, dCallP, dBM, dFrz, dLstF, dLcF, dLc2F, dDcF, dSlF, dListVF, bListF, bListDF, bSortSF, oAddLF, oRepLF, dSl, dNoP, dPart, dListV, dTru, dOrT, EndsD, startD, oLtI, oLeI, oGtI, oGeI, oIx, oMulI, oPowI, oAddI, oSubI, oModI, oDivI, oI, oI0, oEqD, oNeD, oInD, oNotInD, oAddL, oAddT, oAddS, oRepL, bLen, bAbs, bInt, bMin2, bMax2, bAll, bAny, bTuple, bList, bListD, bSortS, mAppend, mPop, mPopAt, mExtend, mIndex, dFld, dSetFld, dAddFld, gdFld, dMeth, dMake, dPar3, dRevT, oAddTK, dSortSetT, dSortSetTF, gdLst, gdAll, dRevL, dRevLF, dYes, dFrzA, oNegI, bSortG, bSortGF, dSlK, oIsB, oNotB, bSortTS, bSortTSF, bSortI, bSortIF, iDi, dDisp, iEnS, dEi, oTimes, oEqO, oNeO, mClear, mReverse, dMethP, dMethSlP, dMakeP, dMakeSlP, oGeD, oCmpD, dSortSetBF, dSortKDF, dDcT, dLenSetT, dLenSetS, dChain, dAug, iTxt, oInS, oLtS, dDinN, dDin1, gdSubN, dSetDef, iDinK, iDinI, dDcN, dSortSetX, dSortSetXF, dSortSetXT, dSortSetXTF, dChain3, dLenSetXT, dDictN, bMinG, oIxS, dListZip, dDc2T, dSortDTF, dSortSetX0, dSortSetX0F, dRaise, dCallS, dMethS, dMethSlS, dCatch, dIsX, dIsX2, dXf, oInC, bStrI, bIntS, dTry0, gdTail, gdTailT, bMaxG, dCatch2, dRaise0, oLeS, dMaxK, dTupI, dSlS, dCatchN, dIsXN, tupOf_lst, tupOf_ref, tupOf_tup, List.map_cons, List.map_nil, List.length_cons, List.length_nil, List.cons_append, List.nil_append, List.append_nil, List.replicate, List.set_cons_zero, List.set_cons_succ, List.getElem?_cons_zero, List.getElem?_cons_succ, Option.some.injEq, exists_eq_left', exists_eq_left, exists_and_left, D.int.injEq, D.bl.injEq, D.str.injEq, D.tup.injEq, D.lst.injEq, D.ref.injEq, List.cons.injEq, and_true, true_and, reduceCtorEq, false_and, and_false, exists_false, or_false, false_or, exists_const, Bool.false_eq_true, if_true, if_false, decide_eq_true_eq, Ob.lst.injEq, Ob.slt.injEq, Ob.dic.injEq, seqD_ref, lstD_ref, seqD_tup, seqD_lst, lstD_lst, lstR_lst, Sto.set_same, Sto.set_set, atI_0, atI_1, atI_2, Nat.reduceAdd, ixN_30, ixN_32, lstD_tup, seqD_row, List.append_assoc, false_or, or_false, cut_d1, cut_t1, sz_0, sz_1, sz_2, sz_3, sz_4, sz_5, sz_6, sz_7, sz_8, sz_9, sz_10, sz_11, sz_12]
    exact (hnx _ _ _ _ (Wk.refl _) (Sto.sub_refl _) ⟨⟨_, rfl⟩, rfl⟩).1
  · rintro ρ S2 ⟨⟨b2, rfl⟩, rfl⟩
    rw [List.length_range, show (0 + Int.toNat 11 : Nat) = 11 from rfl]
    refine ⟨Gs.ok_nil, ?_⟩
    simp only [dWkA, dTupK, dTupL, dTupIx, dDictP, dDc2, dFor, dWhile, dLc, dLc2, dDc, dNextG, iSeq, iR1, iR2, iEn, iZpA, iZ2, iZ3, dSortK, dSortKF, dSortSet, dSortSetF, dBreak, bSortT, bSortTF, bSum, bSumL, bSumLF, bMaxL, bMinL, dDicE, bSortD, bSortDF, dGet2, oInA, oNotInA, oIxA, gdSubA, dSeq, dSet, dIf, dIfS, dTst, dOp, dUn, dVar, dCB, aCons, aNil, aStar, dRet, dRetN, dNext, dDrop, dLst, dTup, dC, dAnd, dOr, dNot, dAndV, dOrV, dNotV, dPar, dAsg, gdName, gdSub, gdTup, gdCons, gdNil, gdSlot, dIsi, dIsi2, dSlot, dSetSlot, dMethSl, dMakeSl, dCall, dCallP, dBM, dFrz, dLstF, dLcF, dLc2F, dDcF, dSlF, dListVF, bListF, bListDF, bSortSF, oAddLF, oRepLF, dSl, dNoP, dPart, dListV, dTru, dOrT, EndsD, startD, oLtI, oLeI, oGtI, oGeI, oIx, oMulI, oPowI, oAddI, oSubI, oModI, oDivI, oI, oI0, oEqD, oNeD, oInD, oNotInD, oAddL, oAddT, oAddS, oRepL, bLen, bAbs, bInt, bMin2, bMax2, bAll, bAny, bTuple, bList, bListD, bSortS, mAppend, mPop, mPopAt, mExtend, mIndex, dFld, dSetFld, dAddFld, gdFld, dMeth, dMake, dPar3, dRevT, oAddTK, dSortSetT, dSortSetTF, gdLst, gdAll, dRevL, dRevLF, dYes, dFrzA, oNegI, bSortG, bSortGF, dSlK, oIsB, oNotB, bSortTS, bSortTSF, bSortI, bSortIF, iDi, dDisp, iEnS, dEi, oTimes, oEqO, oNeO, mClear, mReverse, dMethP, dMethSlP, dMakeP, dMakeSlP, oGeD, oCmpD, dSortSetBF, dSortKDF, dDcT, dLenSetT, dLenSetS, dChain, dAug, iTxt, oInS, oLtS, dDinN, dDin1, gdSubN, dSetDef, iDinK, iDinI, dDcN, dSortSetX, dSortSetXF, dSortSetXT, dSortSetXTF, dChain3, dLenSetXT, dDictN, bMinG, oIxS, dListZip, dDc2T, dSortDTF, dSortSetX0, dSortSetX0F, dRaise, dCallS, dMethS, dMethSlS, dCatch, dIsX, dIsX2, dXf, oInC, bStrI, bIntS, dTry0, gdTail, gdTailT, bMaxG, dCatch2, dRaise0, oLeS, dMaxK, dTupI, dSlS, dCatchN, dIsXN, tupOf_lst, tupOf_ref, tupOf_tup, List.map_cons, List.map_nil, List.length_cons, List.length_nil, List.cons_append, List.nil_append, List.append_nil, List.replicate, List.set_cons_zero, List.set_cons_succ, List.getElem?_cons_zero, List.getElem?_cons_succ, Option.some.injEq, exists_eq_left', exists_eq_left, exists_and_left, D.int.injEq, D.bl.injEq, D.str.injEq, D.tup.injEq, D.lst.injEq, D.ref.injEq, List.cons.injEq, and_true, true_and, reduceCtorEq, false_and, and_false, exists_false, or_false, false_or, exists_const, Bool.false_eq_true, if_true, if_false, decide_eq_true_eq, Ob.lst.injEq, Ob.slt.injEq, Ob.dic.injEq, seqD_ref, lstD_ref, seqD_tup, seqD_lst, lstD_lst, lstR_lst, Sto.set_same, Sto.set_set, atI_0, atI_1, atI_2, Nat.reduceAdd, ixN_30, ixN_32, lstD_tup, seqD_row, List.append_assoc, false_or, or_false, cut_d1, cut_t1, sz_0, sz_1, sz_2, sz_3, sz_4, sz_5, sz_6, sz_7, sz_8, sz_9, sz_10, sz_11, sz_12]
    refine ⟨rfl, fun es S1 hes hel hs => ?_⟩
    refine ⟨es, rfl, by omega, rt_turns (fun e he => ?_) (by rw [List.length_append]; show es.length + 2 ≤ 300; omega) (hB.sub hs) (by omega) fun S3 f B => ?_⟩
    · exact (List.mem_append.mp he).elim (hes e) (pt_all (by decide +kernel) e)
    · obtain ⟨o, ho, hb⟩ := B
      exact ⟨_, ((Fr.of hs).trans f).fin ho, q o (hb.mono (by omega))⟩
theorem v_law_k10 : ∀ ds S Q E, sp_law_k10 ds S Q E → d_law_k10 (EndsD Q) (startD N_law_k10 ds) S := v_lawA (m := 3) (by decide) (by decide) rightG rfl
end LK
end
section
set_option Elab.async false
set_option linter.all false
set_option maxRecDepth 100000
set_option maxHeartbeats 2000000
namespace LK
open PySem PySem.Spec PyProof.Rows L2 L3
theorem sc__law_box : FnScope N1__law_box p1__law_box (defScope s__law_box) := C8.fnScope_by (by decide +kernel)
theorem len__law_box : ∀ ds S Q E, sp__law_box ds S Q E → ds.length = p1__law_box.length := fun _ _ _ _ h => by
  unfold sp__law_box at h; repeat' (first | refine Or.elim h (fun h => ?_) (fun h => ?_) | obtain ⟨_, h⟩ := h)
  all_goals (subst_vars; rfl)
theorem fn__law_box {P : Program} {w : World} {K : PySem.W.Frag} {mg : Str → Option Value} {base : Heap} (G : Gx w K mg base) : FN P w K mg base C8.CX0 (tabs K) 1 (He.fAd K ("_law_box", none)) (defArgs s__law_box) p1__law_box (sp__law_box) := by
    obtain ⟨fd, FD⟩ := G.def_ 0 (d := df__law_box) rfl
    have m_len : mg "len" = none := G.free 2
    have m_int : mg "int" = none := G.free 6
    have m_abs : mg "abs" = none := G.free 7
    refine fn_def0 (p := ("_law_box", none)) (k := 0) FD sc__law_box (fun _ _ _ _ _ _ us hl => match us, hl with | [_, _], _ => rfl) len__law_box fun A outer s H E io hr => ⟨d__law_box, ?_, v__law_box⟩
    have sc := sc__law_box
    exact ss_cons (sset 2 sc.nd (q_ifE (q_cmpT op_lt (simI0 fun _ _ _ _ _ => rfl) (qv 1) (q_callB (sim_len rfl) call_len rfl m_len (by decide +kernel) (a_cons (qv 0) (a_nil))) rfl) (q_ix rfl (qv 0) (qv 1)) (q_int)))
          (ss_one (s_ret (q_lst (a_cons (q_op op_mul (simI fun _ _ _ _ _ => rfl) (q_callB sim_abs call_abs rfl m_abs (by decide +kernel) (a_cons (qv 2) (a_nil))) (q_callTy sim_int call_int1 rfl m_int (by decide +kernel) (a_cons (q_cmp op_ge (simI0 fun _ _ _ _ _ => rfl) (q_callB sim_abs call_abs rfl m_abs (by decide +kernel) (a_cons (qv 2) (a_nil))) (q_op op_pow (simI fun _ _ _ _ _ => rfl) (q_int) (q_int)) rfl) (a_nil)))) (a_cons (q_op op_add (simI0 fun _ _ _ _ _ => rfl) (q_op op_add (simI0 fun _ _ _ _ _ => rfl) (q_op op_mod (simI fun _ _ _ _ _ => rfl) (q_callTy sim_int call_int1 rfl m_int (by decide +kernel) (a_cons (qv 2) (a_nil))) (q_int)) (q_op op_mul (simI fun _ _ _ _ _ => rfl) (q_int) (qv 1))) (q_int)) (a_cons (q_int) (a_nil)))))))

theorem sc__law_cells : FnScope N1__law_cells p1__law_cells (defScope s__law_cells) := C8.fnScope_by (by decide +kernel)
theorem len__law_cells : ∀ ds S Q E, sp__law_cells ds S Q E → ds.length = p1__law_cells.length := fun _ _ _ _ h => by
  unfold sp__law_cells at h; repeat' (first | refine Or.elim h (fun h => ?_) (fun h => ?_) | obtain ⟨_, h⟩ := h)
  all_goals (subst_vars; rfl)
theorem fn__law_cells {P : Program} {w : World} {K : PySem.W.Frag} {mg : Str → Option Value} {base : Heap} (G : Gx w K mg base) : FN P w K mg base C8.CX0 (tabs K) 1 (He.fAd K ("_law_cells", none)) (defArgs s__law_cells) p1__law_cells (sp__law_cells) := by
    obtain ⟨fd, FD⟩ := G.def_ 1 (d := df__law_cells) rfl
    have m_list : mg "list" = none := G.free 8
    have m_enumerate : mg "enumerate" = none := G.free 9
    have m_int : mg "int" = none := G.free 6
    refine fn_def0 (p := ("_law_cells", none)) (k := 0) FD sc__law_cells (fun _ _ _ _ _ _ us hl => match us, hl with | [_, _], _ => rfl) len__law_cells fun A outer s H E io hr => ⟨d__law_cells, ?_, v__law_cells⟩
    have sc := sc__law_cells
    exact ss_cons (sset 2 sc.nd (q_orT rfl (q_callTy (sim_list rfl) call_list_of rfl m_list (by decide +kernel) (a_cons (q_slice rfl (qv 0) (o_none) (o_some (qv 1))) (a_nil))) (q_one (q_lst (a_cons (q_int) (a_nil))))))
          (ss_cons (q_for rfl PassesOwn.never rfl (q_enum rfl rfl m_enumerate (a_cons (q_slice rfl (qv 0) (o_some (qv 1)) (o_some (q_int))) (a_nil))) (pg_tup rfl (pgs_cons (gnm 3 sc.nd) (pgs_cons (gnm 4 sc.nd) (pgs_nil)))) (ss_cons (sset 5 sc.nd (q_op op_mod (simI fun _ _ _ _ _ => rfl) (q_callTy sim_int call_int1 rfl m_int (by decide +kernel) (a_cons (qv 3) (a_nil))) (qv 1)))
          (ss_one (s_asg (q_op op_add (simI0 fun _ _ _ _ _ => rfl) (q_ix rfl (qv 2) (qv 5)) (q_op op_mul (simI fun _ _ _ _ _ => rfl) (qv 4) (q_op op_add (simI0 fun _ _ _ _ _ => rfl) (qv 3) (q_int)))) (g_sub (qv 2) (qv 5))))))
          (ss_one (s_ret (qv 2))))

theorem sc__law_take : FnScope N1__law_take p1__law_take (defScope s__law_take) := C8.fnScope_by (by decide +kernel)
theorem len__law_take : ∀ ds S Q E, sp__law_take ds S Q E → ds.length = p1__law_take.length := fun _ _ _ _ h => by
  unfold sp__law_take at h; repeat' (first | refine Or.elim h (fun h => ?_) (fun h => ?_) | obtain ⟨_, h⟩ := h)
  all_goals (subst_vars; rfl)
theorem fn__law_take {P : Program} {w : World} {K : PySem.W.Frag} {mg : Str → Option Value} {base : Heap} (G : Gx w K mg base) : FN P w K mg base C8.CX0 (tabs K) 1 (He.fAd K ("_law_take", none)) (defArgs s__law_take) p1__law_take (sp__law_take) := by
    obtain ⟨fd, FD⟩ := G.def_ 2 (d := df__law_take) rfl
    have m_int : mg "int" = none := G.free 6
    refine fn_def0 (p := ("_law_take", none)) (k := 0) FD sc__law_take (fun _ _ _ _ _ _ us hl => match us, hl with | [_, _], _ => rfl) len__law_take fun A outer s H E io hr => ⟨d__law_take, ?_, v__law_take⟩
    have sc := sc__law_take
    exact ss_cons (s_if (q_cmpT op_gt (simI0 fun _ _ _ _ _ => rfl) (q_ix rfl (qv 0) (q_int)) (q_int) rfl) (ss_cons (sset 5 sc.nd (q_op op_mod (simI fun _ _ _ _ _ => rfl) (q_callTy sim_int call_int1 rfl m_int (by decide +kernel) (a_cons (q_ix rfl (qv 0) (q_int)) (a_nil))) (qv 1)))
          (ss_cons (s_asg (q_op op_fdiv (simI fun _ _ _ _ _ => rfl) (q_ix rfl (qv 0) (q_int)) (qv 1)) (g_sub (qv 0) (q_int)))
          (ss_one (s_ret (qv 5))))) (ss_nil))
          (ss_cons (s_asg (q_op op_add (simI0 fun _ _ _ _ _ => rfl) (q_ix rfl (qv 0) (q_int)) (q_int)) (g_sub (qv 0) (q_int)))
          (ss_cons (sset 2 sc.nd (q_op op_mod (simI fun _ _ _ _ _ => rfl) (q_callTy sim_int call_int1 rfl m_int (by decide +kernel) (a_cons (q_op op_mul (simI fun _ _ _ _ _ => rfl) (q_op op_add (simI0 fun _ _ _ _ _ => rfl) (q_ix rfl (qv 0) (q_int)) (q_op op_mul (simI fun _ _ _ _ _ => rfl) (q_int) (q_ix rfl (qv 0) (q_int)))) (q_op op_add (simI0 fun _ _ _ _ _ => rfl) (q_int) (q_ix rfl (qv 0) (q_int)))) (a_nil))) (q_int)))
          (ss_cons (sset 3 sc.nd (q_op op_add (simI0 fun _ _ _ _ _ => rfl) (q_op op_mod (simI fun _ _ _ _ _ => rfl) (q_callTy sim_int call_int1 rfl m_int (by decide +kernel) (a_cons (qv 2) (a_nil))) (q_int)) (q_int)))
          (ss_cons (sset 4 sc.nd (q_op op_mod (simI fun _ _ _ _ _ => rfl) (q_callTy sim_int call_int1 rfl m_int (by decide +kernel) (a_cons (q_op op_mul (simI fun _ _ _ _ _ => rfl) (q_op op_add (simI0 fun _ _ _ _ _ => rfl) (q_op op_add (simI0 fun _ _ _ _ _ => rfl) (qv 2) (q_ix rfl (qv 0) (q_int))) (q_op op_fdiv (simI fun _ _ _ _ _ => rfl) (q_ix rfl (qv 0) (q_int)) (q_int))) (qv 3)) (a_nil))) (q_int)))
          (ss_one (s_ret (q_op op_mod (simI fun _ _ _ _ _ => rfl) (q_callTy sim_int call_int1 rfl m_int (by decide +kernel) (a_cons (q_op op_fdiv (simI fun _ _ _ _ _ => rfl) (q_op op_mod (simI fun _ _ _ _ _ => rfl) (q_callTy sim_int call_int1 rfl m_int (by decide +kernel) (a_cons (q_op op_add (simI0 fun _ _ _ _ _ => rfl) (q_op op_mul (simI fun _ _ _ _ _ => rfl) (qv 4) (q_int)) (qv 2)) (a_nil))) (q_int)) (q_int)) (a_nil))) (qv 1))))))))

theorem sc__law_of : FnScope N1__law_of p1__law_of (defScope s__law_of) := C8.fnScope_by (by decide +kernel)
theorem len__law_of : ∀ ds S Q E, sp__law_of ds S Q E → ds.length = p1__law_of.length := fun _ _ _ _ h => by
  unfold sp__law_of at h; repeat' (first | refine Or.elim h (fun h => ?_) (fun h => ?_) | obtain ⟨_, h⟩ := h)
  all_goals (subst_vars; rfl)
theorem fn__law_of {P : Program} {w : World} {K : PySem.W.Frag} {mg : Str → Option Value} {base : Heap} (G : Gx w K mg base) : FN P w K mg base C8.CX0 (tabs K) 2 (He.fAd K ("_law_of", none)) (defArgs s__law_of) p1__law_of (sp__law_of) := by
    obtain ⟨fd, FD⟩ := G.def_ 3 (d := df__law_of) rfl
    have m_len : mg "len" = none := G.free 2
    have m__law_take : mg "_law_take" = some (.ref (He.ga K "_law_take")) := G.glo 21
    refine fn_def0 (p := ("_law_of", none)) (k := 1) FD sc__law_of (fun _ _ _ _ _ _ us hl => match us, hl with | [_, _], _ => rfl) len__law_of fun A outer s H E io hr => ⟨d__law_of, ?_, v__law_of⟩
    have sc := sc__law_of
    exact ss_one (s_ret (q_ix rfl (qv 1) (q_call (E := C8.E0) rfl ((fn__law_take G).mono (by omega)) hr rfl m__law_take C8.pass0 (exOk_no _ _) (a_cons (qv 0) (a_cons (q_callB (sim_len rfl) call_len rfl m_len (by decide +kernel) (a_cons (qv 1) (a_nil))) (a_nil))))))

theorem sc__law_bent : FnScope N1__law_bent p1__law_bent (defScope s__law_bent) := C8.fnScope_by (by decide +kernel)
theorem len__law_bent {n : Nat} : ∀ ds S Q E, sp__law_bent n ds S Q E → ds.length = p1__law_bent.length := fun _ _ _ _ h => by
  unfold sp__law_bent at h; repeat' (first | refine Or.elim h (fun h => ?_) (fun h => ?_) | obtain ⟨_, h⟩ := h)
  all_goals (subst_vars; rfl)
theorem fn__law_bent {P : Program} {w : World} {K : PySem.W.Frag} {mg : Str → Option Value} {base : Heap} (n : Nat) (G : Gx w K mg base) : FN P w K mg base C8.CX0 (tabs K) (3 + n) (He.fAd K ("_law_bent", none)) (defArgs s__law_bent) p1__law_bent (sp__law_bent n) := by
    obtain ⟨fd, FD⟩ := G.def_ 4 (d := df__law_bent) rfl
    have m_isinstance : mg "isinstance" = none := G.free 19
    have m_tuple : mg "tuple" = none := G.free 20
    have m__law_take : mg "_law_take" = some (.ref (He.ga K "_law_take")) := G.glo 21
    have m_len : mg "len" = none := G.free 2
    have m__law_bent : mg "_law_bent" = some (.ref (He.ga K "_law_bent")) := G.glo 14
    have m_list : mg "list" = none := G.free 8
    have m_str : mg "str" = none := G.free 22
    have m__law_of : mg "_law_of" = some (.ref (He.ga K "_law_of")) := G.glo 23
    induction n with
    | zero =>
      refine fn_def0 (p := ("_law_bent", none)) (k := 2) FD sc__law_bent (fun _ _ _ _ _ _ us hl => match us, hl with | [_, _, _], _ => rfl) len__law_bent fun A outer s H E io hr => ⟨fun _ _ _ => False, ss_never, v0__law_bent⟩
    | succ n ih =>
      refine fn_def0 (p := ("_law_bent", none)) (k := 3 + n) FD sc__law_bent (fun _ _ _ _ _ _ us hl => match us, hl with | [_, _, _], _ => rfl) len__law_bent fun A outer s H E io hr => ⟨d__law_bent n, ?_, v__law_bent⟩
      have sc := sc__law_bent
      exact ss_cons (s_if (q_w (w_and (q_val (q_isi rfl rfl m_isinstance (qv 1) rfl m_tuple (by decide +kernel) (by decide))) (w_and (q_cmpT (op_neD hr.units) (sim_neD rfl) (qv 1) (q_tup (a_nil)) rfl) (w_and1 (q_cmpT op_gt (simI0 fun _ _ _ _ _ => rfl) (q_call (E := C8.E0) rfl ((fn__law_take G).mono (by omega)) hr rfl m__law_take C8.pass0 (exOk_no _ _) (a_cons (qv 0) (a_cons (q_int) (a_nil)))) (q_int) rfl))))) (ss_cons (sset 4 sc.nd (q_call (E := C8.E0) rfl ((fn__law_take G).mono (by omega)) hr rfl m__law_take C8.pass0 (exOk_no _ _) (a_cons (qv 0) (a_cons (q_callB (sim_len rfl) call_len rfl m_len (by decide +kernel) (a_cons (qv 1) (a_nil))) (a_nil)))))
          (ss_one (s_ret (q_op op_catA (sim_addT rfl) (q_op op_catA (sim_addT rfl) (q_sliceF rfl (qv 1) (o_none) (o_some (qv 4))) (q_tup (a_cons (q_call (E := C8.E0) rfl ((ih).mono (by omega)) hr rfl m__law_bent C8.pass0 (exOk_no _ _) (a_cons (qv 0) (a_cons (q_ix rfl (qv 1) (qv 4)) (a_cons (qv 2) (a_nil))))) (a_nil)))) (q_sliceF rfl (qv 1) (o_some (q_op op_add (simI0 fun _ _ _ _ _ => rfl) (qv 4) (q_int))) (o_none)))))) (ss_nil))
          (ss_cons (sset 3 sc.nd (q_lstF (a_cons (q_int) (a_cons (q_int) (a_cons (q_un un_neg sim_neg (q_int)) (a_cons (q_non) (a_cons (q_bl) (a_cons (q_bl) (a_cons (q_str) (a_cons (q_str) (a_cons (q_str) (a_cons (q_str) (a_cons (q_str) (a_cons (q_str) (a_cons (q_str) (a_cons (q_str) (a_cons (q_tup (a_nil)) (a_cons (q_lstF (a_nil)) (a_nil)))))))))))))))))))
          (ss_cons (sset 3 sc.nd (q_fzO fz_addL (q_op op_catR sim_addL (QE.mc (q_fzO fz_addL (q_op op_catR sim_addL (QE.mc (qv 3)) (QE.mc (q_lstF (a_cons (q_tup (a_cons (q_str) (a_nil))) (a_cons (q_tup (a_cons (q_str) (a_cons (q_str) (a_nil)))) (a_nil)))))))) (QE.mc (qv 2)))))
          (ss_cons (s_if (q_val (q_isi rfl rfl m_isinstance (qv 1) rfl m_tuple (by decide +kernel) (by decide))) (ss_one (sset 3 sc.nd (q_fzO fz_addL (q_op op_catR sim_addL (QE.mc (qv 3)) (QE.mc (q_lstF (a_cons (q_fzB fz_list (q_callTy (sim_list rfl) call_list_of rfl m_list (by decide +kernel) (QA.mc (a_cons (qv 1) (a_nil))))) (a_cons (q_sliceF rfl (qv 1) (o_none) (o_some (q_un un_neg sim_neg (q_int)))) (a_cons (q_op op_catA (sim_addT rfl) (qv 1) (q_sliceF rfl (qv 1) (o_some (q_un un_neg sim_neg (q_int))) (o_none))) (a_cons (q_revT rfl (qv 1)) (a_cons (q_tup (a_cons (qv 1) (a_nil))) (a_nil)))))))))))) (ss_nil))
          (ss_cons (s_if (q_val (q_isi rfl rfl m_isinstance (qv 1) rfl m_str (by decide +kernel) (by decide))) (ss_one (sset 3 sc.nd (q_fzO fz_addL (q_op op_catR sim_addL (QE.mc (qv 3)) (QE.mc (q_lstF (a_cons (q_op op_add_str sim_addS (qv 1) (q_str)) (a_cons (q_slS (qv 1) (o_none) (o_some (q_un un_neg sim_neg (q_int)))) (a_cons (q_op op_add_str sim_addS (qv 1) (qv 1)) (a_cons (q_op op_add_str sim_addS (qv 1) (q_str)) (a_nil))))))))))) (ss_nil))
          (ss_one (s_ret (q_call (E := C8.E0) rfl ((fn__law_of G).mono (by omega)) hr rfl m__law_of C8.pass0 (exOk_no _ _) (a_cons (qv 0) (a_cons (qv 3) (a_nil))))))))))

theorem sc__law_by_hand : FnScope N1__law_by_hand p1__law_by_hand (defScope s__law_by_hand) := C8.fnScope_by (by decide +kernel)
theorem len__law_by_hand : ∀ ds S Q E, sp__law_by_hand_k10 ds S Q E → ds.length = p1__law_by_hand.length := fun _ _ _ _ h => by
  unfold sp__law_by_hand_k10 at h; repeat' (first | refine Or.elim h (fun h => ?_) (fun h => ?_) | obtain ⟨_, h⟩ := h)
  all_goals (subst_vars; rfl)
theorem fn__law_by_hand {P : Program} {w : World} {K : PySem.W.Frag} {mg : Str → Option Value} {base : Heap} (G : Gx w K mg base) : FN P w K mg base C8.CX0 (tabs K) 1 (He.fAd K ("_law_by_hand", none)) (defArgs s__law_by_hand) p1__law_by_hand (sp__law_by_hand_k10) := by
    obtain ⟨fd, FD⟩ := G.def_ 5 (d := df__law_by_hand) rfl
    have m_list : mg "list" = none := G.free 8
    have m_tuple : mg "tuple" = none := G.free 20
    refine fn_def0 (p := ("_law_by_hand", none)) (k := 0) FD sc__law_by_hand (fun _ _ _ _ _ _ us hl => match us, hl with | [], _ => rfl) len__law_by_hand fun A outer s H E io hr => ⟨d__law_by_hand_k10, ?_, v__law_by_hand_k10⟩
    have sc := sc__law_by_hand
    exact ss_cons (s_asg (q_tup (a_cons (q_tup (a_cons (q_str) (a_cons (q_tup (a_cons (q_str) (a_cons (q_str) (a_nil)))) (a_nil)))) (a_cons (q_tup (a_cons (q_tup (a_cons (q_tup (a_cons (q_str) (a_cons (q_str) (a_nil)))) (a_nil))) (a_cons (q_str) (a_nil)))) (a_nil)))) (g_tup rfl rfl (gs_cons (gdnm 5 sc.nd) (gs_cons (gdnm 6 sc.nd) (gs_nil)))))
          (ss_cons (sset 0 sc.nd (q_lst (a_cons (q_tup (a_cons (q_tup (a_nil)) (a_cons (q_tup (a_nil)) (a_nil)))) (a_cons (q_tup (a_cons (q_tup (a_cons (qv 5) (a_nil))) (a_cons (q_tup (a_nil)) (a_nil)))) (a_cons (q_tup (a_cons (q_tup (a_cons (qv 5) (a_nil))) (a_cons (q_tup (a_cons (qv 6) (a_nil))) (a_nil)))) (a_cons (q_tup (a_cons (q_tup (a_cons (qv 5) (a_cons (q_tup (a_cons (q_str) (a_cons (q_tup (a_nil)) (a_nil)))) (a_nil)))) (a_cons (q_tup (a_cons (qv 6) (a_cons (q_tup (a_cons (q_tup (a_nil)) (a_cons (q_str) (a_nil)))) (a_nil)))) (a_nil)))) (a_cons (q_tup (a_cons (q_tup (a_nil)) (a_cons (q_tup (a_cons (q_tup (a_cons (q_tup (a_nil)) (a_cons (q_str) (a_nil)))) (a_nil))) (a_nil)))) (a_nil))))))))
          (ss_cons (q_for rfl PassesOwn.never rfl (q_iSeq rfl (q_lstF (a_cons (q_tup (a_cons (q_tup (a_cons (q_str) (a_cons (q_tup (a_nil)) (a_nil)))) (a_cons (qv 5) (a_nil)))) (a_cons (q_tup (a_cons (qv 5) (a_cons (qv 5) (a_nil)))) (a_cons (q_tup (a_cons (qv 5) (a_cons (q_tup (a_cons (q_str) (a_cons (q_tup (a_cons (q_str) (a_nil))) (a_nil)))) (a_nil)))) (a_cons (q_tup (a_cons (q_tup (a_cons (q_str) (a_cons (q_tup (a_cons (q_str) (a_cons (q_str) (a_nil)))) (a_nil)))) (a_nil))) (a_cons (q_tup (a_cons (q_tup (a_cons (q_str) (a_cons (q_tup (a_cons (q_str) (a_cons (q_str) (a_nil)))) (a_nil)))) (a_nil))) (a_nil)))))))) (gnm 1 sc.nd) (ss_one (s_expr (q_bm rfl sim_append PySem.F.plainAttrs_list PySem.F.slot_list_append PySem.F.type_list_append mt_append (qv 0) (a_cons (q_tup (a_cons (qv 1) (a_cons (q_tup (a_nil)) (a_nil)))) (a_nil))))))
          (ss_cons (q_for rfl PassesOwn.never rfl (q_iSeq rfl (q_lstF (a_cons (q_tup (a_cons (q_tup (a_cons (q_str) (a_cons (q_tup (a_cons (q_str) (a_cons (q_str) (a_cons (q_str) (a_cons (q_str) (a_nil)))))) (a_nil)))) (a_nil))) (a_cons (q_tup (a_cons (q_tup (a_cons (q_str) (a_cons (q_tup (a_cons (q_str) (a_cons (q_str) (a_cons (q_str) (a_nil))))) (a_nil)))) (a_nil))) (a_cons (q_tup (a_cons (q_tup (a_cons (q_str) (a_cons (q_lstF (a_cons (q_str) (a_nil))) (a_nil)))) (a_nil))) (a_cons (q_tup (a_cons (q_tup (a_cons (q_str) (a_nil))) (a_nil))) (a_cons (q_tup (a_cons (q_tup (a_cons (q_str) (a_cons (q_tup (a_nil)) (a_nil)))) (a_nil))) (a_nil)))))))) (gnm 1 sc.nd) (ss_one (s_expr (q_bm rfl sim_append PySem.F.plainAttrs_list PySem.F.slot_list_append PySem.F.type_list_append mt_append (qv 0) (a_cons (q_tup (a_cons (qv 1) (a_cons (q_tup (a_nil)) (a_nil)))) (a_nil))))))
          (ss_cons (q_for rfl PassesOwn.never rfl (q_iSeq rfl (q_lstF (a_cons (q_tup (a_cons (q_tup (a_cons (q_str) (a_cons (q_tup (a_cons (q_str) (a_nil))) (a_nil)))) (a_nil))) (a_cons (q_tup (a_cons (q_tup (a_cons (q_str) (a_cons (q_tup (a_cons (q_str) (a_nil))) (a_nil)))) (a_nil))) (a_cons (q_tup (a_cons (q_tup (a_cons (q_str) (a_cons (q_str) (a_nil)))) (a_nil))) (a_cons (q_tup (a_cons (q_str) (a_nil))) (a_cons (q_tup (a_cons (q_tup (a_cons (q_str) (a_cons (q_tup (a_cons (q_str) (a_nil))) (a_cons (q_tup (a_nil)) (a_nil))))) (a_nil))) (a_cons (q_tup (a_cons (q_tup (a_cons (q_int) (a_cons (q_tup (a_nil)) (a_nil)))) (a_nil))) (a_nil))))))))) (gnm 1 sc.nd) (ss_one (s_expr (q_bm rfl sim_append PySem.F.plainAttrs_list PySem.F.slot_list_append PySem.F.type_list_append mt_append (qv 0) (a_cons (q_tup (a_cons (qv 1) (a_cons (q_tup (a_nil)) (a_nil)))) (a_nil))))))
          (ss_cons (q_for rfl PassesOwn.never rfl (q_iSeq rfl (q_lstF (a_cons (q_tup (a_cons (q_tup (a_cons (q_str) (a_cons (q_tup (a_cons (q_str) (a_nil))) (a_nil)))) (a_nil))) (a_cons (q_tup (a_cons (q_tup (a_cons (q_str) (a_cons (q_tup (a_nil)) (a_nil)))) (a_nil))) (a_cons (q_tup (a_cons (q_tup (a_cons (q_str) (a_cons (q_tup (a_cons (q_str) (a_nil))) (a_nil)))) (a_nil))) (a_cons (q_tup (a_cons (q_tup (a_cons (q_str) (a_cons (q_tup (a_nil)) (a_nil)))) (a_nil))) (a_nil))))))) (gnm 1 sc.nd) (ss_one (s_expr (q_bm rfl sim_append PySem.F.plainAttrs_list PySem.F.slot_list_append PySem.F.type_list_append mt_append (qv 0) (a_cons (q_tup (a_cons (qv 1) (a_cons (q_tup (a_nil)) (a_nil)))) (a_nil))))))
          (ss_cons (sset 0 sc.nd (q_op op_catR sim_addL (qv 0) (q_lstF (a_cons (q_tup (a_cons (q_tup (a_cons (q_tup (a_cons (q_str) (a_cons (q_tup (a_cons (q_str) (a_nil))) (a_nil)))) (a_nil))) (a_cons (q_tup (a_nil)) (a_nil)))) (a_cons (q_tup (a_cons (qv 5) (a_cons (q_tup (a_nil)) (a_nil)))) (a_nil))))))
          (ss_cons (sset 2 sc.nd (q_lst (a_cons (q_tup (a_cons (q_tup (a_cons (q_str) (a_cons (q_str) (a_nil)))) (a_nil))) (a_cons (q_tup (a_cons (q_tup (a_cons (q_str) (a_cons (q_str) (a_nil)))) (a_nil))) (a_cons (q_tup (a_cons (q_tup (a_cons (q_str) (a_cons (q_str) (a_nil)))) (a_nil))) (a_cons (q_tup (a_cons (q_tup (a_cons (q_str) (a_cons (q_str) (a_nil)))) (a_cons (q_tup (a_cons (q_str) (a_cons (q_str) (a_nil)))) (a_nil)))) (a_cons (q_tup (a_cons (q_tup (a_cons (q_str) (a_cons (q_int) (a_nil)))) (a_nil))) (a_cons (q_tup (a_cons (q_tup (a_cons (q_str) (a_nil))) (a_nil))) (a_nil)))))))))
          (ss_cons (s_expr (q_bm rfl sim_append PySem.F.plainAttrs_list PySem.F.slot_list_append PySem.F.type_list_append mt_append (qv 2) (a_cons (q_tup (a_cons (q_str) (a_cons (q_str) (a_nil)))) (a_nil))))
          (ss_cons (sset 2 sc.nd (q_fzO fz_addL (q_op op_catR sim_addL (QE.mc (qv 2)) (QE.mc (q_lstF (a_cons (q_tup (a_cons (q_lstF (a_cons (q_str) (a_cons (q_str) (a_nil)))) (a_nil))) (a_cons (q_lstF (a_cons (q_tup (a_cons (q_str) (a_cons (q_str) (a_nil)))) (a_nil))) (a_cons (q_tup (a_cons (q_tup (a_cons (q_str) (a_cons (q_str) (a_nil)))) (a_nil))) (a_cons (q_tup (a_cons (q_tup (a_cons (q_str) (a_cons (q_non) (a_nil)))) (a_nil))) (a_cons (q_tup (a_cons (q_tup (a_cons (q_str) (a_cons (q_str) (a_nil)))) (a_nil))) (a_cons (q_tup (a_cons (q_tup (a_cons (q_non) (a_cons (q_str) (a_nil)))) (a_nil))) (a_cons (q_non) (a_nil)))))))))))))
          (ss_cons (sset 2 sc.nd (q_fzO fz_addL (q_op op_catR sim_addL (QE.mc (qv 2)) (QE.mc (q_lstF (a_cons (q_tup (a_cons (q_tup (a_cons (q_str) (a_cons (q_str) (a_nil)))) (a_nil))) (a_cons (q_tup (a_cons (q_tup (a_cons (q_str) (a_cons (q_str) (a_cons (q_str) (a_nil))))) (a_nil))) (a_cons (q_tup (a_cons (q_tup (a_cons (q_tup (a_cons (q_str) (a_nil))) (a_cons (q_str) (a_nil)))) (a_nil))) (a_cons (q_tup (a_cons (q_tup (a_cons (q_str) (a_cons (q_str) (a_nil)))) (a_nil))) (a_nil))))))))))
          (ss_cons (q_for rfl PassesOwn.never rfl (q_iSeq rfl (qv 2)) (gnm 3 sc.nd) (ss_one (s_expr (q_bm rfl sim_append PySem.F.plainAttrs_list PySem.F.slot_list_append PySem.F.type_list_append mt_append (qv 0) (a_cons (q_tup (a_cons (q_tup (a_cons (qv 5) (a_nil))) (a_cons (q_tup (a_cons (q_tup (a_cons (qv 3) (a_cons (q_str) (a_nil)))) (a_nil))) (a_nil)))) (a_nil))))))
          (ss_cons (q_for rfl PassesOwn.never rfl (q_iSeq rfl (q_lstF (a_cons (q_str) (a_cons (q_str) (a_cons (q_non) (a_cons (q_int) (a_cons (q_str) (a_cons (q_str) (a_cons (q_bl) (a_cons (q_tup (a_cons (q_str) (a_nil))) (a_nil))))))))))) (gnm 3 sc.nd) (ss_one (s_expr (q_bm rfl sim_append PySem.F.plainAttrs_list PySem.F.slot_list_append PySem.F.type_list_append mt_append (qv 0) (a_cons (q_tup (a_cons (q_tup (a_cons (qv 5) (a_nil))) (a_cons (q_tup (a_cons (q_tup (a_cons (q_tup (a_nil)) (a_cons (qv 3) (a_nil)))) (a_nil))) (a_nil)))) (a_nil))))))
          (ss_cons (sset 0 sc.nd (q_fzO fz_addL (q_op op_catR sim_addL (QE.mc (qv 0)) (QE.mc (q_lstF (a_cons (q_tup (a_cons (q_tup (a_cons (qv 5) (a_nil))) (a_cons (q_tup (a_cons (qv 6) (a_cons (qv 6) (a_nil)))) (a_nil)))) (a_cons (q_tup (a_cons (q_tup (a_cons (qv 5) (a_nil))) (a_cons (qv 6) (a_nil)))) (a_cons (q_tup (a_cons (q_tup (a_cons (qv 5) (a_nil))) (a_cons (q_tup (a_cons (q_fzB fz_list (q_callTy (sim_list rfl) call_list_of rfl m_list (by decide +kernel) (QA.mc (a_cons (qv 6) (a_nil))))) (a_nil))) (a_nil)))) (a_cons (q_tup (a_cons (q_tup (a_cons (qv 5) (a_nil))) (a_cons (q_lstF (a_cons (qv 6) (a_nil))) (a_nil)))) (a_nil))))))))))
          (ss_cons (sset 0 sc.nd (q_fzO fz_addL (q_op op_catR sim_addL (QE.mc (qv 0)) (QE.mc (q_lstF (a_cons (q_tup (a_cons (q_tup (a_cons (qv 5) (a_cons (q_tup (a_cons (q_str) (a_cons (q_tup (a_nil)) (a_nil)))) (a_nil)))) (a_cons (q_tup (a_cons (q_tup (a_cons (q_tup (a_cons (q_tup (a_cons (q_str) (a_cons (q_str) (a_nil)))) (a_cons (q_tup (a_cons (q_str) (a_cons (q_str) (a_nil)))) (a_nil)))) (a_cons (q_str) (a_nil)))) (a_nil))) (a_nil)))) (a_cons (q_tup (a_cons (q_tup (a_cons (qv 5) (a_nil))) (a_cons (q_tup (a_cons (q_op op_catA (sim_addT rfl) (qv 6) (q_tup (a_cons (q_str) (a_nil)))) (a_nil))) (a_nil)))) (a_nil))))))))
          (ss_cons (sset 0 sc.nd (q_fzO fz_addL (q_op op_catR sim_addL (QE.mc (qv 0)) (QE.mc (q_lstF (a_cons (q_tup (a_cons (q_tup (a_cons (qv 5) (a_nil))) (a_cons (q_tup (a_cons (q_tup (a_nil)) (a_nil))) (a_nil)))) (a_cons (q_tup (a_cons (q_lstF (a_cons (qv 5) (a_nil))) (a_cons (q_tup (a_nil)) (a_nil)))) (a_nil))))))))
          (ss_cons (sset 4 sc.nd (q_callTy (sim_tuple rfl) call_tuple_of rfl m_tuple (by decide +kernel) (a_cons (q_fzL (q_lc (own := [("_law_sign", 7)]) rfl rfl sc.nd (QI.mc (q_txt (q_str))) (blkOk_by (by kernel_rfl)) (by simp [Tg.in_]) (fun _ _ _ _ _ => gnm 7 sc.nd) (fun _ _ _ _ _ => QTs.mc (q_noif)) (fun _ _ _ _ _ => QE.mc (q_tup (a_cons (qv 7) (a_cons (q_tup (a_cons (q_str) (a_cons (q_str) (a_cons (q_str) (a_nil))))) (a_nil))))))) (a_nil))))
          (ss_cons (sset 0 sc.nd (q_fzO fz_addL (q_op op_catR sim_addL (QE.mc (qv 0)) (QE.mc (q_lstF (a_cons (q_tup (a_cons (qv 4) (a_cons (q_op op_times (sim_times rfl) (q_tup (a_cons (qv 6) (a_nil))) (q_int)) (a_nil)))) (a_cons (q_tup (a_cons (q_revT rfl (qv 4)) (a_cons (q_tup (a_nil)) (a_nil)))) (a_cons (q_tup (a_cons (q_tup (a_cons (qv 5) (a_nil))) (a_nil))) (a_cons (q_tup (a_cons (q_tup (a_cons (qv 5) (a_nil))) (a_cons (q_tup (a_nil)) (a_cons (q_tup (a_nil)) (a_nil))))) (a_cons (q_non) (a_cons (q_int) (a_cons (q_str) (a_cons (q_bl) (a_nil))))))))))))))
          (ss_cons (sset 0 sc.nd (q_fzO fz_addL (q_op op_catR sim_addL (QE.mc (qv 0)) (QE.mc (q_lstF (a_cons (q_lstF (a_nil)) (a_cons (q_tup (a_nil)) (a_cons (q_lstF (a_cons (q_tup (a_nil)) (a_cons (q_tup (a_nil)) (a_nil)))) (a_nil)))))))))
          (ss_one (s_ret (q_fzO fz_addL (q_op op_catR sim_addL (QE.mc (qv 0)) (QE.mc (q_lstF (a_cons (q_tup (a_cons (q_non) (a_cons (q_tup (a_nil)) (a_nil)))) (a_cons (q_tup (a_cons (q_tup (a_nil)) (a_cons (q_non) (a_nil)))) (a_cons (q_tup (a_cons (q_str) (a_cons (q_str) (a_nil)))) (a_cons (q_tup (a_cons (q_tup (a_cons (q_non) (a_nil))) (a_cons (q_tup (a_nil)) (a_nil)))) (a_cons (q_tup (a_cons (q_tup (a_nil)) (a_cons (q_tup (a_cons (q_non) (a_nil))) (a_nil)))) (a_nil))))))))))))))))))))))))))))))

theorem sc__law_goes_up : FnScope N1__law_goes_up p1__law_goes_up (defScope s__law_goes_up) := C8.fnScope_by (by decide +kernel)
theorem len__law_goes_up : ∀ ds S Q E, sp__law_goes_up_k10 ds S Q E → ds.length = p1__law_goes_up.length := fun _ _ _ _ h => by
  unfold sp__law_goes_up_k10 at h; repeat' (first | refine Or.elim h (fun h => ?_) (fun h => ?_) | obtain ⟨_, h⟩ := h)
  all_goals (subst_vars; rfl)
theorem fn__law_goes_up {P : Program} {w : World} {K : PySem.W.Frag} {mg : Str → Option Value} {base : Heap} (G : Gx w K mg base) : FN P w K mg base C8.CX0 (tabs K) 1 (He.fAd K ("_law_goes_up", none)) (defArgs s__law_goes_up) p1__law_goes_up (sp__law_goes_up_k10) := by
    obtain ⟨fd, FD⟩ := G.def_ 6 (d := df__law_goes_up) rfl
    have m_zip : mg "zip" = none := G.free 26
    have m_all : mg "all" = none := G.free 5
    refine fn_def0 (p := ("_law_goes_up", none)) (k := 0) FD sc__law_goes_up (fun _ _ _ _ _ _ us hl => match us, hl with | [_], _ => rfl) len__law_goes_up fun A outer s H E io hr => ⟨d__law_goes_up_k10, ?_, v__law_goes_up_k10⟩
    have sc := sc__law_goes_up
    exact ss_one (s_ret (q_callB (sim_all rfl) (cr_all rfl) rfl m_all (by decide +kernel) (a_cons (q_fzL (q_lc (own := [("_law_own", 1), ("_law_its", 2)]) rfl rfl sc.nd (QI.mc (q_zip2 rfl rfl m_zip (a_cons (qv 0) (a_cons (q_sliceF rfl (qv 0) (o_some (q_int)) (o_none)) (a_nil))))) (blkOk_by (by kernel_rfl)) (by simp [Tg.in_]) (fun _ _ _ _ _ => pg_tup rfl (pgs_cons (gnm 1 sc.nd) (pgs_cons (gnm 2 sc.nd) (pgs_nil)))) (fun _ _ _ _ _ => QTs.mc (q_noif)) (fun _ _ _ _ _ => QE.mc (q_cmp op_lt_str sim_ltS (qv 1) (qv 2) rfl)))) (a_nil))))

theorem sc__law_is_name : FnScope N1__law_is_name p1__law_is_name (defScope s__law_is_name) := C8.fnScope_by (by decide +kernel)
theorem len__law_is_name : ∀ ds S Q E, sp__law_is_name_k10 ds S Q E → ds.length = p1__law_is_name.length := fun _ _ _ _ h => by
  unfold sp__law_is_name_k10 at h; repeat' (first | refine Or.elim h (fun h => ?_) (fun h => ?_) | obtain ⟨_, h⟩ := h)
  all_goals (subst_vars; rfl)
theorem fn__law_is_name {P : Program} {w : World} {K : PySem.W.Frag} {mg : Str → Option Value} {base : Heap} (G : Gx w K mg base) : FN P w K mg base C8.CX0 (tabs K) 1 (He.fAd K ("_law_is_name", none)) (defArgs s__law_is_name) p1__law_is_name (sp__law_is_name_k10) := by
    obtain ⟨fd, FD⟩ := G.def_ 7 (d := df__law_is_name) rfl
    have m_isinstance : mg "isinstance" = none := G.free 19
    have m_str : mg "str" = none := G.free 22
    have m_len : mg "len" = none := G.free 2
    have m_all : mg "all" = none := G.free 5
    refine fn_def0 (p := ("_law_is_name", none)) (k := 0) FD sc__law_is_name (fun _ _ _ _ _ _ us hl => match us, hl with | [_], _ => rfl) len__law_is_name fun A outer s H E io hr => ⟨d__law_is_name_k10, ?_, v__law_is_name_k10⟩
    have sc := sc__law_is_name
    exact ss_cons (sset 1 sc.nd (q_str))
          (ss_one (s_ret (q_and (q_isi rfl rfl m_isinstance (qv 0) rfl m_str (by decide +kernel) (by decide)) (q_and (q_chain op_lt (simI0 fun _ _ _ _ _ => rfl) op_lt (simI0 fun _ _ _ _ _ => rfl) (q_int) (q_callB (sim_len rfl) call_len rfl m_len (by decide +kernel) (a_cons (qv 0) (a_nil))) (q_int)) (q_one (q_callB (sim_all rfl) (cr_all rfl) rfl m_all (by decide +kernel) (a_cons (q_fzL (q_lc (own := [("_law_sign", 2)]) rfl rfl sc.nd (QI.mc (q_txt (qv 0))) (blkOk_by (by kernel_rfl)) (by simp [Tg.in_]) (fun _ _ _ _ _ => gnm 2 sc.nd) (fun _ _ _ _ _ => QTs.mc (q_noif)) (fun _ _ _ _ _ => QE.mc (q_cmp op_inS sim_inS (qv 2) (qv 1) rfl)))) (a_nil))))))))

theorem sc__law_is_net : FnScope N1__law_is_net p1__law_is_net (defScope s__law_is_net) := C8.fnScope_by (by decide +kernel)
theorem len__law_is_net : ∀ ds S Q E, sp__law_is_net_k10 ds S Q E → ds.length = p1__law_is_net.length := fun _ _ _ _ h => by
  unfold sp__law_is_net_k10 at h; repeat' (first | refine Or.elim h (fun h => ?_) (fun h => ?_) | obtain ⟨_, h⟩ := h)
  all_goals (subst_vars; rfl)
theorem fn__law_is_net {P : Program} {w : World} {K : PySem.W.Frag} {mg : Str → Option Value} {base : Heap} (G : Gx w K mg base) : FN P w K mg base C8.CX0 (tabs K) 2 (He.fAd K ("_law_is_net", none)) (defArgs s__law_is_net) p1__law_is_net (sp__law_is_net_k10) := by
    obtain ⟨fd, FD⟩ := G.def_ 8 (d := df__law_is_net) rfl
    have m_isinstance : mg "isinstance" = none := G.free 19
    have m_tuple : mg "tuple" = none := G.free 20
    have m_len : mg "len" = none := G.free 2
    have m_all : mg "all" = none := G.free 5
    have m__law_is_name : mg "_law_is_name" = some (.ref (He.ga K "_law_is_name")) := G.glo 24
    have m__law_goes_up : mg "_law_goes_up" = some (.ref (He.ga K "_law_goes_up")) := G.glo 25
    have m_str : mg "str" = none := G.free 22
    refine fn_def0 (p := ("_law_is_net", none)) (k := 1) FD sc__law_is_net (fun _ _ _ _ _ _ us hl => match us, hl with | [_], _ => rfl) len__law_is_net fun A outer s H E io hr => ⟨d__law_is_net_k10, ?_, v__law_is_net_k10⟩
    have sc := sc__law_is_net
    exact ss_cons (s_if (q_w (w_or (q_not (q_val (q_isi rfl rfl m_isinstance (qv 0) rfl m_tuple (by decide +kernel) (by decide)))) (w_or (q_cmpT (op_neD hr.units) (sim_neD rfl) (q_callB (sim_len rfl) call_len rfl m_len (by decide +kernel) (a_cons (qv 0) (a_nil))) (q_int) rfl) (w_or1 (q_not (q_val (q_callB (sim_all rfl) (cr_all rfl) rfl m_all (by decide +kernel) (a_cons (q_fzL (q_lc (own := [("_law_part", 6)]) rfl rfl sc.nd (QI.mc (q_iSeq rfl (qv 0))) (blkOk_by (by kernel_rfl)) (by simp [Tg.in_]) (fun _ _ _ _ _ => gnm 6 sc.nd) (fun _ _ _ _ _ => QTs.mc (q_noif)) (fun _ _ _ _ _ => QE.mc (q_isi rfl rfl m_isinstance (qv 6) rfl m_tuple (by decide +kernel) (by decide))))) (a_nil))))))))) (ss_one (s_ret (q_bl))) (ss_nil))
          (ss_cons (q_for rfl PassesOwn.never rfl (q_iSeq rfl (q_ix rfl (qv 0) (q_int))) (gnm 1 sc.nd) (ss_cons (s_if (q_w (w_or (q_not (q_val (q_isi rfl rfl m_isinstance (qv 1) rfl m_tuple (by decide +kernel) (by decide)))) (w_or (q_cmpT (op_neD hr.units) (sim_neD rfl) (q_callB (sim_len rfl) call_len rfl m_len (by decide +kernel) (a_cons (qv 1) (a_nil))) (q_int) rfl) (w_or1 (q_not (q_val (q_call (E := C8.E0) rfl ((fn__law_is_name G).mono (by omega)) hr rfl m__law_is_name C8.pass0 (exOk_no _ _) (a_cons (q_ix rfl (qv 1) (q_int)) (a_nil))))))))) (ss_one (s_ret (q_bl))) (ss_nil))
          (ss_cons (s_if (q_w (w_or (q_not (q_val (q_isi rfl rfl m_isinstance (q_ix rfl (qv 1) (q_int)) rfl m_tuple (by decide +kernel) (by decide)))) (w_or (q_cmpT op_gt (simI0 fun _ _ _ _ _ => rfl) (q_callB (sim_len rfl) call_len rfl m_len (by decide +kernel) (a_cons (q_ix rfl (qv 1) (q_int)) (a_nil))) (q_int) rfl) (w_or1 (q_not (q_val (q_callB (sim_all rfl) (cr_all rfl) rfl m_all (by decide +kernel) (a_cons (q_fzL (q_lc (own := [("_law_own", 7)]) rfl rfl sc.nd (QI.mc (q_iSeq rfl (q_ix rfl (qv 1) (q_int)))) (blkOk_by (by kernel_rfl)) (by simp [Tg.in_]) (fun _ _ _ _ _ => gnm 7 sc.nd) (fun _ _ _ _ _ => QTs.mc (q_noif)) (fun _ _ _ _ _ => QE.mc (q_call (E := C8.E0) rfl ((fn__law_is_name G).mono (by omega)) hr rfl m__law_is_name C8.pass0 (exOk_no _ _) (a_cons (qv 7) (a_nil)))))) (a_nil))))))))) (ss_one (s_ret (q_bl))) (ss_nil))
          (ss_one (s_if (q_not (q_val (q_call (E := C8.E0) rfl ((fn__law_goes_up G).mono (by omega)) hr rfl m__law_goes_up C8.pass0 (exOk_no _ _) (a_cons (q_ix rfl (qv 1) (q_int)) (a_nil))))) (ss_one (s_ret (q_bl))) (ss_nil))))))
          (ss_cons (s_fzL 2 (s_setLc (own := [("_law_head", 1)]) rfl rfl sc.nd rfl rfl (by kernel_rfl) (QI.mc (q_iSeq rfl (q_ix rfl (qv 0) (q_int)))) (blkOk_by (by kernel_rfl)) (by simp [Tg.in_]) (fun _ _ _ _ _ => gnm 1 sc.nd) (fun _ _ _ _ _ => QTs.mc (q_noif)) (fun _ _ _ _ _ => QE.mc (q_ix rfl (qv 1) (q_int)))))
          (ss_cons (q_for rfl PassesOwn.never rfl (q_iSeq rfl (q_ix rfl (qv 0) (q_int))) (gnm 3 sc.nd) (ss_cons (s_if (q_w (w_or (q_not (q_val (q_isi rfl rfl m_isinstance (qv 3) rfl m_tuple (by decide +kernel) (by decide)))) (w_or (q_cmpT (op_neD hr.units) (sim_neD rfl) (q_callB (sim_len rfl) call_len rfl m_len (by decide +kernel) (a_cons (qv 3) (a_nil))) (q_int) rfl) (w_or1 (q_not (q_val (q_call (E := C8.E0) rfl ((fn__law_is_name G).mono (by omega)) hr rfl m__law_is_name C8.pass0 (exOk_no _ _) (a_cons (q_ix rfl (qv 3) (q_int)) (a_nil))))))))) (ss_one (s_ret (q_bl))) (ss_nil))
          (ss_cons (s_if (q_not (q_val (q_isi rfl rfl m_isinstance (q_ix rfl (qv 3) (q_int)) rfl m_tuple (by decide +kernel) (by decide)))) (ss_one (s_ret (q_bl))) (ss_nil))
          (ss_cons (sset 4 sc.nd (q_lst (a_nil)))
          (ss_one (q_for rfl PassesOwn.never rfl (q_iSeq rfl (q_ix rfl (qv 3) (q_int))) (gnm 5 sc.nd) (ss_cons (s_if (q_w (w_or (q_not (q_val (q_isi rfl rfl m_isinstance (qv 5) rfl m_tuple (by decide +kernel) (by decide)))) (w_or (q_cmpT (op_neD hr.units) (sim_neD rfl) (q_callB (sim_len rfl) call_len rfl m_len (by decide +kernel) (a_cons (qv 5) (a_nil))) (q_int) rfl) (w_or (q_cmpT (op_notInA (units65 hr)) (sim_notInA rfl) (q_ix rfl (qv 5) (q_int)) (qv 2) rfl) (w_or1 (q_cmpT (op_inA (units65 hr)) (sim_inA rfl) (q_ix rfl (qv 5) (q_int)) (qv 4) rfl)))))) (ss_one (s_ret (q_bl))) (ss_nil))
          (ss_cons (s_if (q_w (w_or (q_not (q_val (q_isi rfl rfl m_isinstance (q_ix rfl (qv 5) (q_int)) rfl m_str (by decide +kernel) (by decide)))) (w_or1 (q_not (q_val (q_isi rfl rfl m_isinstance (q_ix rfl (qv 5) (q_int)) rfl m_str (by decide +kernel) (by decide))))))) (ss_one (s_ret (q_bl))) (ss_nil))
          (ss_cons (s_if (q_w (w_and (q_cmpT (op_neD hr.units) (sim_neD rfl) (q_ix rfl (qv 5) (q_int)) (q_str) rfl) (w_and1 (q_not (q_val (q_call (E := C8.E0) rfl ((fn__law_is_name G).mono (by omega)) hr rfl m__law_is_name C8.pass0 (exOk_no _ _) (a_cons (q_ix rfl (qv 5) (q_int)) (a_nil)))))))) (ss_one (s_ret (q_bl))) (ss_nil))
          (ss_one (s_expr (q_bm rfl sim_append PySem.F.plainAttrs_list PySem.F.slot_list_append PySem.F.type_list_append mt_append (qv 4) (a_cons (q_ix rfl (qv 5) (q_int)) (a_nil))))))))))))))
          (ss_one (s_ret (q_call (E := C8.E0) rfl ((fn__law_goes_up G).mono (by omega)) hr rfl m__law_goes_up C8.pass0 (exOk_no _ _) (a_cons (qv 2) (a_nil))))))))

theorem sc__law_lists : FnScope N1__law_lists p1__law_lists (defScope s__law_lists) := C8.fnScope_by (by decide +kernel)
theorem len__law_lists {n : Nat} : ∀ ds S Q E, sp__law_lists n ds S Q E → ds.length = p1__law_lists.length := fun _ _ _ _ h => by
  unfold sp__law_lists at h; repeat' (first | refine Or.elim h (fun h => ?_) (fun h => ?_) | obtain ⟨_, h⟩ := h)
  all_goals (subst_vars; rfl)
theorem fn__law_lists {P : Program} {w : World} {K : PySem.W.Frag} {mg : Str → Option Value} {base : Heap} (n : Nat) (G : Gx w K mg base) : FN P w K mg base C8.CX0 (tabs K) (1 + n) (He.fAd K ("_law_lists", none)) (defArgs s__law_lists) p1__law_lists (sp__law_lists n) := by
    obtain ⟨fd, FD⟩ := G.def_ 9 (d := df__law_lists) rfl
    have m_isinstance : mg "isinstance" = none := G.free 19
    have m_list : mg "list" = none := G.free 8
    have m_tuple : mg "tuple" = none := G.free 20
    have m__law_lists : mg "_law_lists" = some (.ref (He.ga K "_law_lists")) := G.glo 13
    induction n with
    | zero =>
      refine fn_def0 (p := ("_law_lists", none)) (k := 0) FD sc__law_lists (fun _ _ _ _ _ _ us hl => match us, hl with | [_], _ => rfl) len__law_lists fun A outer s H E io hr => ⟨fun _ _ _ => False, ss_never, v0__law_lists⟩
    | succ n ih =>
      refine fn_def0 (p := ("_law_lists", none)) (k := 1 + n) FD sc__law_lists (fun _ _ _ _ _ _ us hl => match us, hl with | [_], _ => rfl) len__law_lists fun A outer s H E io hr => ⟨d__law_lists n, ?_, v__law_lists⟩
      have sc := sc__law_lists
      exact ss_one (s_ret (q_ifE (q_val (q_isi2 rfl rfl m_isinstance (qv 0) rfl m_list (by decide +kernel) (by decide) rfl m_tuple (by decide +kernel) (by decide))) (q_frz (q_lc (own := [("_law_bit", 1)]) rfl rfl sc.nd (q_iSeq rfl (qv 0)) (blkOk_by (by kernel_rfl)) (by simp [Tg.in_]) (fun _ _ _ _ _ => gnm 1 sc.nd) (fun _ _ _ _ _ => q_noif) (fun _ _ _ _ _ => q_call (E := C8.E0) rfl ((ih).mono (by omega)) hr rfl m__law_lists C8.pass0 (exOk_no _ _) (a_cons (qv 1) (a_nil))))) (qv 0)))

theorem sc__law_same : FnScope N1__law_same p1__law_same (defScope s__law_same) := C8.fnScope_by (by decide +kernel)
theorem len__law_same {n : Nat} : ∀ ds S Q E, sp__law_same n ds S Q E → ds.length = p1__law_same.length := fun _ _ _ _ h => by
  unfold sp__law_same at h; repeat' (first | refine Or.elim h (fun h => ?_) (fun h => ?_) | obtain ⟨_, h⟩ := h)
  all_goals (subst_vars; rfl)
theorem fn__law_same {P : Program} {w : World} {K : PySem.W.Frag} {mg : Str → Option Value} {base : Heap} (n : Nat) (G : Gx w K mg base) : FN P w K mg base C8.CX0 (tabs K) (1 + n) (He.fAd K ("_law_same", none)) (defArgs s__law_same) p1__law_same (sp__law_same n) := by
    obtain ⟨fd, FD⟩ := G.def_ 10 (d := df__law_same) rfl
    have m_isinstance : mg "isinstance" = none := G.free 19
    have m_list : mg "list" = none := G.free 8
    have m_tuple : mg "tuple" = none := G.free 20
    have m_len : mg "len" = none := G.free 2
    have m_zip : mg "zip" = none := G.free 26
    have m__law_same : mg "_law_same" = some (.ref (He.ga K "_law_same")) := G.glo 18
    have m_all : mg "all" = none := G.free 5
    have m_dict : mg "dict" = none := G.free 27
    have m_bool : mg "bool" = none := G.free 28
    have m_str : mg "str" = none := G.free 22
    have m_int : mg "int" = none := G.free 6
    induction n with
    | zero =>
      refine fn_def0 (p := ("_law_same", none)) (k := 0) FD sc__law_same (fun _ _ _ _ _ _ us hl => match us, hl with | [_, _], _ => rfl) len__law_same fun A outer s H E io hr => ⟨fun _ _ _ => False, ss_never, v0__law_same⟩
    | succ n ih =>
      refine fn_def0 (p := ("_law_same", none)) (k := 1 + n) FD sc__law_same (fun _ _ _ _ _ _ us hl => match us, hl with | [_, _], _ => rfl) len__law_same fun A outer s H E io hr => ⟨d__law_same n, ?_, v__law_same⟩
      have sc := sc__law_same
      exact ss_cons (s_if (q_val (q_isi2 rfl rfl m_isinstance (qv 1) rfl m_list (by decide +kernel) (by decide) rfl m_tuple (by decide +kernel) (by decide))) (ss_cons (s_if (q_w (w_or (q_cmpT (op_neD hr.units) (sim_neD rfl) (q_isi rfl rfl m_isinstance (qv 0) rfl m_list (by decide +kernel) (by decide)) (q_isi rfl rfl m_isinstance (qv 1) rfl m_list (by decide +kernel) (by decide)) rfl) (w_or1 (q_cmpT (op_neD hr.units) (sim_neD rfl) (q_isi rfl rfl m_isinstance (qv 0) rfl m_tuple (by decide +kernel) (by decide)) (q_isi rfl rfl m_isinstance (qv 1) rfl m_tuple (by decide +kernel) (by decide)) rfl)))) (ss_one (s_ret (q_bl))) (ss_nil))
          (ss_one (s_ret (q_and (q_cmp (op_eqD hr.units) (sim_eqD rfl) (q_callB (sim_len rfl) call_len rfl m_len (by decide +kernel) (a_cons (qv 0) (a_nil))) (q_callB (sim_len rfl) call_len rfl m_len (by decide +kernel) (a_cons (qv 1) (a_nil))) rfl) (q_one (q_callB (sim_all rfl) (cr_all rfl) rfl m_all (by decide +kernel) (a_cons (q_lc (own := [("_law_mine", 3), ("_law_its", 4)]) rfl rfl sc.nd (q_zipA rfl rfl m_zip (a_cons (qv 0) (a_cons (qv 1) (a_nil)))) (blkOk_by (by kernel_rfl)) (by simp [Tg.in_]) (fun _ _ _ _ _ => pg_tup rfl (pgs_cons (gnm 3 sc.nd) (pgs_cons (gnm 4 sc.nd) (pgs_nil)))) (fun _ _ _ _ _ => q_noif) (fun _ _ _ _ _ => q_call (E := C8.E0) rfl ((ih).mono (by omega)) hr rfl m__law_same C8.pass0 (exOk_no _ _) (a_cons (qv 3) (a_cons (qv 4) (a_nil))))) (a_nil)))))))) (ss_nil))
          (ss_cons (s_if (q_val (q_isi rfl rfl m_isinstance (qv 1) rfl m_dict (by decide +kernel) (by decide))) (ss_cons (s_if (q_w (w_or (q_not (q_val (q_isi rfl rfl m_isinstance (qv 0) rfl m_dict (by decide +kernel) (by decide)))) (w_or (q_cmpT (op_neD hr.units) (sim_neD rfl) (q_callB (sim_len rfl) call_len rfl m_len (by decide +kernel) (a_cons (qv 0) (a_nil))) (q_callB (sim_len rfl) call_len rfl m_len (by decide +kernel) (a_cons (qv 1) (a_nil))) rfl) (w_or1 (q_cmpT (op_neD hr.units) (sim_neD rfl) (q_frz (q_lc (own := [("_law_own", 2)]) rfl rfl sc.nd (q_iSeq rfl (qv 1)) (blkOk_by (by kernel_rfl)) (by simp [Tg.in_]) (fun _ _ _ _ _ => gnm 2 sc.nd) (fun _ _ _ _ _ => q_if1 (q_cmpT (op_notInD (units65 hr)) (sim_notInD rfl) (qv 2) (qv 0) rfl)) (fun _ _ _ _ _ => qv 2))) (q_frz (q_lst (a_nil))) rfl))))) (ss_one (s_ret (q_bl))) (ss_nil))
          (ss_one (s_ret (q_callB (sim_all rfl) (cr_all rfl) rfl m_all (by decide +kernel) (a_cons (q_lc (own := [("_law_own", 2)]) rfl rfl sc.nd (q_iSeq rfl (qv 1)) (blkOk_by (by kernel_rfl)) (by simp [Tg.in_]) (fun _ _ _ _ _ => gnm 2 sc.nd) (fun _ _ _ _ _ => q_noif) (fun _ _ _ _ _ => q_call (E := C8.E0) rfl ((ih).mono (by omega)) hr rfl m__law_same C8.pass0 (exOk_no _ _) (a_cons (q_ix rfl (qv 0) (qv 2)) (a_cons (q_ix rfl (qv 1) (qv 2)) (a_nil))))) (a_nil)))))) (ss_nil))
          (ss_cons (s_if (q_w (w_or (q_cmpT op_isN sim_isN (qv 1) (q_non) rfl) (w_or1 (q_val (q_isi2 rfl rfl m_isinstance (qv 1) rfl m_bool (by decide +kernel) (by decide) rfl m_str (by decide +kernel) (by decide)))))) (ss_one (s_ret (q_and (q_cmp (op_eqD hr.units) (sim_eqD rfl) (qv 0) (qv 1) rfl) (q_and (q_cmp (op_eqD hr.units) (sim_eqD rfl) (q_isi rfl rfl m_isinstance (qv 0) rfl m_bool (by decide +kernel) (by decide)) (q_isi rfl rfl m_isinstance (qv 1) rfl m_bool (by decide +kernel) (by decide)) rfl) (q_one (q_cmp (op_eqD hr.units) (sim_eqD rfl) (q_cmp op_isN sim_isN (qv 0) (q_non) rfl) (q_cmp op_isN sim_isN (qv 1) (q_non) rfl) rfl)))))) (ss_nil))
          (ss_one (s_ret (q_and (q_isi rfl rfl m_isinstance (qv 0) rfl m_int (by decide +kernel) (by decide)) (q_and (q_notV (q_isi rfl rfl m_isinstance (qv 0) rfl m_bool (by decide +kernel) (by decide))) (q_one (q_cmp (op_eqD hr.units) (sim_eqD rfl) (qv 0) (qv 1) rfl))))))))

theorem sc__law_sizes : FnScope N1__law_sizes p1__law_sizes (defScope s__law_sizes) := C8.fnScope_by (by decide +kernel)
theorem len__law_sizes : ∀ ds S Q E, sp__law_sizes_k10 ds S Q E → ds.length = p1__law_sizes.length := fun _ _ _ _ h => by
  unfold sp__law_sizes_k10 at h; repeat' (first | refine Or.elim h (fun h => ?_) (fun h => ?_) | obtain ⟨_, h⟩ := h)
  all_goals (subst_vars; rfl)
theorem fn__law_sizes {P : Program} {w : World} {K : PySem.W.Frag} {mg : Str → Option Value} {base : Heap} (G : Gx w K mg base) : FN P w K mg base C8.CX0 (tabs K) 3 (He.fAd K ("_law_sizes", none)) (defArgs s__law_sizes) p1__law_sizes (sp__law_sizes_k10) := by
    obtain ⟨fd, FD⟩ := G.def_ 11 (d := df__law_sizes) rfl
    have m__law_of : mg "_law_of" = some (.ref (He.ga K "_law_of")) := G.glo 23
    refine fn_def0 (p := ("_law_sizes", none)) (k := 2) FD sc__law_sizes (fun _ _ _ _ _ _ us hl => match us, hl with | [_], _ => rfl) len__law_sizes fun A outer s H E io hr => ⟨d__law_sizes_k10, ?_, v__law_sizes_k10⟩
    have sc := sc__law_sizes
    exact ss_one (s_ret (q_call (E := C8.E0) rfl ((fn__law_of G).mono (by omega)) hr rfl m__law_of C8.pass0 (exOk_no _ _) (a_cons (qv 0) (a_cons (q_frz (q_lst (a_cons (q_frz (q_lst (a_cons (q_int) (a_nil)))) (a_cons (q_frz (q_lst (a_cons (q_int) (a_cons (q_int) (a_nil))))) (a_cons (q_frz (q_lst (a_cons (q_int) (a_cons (q_int) (a_nil))))) (a_cons (q_frz (q_lst (a_cons (q_int) (a_cons (q_int) (a_cons (q_int) (a_nil)))))) (a_cons (q_frz (q_lst (a_cons (q_int) (a_cons (q_int) (a_cons (q_int) (a_nil)))))) (a_cons (q_frz (q_lst (a_cons (q_int) (a_cons (q_int) (a_nil))))) (a_cons (q_frz (q_lst (a_cons (q_int) (a_cons (q_int) (a_cons (q_int) (a_cons (q_int) (a_nil))))))) (a_cons (q_frz (q_lst (a_cons (q_int) (a_cons (q_int) (a_cons (q_int) (a_nil)))))) (a_cons (q_frz (q_lst (a_cons (q_int) (a_cons (q_int) (a_cons (q_int) (a_nil)))))) (a_nil)))))))))))) (a_nil)))))

theorem sc__law_pick : FnScope N1__law_pick p1__law_pick (defScope s__law_pick) := C8.fnScope_by (by decide +kernel)
theorem len__law_pick : ∀ ds S Q E, sp__law_pick ds S Q E → ds.length = p1__law_pick.length := fun _ _ _ _ h => by
  unfold sp__law_pick at h; repeat' (first | refine Or.elim h (fun h => ?_) (fun h => ?_) | obtain ⟨_, h⟩ := h)
  all_goals (subst_vars; rfl)
theorem fn__law_pick {P : Program} {w : World} {K : PySem.W.Frag} {mg : Str → Option Value} {base : Heap} (G : Gx w K mg base) : FN P w K mg base C8.CX0 (tabs K) 2 (He.fAd K ("_law_pick", none)) (defArgs s__law_pick) p1__law_pick (sp__law_pick) := by
    obtain ⟨fd, FD⟩ := G.def_ 12 (d := df__law_pick) rfl
    have m_list : mg "list" = none := G.free 8
    have m_range : mg "range" = none := G.free 1
    have m_len : mg "len" = none := G.free 2
    have m_min : mg "min" = none := G.free 31
    have m__law_take : mg "_law_take" = some (.ref (He.ga K "_law_take")) := G.glo 21
    refine fn_def0 (p := ("_law_pick", none)) (k := 1) FD sc__law_pick (fun _ _ _ _ _ _ us hl => match us, hl with | [_, _, _], _ => rfl) len__law_pick fun A outer s H E io hr => ⟨d__law_pick, ?_, v__law_pick⟩
    have sc := sc__law_pick
    exact ss_cons (s_par (i := 4) (j := 5) rfl sc.nd rfl rfl (by decide) rfl rfl (a_cons (q_callTy (sim_list rfl) call_list_of rfl m_list (by decide +kernel) (a_cons (qv 1) (a_nil))) (a_cons (q_lst (a_nil)) (a_nil))) (by kernel_rfl))
          (ss_cons (q_for rfl PassesOwn.never rfl (q_range1 rfl m_range (a_cons (q_callB sim_min2 (call_min2 rfl) rfl m_min (by decide +kernel) (a_cons (qv 2) (a_cons (q_callB (sim_len rfl) call_len rfl m_len (by decide +kernel) (a_cons (qv 4) (a_nil))) (a_nil)))) (a_nil))) (gnm 3 sc.nd) (ss_one (s_expr (q_bm rfl sim_append PySem.F.plainAttrs_list PySem.F.slot_list_append PySem.F.type_list_append mt_append (qv 5) (a_cons (q_bm rfl sim_popAt PySem.F.plainAttrs_list PySem.F.slot_list_pop PySem.F.type_list_pop mt_popAt (qv 4) (a_cons (q_call (E := C8.E0) rfl ((fn__law_take G).mono (by omega)) hr rfl m__law_take C8.pass0 (exOk_no _ _) (a_cons (qv 0) (a_cons (q_callB (sim_len rfl) call_len rfl m_len (by decide +kernel) (a_cons (qv 4) (a_nil))) (a_nil)))) (a_nil))) (a_nil))))))
          (ss_one (s_ret (qv 5))))

theorem sc__law_world : FnScope N1__law_world p1__law_world (defScope s__law_world) := C8.fnScope_by (by decide +kernel)
theorem len__law_world : ∀ ds S Q E, sp__law_world ds S Q E → ds.length = p1__law_world.length := fun _ _ _ _ h => by
  unfold sp__law_world at h; repeat' (first | refine Or.elim h (fun h => ?_) (fun h => ?_) | obtain ⟨_, h⟩ := h)
  all_goals (subst_vars; rfl)
theorem fn__law_world {P : Program} {w : World} {K : PySem.W.Frag} {mg : Str → Option Value} {base : Heap} (G : Gx w K mg base) : FN P w K mg base C8.CX0 (tabs K) 3 (He.fAd K ("_law_world", none)) (defArgs s__law_world) p1__law_world (sp__law_world) := by
    obtain ⟨fd, FD⟩ := G.def_ 13 (d := df__law_world) rfl
    have m_len : mg "len" = none := G.free 2
    have m__law_pick : mg "_law_pick" = some (.ref (He.ga K "_law_pick")) := G.glo 29
    have m_sorted : mg "sorted" = none := G.free 30
    have m_range : mg "range" = none := G.free 1
    have m__law_take : mg "_law_take" = some (.ref (He.ga K "_law_take")) := G.glo 21
    have m_tuple : mg "tuple" = none := G.free 20
    have m__law_of : mg "_law_of" = some (.ref (He.ga K "_law_of")) := G.glo 23
    have m_list : mg "list" = none := G.free 8
    refine fn_def0 (p := ("_law_world", none)) (k := 2) FD sc__law_world (fun _ _ _ _ _ _ us hl => match us, hl with | [_, _], _ => rfl) len__law_world fun A outer s H E io hr => ⟨d__law_world, ?_, v__law_world⟩
    have sc := sc__law_world
    exact ss_cons (sset 2 sc.nd (q_frz (q_callB (sim_sortS rfl) cr_sortedS rfl m_sorted (by decide +kernel) (a_cons (q_call (E := C8.E0) rfl ((fn__law_pick G).mono (by omega)) hr rfl m__law_pick C8.pass0 (exOk_no _ _) (a_cons (qv 0) (a_cons (q_frz (q_lst (a_cons (q_str) (a_cons (q_str) (a_cons (q_str) (a_cons (q_str) (a_cons (q_str) (a_cons (q_str) (a_nil))))))))) (a_cons (q_callB (sim_len rfl) call_len rfl m_len (by decide +kernel) (a_cons (qv 1) (a_nil))) (a_nil))))) (a_nil)))))
          (ss_cons (sset 3 sc.nd (q_lst (a_nil)))
          (ss_cons (q_for rfl PassesOwn.never rfl (q_range1 rfl m_range (a_cons (q_callB (sim_len rfl) call_len rfl m_len (by decide +kernel) (a_cons (qv 1) (a_nil))) (a_nil))) (gnm 4 sc.nd) (ss_cons (sset 7 sc.nd (q_call (E := C8.E0) rfl ((fn__law_pick G).mono (by omega)) hr rfl m__law_pick C8.pass0 (exOk_no _ _) (a_cons (qv 0) (a_cons (q_frz (q_lst (a_cons (q_str) (a_cons (q_str) (a_cons (q_str) (a_cons (q_str) (a_cons (q_str) (a_nil)))))))) (a_cons (q_op op_add (simI0 fun _ _ _ _ _ => rfl) (q_int) (q_call (E := C8.E0) rfl ((fn__law_take G).mono (by omega)) hr rfl m__law_take C8.pass0 (exOk_no _ _) (a_cons (qv 0) (a_cons (q_ix rfl (qv 1) (qv 4)) (a_nil))))) (a_nil))))))
          (ss_one (s_expr (q_bm rfl sim_append PySem.F.plainAttrs_list PySem.F.slot_list_append PySem.F.type_list_append mt_append (qv 3) (a_cons (q_tup (a_cons (q_ix rfl (qv 2) (qv 4)) (a_cons (q_callTy (sim_tuple rfl) call_tuple_of rfl m_tuple (by decide +kernel) (a_cons (q_frz (q_callB (sim_sortS rfl) cr_sortedS rfl m_sorted (by decide +kernel) (a_cons (qv 7) (a_nil)))) (a_nil))) (a_nil)))) (a_nil)))))))
          (ss_cons (sset 5 sc.nd (q_lst (a_nil)))
          (ss_cons (q_for rfl PassesOwn.never rfl (q_range1 rfl m_range (a_cons (q_op op_add (simI0 fun _ _ _ _ _ => rfl) (q_int) (q_call (E := C8.E0) rfl ((fn__law_take G).mono (by omega)) hr rfl m__law_take C8.pass0 (exOk_no _ _) (a_cons (qv 0) (a_cons (q_int) (a_nil))))) (a_nil))) (gnm 6 sc.nd) (ss_cons (sset 8 sc.nd (q_lst (a_nil)))
          (ss_cons (q_for rfl PassesOwn.never rfl (q_iSeq rfl (q_call (E := C8.E0) rfl ((fn__law_pick G).mono (by omega)) hr rfl m__law_pick C8.pass0 (exOk_no _ _) (a_cons (qv 0) (a_cons (qv 3) (a_cons (q_call (E := C8.E0) rfl ((fn__law_of G).mono (by omega)) hr rfl m__law_of C8.pass0 (exOk_no _ _) (a_cons (qv 0) (a_cons (q_frz (q_lst (a_cons (q_int) (a_cons (q_int) (a_cons (q_int) (a_cons (q_int) (a_cons (q_int) (a_nil)))))))) (a_nil)))) (a_nil)))))) (pg_tup rfl (pgs_cons (gnm 9 sc.nd) (pgs_cons (gnm 10 sc.nd) (pgs_nil)))) (ss_one (s_expr (q_bm rfl sim_append PySem.F.plainAttrs_list PySem.F.slot_list_append PySem.F.type_list_append mt_append (qv 8) (a_cons (q_tup (a_cons (qv 9) (a_cons (q_call (E := C8.E0) rfl ((fn__law_of G).mono (by omega)) hr rfl m__law_of C8.pass0 (exOk_no _ _) (a_cons (qv 0) (a_cons (q_frz (q_op op_catR sim_addL (q_frz (q_op op_repR sim_repL (q_frz (q_callTy (sim_list rfl) call_list_of rfl m_list (by decide +kernel) (a_cons (qv 10) (a_nil)))) (q_int))) (q_frz (q_lst (a_cons (q_str) (a_cons (q_str) (a_nil))))))) (a_nil)))) (a_nil)))) (a_nil))))))
          (ss_one (s_expr (q_bm rfl sim_append PySem.F.plainAttrs_list PySem.F.slot_list_append PySem.F.type_list_append mt_append (qv 5) (a_cons (q_tup (a_cons (q_callTy (sim_tuple rfl) call_tuple_of rfl m_tuple (by decide +kernel) (a_cons (qv 8) (a_nil))) (a_cons (q_call (E := C8.E0) rfl ((fn__law_of G).mono (by omega)) hr rfl m__law_of C8.pass0 (exOk_no _ _) (a_cons (qv 0) (a_cons (q_frz (q_lst (a_cons (q_str) (a_cons (q_str) (a_cons (q_str) (a_nil)))))) (a_nil)))) (a_nil)))) (a_nil))))))))
          (ss_cons (s_if (q_cmpT op_gt (simI0 fun _ _ _ _ _ => rfl) (q_call (E := C8.E0) rfl ((fn__law_take G).mono (by omega)) hr rfl m__law_take C8.pass0 (exOk_no _ _) (a_cons (qv 0) (a_cons (q_int) (a_nil)))) (q_int) rfl) (ss_one (s_expr (q_bm rfl sim_append PySem.F.plainAttrs_list PySem.F.slot_list_append PySem.F.type_list_append mt_append (qv 5) (a_cons (q_tup (a_cons (q_tup (a_nil)) (a_cons (q_call (E := C8.E0) rfl ((fn__law_of G).mono (by omega)) hr rfl m__law_of C8.pass0 (exOk_no _ _) (a_cons (qv 0) (a_cons (q_frz (q_lst (a_cons (q_str) (a_cons (q_str) (a_cons (q_str) (a_cons (q_str) (a_nil))))))) (a_nil)))) (a_nil)))) (a_nil))))) (ss_nil))
          (ss_one (s_ret (q_tup (a_cons (q_callTy (sim_tuple rfl) call_tuple_of rfl m_tuple (by decide +kernel) (a_cons (qv 3) (a_nil))) (a_cons (q_callTy (sim_tuple rfl) call_tuple_of rfl m_tuple (by decide +kernel) (a_cons (qv 5) (a_nil))) (a_nil)))))))))))

theorem sc_is_name : FnScope N1_is_name p1_is_name (defScope s_is_name) := C8.fnScope_by (by decide +kernel)
theorem len_is_name : ∀ ds S Q E, sp_is_name_k10 ds S Q E → ds.length = p1_is_name.length := fun _ _ _ _ h => by
  unfold sp_is_name_k10 at h; repeat' (first | refine Or.elim h (fun h => ?_) (fun h => ?_) | obtain ⟨_, h⟩ := h)
  all_goals (subst_vars; rfl)
theorem fn_is_name {P : Program} {w : World} {K : PySem.W.Frag} {mg : Str → Option Value} {base : Heap} (G : Gx w K mg base) : FN P w K mg base C8.CX0 (tabs K) 1 (He.fAd K ("is_name", none)) (defArgs s_is_name) p1_is_name (sp_is_name_k10) := by
    obtain ⟨fd, FD⟩ := G.def_ 14 (d := df_is_name) rfl
    have m_isinstance : mg "isinstance" = none := G.free 19
    have m_str : mg "str" = none := G.free 22
    have m_len : mg "len" = none := G.free 2
    obtain ⟨t_m_LONGEST, h_m_LONGEST⟩ : ∃ t, mg "LONGEST" = some (.int 8 t) := G.int 39
    obtain ⟨t_m_LETTERS, h_m_LETTERS⟩ : ∃ t, mg "LETTERS" = some (.str "abcdefghijklmnopqrstuvwxyz" t) := G.str 40
    have m_all : mg "all" = none := G.free 5
    refine fn_def0 (p := ("is_name", none)) (k := 0) FD sc_is_name (fun _ _ _ _ _ _ us hl => match us, hl with | [_], _ => rfl) len_is_name fun A outer s H E io hr => ⟨d_is_name_k10, ?_, v_is_name_k10⟩
    have sc := sc_is_name
    exact ss_one (s_ret (q_and (q_isi rfl rfl m_isinstance (qv 0) rfl m_str (by decide +kernel) (by decide)) (q_and (q_chain op_le (simI0 fun _ _ _ _ _ => rfl) op_le (simI0 fun _ _ _ _ _ => rfl) (q_int) (q_callB (sim_len rfl) call_len rfl m_len (by decide +kernel) (a_cons (qv 0) (a_nil))) (q_globI rfl h_m_LONGEST)) (q_one (q_callB (sim_all rfl) (cr_all rfl) rfl m_all (by decide +kernel) (a_cons (q_fzL (q_lc (own := [("sign", 1)]) rfl rfl sc.nd (QI.mc (q_txt (qv 0))) (blkOk_by (by kernel_rfl)) (by simp [Tg.in_]) (fun _ _ _ _ _ => gnm 1 sc.nd) (fun _ _ _ _ _ => QTs.mc (q_noif)) (fun _ _ _ _ _ => QE.mc (q_cmp op_inS sim_inS (qv 1) (q_globS rfl h_m_LETTERS) rfl)))) (a_nil)))))))

theorem sc_is_tuple : FnScope N1_is_tuple p1_is_tuple (defScope s_is_tuple) := C8.fnScope_by (by decide +kernel)
theorem len_is_tuple : ∀ ds S Q E, sp_is_tuple ds S Q E → ds.length = p1_is_tuple.length := fun _ _ _ _ h => by
  unfold sp_is_tuple at h; repeat' (first | refine Or.elim h (fun h => ?_) (fun h => ?_) | obtain ⟨_, h⟩ := h)
  all_goals (subst_vars; rfl)
theorem fn_is_tuple {P : Program} {w : World} {K : PySem.W.Frag} {mg : Str → Option Value} {base : Heap} (G : Gx w K mg base) : FN P w K mg base C8.CX0 (tabs K) 1 (He.fAd K ("is_tuple", none)) (defArgs s_is_tuple) p1_is_tuple (sp_is_tuple) := by
    obtain ⟨fd, FD⟩ := G.def_ 15 (d := df_is_tuple) rfl
    have m_isinstance : mg "isinstance" = none := G.free 19
    have m_tuple : mg "tuple" = none := G.free 20
    have m_len : mg "len" = none := G.free 2
    refine fn_def0 (p := ("is_tuple", none)) (k := 0) FD sc_is_tuple (fun _ _ _ _ _ _ us hl => match us, hl with | [_, _], _ => rfl) len_is_tuple fun A outer s H E io hr => ⟨d_is_tuple, ?_, v_is_tuple⟩
    have sc := sc_is_tuple
    exact ss_one (s_ret (q_and (q_isi rfl rfl m_isinstance (qv 0) rfl m_tuple (by decide +kernel) (by decide)) (q_one (q_cmp (op_eqD hr.units) (sim_eqD rfl) (q_callB (sim_len rfl) call_len rfl m_len (by decide +kernel) (a_cons (qv 0) (a_nil))) (qv 1) rfl))))

theorem sc_rises : FnScope N1_rises p1_rises (defScope s_rises) := C8.fnScope_by (by decide +kernel)
theorem len_rises : ∀ ds S Q E, sp_rises_k10 ds S Q E → ds.length = p1_rises.length := fun _ _ _ _ h => by
  unfold sp_rises_k10 at h; repeat' (first | refine Or.elim h (fun h => ?_) (fun h => ?_) | obtain ⟨_, h⟩ := h)
  all_goals (subst_vars; rfl)
theorem fn_rises {P : Program} {w : World} {K : PySem.W.Frag} {mg : Str → Option Value} {base : Heap} (G : Gx w K mg base) : FN P w K mg base C8.CX0 (tabs K) 1 (He.fAd K ("rises", none)) (defArgs s_rises) p1_rises (sp_rises_k10) := by
    obtain ⟨fd, FD⟩ := G.def_ 16 (d := df_rises) rfl
    have m_list : mg "list" = none := G.free 8
    have m_zip : mg "zip" = none := G.free 26
    have m_all : mg "all" = none := G.free 5
    refine fn_def0 (p := ("rises", none)) (k := 0) FD sc_rises (fun _ _ _ _ _ _ us hl => match us, hl with | [_], _ => rfl) len_rises fun A outer s H E io hr => ⟨d_rises_k10, ?_, v_rises_k10⟩
    have sc := sc_rises
    exact ss_cons (sset 1 sc.nd (q_fzB fz_list (q_callTy (sim_list rfl) call_list_of rfl m_list (by decide +kernel) (QA.mc (a_cons (qv 0) (a_nil))))))
          (ss_one (s_ret (q_callB (sim_all rfl) (cr_all rfl) rfl m_all (by decide +kernel) (a_cons (q_fzL (q_lc (own := [("one", 2), ("other", 3)]) rfl rfl sc.nd (QI.mc (q_zip2 rfl rfl m_zip (a_cons (qv 1) (a_cons (q_sliceF rfl (qv 1) (o_some (q_int)) (o_none)) (a_nil))))) (blkOk_by (by kernel_rfl)) (by simp [Tg.in_]) (fun _ _ _ _ _ => pg_tup rfl (pgs_cons (gnm 2 sc.nd) (pgs_cons (gnm 3 sc.nd) (pgs_nil)))) (fun _ _ _ _ _ => QTs.mc (q_noif)) (fun _ _ _ _ _ => QE.mc (q_cmp op_lt_str sim_ltS (qv 2) (qv 3) rfl)))) (a_nil)))))

theorem sc_is_header : FnScope N1_is_header p1_is_header (defScope s_is_header) := C8.fnScope_by (by decide +kernel)
theorem len_is_header : ∀ ds S Q E, sp_is_header_k10 ds S Q E → ds.length = p1_is_header.length := fun _ _ _ _ h => by
  unfold sp_is_header_k10 at h; repeat' (first | refine Or.elim h (fun h => ?_) (fun h => ?_) | obtain ⟨_, h⟩ := h)
  all_goals (subst_vars; rfl)
theorem fn_is_header {P : Program} {w : World} {K : PySem.W.Frag} {mg : Str → Option Value} {base : Heap} (G : Gx w K mg base) : FN P w K mg base C8.CX0 (tabs K) 2 (He.fAd K ("is_header", none)) (defArgs s_is_header) p1_is_header (sp_is_header_k10) := by
    obtain ⟨fd, FD⟩ := G.def_ 17 (d := df_is_header) rfl
    obtain ⟨t_m_PAIR, h_m_PAIR⟩ : ∃ t, mg "PAIR" = some (.int 2 t) := G.int 32
    have m_is_tuple : mg "is_tuple" = some (.ref (He.ga K "is_tuple")) := G.glo 33
    have m_is_name : mg "is_name" = some (.ref (He.ga K "is_name")) := G.glo 37
    have m_isinstance : mg "isinstance" = none := G.free 19
    have m_tuple : mg "tuple" = none := G.free 20
    have m_len : mg "len" = none := G.free 2
    obtain ⟨t_m_MOST_VALUES, h_m_MOST_VALUES⟩ : ∃ t, mg "MOST_VALUES" = some (.int 3 t) := G.int 38
    have m_all : mg "all" = none := G.free 5
    have m_rises : mg "rises" = some (.ref (He.ga K "rises")) := G.glo 35
    refine fn_def0 (p := ("is_header", none)) (k := 1) FD sc_is_header (fun _ _ _ _ _ _ us hl => match us, hl with | [_], _ => rfl) len_is_header fun A outer s H E io hr => ⟨d_is_header_k10, ?_, v_is_header_k10⟩
    have sc := sc_is_header
    exact ss_cons (s_if (q_w (w_or (q_not (q_val (q_call (E := C8.E0) rfl ((fn_is_tuple G).mono (by omega)) hr rfl m_is_tuple C8.pass0 (exOk_no _ _) (a_cons (qv 0) (a_cons (q_globI rfl h_m_PAIR) (a_nil)))))) (w_or (q_not (q_val (q_call (E := C8.E0) rfl ((fn_is_name G).mono (by omega)) hr rfl m_is_name C8.pass0 (exOk_no _ _) (a_cons (q_ix rfl (qv 0) (q_int)) (a_nil))))) (w_or1 (q_not (q_val (q_isi rfl rfl m_isinstance (q_ix rfl (qv 0) (q_int)) rfl m_tuple (by decide +kernel) (by decide)))))))) (ss_one (s_ret (q_bl))) (ss_nil))
          (ss_one (s_ret (q_and (q_cmp op_le (simI0 fun _ _ _ _ _ => rfl) (q_callB (sim_len rfl) call_len rfl m_len (by decide +kernel) (a_cons (q_ix rfl (qv 0) (q_int)) (a_nil))) (q_globI rfl h_m_MOST_VALUES) rfl) (q_and (q_callB (sim_all rfl) (cr_all rfl) rfl m_all (by decide +kernel) (a_cons (q_fzL (q_lc (own := [("value", 1)]) rfl rfl sc.nd (QI.mc (q_iSeq rfl (q_ix rfl (qv 0) (q_int)))) (blkOk_by (by kernel_rfl)) (by simp [Tg.in_]) (fun _ _ _ _ _ => gnm 1 sc.nd) (fun _ _ _ _ _ => QTs.mc (q_noif)) (fun _ _ _ _ _ => QE.mc (q_call (E := C8.E0) rfl ((fn_is_name G).mono (by omega)) hr rfl m_is_name C8.pass0 (exOk_no _ _) (a_cons (qv 1) (a_nil)))))) (a_nil))) (q_one (q_call (E := C8.E0) rfl ((fn_rises G).mono (by omega)) hr rfl m_rises C8.pass0 (exOk_no _ _) (a_cons (q_ix rfl (qv 0) (q_int)) (a_nil))))))))

theorem sc_is_test : FnScope N1_is_test p1_is_test (defScope s_is_test) := C8.fnScope_by (by decide +kernel)
theorem len_is_test : ∀ ds S Q E, sp_is_test_k10 ds S Q E → ds.length = p1_is_test.length := fun _ _ _ _ h => by
  unfold sp_is_test_k10 at h; repeat' (first | refine Or.elim h (fun h => ?_) (fun h => ?_) | obtain ⟨_, h⟩ := h)
  all_goals (subst_vars; rfl)
theorem fn_is_test {P : Program} {w : World} {K : PySem.W.Frag} {mg : Str → Option Value} {base : Heap} (G : Gx w K mg base) : FN P w K mg base C8.CX0 (tabs K) 2 (He.fAd K ("is_test", none)) (defArgs s_is_test) p1_is_test (sp_is_test_k10) := by
    obtain ⟨fd, FD⟩ := G.def_ 18 (d := df_is_test) rfl
    obtain ⟨t_m_PAIR, h_m_PAIR⟩ : ∃ t, mg "PAIR" = some (.int 2 t) := G.int 32
    have m_is_tuple : mg "is_tuple" = some (.ref (He.ga K "is_tuple")) := G.glo 33
    have m_isinstance : mg "isinstance" = none := G.free 19
    have m_str : mg "str" = none := G.free 22
    obtain ⟨t_m_NOTHING, h_m_NOTHING⟩ : ∃ t, mg "NOTHING" = some (.str "" t) := G.str 43
    have m_is_name : mg "is_name" = some (.ref (He.ga K "is_name")) := G.glo 37
    refine fn_def0 (p := ("is_test", none)) (k := 1) FD sc_is_test (fun _ _ _ _ _ _ us hl => match us, hl with | [_, _], _ => rfl) len_is_test fun A outer s H E io hr => ⟨d_is_test_k10, ?_, v_is_test_k10⟩
    have sc := sc_is_test
    exact ss_cons (s_if (q_w (w_or (q_not (q_val (q_call (E := C8.E0) rfl ((fn_is_tuple G).mono (by omega)) hr rfl m_is_tuple C8.pass0 (exOk_no _ _) (a_cons (qv 0) (a_cons (q_globI rfl h_m_PAIR) (a_nil)))))) (w_or (q_not (q_val (q_isi rfl rfl m_isinstance (q_ix rfl (qv 0) (q_int)) rfl m_str (by decide +kernel) (by decide)))) (w_or1 (q_cmpT (op_notInA (units65 hr)) (sim_notInA rfl) (q_ix rfl (qv 0) (q_int)) (qv 1) rfl))))) (ss_one (s_ret (q_bl))) (ss_nil))
          (ss_one (s_ret (q_or (q_and (q_isi rfl rfl m_isinstance (q_ix rfl (qv 0) (q_int)) rfl m_str (by decide +kernel) (by decide)) (q_one (q_cmp (op_eqD hr.units) (sim_eqD rfl) (q_ix rfl (qv 0) (q_int)) (q_globS rfl h_m_NOTHING) rfl))) (q_one (q_call (E := C8.E0) rfl ((fn_is_name G).mono (by omega)) hr rfl m_is_name C8.pass0 (exOk_no _ _) (a_cons (q_ix rfl (qv 0) (q_int)) (a_nil)))))))

theorem sc_is_rule : FnScope N1_is_rule p1_is_rule (defScope s_is_rule) := C8.fnScope_by (by decide +kernel)
theorem len_is_rule : ∀ ds S Q E, sp_is_rule_k10 ds S Q E → ds.length = p1_is_rule.length := fun _ _ _ _ h => by
  unfold sp_is_rule_k10 at h; repeat' (first | refine Or.elim h (fun h => ?_) (fun h => ?_) | obtain ⟨_, h⟩ := h)
  all_goals (subst_vars; rfl)
theorem fn_is_rule {P : Program} {w : World} {K : PySem.W.Frag} {mg : Str → Option Value} {base : Heap} (G : Gx w K mg base) : FN P w K mg base C8.CX0 (tabs K) 3 (He.fAd K ("is_rule", none)) (defArgs s_is_rule) p1_is_rule (sp_is_rule_k10) := by
    obtain ⟨fd, FD⟩ := G.def_ 19 (d := df_is_rule) rfl
    obtain ⟨t_m_PAIR, h_m_PAIR⟩ : ∃ t, mg "PAIR" = some (.int 2 t) := G.int 32
    have m_is_tuple : mg "is_tuple" = some (.ref (He.ga K "is_tuple")) := G.glo 33
    have m_is_name : mg "is_name" = some (.ref (He.ga K "is_name")) := G.glo 37
    have m_isinstance : mg "isinstance" = none := G.free 19
    have m_tuple : mg "tuple" = none := G.free 20
    have m_is_test : mg "is_test" = some (.ref (He.ga K "is_test")) := G.glo 41
    have m_all : mg "all" = none := G.free 5
    have m_len : mg "len" = none := G.free 2
    have m_set : mg "set" = none := G.free 42
    refine fn_def0 (p := ("is_rule", none)) (k := 2) FD sc_is_rule (fun _ _ _ _ _ _ us hl => match us, hl with | [_, _], _ => rfl) len_is_rule fun A outer s H E io hr => ⟨d_is_rule_k10, ?_, v_is_rule_k10⟩
    have sc := sc_is_rule
    exact ss_cons (s_if (q_w (w_or (q_not (q_val (q_call (E := C8.E0) rfl ((fn_is_tuple G).mono (by omega)) hr rfl m_is_tuple C8.pass0 (exOk_no _ _) (a_cons (qv 0) (a_cons (q_globI rfl h_m_PAIR) (a_nil)))))) (w_or (q_not (q_val (q_call (E := C8.E0) rfl ((fn_is_name G).mono (by omega)) hr rfl m_is_name C8.pass0 (exOk_no _ _) (a_cons (q_ix rfl (qv 0) (q_int)) (a_nil))))) (w_or1 (q_not (q_val (q_isi rfl rfl m_isinstance (q_ix rfl (qv 0) (q_int)) rfl m_tuple (by decide +kernel) (by decide)))))))) (ss_one (s_ret (q_bl))) (ss_nil))
          (ss_cons (s_if (q_not (q_val (q_callB (sim_all rfl) (cr_all rfl) rfl m_all (by decide +kernel) (a_cons (q_fzL (q_lc (own := [("test", 2)]) rfl rfl sc.nd (QI.mc (q_iSeq rfl (q_ix rfl (qv 0) (q_int)))) (blkOk_by (by kernel_rfl)) (by simp [Tg.in_]) (fun _ _ _ _ _ => gnm 2 sc.nd) (fun _ _ _ _ _ => QTs.mc (q_noif)) (fun _ _ _ _ _ => QE.mc (q_call (E := C8.E0) rfl ((fn_is_test G).mono (by omega)) hr rfl m_is_test C8.pass0 (exOk_no _ _) (a_cons (qv 2) (a_cons (qv 1) (a_nil))))))) (a_nil))))) (ss_one (s_ret (q_bl))) (ss_nil))
          (ss_one (s_ret (q_cmp (op_eqD hr.units) (sim_eqD rfl) (q_lenSetS rfl rfl rfl m_len rfl m_set (q_fzL (q_lc (own := [("test", 2)]) rfl rfl sc.nd (QI.mc (q_iSeq rfl (q_ix rfl (qv 0) (q_int)))) (blkOk_by (by kernel_rfl)) (by simp [Tg.in_]) (fun _ _ _ _ _ => gnm 2 sc.nd) (fun _ _ _ _ _ => QTs.mc (q_noif)) (fun _ _ _ _ _ => QE.mc (q_ix rfl (qv 2) (q_int)))))) (q_callB (sim_len rfl) call_len rfl m_len (by decide +kernel) (a_cons (q_ix rfl (qv 0) (q_int)) (a_nil))) rfl))))

theorem sc_is_world : FnScope N1_is_world p1_is_world (defScope s_is_world) := C8.fnScope_by (by decide +kernel)
theorem len_is_world : ∀ ds S Q E, sp_is_world_k10 ds S Q E → ds.length = p1_is_world.length := fun _ _ _ _ h => by
  unfold sp_is_world_k10 at h; repeat' (first | refine Or.elim h (fun h => ?_) (fun h => ?_) | obtain ⟨_, h⟩ := h)
  all_goals (subst_vars; rfl)
theorem fn_is_world {P : Program} {w : World} {K : PySem.W.Frag} {mg : Str → Option Value} {base : Heap} (G : Gx w K mg base) : FN P w K mg base C8.CX0 (tabs K) 4 (He.fAd K ("is_world", none)) (defArgs s_is_world) p1_is_world (sp_is_world_k10) := by
    obtain ⟨fd, FD⟩ := G.def_ 20 (d := df_is_world) rfl
    obtain ⟨t_m_PAIR, h_m_PAIR⟩ : ∃ t, mg "PAIR" = some (.int 2 t) := G.int 32
    have m_is_tuple : mg "is_tuple" = some (.ref (He.ga K "is_tuple")) := G.glo 33
    have m_isinstance : mg "isinstance" = none := G.free 19
    have m_tuple : mg "tuple" = none := G.free 20
    have m_is_header : mg "is_header" = some (.ref (He.ga K "is_header")) := G.glo 34
    have m_all : mg "all" = none := G.free 5
    have m_rises : mg "rises" = some (.ref (He.ga K "rises")) := G.glo 35
    have m_is_rule : mg "is_rule" = some (.ref (He.ga K "is_rule")) := G.glo 36
    refine fn_def0 (p := ("is_world", none)) (k := 3) FD sc_is_world (fun _ _ _ _ _ _ us hl => match us, hl with | [_], _ => rfl) len_is_world fun A outer s H E io hr => ⟨d_is_world_k10, ?_, v_is_world_k10⟩
    have sc := sc_is_world
    exact ss_cons (s_if (q_w (w_or (q_not (q_val (q_call (E := C8.E0) rfl ((fn_is_tuple G).mono (by omega)) hr rfl m_is_tuple C8.pass0 (exOk_no _ _) (a_cons (qv 0) (a_cons (q_globI rfl h_m_PAIR) (a_nil)))))) (w_or (q_not (q_val (q_isi rfl rfl m_isinstance (q_ix rfl (qv 0) (q_int)) rfl m_tuple (by decide +kernel) (by decide)))) (w_or1 (q_not (q_val (q_isi rfl rfl m_isinstance (q_ix rfl (qv 0) (q_int)) rfl m_tuple (by decide +kernel) (by decide)))))))) (ss_one (s_ret (q_bl))) (ss_nil))
          (ss_cons (s_if (q_not (q_val (q_callB (sim_all rfl) (cr_all rfl) rfl m_all (by decide +kernel) (a_cons (q_fzL (q_lc (own := [("header", 2)]) rfl rfl sc.nd (QI.mc (q_iSeq rfl (q_ix rfl (qv 0) (q_int)))) (blkOk_by (by kernel_rfl)) (by simp [Tg.in_]) (fun _ _ _ _ _ => gnm 2 sc.nd) (fun _ _ _ _ _ => QTs.mc (q_noif)) (fun _ _ _ _ _ => QE.mc (q_call (E := C8.E0) rfl ((fn_is_header G).mono (by omega)) hr rfl m_is_header C8.pass0 (exOk_no _ _) (a_cons (qv 2) (a_nil)))))) (a_nil))))) (ss_one (s_ret (q_bl))) (ss_nil))
          (ss_cons (sset 1 sc.nd (q_fzL (q_lc (own := [("header", 2)]) rfl rfl sc.nd (QI.mc (q_iSeq rfl (q_ix rfl (qv 0) (q_int)))) (blkOk_by (by kernel_rfl)) (by simp [Tg.in_]) (fun _ _ _ _ _ => gnm 2 sc.nd) (fun _ _ _ _ _ => QTs.mc (q_noif)) (fun _ _ _ _ _ => QE.mc (q_ix rfl (qv 2) (q_int))))))
          (ss_one (s_ret (q_and (q_call (E := C8.E0) rfl ((fn_rises G).mono (by omega)) hr rfl m_rises C8.pass0 (exOk_no _ _) (a_cons (qv 1) (a_nil))) (q_one (q_callB (sim_all rfl) (cr_all rfl) rfl m_all (by decide +kernel) (a_cons (q_fzL (q_lc (own := [("rule", 3)]) rfl rfl sc.nd (QI.mc (q_iSeq rfl (q_ix rfl (qv 0) (q_int)))) (blkOk_by (by kernel_rfl)) (by simp [Tg.in_]) (fun _ _ _ _ _ => gnm 3 sc.nd) (fun _ _ _ _ _ => QTs.mc (q_noif)) (fun _ _ _ _ _ => QE.mc (q_call (E := C8.E0) rfl ((fn_is_rule G).mono (by omega)) hr rfl m_is_rule C8.pass0 (exOk_no _ _) (a_cons (qv 3) (a_cons (qv 1) (a_nil))))))) (a_nil)))))))))

theorem sc__law_right : FnScope N1__law_right p1__law_right (defScope s__law_right) := C8.fnScope_by (by decide +kernel)
theorem len__law_right : ∀ ds S Q E, sp__law_right_k10 ds S Q E → ds.length = p1__law_right.length := fun _ _ _ _ h => by
  unfold sp__law_right_k10 at h; repeat' (first | refine Or.elim h (fun h => ?_) (fun h => ?_) | obtain ⟨_, h⟩ := h)
  all_goals (subst_vars; rfl)
theorem fn__law_right {P : Program} {w : World} {K : PySem.W.Frag} {mg : Str → Option Value} {base : Heap} (G : Gx w K mg base) : FNG P w K mg base C8.CX0 (tabs K) 14 (He.fAd K ("_law_right", none)) p1__law_right (sp__law_right_k10) := by
    obtain ⟨fd, FD⟩ := G.def_ 21 (d := df__law_right) rfl
    have m_range : mg "range" = none := G.free 1
    have m__law_by_hand : mg "_law_by_hand" = some (.ref (He.ga K "_law_by_hand")) := G.glo 10
    have m__law_sizes : mg "_law_sizes" = some (.ref (He.ga K "_law_sizes")) := G.glo 11
    have m__law_world : mg "_law_world" = some (.ref (He.ga K "_law_world")) := G.glo 12
    have m_list : mg "list" = none := G.free 8
    have m__law_lists : mg "_law_lists" = some (.ref (He.ga K "_law_lists")) := G.glo 13
    have m__law_bent : mg "_law_bent" = some (.ref (He.ga K "_law_bent")) := G.glo 14
    have m__law_is_net : mg "_law_is_net" = some (.ref (He.ga K "_law_is_net")) := G.glo 15
    have m_repr : mg "repr" = none := G.free 16
    have m_is_world : mg "is_world" = some (.ref (He.ga K "is_world")) := G.glo 17
    have m__law_same : mg "_law_same" = some (.ref (He.ga K "_law_same")) := G.glo 18
    refine fnG_def (p := ("_law_right", none)) (k := 13) FD sc__law_right (fun _ _ _ _ _ _ us hl => match us, hl with | [_], _ => rfl) len__law_right fun A outer s H E io hr hc => ⟨d__law_right_k10, ?_, v__law_right_k10⟩
    have sc := sc__law_right
    exact ss_cons (sset 1 sc.nd (q_str))
          (ss_cons (q_for rfl PassesOwn.never rfl (q_range1 rfl m_range (a_cons (q_int) (a_nil))) (gnm 2 sc.nd) (ss_one (sset 1 sc.nd (q_tup (a_cons (qv 1) (a_nil))))))
          (ss_cons (sset 3 sc.nd (q_fzO fz_addL (q_op op_catR sim_addL (QE.mc (q_call0 (E := C8.E0) rfl ((fn__law_by_hand G).mono (by omega)) hr rfl m__law_by_hand C8.pass0 (exOk_no _ _))) (QE.mc (q_lstF (a_cons (qv 1) (a_cons (q_tup (a_cons (qv 1) (a_cons (qv 1) (a_nil)))) (a_nil))))))))
          (ss_cons (q_for rfl PassesOwn.never rfl (q_range1 rfl m_range (a_cons (q_int) (a_nil))) (gnm 2 sc.nd) (ss_cons (sset 5 sc.nd (q_call (E := C8.E0) rfl ((fn__law_world G).mono (by omega)) hr rfl m__law_world C8.pass0 (exOk_no _ _) (a_cons (qv 0) (a_cons (q_call (E := C8.E0) rfl ((fn__law_sizes G).mono (by omega)) hr rfl m__law_sizes C8.pass0 (exOk_no _ _) (a_cons (qv 0) (a_nil))) (a_nil)))))
          (ss_cons (sset 3 sc.nd (q_fzO fz_addL (q_op op_catR sim_addL (QE.mc (qv 3)) (QE.mc (q_lstF (a_cons (qv 5) (a_cons (q_call (E := C8.E0) rfl ((fn__law_lists 8 G).mono (by omega)) hr rfl m__law_lists C8.pass0 (exOk_no _ _) (a_cons (qv 5) (a_nil))) (a_cons (q_fzB fz_list (q_callTy (sim_list rfl) call_list_of rfl m_list (by decide +kernel) (QA.mc (a_cons (qv 5) (a_nil))))) (a_cons (q_revT rfl (qv 5)) (a_cons (q_sliceF rfl (qv 5) (o_none) (o_some (q_int))) (a_cons (q_op op_catA (sim_addT rfl) (qv 5) (q_sliceF rfl (qv 5) (o_some (q_int)) (o_none))) (a_cons (q_tup (a_cons (q_revT rfl (q_ix rfl (qv 5) (q_int))) (a_cons (q_ix rfl (qv 5) (q_int)) (a_nil)))) (a_nil)))))))))))))
          (ss_cons (sset 3 sc.nd (q_fzO fz_addL (q_op op_catR sim_addL (QE.mc (qv 3)) (QE.mc (q_lstF (a_cons (q_tup (a_cons (q_sliceF rfl (q_ix rfl (qv 5) (q_int)) (o_some (q_int)) (o_none)) (a_cons (q_ix rfl (qv 5) (q_int)) (a_nil)))) (a_cons (q_tup (a_cons (q_ix rfl (qv 5) (q_int)) (a_cons (q_revT rfl (q_ix rfl (qv 5) (q_int))) (a_nil)))) (a_nil))))))))
          (ss_cons (sset 6 sc.nd (q_lstF (a_cons (q_tup (a_cons (q_str) (a_cons (q_tup (a_cons (q_str) (a_nil))) (a_nil)))) (a_cons (q_tup (a_cons (q_tup (a_cons (q_str) (a_cons (q_str) (a_nil)))) (a_nil))) (a_cons (q_tup (a_cons (q_tup (a_cons (q_tup (a_cons (q_str) (a_cons (q_str) (a_nil)))) (a_nil))) (a_cons (q_str) (a_nil)))) (a_cons (q_ix rfl (q_ix rfl (qv 5) (q_int)) (q_int)) (a_cons (q_ix rfl (q_ix rfl (q_ix rfl (qv 5) (q_int)) (q_int)) (q_int)) (a_cons (q_tup (a_nil)) (a_nil)))))))))
          (ss_one (q_for rfl PassesOwn.never rfl (q_range1 rfl m_range (a_cons (q_int) (a_nil))) (gnm 7 sc.nd) (ss_cons (sset 4 sc.nd (q_call (E := C8.E0) rfl ((fn__law_bent 6 G).mono (by omega)) hr rfl m__law_bent C8.pass0 (exOk_no _ _) (a_cons (qv 0) (a_cons (qv 5) (a_cons (qv 6) (a_nil))))))
          (ss_one (sset 3 sc.nd (q_fzO fz_addL (q_op op_catR sim_addL (QE.mc (qv 3)) (QE.mc (q_lstF (a_cons (qv 4) (a_cons (q_call (E := C8.E0) rfl ((fn__law_bent 10 G).mono (by omega)) hr rfl m__law_bent C8.pass0 (exOk_no _ _) (a_cons (qv 0) (a_cons (qv 4) (a_cons (qv 6) (a_nil))))) (a_nil)))))))))))))))))
          (ss_cons (q_for rfl PassesOwn.never rfl (q_iSeq rfl (qv 3)) (gnm 4 sc.nd) (ss_cons (s_par (i := 8) (j := 9) rfl sc.nd rfl rfl (by decide) rfl rfl (a_cons (q_callB (sim_repr rfl) (cr_repr hr hc) rfl m_repr (by decide +kernel) (a_cons (qv 4) (a_nil))) (a_cons (q_call (E := C8.E0) rfl ((fn__law_is_net G).mono (by omega)) hr rfl m__law_is_net C8.pass0 (exOk_no _ _) (a_cons (qv 4) (a_nil))) (a_nil))) (by kernel_rfl))
          (ss_one (s_if (q_w (w_or (q_not (q_val (q_call (E := C8.E0) rfl ((fn__law_same 8 G).mono (by omega)) hr rfl m__law_same C8.pass0 (exOk_no _ _) (a_cons (q_lstF (a_cons (q_call (E := C8.E0) rfl ((fn_is_world G).mono (by omega)) hr rfl m_is_world C8.pass0 (exOk_no _ _) (a_cons (qv 4) (a_nil))) (a_cons (q_callK0 (E := C8.E0) (ks := ["thing"]) (is := [0]) rfl ((fn_is_world G).mono (by omega)) hr rfl m_is_world C8.pass0 (exOk_no _ _) (fun _ _ _ _ _ _ _ _ _ _ us hl => match us, hl with | [_], _ => rfl) (k_cons (qv 4) (k_nil))) (a_nil)))) (a_cons (q_lstF (a_cons (qv 9) (a_cons (qv 9) (a_nil)))) (a_nil)))))) (w_or1 (q_cmpT op_ne sim_neS (q_callB (sim_repr rfl) (cr_repr hr hc) rfl m_repr (by decide +kernel) (a_cons (qv 4) (a_nil))) (qv 8) rfl)))) (ss_one (s_ret (q_bl))) (ss_nil)))))
          (ss_one (s_ret (q_bl)))))))

theorem sc_law : FnScope N1_law p1_law (defScope s_law) := C8.fnScope_by (by decide +kernel)
theorem len_law : ∀ ds S Q E, sp_law_k10 ds S Q E → ds.length = p1_law.length := fun _ _ _ _ h => by
  unfold sp_law_k10 at h; repeat' (first | refine Or.elim h (fun h => ?_) (fun h => ?_) | obtain ⟨_, h⟩ := h)
  all_goals (subst_vars; rfl)

theorem ok_law {P : Program} {w : World} {K : PySem.W.Frag} {mg : Str → Option Value} {base : Heap} {fd : FuncData} (FD : FunD K df_law.name df_law.qual df_law.params df_law.body df_law.scope [] [] (He.fAd K ("law", none)) fd) (G : Gx w K mg base) : FnG P w K mg base C8.CX0 15 (He.fAd K ("law", none)) fd p1_law (liftSp K (tabs K) (some w) sp_law_k10) := by
    have m__law_cells : mg "_law_cells" = some (.ref (He.ga K "_law_cells")) := G.glo 0
    have m_range : mg "range" = none := G.free 1
    have m_len : mg "len" = none := G.free 2
    have m__law_box : mg "_law_box" = some (.ref (He.ga K "_law_box")) := G.glo 3
    have m__law_right : mg "_law_right" = some (.ref (He.ga K "_law_right")) := G.glo 4
    have m_all : mg "all" = none := G.free 5
    refine fnG_body (p := ("law", none)) (k := 14) FD sc_law len_law fun A outer s H E io hr hc => ⟨d_law_k10, ?_, v_law_k10⟩
    have sc := sc_law
    exact ss_cons (sset 1 sc.nd (q_call (E := C8.E0) rfl ((fn__law_cells G).mono (by omega)) hr rfl m__law_cells C8.pass0 (exOk_no _ _) (a_cons (qv 0) (a_cons (q_int) (a_nil)))))
          (ss_one (s_ret (q_callB (sim_all rfl) (cr_all rfl) rfl m_all (by decide +kernel) (a_cons (q_fzL (q_lc (own := [("_law_k", 2)]) rfl rfl sc.nd (QI.mc (q_range1 rfl m_range (a_cons (q_callB (sim_len rfl) call_len rfl m_len (by decide +kernel) (a_cons (qv 1) (a_nil))) (a_nil)))) (blkOk_by (by kernel_rfl)) (by simp [Tg.in_]) (fun _ _ _ _ _ => gnm 2 sc.nd) (fun _ _ _ _ _ => QTs.mc (q_noif)) (fun _ _ _ _ _ => QE.mc (q_callG (E := C8.E0) rfl ((fn__law_right G).mono (by omega)) hr hc rfl m__law_right C8.pass0 (exOk_no _ _) (a_cons (q_call (E := C8.E0) rfl ((fn__law_box G).mono (by omega)) hr rfl m__law_box C8.pass0 (exOk_no _ _) (a_cons (qv 1) (a_cons (qv 2) (a_nil)))) (a_nil)))))) (a_nil)))))
theorem hsp_law : ∀ (S : Sto) (v : D) (ns : List Int), ns.length ≤ 63 → (∀ z ∈ ns, Builtin.Int.intBits z ≤ 1048576) → lstD S v = some (ns.map .int) → sp_law_k10 [v] S (fun r _ => r = .bl true) noX :=
  fun S v ns h1 h2 h3 => ⟨v, ns, rfl, h3, h1, rfl⟩
theorem facts {w : World} {K : PySem.W.Frag} {h : Heap} {mg : Str → Option Value} {f : Addr} (X : K.In h) (G : h.Ns mainGlobals mg) (hfa : mg ("law" : Str) = some (.ref f)) (c : He.SaysX fa fn [] tf ex w h K) :
    LawAtG PySem.Challenge.rw_variesby_k10_worlds_or_none w K C8.CX0 15 63 "_law_script" mg f h := by
  obtain ⟨fd, FD⟩ := c.t.d.def_ 22 (d := df_law) rfl
  have e := hfa.symm.trans (He.glo_ok X G (c.t.d.fact 44 (f := .glo "law") rfl))
  cases e
  have b := FunD.bindsA (ps := ["_law_script"]) FD fun _ _ _ _ _ _ us hl => match us, hl with | [_], _ => rfl
  exact law_calm X c (fun s u => b s [u] rfl) (fun base hK hG hT => ok_law FD ⟨⟨h, X, G⟩, c.t.d, c.more, hT⟩) hsp_law
end LK
open PySem PySem.W PySem.Calls PyProof.Rows
theorem PySem.Challenge.cw_variesby_k10_worlds_or_none_holds : PySem.Challenge.rw_variesby_k10_worlds_or_none.Holds := by
  w_on; o_law
  refine HandSHeadRun.head_any (r := OpenLaw.row PySem.Challenge.rw_variesby_k10_worlds_or_none) (q := view (OpenLaw.row PySem.Challenge.rw_variesby_k10_worlds_or_none).prog [30]) (H := LK.hk) (ob := LK.ob) (M := 4000) (loose := LK.names) (d := HandSHeadRun.topDef (OpenLaw.row PySem.Challenge.rw_variesby_k10_worlds_or_none).prog 30) (kwd := []) LK.ob_eq
    (by kernel_rfl) (fun s => by kernel_rfl) LK.run (by kernel_rfl) (by kernel_rfl) (by kernel_rfl) (by rfl) (by first | assumption | decide +kernel) (by decide +kernel) ⟨rfl, rfl, rfl, rfl, rfl, by decide +kernel⟩ ?hw ?hc
  case hw => w_witness2
  case hc =>
    refine L3.walk_calm (l := PySem.Challenge.rw_variesby_k10_worlds_or_none) (n := 63) (k := 15) (x := "_law_script") (CX := fun _ => C8.CX0) rfl (by decide) (by kernel_rfl) ⟨rfl, by decide, by decide⟩ ?F (fun _ _ _ _ _ z => z)
    intro w mg fa h Y G hmg0
    obtain ⟨K, KX, c⟩ := Y
    have hmg : mg ("law" : PySem.Str) = some (.ref fa) := by
      have e : (HandSHeadRun.topDef (OpenLaw.row PySem.Challenge.rw_variesby_k10_worlds_or_none).prog 30).name = ("law" : PySem.Str) := by kernel_rfl
      rw [← e]
      exact hmg0
    exact ⟨K, KX, LK.facts KX G hmg c⟩
end
