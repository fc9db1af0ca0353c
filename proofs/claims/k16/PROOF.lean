import PyProof.Rows.All
import Wide.All
import OpenK.AllK
import Wide.FinOn
import HandS.ForMost
import HandS.ForExc
import HandS.Star
import HandS.IsInst
import HandS.CallSlots
import HandS.Flow
import HandS.ExcInit
import HandS.ExcCtx
import HandS.Defaults
import HandS.TupMul
import KE.GoesNew
import HandS.Iter
import KE.GoesEnum
import KE.GoesMore
import HandS.Zip
import KE.DatumOrd
import KE.DatumIndex
import PyProof.ReprRoads
import HandS.Conv
import HandS.RaiseMore
import PyProof.CallFns
import PyProof.FitsInt
import HandS.HeadEnd
import HandS.Head0
import HandS.Head1
import HandS.Head2
import HandS.HeadHook1
import HandS.HeadHook2
import HandS.Style
import KE.KSlice
import KE.KRevSl
import KE.DataEq
import HandS.Strs
import HandS.SetFor
import PyProof.NeData
import PyProof.AutoSeq1
import PyProof.CallStr
import PyProof.Rows.IntBool
import HandS.TryOnly
import HandS.TryMany
import KE.KExcIs
import HandS.ExcIs
import HandS.ExcField
import KE.KExcInit
import PyProof.ExcBaseAll.LookupError
import PyProof.ExcBaseAll.ValueError
import HandS.HotCalls
import PyProof.Rows.CountFlat
import HandS.GenOver
import PyProof.GenRules
import PyProof.GenQ
import PyProof.Rows.RowBridgeG
import HandS.GenList
import HandS.GenYield
import HandS.Wide
import KE.KUnpackStar
import PyProof.Rows.ReprOcc
import PyProof.StrLawsRepr
import HandS.Dict
import PyProof.Rows.MatchSeqLen
import HandS.TupSets
import HandS.SortInts
import HandS.NamedTupSort
import PyProof.Rows.Chain
import HandS.Text
import HandS.FStr
import HandS.Codes
import KE.KxAffix
import PyProof.StrOps2
import HandS.Walk
import HandS.ExcValue
import HandS.DictEq
import HandS.Property
import OpenK.KOps
import PyProof.Rows.Range3
import KE.KTryMore
import HandS.Flt
import PyProof.TupleIter
import HandS.SetTxt0
import PyProof.Sched
import PySem.Challenge.RW_leastplaces_k16_whole_trees_there_and_ba
set_option Elab.async false
set_option linter.all false
set_option maxRecDepth 100000
set_option maxHeartbeats 4000000
set_option autoImplicit false
namespace LP
open PySem PySem.Spec L2
open PyProof.Rows hiding St
inductive D where
  | non | bl (b : Bool) | int (i : Int) | str (x : Str) | tup (xs : List D) | lst (xs : List D)
  | dic (ks : List Key) (xs : List D) | ref (a : Addr) | ty (n : String) | scr (ns : List Int)
  /-- a caught exception: where it stands, where its fields stand, the fields -/
  | exn (a d : Addr) (fs : List Str) (ds : List D)
  /-- a dict that nobody changes: what is left over of keywords -/
  | kwd (ks : List Key) (xs : List D)
  /-- an exception that was made and is not raised: its class, its fields -/
  | eo (C : Addr) (fs : List Str) (ds : List D)
inductive AO where
  | strm (c : Nat) | hid (a : Addr) | ins (C : Addr) (fs : List Str) (ds : List D)
  /-- a list that may change -/
  | own (ds : List D)
abbrev Sto := Addr → Option AO
inductive Sl where
  | un | v (d : D) | ol (ds : List D) | od (ks : List Key) (ds : List D) | ot (ks : List (List Key)) (ds : List D)
def Sl.own : Sl → Bool
  | .ol _ => true
  | .od _ _ => true
  | .ot _ _ => true
  | _ => false
structure En where
  sl : List Sl
  M : Sto
structure Exn where
  cls : Value
  fs : Option (List Str × List D)
def gt : List Sl → Nat → Sl
  | [], _ => .un
  | s :: _, 0 => s
  | _ :: l, n + 1 => gt l n
theorem gt_get : ∀ (l : List Sl) (i : Nat), i < l.length → l[i]? = some (gt l i)
  | [], i, h => absurd h (Nat.not_lt_zero i)
  | s :: l, 0, _ => rfl
  | s :: l, i + 1, h => by
    show l[i]? = some (gt l i)
    exact gt_get l i (Nat.lt_of_succ_lt_succ h)
theorem gt_some {l : List Sl} {i : Nat} {s : Sl} (h : gt l i = s) (hn : s ≠ .un) : l[i]? = some s := by
  by_cases hl : i < l.length
  · rw [gt_get l i hl, h]
  · exfalso
    have : ∀ (l : List Sl) (i : Nat), l.length ≤ i → gt l i = .un := by
      intro l
      induction l with
      | nil => intro i _; rfl
      | cons a l ih =>
        intro i hi
        cases i with
        | zero => simp at hi
        | succ i => exact ih i (by simpa using hi)
    exact hn (h ▸ this l i (Nat.le_of_not_lt hl))
/-- the object of a tuple that has no dict -/
abbrev tupO (us : List Value) : Obj := { cls := .type "tuple", data := .seq us.toArray }
/-- a plain tuple: known to its object -/
def PlT (K : PySem.W.Frag) (F : Hp) (a : Addr) (vs : List V) : Prop :=
  (∃ us, F a = some (.frz (tupO us) (.tup vs))) ∨
    ∃ (o : Obj) (its : Array Value) (n : Nat), K.lookup a = some o ∧ o.cls = .type "tuple" ∧ o.dict = none ∧ o.data = .seq its n ∧ its.size ≤ sizeLine ∧ Vals vs its.toList
theorem PlT.sq {K : PySem.W.Frag} {F : Hp} {a : Addr} {vs : List V} (h : PlT K F a vs) : SqT K F a vs := by
  rcases h with ⟨us, h⟩ | ⟨o, its, n, h1, h2, _, h3, h4, h5⟩
  · exact .inl (.inr ⟨_, h⟩)
  · exact .inr ⟨o, its, n, h1, h2, h3, h4, h5⟩
theorem PlT.mono {K : PySem.W.Frag} {F F' : Hp} {a : Addr} {vs : List V} (s : Same F F') (h : PlT K F a vs) : PlT K F' a vs := by
  rcases h with ⟨us, h⟩ | h
  · exact .inl ⟨us, s _ _ h⟩
  · exact .inr h
mutual
inductive Rp (K : PySem.W.Frag) (F : Hp) : V → D → Prop
  | non : Rp K F .non .non
  | bl (b : Bool) : Rp K F (.bl b) (.bl b)
  | int (i : Int) : Rp K F (.int i) (.int i)
  | str (x : Str) : Rp K F (.str x) (.str x)
  | ref (a : Addr) : Rp K F (.ref a) (.ref a)
  | ty (n : String) : Rp K F (.ty n) (.ty n)
  | tup {a : Addr} {vs : List V} {ds : List D} : PlT K F a vs → Rps K F vs ds → Rp K F (.ref a) (.tup ds)
  | lst {a : Addr} {vs : List V} {ds : List D} : F a = some (.lst vs) → Rps K F vs ds → Rp K F (.ref a) (.lst ds)
  | dic {a : Addr} {ks : List Key} {vs : List V} {ds : List D} : F a = some (.dK (ks.zip vs)) → ks.length = vs.length → Rps K F vs ds → Rp K F (.ref a) (.dic ks ds)
  | scr {a : Addr} {ns : List Int} : SqL K F a (ns.map V.int) → Rp K F (.ref a) (.scr ns)
  | exn {a d : Addr} {fs : List Str} {vs : List V} {ds : List D} : F d = some (.xd (fs.zip vs)) → fs.length = vs.length → Rps K F vs ds → Rp K F (.ref a) (.exn a d fs ds)
  | kwd {a : Addr} {o : Obj} {ks : List Key} {vs : List V} {ds : List D} : F a = some (.frz o (.dK (ks.zip vs))) → ks.length = vs.length → Rps K F vs ds → Rp K F (.ref a) (.kwd ks ds)
  | eo0 {a C : Addr} : F a = some (exo a C none) → Rp K F (.ref a) (.eo C [] [])
  | eo1 {a C dx : Addr} {fs : List Str} {vs : List V} {ds : List D} : F a = some (exo a C (some dx)) → F dx = some (exd dx (fs.zip vs)) → fs.length = vs.length → Rps K F vs ds → Rp K F (.ref a) (.eo C fs ds)
inductive Rps (K : PySem.W.Frag) (F : Hp) : List V → List D → Prop
  | nil : Rps K F [] []
  | cons {v : V} {vs : List V} {d : D} {ds : List D} : Rp K F v d → Rps K F vs ds → Rps K F (v :: vs) (d :: ds)
end
theorem sqT_mono {K : PySem.W.Frag} {H H' : Hp} {a : Addr} {xs : List V} (e : Same H H') (h : SqT K H a xs) : SqT K H' a xs := by
  rcases h with (h | ⟨o, h⟩) | h
  · exact .inl (.inl (e _ _ h))
  · exact .inl (.inr ⟨o, e _ _ h⟩)
  · exact .inr h
mutual
theorem Rp.mono {K : PySem.W.Frag} {F F' : Hp} (e : Same F F') : ∀ {v : V} {d : D}, Rp K F v d → Rp K F' v d
  | _, .non, h => by cases h; exact .non
  | _, .bl b, h => by cases h; exact .bl b
  | _, .int b, h => by cases h; exact .int b
  | _, .str b, h => by cases h; exact .str b
  | _, .ref b, h => by cases h; exact .ref b
  | _, .ty b, h => by cases h; exact .ty b
  | _, .tup ds, h => by
    cases h with
    | tup h1 h2 => exact .tup (h1.mono e) (Rps.mono e h2)
  | _, .lst ds, h => by
    cases h with
    | lst h1 h2 => exact .lst (e _ _ h1) (Rps.mono e h2)
  | _, .dic ks ds, h => by
    cases h with
    | dic h1 h3 h2 => exact .dic (e _ _ h1) h3 (Rps.mono e h2)
  | _, .scr ds, h => by
    cases h with
    | scr h1 => exact .scr (e.seq h1)
  | _, .exn a d fs ds, h => by
    cases h with
    | exn h1 h3 h2 => exact .exn (e _ _ h1) h3 (Rps.mono e h2)
  | _, .kwd ks ds, h => by
    cases h with
    | kwd h1 h3 h2 => exact .kwd (e _ _ h1) h3 (Rps.mono e h2)
  | _, .eo C fs ds, h => by
    cases h with
    | eo0 h1 => exact .eo0 (e _ _ h1)
    | eo1 h1 h2 h3 h4 => exact .eo1 (e _ _ h1) (e _ _ h2) h3 (Rps.mono e h4)
theorem Rps.mono {K : PySem.W.Frag} {F F' : Hp} (e : Same F F') : ∀ {vs : List V} {ds : List D}, Rps K F vs ds → Rps K F' vs ds
  | _, [], h => by cases h; exact .nil
  | _, d :: ds, h => by
    cases h with
    | cons h1 h2 => exact .cons (Rp.mono e h1) (Rps.mono e h2)
end
section
variable {K : PySem.W.Frag} {F F' H H' : Hp}
theorem Rps.length : ∀ {vs : List V} {ds : List D}, Rps K F vs ds → vs.length = ds.length
  | _, _, .nil => rfl
  | _, _, .cons _ t => congrArg (· + 1) (Rps.length t)
theorem Rps.append : ∀ {vs ws : List V} {ds es : List D}, Rps K F vs ds → Rps K F ws es → Rps K F (vs ++ ws) (ds ++ es)
  | _, _, _, _, .nil, s => s
  | _, _, _, _, .cons r t, s => .cons r (Rps.append t s)
theorem Rps.get : ∀ {vs : List V} {ds : List D} {i : Nat} {v : V}, Rps K F vs ds → vs[i]? = some v → ∃ d, ds[i]? = some d ∧ Rp K F v d
  | _, _, _, _, .nil, e => by simp at e
  | _, _, 0, _, .cons r _, e => by simp at e; subst e; exact ⟨_, rfl, r⟩
  | _, _, i + 1, x, .cons _ t, e => by
    obtain ⟨u, h1, h2⟩ := Rps.get (i := i) (v := x) t (by simpa using e)
    exact ⟨u, by simpa using h1, h2⟩
theorem Rps.getD : ∀ {vs : List V} {ds : List D} {i : Nat} {d : D}, Rps K F vs ds → ds[i]? = some d → ∃ v, vs[i]? = some v ∧ Rp K F v d
  | _, _, _, _, .nil, e => by simp at e
  | _, _, 0, _, .cons r _, e => by simp at e; subst e; exact ⟨_, rfl, r⟩
  | _, _, i + 1, x, .cons _ t, e => by
    obtain ⟨u, h1, h2⟩ := Rps.getD (i := i) (d := x) t (by simpa using e)
    exact ⟨u, by simpa using h1, h2⟩
theorem Rps.set {x : V} {d : D} (r : Rp K F x d) : ∀ {vs : List V} {ds : List D} (i : Nat), Rps K F vs ds → Rps K F (vs.set i x) (ds.set i d)
  | _, _, _, .nil => .nil
  | _, _, 0, .cons _ t => .cons r t
  | _, _, i + 1, .cons q t => .cons q (Rps.set r i t)
theorem Rps.take : ∀ {vs : List V} {ds : List D} (n : Nat), Rps K F vs ds → Rps K F (vs.take n) (ds.take n)
  | _, _, 0, _ => .nil
  | _, _, _ + 1, .nil => .nil
  | _, _, n + 1, .cons r t => .cons r (Rps.take n t)
theorem Rps.drop : ∀ {vs : List V} {ds : List D} (n : Nat), Rps K F vs ds → Rps K F (vs.drop n) (ds.drop n)
  | _, _, 0, r => r
  | _, _, _ + 1, .nil => .nil
  | _, _, n + 1, .cons _ t => Rps.drop n t
theorem Rps.eraseIdx : ∀ {vs : List V} {ds : List D} (i : Nat), Rps K F vs ds → Rps K F (vs.eraseIdx i) (ds.eraseIdx i)
  | _, _, _, .nil => .nil
  | _, _, 0, .cons _ t => t
  | _, _, i + 1, .cons q t => .cons q (Rps.eraseIdx i t)
theorem Rps.dropLast : ∀ {vs : List V} {ds : List D}, Rps K F vs ds → Rps K F vs.dropLast ds.dropLast
  | _, _, .nil => .nil
  | _, _, .cons _ .nil => .nil
  | _, _, .cons r (.cons r2 t) => .cons r (Rps.dropLast (.cons r2 t))
theorem Rps.ints : ∀ (ns : List Int), Rps K F (ns.map V.int) (ns.map D.int)
  | [] => .nil
  | n :: ns => .cons (.int n) (Rps.ints ns)
theorem Rps.ints_of : ∀ {vs : List V} {ns : List Int}, Rps K F vs (ns.map D.int) → vs = ns.map V.int
  | _, [], h => by cases h; rfl
  | _, n :: ns, h => by
    cases h with
    | cons h1 h2 =>
      cases h1
      rw [Rps.ints_of h2]; rfl
/-- what an owning slot's object is -/
def OkSl (K : PySem.W.Frag) (F H : Hp) : Sl → Addr → Prop
  | .ol ds, p => ∃ vs : List V, H p = some (.lst vs) ∧ Rps K F vs ds
  | .od ks ds, p => ∃ vs : List V, H p = some (.dK (ks.zip vs)) ∧ ks.length = vs.length ∧ Rps K F vs ds
  | .ot ks ds, p => ∃ vs : List V, H p = some (.dT (ks.zip vs)) ∧ ks.length = vs.length ∧ Rps K F vs ds
  | _, _ => False
theorem OkSl.there : ∀ {s : Sl} {p : Addr}, OkSl K F H s p → ∃ o, H p = some o
  | .ol _, _, ⟨_, h, _⟩ => ⟨_, h⟩
  | .od _ _, _, ⟨_, h, _⟩ => ⟨_, h⟩
  | .ot _ _, _, ⟨_, h, _⟩ => ⟨_, h⟩
theorem OkSl.move (e : Same F F') : ∀ {s : Sl} {p : Addr}, OkSl K F H s p → H' p = H p → OkSl K F' H' s p
  | .ol _, _, ⟨vs, h, r⟩, q => ⟨vs, q.trans h, r.mono e⟩
  | .od _ _, _, ⟨vs, h, l, r⟩, q => ⟨vs, q.trans h, l, r.mono e⟩
  | .ot _ _, _, ⟨vs, h, l, r⟩, q => ⟨vs, q.trans h, l, r.mono e⟩
def AOk (K : PySem.W.Frag) (F : Hp) (M : Sto) (H : Hp) (a : Addr) : AO → Prop
  | .strm c => ∃ (p1 p2 : Addr) (bs cs : List Int) (t : Int), H a = some (.lst [.ref p1, .ref p2, .int t]) ∧ H p1 = some (.lst (bs.map V.int)) ∧ H p2 = some (.lst (cs.map V.int)) ∧
      M p1 = some (.hid a) ∧ M p2 = some (.hid a) ∧ p1 ≠ p2 ∧ (∀ b ∈ bs, (0 : Int) ≤ b) ∧ (∀ b ∈ cs, (0 : Int) ≤ b) ∧ cs ≠ [] ∧ cs.length ≤ 64 ∧ 0 ≤ t ∧ t ≤ (c : Int)
  | .hid _ => ∃ o, H a = some o
  | .ins C fs ds => ∃ (dx : Addr) (vs : List V), H a = some (.ins C dx (fs.zip vs)) ∧ fs.length = vs.length ∧ Rps K F vs ds
  | .own ds => ∃ (vs : List V), H a = some (.lst vs) ∧ Rps K F vs ds
theorem AOk.there {M : Sto} : ∀ {s : AO} {p : Addr}, AOk K F M H p s → ∃ o, H p = some o
  | .strm _, _, ⟨_, _, _, _, _, h, _⟩ => ⟨_, h⟩
  | .hid _, _, h => h
  | .ins _ _ _, _, ⟨_, _, h, _⟩ => ⟨_, h⟩
  | .own _, _, ⟨_, h, _⟩ => ⟨_, h⟩
/-- the store is held -/
def SOk (K : PySem.W.Frag) (F : Hp) (M : Sto) (H : Hp) : Prop := ∀ a o, M a = some o → F a = none ∧ AOk K F M H a o
theorem AOk.move {M : Sto} (e : Same F F') (k : ∀ b o, M b = some o → H' b = H b) : ∀ {s : AO} {p : Addr}, M p = some s → AOk K F M H p s → AOk K F' M H' p s
  | .strm _, _, m, ⟨p1, p2, bs, cs, t, h, h1, h2, m1, m2, r⟩ => ⟨p1, p2, bs, cs, t, (k _ _ m).trans h, (k _ _ m1).trans h1, (k _ _ m2).trans h2, m1, m2, r⟩
  | .hid _, _, m, ⟨o, h⟩ => ⟨o, (k _ _ m).trans h⟩
  | .ins _ _ _, _, m, ⟨dx, vs, h, l, r⟩ => ⟨dx, vs, (k _ _ m).trans h, l, r.mono e⟩
  | .own _, _, m, ⟨vs, h, r⟩ => ⟨vs, (k _ _ m).trans h, r.mono e⟩
theorem SOk.move {M : Sto} (s : SOk K F M H) (e : Same F F') (k : ∀ b o, M b = some o → H' b = H b) (f : ∀ b o, M b = some o → F' b = none) : SOk K F' M H' :=
  fun a o m => ⟨f a o m, (s a o m).2.move e k m⟩
theorem SOk.there {M : Sto} (s : SOk K F M H) {a : Addr} {o : AO} (m : M a = some o) : ∃ x, H a = some x := (s a o m).2.there
end
/-- the state: F is what is never changed, P0 what others hold -/
structure RS (K : PySem.W.Frag) (P0 F : Hp) (e : En) (σ : St) (H : Hp) : Prop where
  same : Same F H
  prv : ∀ p o, P0 p = some o → H p = some o ∧ F p = none ∧ e.M p = none
  len : e.sl.length = σ.length
  val : ∀ (i : Nat) (d : D), e.sl[i]? = some (.v d) → ∃ v, σ[i]? = some (some v) ∧ Rp K F v d
  own : ∀ (i : Nat) (s : Sl), e.sl[i]? = some s → s.own = true → ∃ p : Addr, σ[i]? = some (some (.ref p)) ∧ P0 p = none ∧ F p = none ∧ e.M p = none ∧ OkSl K F H s p
  apart : ∀ (i j : Nat) (p : Addr) (s s' : Sl), i ≠ j → e.sl[i]? = some s → e.sl[j]? = some s' → s.own = true → s'.own = true → σ[i]? = some (some (.ref p)) → σ[j]? = some (some (.ref p)) → False
  sto : SOk K F e.M H
/-- a new list (or other object) that nobody holds yet -/
structure New (P0 F : Hp) (e : En) (σ : St) (H : Hp) (p : Addr) : Prop where
  p0 : P0 p = none
  f : F p = none
  m : e.M p = none
  sl : ∀ (i : Nat) (s : Sl), e.sl[i]? = some s → s.own = true → σ[i]? ≠ some (some (.ref p))
section
variable {K : PySem.W.Frag} {P0 F F' H H' : Hp} {e : En} {σ : St} {p : Addr} {o : HO}
theorem RS.new (R : RS K P0 F e σ H) (h : H p = none) : New P0 F e σ H p where
  p0 := by
    cases q : P0 p with
    | none => rfl
    | some o => rw [(R.prv p o q).1] at h; cases h
  f := R.same.free h
  m := by
    cases q : e.M p with
    | none => rfl
    | some o => obtain ⟨x, hx⟩ := R.sto.there q; rw [hx] at h; cases h
  sl := fun i s hs ho z => by
    obtain ⟨q, h1, _, _, _, ok⟩ := R.own i s hs ho
    rw [z] at h1; cases h1
    obtain ⟨x, hx⟩ := ok.there
    rw [hx] at h; cases h
/-- all that is not in F stays out of it and is kept -/
theorem RS.frame (R : RS K P0 F e σ H) (s1 : Same F F') (s2 : Same F' H') (k : ∀ q o, H q = some o → F q = none → H' q = some o ∧ F' q = none) : RS K P0 F' e σ H' where
  same := s2
  prv := fun q o h => by
    obtain ⟨a, b, c⟩ := R.prv q o h
    exact ⟨(k q o a b).1, (k q o a b).2, c⟩
  len := R.len
  val := fun i d h => by
    obtain ⟨v, a, b⟩ := R.val i d h
    exact ⟨v, a, b.mono s1⟩
  own := fun i s h ho => by
    obtain ⟨q, a, b, c, d, ok⟩ := R.own i s h ho
    obtain ⟨x, hx⟩ := ok.there
    exact ⟨q, a, b, (k q x hx c).2, d, ok.move s1 ((k q x hx c).1.trans hx.symm)⟩
  apart := R.apart
  sto := R.sto.move s1 (fun b o m => by
      obtain ⟨f, ok⟩ := R.sto b o m
      obtain ⟨x, hx⟩ := ok.there
      exact (k b x hx f).1.trans hx.symm) fun b o m => by
      obtain ⟨f, ok⟩ := R.sto b o m
      obtain ⟨x, hx⟩ := ok.there
      exact (k b x hx f).2
theorem same_upd {p : Addr} {o : HO} (h : F p = none) : Same F (upd F p o) := fun b x e => by
  rw [upd_ne (ne_of_none e h)]
  exact e
theorem same_upd2 {p : Addr} {o : HO} (s : Same F H) : Same (upd F p o) (upd H p o) := fun b x e => by
  by_cases hb : b = p
  · subst hb; rw [upd_same] at e ⊢; exact e
  · rw [upd_ne hb] at e ⊢; exact s b x e
/-- a new object, never changed again -/
theorem RS.alloc (R : RS K P0 F e σ H) (h : H p = none) : RS K P0 (upd F p o) e σ (upd H p o) :=
  R.frame (same_upd (R.same.free h)) (same_upd2 R.same) fun q x hq fq => by
    have ne : q ≠ p := ne_of_none hq h
    rw [upd_ne ne, upd_ne ne]
    exact ⟨hq, fq⟩
/-- a new object that may change -/
theorem RS.lay (R : RS K P0 F e σ H) (h : H p = none) : RS K P0 F e σ (upd H p o) :=
  R.frame (Same.refl F) (fun b x q => by
    rw [upd_ne (ne_of_none (R.same _ _ q) h)]
    exact R.same _ _ q) fun q x hq fq => ⟨by rw [upd_ne (ne_of_none hq h)]; exact hq, fq⟩
theorem New.lay (n : New P0 F e σ H p) : New P0 F e σ H' p := ⟨n.p0, n.f, n.m, n.sl⟩
/-- a new object is given to F -/
theorem RS.give (R : RS K P0 F e σ H) (n : New P0 F e σ H p) (h : H p = some o) : RS K P0 (upd F p o) e σ H where
  same := fun b x q => by
    by_cases hb : b = p
    · subst hb; rw [upd_same] at q; cases q; exact h
    · rw [upd_ne hb] at q; exact R.same b x q
  prv := fun q x hq => by
    obtain ⟨a, b, c⟩ := R.prv q x hq
    have ne : q ≠ p := fun z => by rw [z, n.p0] at hq; cases hq
    exact ⟨a, by rw [upd_ne ne]; exact b, c⟩
  len := R.len
  val := fun i d hi => by
    obtain ⟨v, a, b⟩ := R.val i d hi
    exact ⟨v, a, b.mono (same_upd n.f)⟩
  own := fun i s hi ho => by
    obtain ⟨q, a, b, c, d, ok⟩ := R.own i s hi ho
    have ne : q ≠ p := fun z => n.sl i s hi ho (by rw [← z]; exact a)
    exact ⟨q, a, b, by rw [upd_ne ne]; exact c, d, ok.move (same_upd n.f) rfl⟩
  apart := R.apart
  sto := R.sto.move (same_upd n.f) (fun _ _ _ => rfl) fun b x m => by
    have ne : b ≠ p := fun z => by rw [z, n.m] at m; cases m
    rw [upd_ne ne]
    exact (R.sto b x m).1
/-- what others hold, one object more -/
theorem RS.hold (R : RS K P0 F e σ H) (n : New P0 F e σ H p) (h : H p = some o) : RS K (upd P0 p o) F e σ H where
  same := R.same
  prv := fun q x hq => by
    by_cases hb : q = p
    · subst hb; rw [upd_same] at hq; cases hq; exact ⟨h, n.f, n.m⟩
    · rw [upd_ne hb] at hq; exact R.prv q x hq
  len := R.len
  val := R.val
  own := fun i s hi ho => by
    obtain ⟨q, a, b, c⟩ := R.own i s hi ho
    have ne : q ≠ p := fun z => n.sl i s hi ho (by rw [← z]; exact a)
    exact ⟨q, a, by rw [upd_ne ne]; exact b, c⟩
  apart := R.apart
  sto := R.sto
/-- .. it is changed by its holder -/
theorem RS.held {o' : HO} (R : RS K (upd P0 p o) F e σ H) : RS K (upd P0 p o') F e σ (upd H p o') := by
  obtain ⟨h, f, m⟩ := R.prv p o upd_same
  refine ⟨fun b x q => ?_, fun q x hq => ?_, R.len, R.val, fun i s hi ho => ?_, R.apart, ?_⟩
  · have ne : b ≠ p := ne_of_none q f
    rw [upd_ne ne]; exact R.same b x q
  · by_cases hb : q = p
    · subst hb; rw [upd_same] at hq ⊢; cases hq; exact ⟨rfl, f, m⟩
    · rw [upd_ne hb] at hq ⊢
      exact R.prv q x (by rw [upd_ne hb]; exact hq)
  · obtain ⟨q, a, b, c, d, ok⟩ := R.own i s hi ho
    have ne : q ≠ p := fun z => by rw [z, upd_same] at b; cases b
    rw [upd_ne ne] at b
    exact ⟨q, a, by rw [upd_ne ne]; exact b, c, d, ok.move (Same.refl F) (upd_ne ne)⟩
  · refine R.sto.move (Same.refl F) (fun b x mb => ?_) fun b x mb => (R.sto b x mb).1
    have ne : b ≠ p := fun z => by rw [z, m] at mb; cases mb
    exact upd_ne ne
/-- .. it is let go -/
theorem RS.letgo (R : RS K (upd P0 p o) F e σ H) (hp : P0 p = none) : RS K P0 F e σ H ∧ New P0 F e σ H p := by
  obtain ⟨h, f, m⟩ := R.prv p o upd_same
  have sl : ∀ (i : Nat) (s : Sl), e.sl[i]? = some s → s.own = true → σ[i]? ≠ some (some (.ref p)) := fun i s hi ho z => by
    obtain ⟨q, a, b, _⟩ := R.own i s hi ho
    rw [z] at a; cases a
    rw [upd_same] at b; cases b
  refine ⟨⟨R.same, fun q x hq => R.prv q x ?_, R.len, R.val, fun i s hi ho => ?_, R.apart, R.sto⟩, ⟨hp, f, m, sl⟩⟩
  · have ne : q ≠ p := fun z => by rw [z, hp] at hq; cases hq
    rw [upd_ne ne]; exact hq
  · obtain ⟨q, a, b, c⟩ := R.own i s hi ho
    have ne : q ≠ p := fun z => by rw [z, upd_same] at b; cases b
    rw [upd_ne ne] at b
    exact ⟨q, a, b, c⟩
theorem get_set {α : Type} {l : List α} {i j : Nat} {x y : α} (h : (l.set i x)[j]? = some y) : (j = i ∧ y = x) ∨ (j ≠ i ∧ l[j]? = some y) := by
  by_cases hj : i = j
  · subst hj
    by_cases hl : i < l.length
    · rw [List.getElem?_set_self hl] at h
      exact .inl ⟨rfl, (Option.some.inj h).symm⟩
    · rw [List.getElem?_eq_none (by simpa using hl)] at h; cases h
  · rw [List.getElem?_set_ne hj] at h
    exact .inr ⟨fun z => hj z.symm, h⟩
/-- a name gets a value -/
theorem RS.setV {i : Nat} {v : V} {d : D} (R : RS K P0 F e σ H) (r : Rp K F v d) : RS K P0 F { e with sl := e.sl.set i (.v d) } (σ.set i (some v)) H where
  same := R.same
  prv := R.prv
  len := by simpa using R.len
  val := fun j d' h => by
    rcases get_set h with ⟨rfl, q⟩ | ⟨hj, h⟩
    · cases q
      have hl : j < σ.length := by
        rw [← R.len]
        have := (List.getElem?_eq_some_iff.mp h).1
        simpa using this
      exact ⟨v, by rw [List.getElem?_set_self hl], r⟩
    · obtain ⟨u, a, b⟩ := R.val j d' h
      exact ⟨u, by rw [List.getElem?_set_ne (Ne.symm hj)]; exact a, b⟩
  own := fun j s h ho => by
    rcases get_set h with ⟨rfl, q⟩ | ⟨hj, h⟩
    · subst q; cases ho
    · obtain ⟨p, a, b⟩ := R.own j s h ho
      exact ⟨p, by rw [List.getElem?_set_ne (Ne.symm hj)]; exact a, b⟩
  apart := fun j k p s s' njk h1 h2 o1 o2 e1 e2 => by
    rcases get_set h1 with ⟨_, q⟩ | ⟨hj, h1⟩
    · subst q; cases o1
    rcases get_set h2 with ⟨_, q⟩ | ⟨hk, h2⟩
    · subst q; cases o2
    rw [List.getElem?_set_ne (Ne.symm hj)] at e1
    rw [List.getElem?_set_ne (Ne.symm hk)] at e2
    exact R.apart j k p s s' njk h1 h2 o1 o2 e1 e2
  sto := R.sto
/-- a name gets a new list of its own -/
theorem RS.setO {i : Nat} {s : Sl} (R : RS K P0 F e σ H) (n : New P0 F e σ H p) (hs : s.own = true) (ok : OkSl K F H s p) : RS K P0 F { e with sl := e.sl.set i s } (σ.set i (some (.ref p))) H where
  same := R.same
  prv := R.prv
  len := by simpa using R.len
  val := fun j d' h => by
    rcases get_set h with ⟨rfl, q⟩ | ⟨hj, h⟩
    · subst q; cases hs
    · obtain ⟨u, a, b⟩ := R.val j d' h
      exact ⟨u, by rw [List.getElem?_set_ne (Ne.symm hj)]; exact a, b⟩
  own := fun j s' h ho => by
    rcases get_set h with ⟨rfl, q⟩ | ⟨hj, h⟩
    · subst q
      have hl : j < σ.length := by
        rw [← R.len]
        have := (List.getElem?_eq_some_iff.mp h).1
        simpa using this
      exact ⟨p, by rw [List.getElem?_set_self hl], n.p0, n.f, n.m, ok⟩
    · obtain ⟨p, a, b⟩ := R.own j s' h ho
      exact ⟨p, by rw [List.getElem?_set_ne (Ne.symm hj)]; exact a, b⟩
  apart := fun j k q s1 s2 njk h1 h2 o1 o2 e1 e2 => by
    rcases get_set h1 with ⟨rfl, _⟩ | ⟨hj, h1⟩
    · rcases get_set h2 with ⟨rfl, _⟩ | ⟨hk, h2⟩
      · exact njk rfl
      · rw [List.getElem?_set_ne (Ne.symm hk)] at e2
        rcases get_set e1 with ⟨_, z⟩ | ⟨z, _⟩
        · cases z; exact n.sl k s2 h2 o2 e2
        · exact z rfl
    · have h1' := h1
      rcases get_set h2 with ⟨rfl, _⟩ | ⟨hk, h2⟩
      · rw [List.getElem?_set_ne (Ne.symm hj)] at e1
        rcases get_set e2 with ⟨_, z⟩ | ⟨z, _⟩
        · cases z; exact n.sl j s1 h1' o1 e1
        · exact z rfl
      · rw [List.getElem?_set_ne (Ne.symm hj)] at e1
        rw [List.getElem?_set_ne (Ne.symm hk)] at e2
        exact R.apart j k q s1 s2 njk h1 h2 o1 o2 e1 e2
  sto := R.sto
/-- an owned object is changed -/
theorem RS.updO {i : Nat} {s s' : Sl} {o' : HO} (R : RS K P0 F e σ H) (h : e.sl[i]? = some s) (ho : s.own = true) (hp : σ[i]? = some (some (.ref p))) (ho' : s'.own = true) (ok : OkSl K F (upd H p o') s' p) :
    RS K P0 F { e with sl := e.sl.set i s' } σ (upd H p o') := by
  obtain ⟨q, a, b, c, d, ok0⟩ := R.own i s h ho
  rw [hp] at a
  cases a
  have hl : i < e.sl.length := (List.getElem?_eq_some_iff.mp h).1
  refine ⟨fun b x q => ?_, fun q x hq => ?_, by simpa using R.len, fun j d' hj => ?_, fun j s1 hj ho1 => ?_, fun j k q s1 s2 njk h1 h2 o1 o2 e1 e2 => ?_, ?_⟩
  · rw [upd_ne (ne_of_none q c)]; exact R.same b x q
  · have ne : q ≠ p := fun z => by rw [z, b] at hq; cases hq
    rw [upd_ne ne]; exact R.prv q x hq
  · rcases get_set hj with ⟨rfl, q⟩ | ⟨_, hj⟩
    · subst q; cases ho'
    · exact R.val j d' hj
  · rcases get_set hj with ⟨rfl, q⟩ | ⟨nj, hj⟩
    · subst q; exact ⟨p, hp, b, c, d, ok⟩
    · obtain ⟨q, a1, b1, c1, d1, ok1⟩ := R.own j s1 hj ho1
      have ne : q ≠ p := fun z => R.apart j i p s1 s nj hj h ho1 ho (by rw [← z]; exact a1) hp
      exact ⟨q, a1, b1, c1, d1, ok1.move (Same.refl F) (upd_ne ne)⟩
  · have f : ∀ (j : Nat) (s1 : Sl), (e.sl.set i s')[j]? = some s1 → s1.own = true → ∃ s2, e.sl[j]? = some s2 ∧ s2.own = true := fun j s1 hj ho1 => by
      rcases get_set hj with ⟨rfl, _⟩ | ⟨_, hj⟩
      · exact ⟨s, h, ho⟩
      · exact ⟨s1, hj, ho1⟩
    obtain ⟨t1, g1, w1⟩ := f j s1 h1 o1
    obtain ⟨t2, g2, w2⟩ := f k s2 h2 o2
    exact R.apart j k q t1 t2 njk g1 g2 w1 w2 e1 e2
  · refine R.sto.move (Same.refl F) (fun b x mb => ?_) fun b x mb => (R.sto b x mb).1
    have ne : b ≠ p := fun z => by rw [z, d] at mb; cases mb
    exact upd_ne ne
/-- a slot is forgotten -/
theorem RS.un {i : Nat} {x : Option V} (R : RS K P0 F e σ H) : RS K P0 F { e with sl := e.sl.set i .un } (σ.set i x) H where
  same := R.same
  prv := R.prv
  len := by simpa using R.len
  val := fun j d' h => by
    rcases get_set h with ⟨rfl, q⟩ | ⟨hj, h⟩
    · cases q
    · obtain ⟨u, a, b⟩ := R.val j d' h
      exact ⟨u, by rw [List.getElem?_set_ne (Ne.symm hj)]; exact a, b⟩
  own := fun j s h ho => by
    rcases get_set h with ⟨rfl, q⟩ | ⟨hj, h⟩
    · subst q; cases ho
    · obtain ⟨p, a, b⟩ := R.own j s h ho
      exact ⟨p, by rw [List.getElem?_set_ne (Ne.symm hj)]; exact a, b⟩
  apart := fun j k p s s' njk h1 h2 o1 o2 e1 e2 => by
    rcases get_set h1 with ⟨_, q⟩ | ⟨hj, h1⟩
    · subst q; cases o1
    rcases get_set h2 with ⟨_, q⟩ | ⟨hk, h2⟩
    · subst q; cases o2
    rw [List.getElem?_set_ne (Ne.symm hj)] at e1
    rw [List.getElem?_set_ne (Ne.symm hk)] at e2
    exact R.apart j k p s s' njk h1 h2 o1 o2 e1 e2
  sto := R.sto
/-- an owning slot lets its object go, so that it is new; the slot keeps the reference -/
theorem RS.drop {i : Nat} {s : Sl} (R : RS K P0 F e σ H) (h : e.sl[i]? = some s) (ho : s.own = true) (hp : σ[i]? = some (some (.ref p))) :
    RS K P0 F { e with sl := e.sl.set i .un } σ H ∧ New P0 F { e with sl := e.sl.set i .un } σ H p ∧ OkSl K F H s p := by
  obtain ⟨q, a, b, c, d, ok0⟩ := R.own i s h ho
  rw [hp] at a
  cases a
  have hl : i < σ.length := (List.getElem?_eq_some_iff.mp hp).1
  have R1 := R.un (i := i) (x := some (.ref p))
  have e1 : σ.set i (some (.ref p)) = σ := by
    apply List.ext_getElem? ; intro j
    by_cases hj : i = j
    · subst hj; rw [List.getElem?_set_self hl, hp]
    · rw [List.getElem?_set_ne hj]
  rw [e1] at R1
  refine ⟨R1, ⟨b, c, d, fun j s1 hj ho1 z => ?_⟩, ok0⟩
  rcases get_set hj with ⟨rfl, q⟩ | ⟨nj, hj⟩
  · subst q; cases ho1
  · exact R.apart j i p s1 s nj hj h ho1 ho z hp
/-- a slot that holds a value is told so again -/
theorem RS.tell {i : Nat} {v : V} {d : D} (R : RS K P0 F e σ H) (hp : σ[i]? = some (some v)) (r : Rp K F v d) : RS K P0 F { e with sl := e.sl.set i (.v d) } σ H := by
  have hl : i < σ.length := (List.getElem?_eq_some_iff.mp hp).1
  have R1 := R.setV (i := i) r
  have e1 : σ.set i (some v) = σ := by
    apply List.ext_getElem? ; intro j
    by_cases hj : i = j
    · subst hj; rw [List.getElem?_set_self hl, hp]
    · rw [List.getElem?_set_ne hj]
  rw [e1] at R1
  exact R1
/-- behind a call that may change what the store tells of -/
theorem RS.call {M' : Sto} (R : RS K P0 F e σ H) (s1 : Same F F') (s2 : Same F' H') (so : SOk K F' M' H') (k : ∀ q o, H q = some o → F q = none → e.M q = none → H' q = some o ∧ F' q = none ∧ M' q = none) :
    RS K P0 F' { e with M := M' } σ H' where
  same := s2
  prv := fun q o h => by
    obtain ⟨a, b, c⟩ := R.prv q o h
    exact k q o a b c
  len := R.len
  val := fun i d h => by
    obtain ⟨v, a, b⟩ := R.val i d h
    exact ⟨v, a, b.mono s1⟩
  own := fun i s h ho => by
    obtain ⟨q, a, b, c, d, ok⟩ := R.own i s h ho
    obtain ⟨x, hx⟩ := ok.there
    obtain ⟨k1, k2, k3⟩ := k q x hx c d
    exact ⟨q, a, b, k2, k3, ok.move s1 (k1.trans hx.symm)⟩
  apart := R.apart
  sto := so
end
end LP
namespace LP
open PySem PySem.Spec L2
open PyProof.Rows hiding St
section
variable {prog : Program} {w : World} {A : Around} {E : Value → Shared → Prop} {s : Shared}
/-- () + u is u -/
theorem cat_nil {t b : Addr} {ws : List Value} {Q : Value → Shared → Prop} (ht : IsTup s.heap t ([] : List Value).toArray) (hb : IsTup s.heap b ws.toArray) (h : Q (.ref b) s) : wpAny (model prog w) A (binaryOp .Add (.ref t) (.ref b)) Q E s := by
  obtain ⟨o1, g1, c1, n1, d1⟩ := ht
  obtain ⟨o2, g2, c2, n2, d2⟩ := hb
  have T1 : s.TypeIs (.ref t) "tuple" := ⟨o1, g1, c1⟩
  have T2 : s.TypeIs (.ref b) "tuple" := ⟨o2, g2, c2⟩
  cases o1 with
  | mk k1 i1 a1 l1 =>
  cases o2 with
  | mk k2 i2 a2 l2 =>
  cases c1; cases c2; cases d1; cases d2
  exact concat_meets T1 T2 noFill_tuple_add seq_tuple_add PySem.F.slot_tuple_add PySem.F.entry_tuple_add (PySem.F.args_tuple_add_2 _ _) (tuple_addW0 t b _ _ _ _ _ _ _ _ rfl) ⟨g1, g2, h⟩
/-- the whole of a tuple is the tuple itself -/
theorem whole_tup {t sl : Addr} {items : Array Value} {vl vu : Value} {lo hi : Option Int} {Q : Value → Shared → Prop} (ht : IsTup s.heap t items) (hs : s.heap.IsSliceOf sl vl vu .none) (pl : IsPart vl lo) (pu : IsPart vu hi)
    (hw : HT.sIx items.size 0 lo = 0 ∧ HT.sIx items.size items.size hi = items.size) (h : Q (.ref t) s) : wpAny (model prog w) A (getItem (.ref t) (.ref sl)) Q E s := by
  obtain ⟨os0, g0, c0, f0⟩ := id hs
  have ts : s.TypeIs (.ref sl) "slice" := ⟨os0, g0, c0⟩
  have yes : ((((HT.sIx items.size 0 lo : Nat) : Int) == 0 && (1 : Int) == 1 && (HT.sIx items.size items.size hi - HT.sIx items.size 0 lo) == items.size) = true) := by
    rw [hw.1, hw.2]; simp
  unfold getItem
  try with_reducible refine wpAny_holding ?_
  try refine wpAny_bind (wpAny_pure ?_)
  apply wpAny_bind; apply wpAny_sequenceKey ht.typeIs (by decide)
  apply wpAny_bind
  apply wpAny_callSpecial?_slot (name := Str.ofString "__getitem__") ht.typeIs PyProof.Rows.slot_tuple_getitem
  apply wpAny_call_entry PyProof.Rows.slot_tuple_getitem ht.typeIs entry_tuple_getitem ?_ (args_tuple_getitem _ _)
  change wpAny _ _ (Builtin.Tuple.tupleItemsOf (.ref t) >>= _) _ _ s
  apply wpAny_bind; apply tupleItemsOf_ ht
  apply wpAny_bind; apply wpAny_typeOf ts
  rw [if_pos (by decide)]
  apply wpAny_bind; apply HT.sliceApplied_gen hs pl pu
  change wpAny _ _ (if (((HT.sIx items.size 0 lo : Nat) : Int) == 0 && (1 : Int) == 1 && (HT.sIx items.size items.size hi - HT.sIx items.size 0 lo) == items.size) = true then _ else _) _ _ s
  rw [if_pos yes]
  apply wpAny_bind; unfold Builtin.Tuple.tupleIsExact
  apply wpAny_bind; apply wpAny_typeOf ht.typeIs; apply wpAny_pure
  rw [if_pos (by decide)]
  apply wpAny_bind; apply wpAny_rule
  exact wpAny_pure ⟨_, rfl, wpAny_pure h⟩
end
section
variable {X : Cx}
/-- a new tuple, known to its object -/
theorem tupF {pins : List (Addr × Obj)} {σ : St} {H : Hp} {s : Shared} {xs : List V} {us : List Value} (I : Inv X pins σ H s) (r : Vals xs us) (z : xs.length ≤ sizeLine) :
    Inv X pins σ (upd H s.heap.objs.size (.frz (tupO us) (.tup xs))) { s with heap := s.heap.push (tupO us) } :=
  I.laid (t' := s.toks) (fun b o q => Heap.get?_push_of_some _ q) (Nat.le_refl _) ⟨Heap.get?_push_size _ rfl, z, us, r, IsTup.new _ _⟩
def tTupF (t : TA) : TE := fun σ H Q => t σ H fun xs H1 => xs.length ≤ sizeLine ∧ ∀ p us, H1 p = none → Q (.ref p) (upd H1 p (.frz (tupO us) (.tup xs)))
theorem pe_tupF {es : List Expr} {pos : Pos} {x1} {t : TA} (h : PA X es t) : PE X (.Tuple es x1 pos) (tTupF t) where
  run := by
    intro pins s σ H Q I hq
    refine wpAny_Tuple_spliced (thn (h.run pos pins s σ H _ I hq) ?_)
    rintro us s1 ⟨xs, H1, I1, r, z, q⟩
    exact ⟨r.length ▸ z, .ref s1.heap.objs.size, _, tupF I1 r z, rfl, q _ us (I1.hok.fresh (Nat.le_refl _))⟩
/-- t + u, both not empty -/
def rCatTF (K : PySem.W.Frag) : R2 := fun x y H Q => ∃ (a b : Addr) (xs ys : List V), x = .ref a ∧ y = .ref b ∧ SqT K H a xs ∧ SqT K H b ys ∧ xs ≠ [] ∧ xs.length + ys.length ≤ sizeLine ∧
  (ys = [] → Q (.ref a) H) ∧ (ys ≠ [] → ∀ p us, H p = none → Q (.ref p) (upd H p (.frz (tupO us) (.tup (xs ++ ys)))))
theorem op_catTF : OpR X (binaryOp .Add) (rCatTF X.K) := fun pins s σ H x y v u Q I rx ry h => by
  obtain ⟨a, b, xs, ys, rfl, rfl, ha, hb, hx, hz, q1, q2⟩ := h
  cases rx; cases ry
  obtain ⟨i1, r1, p1, _⟩ := I.tuple ha
  obtain ⟨i2, r2, p2, _⟩ := I.tuple hb
  have n1 : i1 ≠ [] := fun z => hx (r1.nil_iff.mp z)
  have z2 : (xs ++ ys).length ≤ sizeLine := by rw [List.length_append]; exact hz
  refine HT.cat_tup p1 p2 n1 (fun z => ?_) (fun z => ?_) (by rw [← r1.length, ← r2.length]; exact hz)
  · exact ⟨.ref a, H, I, rfl, q1 (r2.nil_iff.mp z)⟩
  · exact ⟨.ref s.heap.objs.size, _, tupF I (r1.append r2) z2, rfl, q2 (fun e => z (r2.nil_iff.mpr e)) _ _ (I.hok.fresh (Nat.le_refl _))⟩
/-- tuple(l), tuple(t) -/
theorem call_tupleF : CallR X (.type "tuple") (fun xs H Q => ∃ p ys, xs = [.ref p] ∧ ((SqL X.K H p ys ∧ ∀ l us, H l = none → Q (.ref l) (upd H l (.frz (tupO us) (.tup ys)))) ∨ (SqT X.K H p ys ∧ Q (.ref p) H))) := fun pins s σ H xs us Q I r h => by
  obtain ⟨p, ys, rfl, h⟩ := h
  obtain ⟨u, rfl, rx⟩ := vals1 r
  cases rx
  rcases h with ⟨hq, q⟩ | ⟨hq, q⟩
  · obtain ⟨its, rv, pl, hz⟩ := I.list hq
    have el := rv.length
    refine call_tuple_list pl.isList (fun h2 kp => ?_) (by simp only [List.size_toArray]; omega)
    have I1 : Inv X pins σ H { s with heap := h2 } := I.kept (t' := s.toks) kp
    exact ⟨.ref h2.objs.size, _, tupF I1 rv hz, rfl, q _ its (I1.hok.fresh (Nat.le_refl _))⟩
  · obtain ⟨its, rv, pl, _⟩ := I.tuple hq
    exact call_tuple_same pl ⟨.ref p, H, I, rfl, q⟩
/-- t[lo:hi], not the whole -/
def rSlTF (K : PySem.W.Frag) : V → Option Int → Option Int → Hp → VK → Prop := fun x lo hi H Q => ∃ (a : Addr) (xs : List V), x = .ref a ∧ SqT K H a xs ∧
  ¬ (HT.sIx xs.length 0 lo = 0 ∧ HT.sIx xs.length xs.length hi = xs.length) ∧ ∀ p us, H p = none → Q (.ref p) (upd H p (.frz (tupO us) (.tup (cutV xs lo hi))))
theorem sl_tupF : SlR X (rSlTF X.K) := fun pins s σ H x v vl vu lo hi sl Q I rx hs pl pu h => by
  obtain ⟨a, xs, rfl, hx, hw, q⟩ := h
  cases rx
  obtain ⟨its, r, ht, hz⟩ := I.tuple hx
  have e : its.toArray.size = xs.length := by rw [List.size_toArray, r.length]
  refine ⟨"tuple", _, PyProof.Rows.slot_tuple_getitem.lookup, ht.typeIs, HT.getItem_tuple_cut ht hs pl pu (by rw [e]; exact hw) ?_ (by rw [e]; exact hz)⟩
  rw [e]
  exact ⟨.ref s.heap.objs.size, _, tupF I ((r.drop (HT.sIx xs.length 0 lo)).take (HT.sIx xs.length xs.length hi - HT.sIx xs.length 0 lo)) (Nat.le_trans (cutV_length xs lo hi) hz), rfl, q _ _ (I.hok.fresh (Nat.le_refl _))⟩
def rCatT0 (K : PySem.W.Frag) : R2 := fun x y H Q => ∃ (a b : Addr) (ys : List V), x = .ref a ∧ y = .ref b ∧ SqT K H a [] ∧ SqT K H b ys ∧ Q (.ref b) H
theorem op_catT0 : OpR X (binaryOp .Add) (rCatT0 X.K) := fun pins s σ H x y v u Q I rx ry h => by
  obtain ⟨a, b, ys, rfl, rfl, ha, hb, q⟩ := h
  cases rx; cases ry
  obtain ⟨i1, r1, t1, _⟩ := I.tuple ha
  obtain ⟨i2, r2, t2, _⟩ := I.tuple hb
  cases r1
  exact cat_nil t1 t2 ⟨.ref b, H, I, rfl, q⟩
def rSlT0 (K : PySem.W.Frag) : V → Option Int → Option Int → Hp → VK → Prop := fun x lo hi H Q => ∃ (a : Addr) (xs : List V), x = .ref a ∧ SqT K H a xs ∧ (HT.sIx xs.length 0 lo = 0 ∧ HT.sIx xs.length xs.length hi = xs.length) ∧ Q (.ref a) H
theorem sl_tup0 : SlR X (rSlT0 X.K) := fun pins s σ H x v vl vu lo hi sl Q I rx hs pl pu h => by
  obtain ⟨a, xs, rfl, hx, hw, q⟩ := h
  cases rx
  obtain ⟨its, r, ht, _⟩ := I.tuple hx
  have e : its.toArray.size = xs.length := by rw [List.size_toArray, r.length]
  have fin : EP X pins σ Q (.ref a) s := ⟨.ref a, H, I, rfl, q⟩
  refine ⟨"tuple", _, PyProof.Rows.slot_tuple_getitem.lookup, ht.typeIs, ?_⟩
  exact whole_tup ht hs pl pu (by rw [e]; exact hw) fin
/-- == of data, one of them not deep -/
def rEqM (K : PySem.W.Frag) (neg : Bool) : R2 := fun x y H Q => ∃ d e, Dp K H x d ∧ Dp K H y e ∧ d.canLay0 = true ∧ e.canLay0 = true ∧ min d.depth e.depth ≤ 64 ∧ Q (.bl (if neg then !PyData.eqv d e else PyData.eqv d e)) H
theorem op_eqM (hu : X.A.units + 100 < cLine) : OpR X (compareOp .Eq) (rEqM X.K false) := fun pins s σ H x y v u Q I rx ry h => by
  obtain ⟨d, e, hd, he, c1, c2, dm, q⟩ := h
  obtain ⟨as, r1⟩ := Dp.reads I d x v hd rx
  obtain ⟨bs, r2⟩ := Dp.reads I e y u he ry
  exact SeqAt.compareEq_reads r1 r2 c1 c2 (by omega) ⟨.bl _, H, I, rfl, q⟩
theorem op_neM (hu : X.A.units + 100 < cLine) : OpR X (compareOp .NotEq) (rEqM X.K true) := fun pins s σ H x y v u Q I rx ry h => by
  obtain ⟨d, e, hd, he, c1, c2, dm, q⟩ := h
  obtain ⟨as, r1⟩ := Dp.reads I d x v hd rx
  obtain ⟨bs, r2⟩ := Dp.reads I e y u he ry
  exact SeqAt.compareNe_reads r1 r2 c1 c2 (by omega) ⟨.bl _, H, I, rfl, q⟩
theorem Room.u100 {k : Nat} {A : Around} (r : Room k A) : A.units + 100 < cLine := by have := r.un; omega
end
end LP
namespace LP
open PySem PySem.Spec L2
open PyProof.Rows hiding St
abbrev Takes (X : Cx) (W : WX) : Prop := L2N.Takes X W
abbrev Zc (cls : Value) (d : Option Addr) : Obj → Prop := L2N.Zn cls d
theorem passAt {X : Cx} {W : WX} (tk : Takes X W) (σ : St) : PassesAt (L2N.CX X.prog X.w) X σ (WE W σ) := fun _ _ _ e s' I c => tk e s' (L2N.XE.of_call I (fun _ _ _ h => h) c)
theorem takes0 {X : Cx} : Takes X (fun _ _ _ _ => False) := fun _ _ ⟨_, _, _, _, _, _, _, _, _, _, _, _, _, _, _, _, w⟩ => w.elim
abbrev RX := Exn → En → Prop
abbrev ME := RX → En → (D → En → Prop) → Prop
abbrev MT := RX → En → (Bool → En → Prop) → Prop
abbrev MA := RX → En → (List D → En → Prop) → Prop
/-- an operand: what it is worth is asked when the operation is done -/
abbrev MV := RX → En → ((En → Option D) → En → Prop) → Prop
/-- a list that nobody else holds -/
abbrev MF := RX → En → (List D → En → Prop) → Prop
def XOk (K : PySem.W.Frag) (F : Hp) (x : Exn) (cls : Value) (dd : Option Addr) : Prop :=
  cls = x.cls ∧ match x.fs with
    | none => dd = none
    | some (fs, ds) => ∃ (d : Addr) (vs : List V), dd = some d ∧ F d = some (.xd (fs.zip vs)) ∧ fs.length = vs.length ∧ Rps K F vs ds
/-- what is wished of an exception -/
def Rais (K : PySem.W.Frag) (W : WX) (P0 F : Hp) (R : RX) : Prop :=
  ∀ (F' : Hp) (en : En) (σ : St) (H : Hp) (x : Exn) (cls : Value) (dd : Option Addr), Same F F' → RS K P0 F' en σ H → XOk K F' x cls dd → R x en → W cls dd σ H
theorem Rais.mono {K : PySem.W.Frag} {W : WX} {P0 F F' : Hp} {R : RX} (h : Rais K W P0 F R) (s : Same F F') : Rais K W P0 F' R :=
  fun F2 en σ H x cls dd s2 => h F2 en σ H x cls dd (s.trans s2)
/-- an operand's value as it stands: a list may be one that is owned -/
def Vw (K : PySem.W.Frag) (F H : Hp) (v : V) (d : D) : Prop := Rp K F v d ∨ ∃ (p : Addr) (vs : List V) (ds : List D), v = .ref p ∧ d = .lst ds ∧ H p = some (.lst vs) ∧ Rps K F vs ds
/-- what an operand is worth in every later state -/
def Res (K : PySem.W.Frag) (P0 F : Hp) (σ : St) (v : V) (g : En → Option D) : Prop :=
  ∀ (F' : Hp) (en : En) (H : Hp) (d : D), Same F F' → RS K P0 F' en σ H → g en = some d → Vw K F' H v d
section
variable (X : Cx) (W : WX)
def SimE (t : TE) (m : ME) : Prop := ∀ (P0 F : Hp) (en : En) (σ : St) (H : Hp) (R : RX) (Q : D → En → Prop) (Qc : VK), RS X.K P0 F en σ H → Rais X.K W P0 F R → m R en Q →
  (∀ (F' : Hp) (en' : En) (v : V) (d : D) (H' : Hp), Same F F' → RS X.K P0 F' en' σ H' → Rp X.K F' v d → Q d en' → Qc v H') → t σ H Qc
def SimV (t : TE) (m : MV) : Prop := ∀ (P0 F : Hp) (en : En) (σ : St) (H : Hp) (R : RX) (Q : (En → Option D) → En → Prop) (Qc : VK), RS X.K P0 F en σ H → Rais X.K W P0 F R → m R en Q →
  (∀ (F' : Hp) (en' : En) (v : V) (g : En → Option D) (H' : Hp), Same F F' → RS X.K P0 F' en' σ H' → Res X.K P0 F' σ v g → Q g en' → Qc v H') → t σ H Qc
def SimF (t : TE) (m : MF) : Prop := ∀ (P0 F : Hp) (en : En) (σ : St) (H : Hp) (R : RX) (Q : List D → En → Prop) (Qc : VK), RS X.K P0 F en σ H → Rais X.K W P0 F R → m R en Q →
  (∀ (F' : Hp) (en' : En) (p : Addr) (vs : List V) (ds : List D) (H' : Hp), Same F F' → RS X.K P0 F' en' σ H' → New P0 F' en' σ H' p → H' p = some (.lst vs) → Rps X.K F' vs ds → Q ds en' → Qc (.ref p) H') → t σ H Qc
def SimT (t : TT) (m : MT) : Prop := ∀ (P0 F : Hp) (en : En) (σ : St) (H : Hp) (R : RX) (Q : Bool → En → Prop) (Qc : Bool → Hp → Prop), RS X.K P0 F en σ H → Rais X.K W P0 F R → m R en Q →
  (∀ (F' : Hp) (en' : En) (b : Bool) (H' : Hp), Same F F' → RS X.K P0 F' en' σ H' → Q b en' → Qc b H') → t σ H Qc
def SimA (t : TA) (m : MA) : Prop := ∀ (P0 F : Hp) (en : En) (σ : St) (H : Hp) (R : RX) (Q : List D → En → Prop) (Qc : List V → Hp → Prop), RS X.K P0 F en σ H → Rais X.K W P0 F R → m R en Q →
  (∀ (F' : Hp) (en' : En) (vs : List V) (ds : List D) (H' : Hp), Same F F' → RS X.K P0 F' en' σ H' → Rps X.K F' vs ds → Q ds en' → Qc vs H') → t σ H Qc
end
def AE (X : Cx) (W : WX) (e : Expr) (m : ME) : Prop := ∃ t, PE X e t ∧ SimE X W t m
def AV (X : Cx) (W : WX) (e : Expr) (m : MV) : Prop := ∃ t, PE X e t ∧ SimV X W t m
def AF (X : Cx) (W : WX) (e : Expr) (m : MF) : Prop := ∃ t, PE X e t ∧ SimF X W t m
def AT (X : Cx) (W : WX) (e : Expr) (m : MT) : Prop := ∃ t, PT X e t ∧ SimT X W t m
def AW (X : Cx) (W : WX) (e : Expr) (m : MT) : Prop := ∃ t, PW X e t ∧ SimT X W t m
def AA (X : Cx) (W : WX) (es : List Expr) (m : MA) : Prop := ∃ t, PA X es t ∧ SimA X W t m
section
variable {X : Cx} {W : WX} {a b c e : Expr} {es rest : List Expr} {pos : Pos}
def mC (d : D) : ME := fun _ en Q => Q d en
theorem sim_c {v : V} {d : D} (h : ∀ F, Rp X.K F v d) : SimE X W (tC v) (mC d) := fun P0 F en σ H R Q Qc rs rx m k => k F en v d H (Same.refl F) rs (h F) m
theorem ae_int {i : Int} {j pos} : AE X W (.Constant (.int i) j pos) (mC (.int i)) := ⟨_, pe_int, sim_c fun _ => .int i⟩
theorem ae_bl {b : Bool} {j pos} : AE X W (.Constant (.bool b) j pos) (mC (.bl b)) := ⟨_, pe_bl, sim_c fun _ => .bl b⟩
theorem ae_non {j pos} : AE X W (.Constant .none j pos) (mC .non) := ⟨_, pe_non, sim_c fun _ => .non⟩
/-- a name; where it owns its list the list is given away: it is not changed any more -/
def mVar (i : Nat) : ME := fun _ en Q => match gt en.sl i with
  | .v d => Q d en
  | .ol ds => Q (.lst ds) { en with sl := en.sl.set i (.v (.lst ds)) }
  | .od ks ds => Q (.dic ks ds) { en with sl := en.sl.set i (.v (.dic ks ds)) }
  | _ => False
theorem sim_var {i : Nat} : SimE X W (tVar i) (mVar i) := fun P0 F en σ H R Q Qc rs rx m k => by
  unfold mVar at m
  split at m
  · rename_i d e
    obtain ⟨v, h1, h2⟩ := rs.val i d (gt_some e (fun z => nomatch z))
    exact ⟨v, h1, k F en v d H (Same.refl F) rs h2 m⟩
  · rename_i ds e
    have es := gt_some e (fun z => nomatch z)
    obtain ⟨p, h1, _⟩ := rs.own i _ es rfl
    obtain ⟨rs1, n1, ok⟩ := rs.drop es rfl h1
    obtain ⟨vs, h2, h3⟩ := ok
    have rs2 := rs1.give n1 h2
    have s2 : Same F (upd F p (.lst vs)) := same_upd n1.f
    have r2 : Rp X.K (upd F p (.lst vs)) (.ref p) (.lst ds) := .lst upd_same (h3.mono s2)
    have rs3 := rs2.tell h1 r2
    simp only [List.set_set] at rs3
    exact ⟨.ref p, h1, k _ _ _ _ H s2 rs3 r2 m⟩
  · rename_i ks ds e
    have es := gt_some e (fun z => nomatch z)
    obtain ⟨p, h1, _⟩ := rs.own i _ es rfl
    obtain ⟨rs1, n1, ok⟩ := rs.drop es rfl h1
    obtain ⟨vs, h2, hl, h3⟩ := ok
    have rs2 := rs1.give n1 h2
    have s2 : Same F (upd F p (.dK (ks.zip vs))) := same_upd n1.f
    have r2 : Rp X.K (upd F p (.dK (ks.zip vs))) (.ref p) (.dic ks ds) := .dic upd_same hl (h3.mono s2)
    have rs3 := rs2.tell h1 r2
    simp only [List.set_set] at rs3
    exact ⟨.ref p, h1, k _ _ _ _ H s2 rs3 r2 m⟩
  · exact m.elim
theorem ae_var (i : Nat) {x : Str} {pos : Pos} (hN : X.N[i]? = some x := by rfl) (hv : Vis X.env.scope x := by first | exact Or.inl rfl | exact Or.inr (Or.inl rfl) | exact Or.inr (Or.inr rfl)) (hd : (x == ("__debug__" : Str)) = false := by decide)
    (hcd : (x == ("__classdict__" : Str)) = false := by decide) : AE X W (.Name x pos) (mVar i) := ⟨_, pe_var hN hv hd hcd, sim_var⟩
def mV (m : ME) : MV := fun R en Q => m R en fun d en' => Q (fun _ => some d) en'
theorem sim_v {t : TE} {m : ME} (h : SimE X W t m) : SimV X W t (mV m) := fun P0 F en σ H R Q Qc rs rx hm k =>
  h P0 F en σ H R _ Qc rs rx hm fun F' en' v d H' s r rp q => k F' en' v _ H' s r (fun F2 e2 H2 d2 s2 _ g => by
    cases g
    exact .inl (rp.mono s2)) q
theorem av {m : ME} (h : AE X W e m) : AV X W e (mV m) := let ⟨t, p, s⟩ := h; ⟨t, p, sim_v s⟩
def slD : Sl → Option D
  | Sl.v d => some d
  | .ol ds => some (.lst ds)
  | _ => none
/-- a name that owns its list, looked at -/
def mO (i : Nat) : MV := fun _ en Q => (∃ ds, gt en.sl i = .ol ds) ∧ Q (fun en' => slD (gt en'.sl i)) en
theorem sim_o {i : Nat} : SimV X W (tVar i) (mO i) := fun P0 F en σ H R Q Qc rs rx m k => by
  obtain ⟨⟨ds, e⟩, q⟩ := m
  have es := gt_some e (fun z => nomatch z)
  obtain ⟨p, h1, _⟩ := rs.own i _ es rfl
  refine ⟨.ref p, h1, k F en _ _ H (Same.refl F) rs (fun F2 e2 H2 d2 s2 rs2 g => ?_) q⟩
  cases e3 : gt e2.sl i with
  | v d =>
    rw [e3] at g
    cases g
    obtain ⟨v, a1, a2⟩ := rs2.val i d2 (gt_some e3 (fun z => nomatch z))
    rw [h1] at a1; cases a1
    exact .inl a2
  | ol ds2 =>
    rw [e3] at g
    cases g
    obtain ⟨p2, a1, _, _, _, vs, a2, a3⟩ := rs2.own i _ (gt_some e3 (fun z => nomatch z)) rfl
    rw [h1] at a1; cases a1
    exact .inr ⟨p, vs, ds2, rfl, rfl, a2, a3⟩
  | un => rw [e3] at g; cases g
  | od _ _ => rw [e3] at g; cases g
  | ot _ _ => rw [e3] at g; cases g
theorem av_o (i : Nat) {x : Str} {pos : Pos} (hN : X.N[i]? = some x := by rfl) (hv : Vis X.env.scope x := by first | exact Or.inl rfl | exact Or.inr (Or.inl rfl) | exact Or.inr (Or.inr rfl)) (hd : (x == ("__debug__" : Str)) = false := by decide)
    (hcd : (x == ("__classdict__" : Str)) = false := by decide) : AV X W (.Name x pos) (mO i) := ⟨_, pe_var hN hv hd hcd, sim_o⟩
/-- a new list, given away -/
def mL (m : MF) : ME := fun R en Q => m R en fun ds en' => Q (.lst ds) en'
theorem sim_l {t : TE} {m : MF} (h : SimF X W t m) : SimE X W t (mL m) := fun P0 F en σ H R Q Qc rs rx hm k =>
  h P0 F en σ H R _ Qc rs rx hm fun F' en' p vs ds H' s r n hp rp q => by
    have s2 : Same F' (upd F' p (.lst vs)) := same_upd n.f
    exact k _ en' _ _ H' (s.trans s2) (r.give n hp) (.lst upd_same (rp.mono s2)) q
theorem ae_l {m : MF} (h : AF X W e m) : AE X W e (mL m) := let ⟨t, p, s⟩ := h; ⟨t, p, sim_l s⟩
theorem av_l {m : MF} (h : AF X W e m) : AV X W e (mV (mL m)) := av (ae_l h)
def OpS (X : Cx) (r : R2) (f : D → D → (D → Prop) → Prop) : Prop := ∀ (P0 F : Hp) (en : En) (σ : St) (H : Hp) (x y : V) (dx dy : D) (k : D → Prop) (Qc : VK), RS X.K P0 F en σ H → Vw X.K F H x dx → Vw X.K F H y dy → f dx dy k →
  (∀ (F' : Hp) (v : V) (d : D) (H' : Hp), Same F F' → RS X.K P0 F' en σ H' → Rp X.K F' v d → k d → Qc v H') → r x y H Qc
def rq2 (x y : Option D) (f : D → D → Prop) : Prop := match x, y with
  | some a, some b => f a b
  | _, _ => False
def rq1 (x : Option D) (f : D → Prop) : Prop := match x with
  | some a => f a
  | _ => False
def mOp (f : D → D → (D → Prop) → Prop) (a b : MV) : ME := fun R en Q => a R en fun g e1 => b R e1 fun h e2 => rq2 (g e2) (h e2) fun x y => f x y fun z => Q z e2
def mOpF (f : D → D → (List D → Prop) → Prop) (a b : MV) : MF := fun R en Q => a R en fun g e1 => b R e1 fun h e2 => rq2 (g e2) (h e2) fun x y => f x y fun z => Q z e2
theorem rq2_some {x y : Option D} {f : D → D → Prop} (h : rq2 x y f) : ∃ a b, x = some a ∧ y = some b ∧ f a b := by
  unfold rq2 at h
  split at h
  · exact ⟨_, _, rfl, rfl, h⟩
  · exact h.elim
theorem rq1_some {x : Option D} {f : D → Prop} (h : rq1 x f) : ∃ a, x = some a ∧ f a := by
  unfold rq1 at h
  split at h
  · exact ⟨_, rfl, h⟩
  · exact h.elim
theorem sim_op {ta tb : TE} {ma mb : MV} {r : R2} {f : D → D → (D → Prop) → Prop} (hs : OpS X r f) (ha : SimV X W ta ma) (hb : SimV X W tb mb) : SimE X W (tOp r ta tb) (mOp f ma mb) := fun P0 F en σ H R Q Qc rs rx m k =>
  ha P0 F en σ H R _ _ rs rx m fun F1 e1 x g H1 s1 rs1 vx m1 => hb P0 F1 e1 σ H1 R _ _ rs1 (rx.mono s1) m1 fun F2 e2 y h H2 s2 rs2 vy m2 => by
    obtain ⟨dx, dy, g1, g2, q⟩ := rq2_some m2
    exact hs P0 F2 e2 σ H2 x y dx dy _ Qc rs2 (vx F2 e2 H2 dx s2 rs2 g1) (vy F2 e2 H2 dy (Same.refl _) rs2 g2) q fun F3 v d H3 s3 rs3 rp q3 => k F3 e2 v d H3 ((s1.trans s2).trans s3) rs3 rp q3
theorem ae_op {op : Operator} {r : R2} {f : D → D → (D → Prop) → Prop} {ma mb : MV} (ho : OpR X (binaryOp op) r) (hs : OpS X r f) (ha : AV X W a ma) (hb : AV X W b mb) : AE X W (.BinOp a op b pos) (mOp f ma mb) :=
  let ⟨_, pa, sa⟩ := ha; let ⟨_, pb, sb⟩ := hb; ⟨_, pe_op ho pa pb, sim_op hs sa sb⟩
theorem ae_cmp {op : CmpOp} {r : R2} {f : D → D → (D → Prop) → Prop} {ma mb : MV} (ho : OpR X (compareOp op) r) (hs : OpS X r f) (ha : AV X W a ma) (hb : AV X W b mb) (hm : behindInMarks op b = false) : AE X W (.Compare a [op] [b] pos) (mOp f ma mb) :=
  let ⟨_, pa, sa⟩ := ha; let ⟨_, pb, sb⟩ := hb; ⟨_, pe_cmpR ho pa pb hm, sim_op hs sa sb⟩
/-- a value that is a bool, as a test -/
def asB (d : D) (k : Bool → Prop) : Prop := match d with
  | .bl b => k b
  | _ => False
def mB (m : ME) : MT := fun R en Q => m R en fun d en' => asB d fun b => Q b en'
theorem asB_some {d : D} {k : Bool → Prop} (h : asB d k) : ∃ b, d = .bl b ∧ k b := by
  unfold asB at h
  split at h
  · exact ⟨_, rfl, h⟩
  · exact h.elim
theorem sim_b {t : TE} {m : ME} (h : SimE X W t m) : SimT X W (tTest t) (mB m) := fun P0 F en σ H R Q Qc rs rx hm k =>
  h P0 F en σ H R _ _ rs rx hm fun F' en' v d H' s r rp q => by
    obtain ⟨b, rfl, q⟩ := asB_some q
    cases rp
    exact ⟨b, rfl, k F' en' b H' s r q⟩
theorem at_cmp {op : CmpOp} {r : R2} {f : D → D → (D → Prop) → Prop} {ma mb : MV} (ho : OpR X (compareOp op) r) (hs : OpS X r f) (ha : AV X W a ma) (hb : AV X W b mb) (hm : behindInMarks op b = false) : AT X W (.Compare a [op] [b] pos) (mB (mOp f ma mb)) :=
  let ⟨_, pa, sa⟩ := ha; let ⟨_, pb, sb⟩ := hb; ⟨_, pt_cmpR ho pa pb hm, sim_b (sim_op hs sa sb)⟩
theorem at_val {m : ME} (h : AE X W e m) (he : ∀ whole, isTrue e X.env whole = (do let v ← whole; standAt e.pos; holding [v] (truthy v)) := by intro _; rfl) : AT X W e (mB m) :=
  let ⟨_, pa, sa⟩ := h; ⟨_, pt_val pa he, sim_b sa⟩
/-- a op1 b op2 c -/
def mChain (f f' : D → D → (D → Prop) → Prop) (a b c : MV) : ME := fun R en Q => a R en fun g e1 => b R e1 fun h e2 => rq2 (g e2) (h e2) fun x y => f x y fun z => asB z fun k =>
  if k = true then c R e2 fun l e3 => rq2 (h e3) (l e3) fun x y => f' x y fun z => Q z e3 else Q (.bl false) e2
theorem sim_chain {ta tb tc : TE} {ma mb mc : MV} {r r' : R2} {f f' : D → D → (D → Prop) → Prop} (hs : OpS X r f) (hs' : OpS X r' f') (ha : SimV X W ta ma) (hb : SimV X W tb mb) (hc : SimV X W tc mc) : SimE X W (tChain r r' ta tb tc) (mChain f f' ma mb mc) := fun P0 F en σ H R Q Qc rs rx m k =>
  ha P0 F en σ H R _ _ rs rx m fun F1 e1 x g H1 s1 rs1 vx m1 => hb P0 F1 e1 σ H1 R _ _ rs1 (rx.mono s1) m1 fun F2 e2 y h H2 s2 rs2 vy m2 => by
    obtain ⟨dx, dy, g1, g2, q⟩ := rq2_some m2
    refine hs P0 F2 e2 σ H2 x y dx dy _ _ rs2 (vx F2 e2 H2 dx s2 rs2 g1) (vy F2 e2 H2 dy (Same.refl _) rs2 g2) q fun F3 v d H3 s3 rs3 rp q3 => ?_
    obtain ⟨b, eb, q5⟩ := asB_some q3
    subst eb
    cases rp
    have s13 := (s1.trans s2).trans s3
    refine ⟨b, rfl, ?_⟩
    cases b with
    | false =>
      rw [if_neg Bool.false_ne_true] at q5 ⊢
      exact k F3 e2 _ _ H3 s13 rs3 (.bl false) q5
    | true =>
      rw [if_pos rfl] at q5 ⊢
      refine hc P0 F3 e2 σ H3 R _ _ rs3 (rx.mono s13) q5 fun F4 e4 z l H4 s4 rs4 vz m4 => ?_
      obtain ⟨dx', dy', g1', g2', q'⟩ := rq2_some m4
      exact hs' P0 F4 e4 σ H4 y z dx' dy' _ Qc rs4 (vy F4 e4 H4 dx' (s3.trans s4) rs4 g1') (vz F4 e4 H4 dy' (Same.refl _) rs4 g2') q' fun F5 v d H5 s5 rs5 rp q5 => k F5 e4 v d H5 ((s13.trans s4).trans s5) rs5 rp q5
theorem ae_chain {op op' : CmpOp} {r r' : R2} {f f' : D → D → (D → Prop) → Prop} {ma mb mc : MV} (ho : OpR X (compareOp op) r) (hs : OpS X r f) (ho' : OpR X (compareOp op') r') (hs' : OpS X r' f') (ha : AV X W a ma) (hb : AV X W b mb) (hc : AV X W c mc)
    (hm : lastMarks [op, op'] [b, c] = false := by with_unfolding_all rfl) : AE X W (.Compare a [op, op'] [b, c] pos) (mChain f f' ma mb mc) :=
  let ⟨_, pa, sa⟩ := ha; let ⟨_, pb, sb⟩ := hb; let ⟨_, pc, sc⟩ := hc; ⟨_, pe_chain ho ho' pa pb pc hm, sim_chain hs hs' sa sb sc⟩
theorem at_chain {op op' : CmpOp} {r r' : R2} {f f' : D → D → (D → Prop) → Prop} {ma mb mc : MV} (ho : OpR X (compareOp op) r) (hs : OpS X r f) (ho' : OpR X (compareOp op') r') (hs' : OpS X r' f') (ha : AV X W a ma) (hb : AV X W b mb) (hc : AV X W c mc)
    (hm : lastMarks [op, op'] [b, c] = false := by with_unfolding_all rfl) : AT X W (.Compare a [op, op'] [b, c] pos) (mB (mChain f f' ma mb mc)) :=
  let ⟨_, pa, sa⟩ := ha; let ⟨_, pb, sb⟩ := hb; let ⟨_, pc, sc⟩ := hc; ⟨_, pt_chain ho ho' pa pb pc hm, sim_b (sim_chain hs hs' sa sb sc)⟩
def mAnd (t u : MT) : MT := fun R en Q => t R en fun b e1 => if b = true then u R e1 Q else Q false e1
def mOr (t u : MT) : MT := fun R en Q => t R en fun b e1 => if b = true then Q true e1 else u R e1 Q
def mNot (t : MT) : MT := fun R en Q => t R en fun b e1 => Q (!b) e1
variable {mt mu : MT} {m m' : ME}
theorem sim_and {t u : TT} (ht : SimT X W t mt) (hu : SimT X W u mu) : SimT X W (tAnd t u) (mAnd mt mu) := fun P0 F en σ H R Q Qc rs rx hm k =>
  ht P0 F en σ H R _ _ rs rx hm fun F' en' b H' s r q => by
    cases b with
    | true =>
      rw [if_pos rfl] at q ⊢
      exact hu P0 F' en' σ H' R _ _ r (rx.mono s) q fun F2 e2 b2 H2 s2 => k F2 e2 b2 H2 (s.trans s2)
    | false =>
      rw [if_neg Bool.false_ne_true] at q ⊢
      exact k F' en' false H' s r q
theorem sim_or {t u : TT} (ht : SimT X W t mt) (hu : SimT X W u mu) : SimT X W (tOr t u) (mOr mt mu) := fun P0 F en σ H R Q Qc rs rx hm k =>
  ht P0 F en σ H R _ _ rs rx hm fun F' en' b H' s r q => by
    cases b with
    | false =>
      rw [if_neg Bool.false_ne_true] at q ⊢
      exact hu P0 F' en' σ H' R _ _ r (rx.mono s) q fun F2 e2 b2 H2 s2 => k F2 e2 b2 H2 (s.trans s2)
    | true =>
      rw [if_pos rfl] at q ⊢
      exact k F' en' true H' s r q
theorem sim_not {t : TT} (ht : SimT X W t mt) : SimT X W (tNot t) (mNot mt) := fun P0 F en σ H R Q Qc rs rx hm k =>
  ht P0 F en σ H R _ _ rs rx hm fun F' en' b H' s r q => k F' en' (!b) H' s r q
theorem aw_and1 (ha : AT X W a mt) : AW X W (.BoolOp .And [a] pos) mt := let ⟨_, p, s⟩ := ha; ⟨_, pw_and1 p, s⟩
theorem aw_or1 (ha : AT X W a mt) : AW X W (.BoolOp .Or [a] pos) mt := let ⟨_, p, s⟩ := ha; ⟨_, pw_or1 p, s⟩
theorem aw_and (ha : AT X W a mt) (hb : AW X W (.BoolOp .And (b :: rest) pos) mu) : AW X W (.BoolOp .And (a :: b :: rest) pos) (mAnd mt mu) :=
  let ⟨_, p, s⟩ := ha; let ⟨_, p', s'⟩ := hb; ⟨_, pw_and p p', sim_and s s'⟩
theorem aw_or (ha : AT X W a mt) (hb : AW X W (.BoolOp .Or (b :: rest) pos) mu) : AW X W (.BoolOp .Or (a :: b :: rest) pos) (mOr mt mu) :=
  let ⟨_, p, s⟩ := ha; let ⟨_, p', s'⟩ := hb; ⟨_, pw_or p p', sim_or s s'⟩
theorem AW.at (h : AW X W e mt) : AT X W e mt := let ⟨_, p, s⟩ := h; ⟨_, p.pt, s⟩
theorem at_not (ha : AT X W a mt) : AT X W (.UnaryOp .Not a pos) (mNot mt) := let ⟨_, p, s⟩ := ha; ⟨_, pt_not p, sim_not s⟩
/-- .. as values -/
def mAndV (a b : ME) : ME := fun R en Q => a R en fun d e1 => asB d fun c => if c = true then b R e1 Q else Q (.bl false) e1
def mOrV (a b : ME) : ME := fun R en Q => a R en fun d e1 => asB d fun c => if c = true then Q (.bl true) e1 else b R e1 Q
def mNotV (a : ME) : ME := fun R en Q => a R en fun d e1 => asB d fun c => Q (.bl (!c)) e1
theorem ae_one {op} (h : AE X W a m) : AE X W (.BoolOp op [a] pos) m := let ⟨_, p, s⟩ := h; ⟨_, pe_one p, s⟩
theorem ae_and (ha : AE X W a m) (hb : AE X W (.BoolOp .And (b :: rest) pos) m') : AE X W (.BoolOp .And (a :: b :: rest) pos) (mAndV m m') := by
  obtain ⟨_, pa, sa⟩ := ha
  obtain ⟨_, pb, sb⟩ := hb
  refine ⟨_, pe_and pa pb, fun P0 F en σ H R Q Qc rs rx hm k => sa P0 F en σ H R _ _ rs rx hm fun F' en' v d H' s r rp q => ?_⟩
  obtain ⟨c, ec, q5⟩ := asB_some q
  subst ec
  cases rp
  refine ⟨c, rfl, ?_⟩
  cases c with
  | true =>
    rw [if_pos rfl] at q5 ⊢
    exact sb P0 F' en' σ H' R _ _ r (rx.mono s) q5 fun F2 e2 v2 d2 H2 s2 => k F2 e2 v2 d2 H2 (s.trans s2)
  | false =>
    rw [if_neg Bool.false_ne_true] at q5 ⊢
    exact k F' en' _ _ H' s r (.bl false) q5
theorem ae_or (ha : AE X W a m) (hb : AE X W (.BoolOp .Or (b :: rest) pos) m') : AE X W (.BoolOp .Or (a :: b :: rest) pos) (mOrV m m') := by
  obtain ⟨_, pa, sa⟩ := ha
  obtain ⟨_, pb, sb⟩ := hb
  refine ⟨_, pe_or pa pb, fun P0 F en σ H R Q Qc rs rx hm k => sa P0 F en σ H R _ _ rs rx hm fun F' en' v d H' s r rp q => ?_⟩
  obtain ⟨c, ec, q5⟩ := asB_some q
  subst ec
  cases rp
  refine ⟨c, rfl, ?_⟩
  cases c with
  | false =>
    rw [if_neg Bool.false_ne_true] at q5 ⊢
    exact sb P0 F' en' σ H' R _ _ r (rx.mono s) q5 fun F2 e2 v2 d2 H2 s2 => k F2 e2 v2 d2 H2 (s.trans s2)
  | true =>
    rw [if_pos rfl] at q5 ⊢
    exact k F' en' _ _ H' s r (.bl true) q5
theorem ae_not (ha : AE X W a m) : AE X W (.UnaryOp .Not a pos) (mNotV m) := by
  obtain ⟨_, pa, sa⟩ := ha
  refine ⟨_, pe_not pa, fun P0 F en σ H R Q Qc rs rx hm k => sa P0 F en σ H R _ _ rs rx hm fun F' en' v d H' s r rp q => ?_⟩
  obtain ⟨c, ec, q5⟩ := asB_some q
  subst ec
  cases rp
  exact ⟨c, rfl, k F' en' _ _ H' s r (.bl _) q5⟩
def mIf (t : MT) (a b : ME) : ME := fun R en Q => t R en fun c e1 => if c = true then a R e1 Q else b R e1 Q
theorem ae_if (hc : AT X W c mt) (ha : AE X W a m) (hb : AE X W b m') : AE X W (.IfExp c a b pos) (mIf mt m m') := by
  obtain ⟨_, pc, sc⟩ := hc
  obtain ⟨_, pa, sa⟩ := ha
  obtain ⟨_, pb, sb⟩ := hb
  refine ⟨_, pe_ifExp pc pa pb, fun P0 F en σ H R Q Qc rs rx hm k => sc P0 F en σ H R _ _ rs rx hm fun F' en' c H' s r q => ?_⟩
  cases c with
  | true =>
    rw [if_pos rfl] at q ⊢
    exact sa P0 F' en' σ H' R _ _ r (rx.mono s) q fun F2 e2 v2 d2 H2 s2 => k F2 e2 v2 d2 H2 (s.trans s2)
  | false =>
    rw [if_neg Bool.false_ne_true] at q ⊢
    exact sb P0 F' en' σ H' R _ _ r (rx.mono s) q fun F2 e2 v2 d2 H2 s2 => k F2 e2 v2 d2 H2 (s.trans s2)
def mNil : MA := fun _ en Q => Q [] en
def mCons (a : ME) (r : MA) : MA := fun R en Q => a R en fun d e1 => r R e1 fun ds e2 => Q (d :: ds) e2
variable {ma : MA}
theorem aa_nil : AA X W [] mNil := ⟨_, pa_nil, fun P0 F en σ H R Q Qc rs rx hm k => k F en [] [] H (Same.refl F) rs .nil hm⟩
theorem sim_cons {te : TE} {t : TA} (ha : SimE X W te m) (hr : SimA X W t ma) : SimA X W (tCons te t) (mCons m ma) := fun P0 F en σ H R Q Qc rs rx hm k =>
  ha P0 F en σ H R _ _ rs rx hm fun F1 e1 v d H1 s1 r1 rp q => hr P0 F1 e1 σ H1 R _ _ r1 (rx.mono s1) q fun F2 e2 vs ds H2 s2 r2 rps q2 => k F2 e2 (v :: vs) (d :: ds) H2 (s1.trans s2) r2 (.cons (rp.mono s2) rps) q2
theorem aa_cons (ha : AE X W e m) (hr : AA X W es ma) (hs : starEach (e :: es) X.env = (false, eval e X.env) :: starEach es X.env := by rfl) : AA X W (e :: es) (mCons m ma) :=
  let ⟨_, p, s⟩ := ha; let ⟨_, p', s'⟩ := hr; ⟨_, pa_cons p p' hs, sim_cons s s'⟩
def seqD : D → (List D → Prop) → Prop
  | .tup ds, k => k ds
  | .lst ds, k => k ds
  | _, _ => False
/-- *e among the items -/
def mStar (a : MV) (r : MA) : MA := fun R en Q => a R en fun g e1 => rq1 (g e1) fun d => seqD d fun xs => r R e1 fun ds e2 => Q (xs ++ ds) e2
theorem Vw.lst {K : PySem.W.Frag} {F H : Hp} {v : V} {ds : List D} (s : Same F H) (h : Vw K F H v (.lst ds)) : ∃ (p : Addr) (vs : List V), v = .ref p ∧ H p = some (.lst vs) ∧ Rps K F vs ds := by
  rcases h with h | ⟨p, vs, ds', rfl, e, h1, h2⟩
  · cases h with
    | lst h1 h2 => exact ⟨_, _, rfl, s _ _ h1, h2⟩
  · cases e
    exact ⟨p, vs, rfl, h1, h2⟩
theorem Vw.tup {K : PySem.W.Frag} {F H : Hp} {v : V} {ds : List D} (s : Same F H) (h : Vw K F H v (.tup ds)) : ∃ (p : Addr) (vs : List V), v = .ref p ∧ SqT K H p vs ∧ Rps K F vs ds ∧ Rp K F v (.tup ds) ∧ PlT K H p vs := by
  rcases h with h | ⟨p, vs, ds', rfl, e, h1, h2⟩
  · have h0 := h
    cases h with
    | tup h1 h2 => exact ⟨_, _, rfl, sqT_mono s h1.sq, h2, h0, h1.mono s⟩
  · cases e
theorem Vw.rp {K : PySem.W.Frag} {F H : Hp} {v : V} {d : D} (h : Vw K F H v d) (hd : ∀ ds, d ≠ .lst ds) : Rp K F v d := by
  rcases h with h | ⟨p, vs, ds', rfl, e, h1, h2⟩
  · exact h
  · exact absurd e (hd _)
theorem seqD_some {d : D} {k : List D → Prop} (h : seqD d k) : ∃ ds, (d = .tup ds ∨ d = .lst ds) ∧ k ds := by
  cases d <;> first | exact ⟨_, .inl rfl, h⟩ | exact ⟨_, .inr rfl, h⟩ | exact h.elim
theorem aa_star {mv : MV} {p : Pos} (ha : AV X W e mv) (hr : AA X W es ma) (hs : starEach (.Starred e p :: es) X.env = (true, eval e X.env) :: starEach es X.env := by rfl) : AA X W (.Starred e p :: es) (mStar mv ma) := by
  obtain ⟨_, pa, sa⟩ := ha
  obtain ⟨_, pb, sb⟩ := hr
  refine ⟨_, StX.pa_star pa pb hs, fun P0 F en σ H R Q Qc rs rx hm k => sa P0 F en σ H R _ _ rs rx hm fun F1 e1 v g H1 s1 r1 rv q => ?_⟩
  obtain ⟨d, e, q⟩ := rq1_some q
  obtain ⟨xs, hd, q⟩ := seqD_some q
  have vw := rv F1 e1 H1 d (Same.refl _) r1 e
  have fin : ∀ (vs : List V), Rps X.K F1 vs xs → _ := fun vs rps => sb P0 F1 e1 σ H1 R _ (fun ws H2 => Qc (vs ++ ws) H2) r1 (rx.mono s1) q fun F2 e2 ws ds H2 s2 r2 rp2 q2 => k F2 e2 _ _ H2 (s1.trans s2) r2 ((rps.mono s2).append rp2) q2
  rcases hd with rfl | rfl
  · obtain ⟨p, vs, rfl, h1, h2, _⟩ := vw.tup r1.same
    exact ⟨p, vs, rfl, .inl h1, fin vs h2⟩
  · obtain ⟨p, vs, rfl, h1, h2⟩ := vw.lst r1.same
    exact ⟨p, vs, rfl, .inr (SqL.of h1), fin vs h2⟩
def mTup (a : MA) : ME := fun R en Q => a R en fun ds e1 => ds.length ≤ sizeLine ∧ Q (.tup ds) e1
def mLst (a : MA) : MF := fun R en Q => a R en fun ds e1 => ds.length ≤ sizeLine ∧ Q ds e1
theorem ae_tup {x1} (h : AA X W es ma) : AE X W (.Tuple es x1 pos) (mTup ma) := by
  obtain ⟨_, p, s⟩ := h
  refine ⟨_, pe_tupF p, fun P0 F en σ H R Q Qc rs rx hm k => s P0 F en σ H R _ _ rs rx hm fun F1 e1 vs ds H1 s1 r1 rp q => ?_⟩
  obtain ⟨q1, q2⟩ := q
  refine ⟨by rw [rp.length]; exact q1, fun a us ha => ?_⟩
  have s2 : Same F1 (upd F1 a (.frz (tupO us) (.tup vs))) := same_upd (r1.same.free ha)
  exact k _ e1 _ _ _ (s1.trans s2) (r1.alloc ha) (.tup (.inl ⟨us, upd_same⟩) (rp.mono s2)) q2
theorem af_lst (h : AA X W es ma) : AF X W (.List es pos) (mLst ma) := by
  obtain ⟨_, p, s⟩ := h
  refine ⟨_, pe_lst p, fun P0 F en σ H R Q Qc rs rx hm k => s P0 F en σ H R _ _ rs rx hm fun F1 e1 vs ds H1 s1 r1 rp q => ?_⟩
  obtain ⟨q1, q2⟩ := q
  refine ⟨by rw [rp.length]; exact q1, fun a ha => ?_⟩
  exact k F1 e1 a vs ds _ s1 (r1.lay ha) (r1.new ha).lay upd_same rp q2
end
end LP
namespace LP
open PySem PySem.Spec L2
open PyProof.Rows hiding St
structure AEnds where
  nx : En → Prop
  rt : D → En → Prop
  bk : En → Prop := fun _ => False
  ct : En → Prop := fun _ => False
  R : RX := fun _ _ => False
abbrev MS := AEnds → En → Prop
structure Wk (K : PySem.W.Frag) (W : WX) (P0 F : Hp) (A : AEnds) (E : Ends) : Prop where
  nx : ∀ (F' : Hp) (en : En) (σ : St) (H : Hp), Same F F' → RS K P0 F' en σ H → A.nx en → E.nx σ H
  rt : ∀ (F' : Hp) (en : En) (σ : St) (H : Hp) (v : V) (d : D), Same F F' → RS K P0 F' en σ H → Rp K F' v d → A.rt d en → E.rt v H
  bk : ∀ (F' : Hp) (en : En) (σ : St) (H : Hp), Same F F' → RS K P0 F' en σ H → A.bk en → E.bk σ H
  ct : ∀ (F' : Hp) (en : En) (σ : St) (H : Hp), Same F F' → RS K P0 F' en σ H → A.ct en → E.ct σ H
  R : Rais K W P0 F A.R
theorem Wk.mono {K : PySem.W.Frag} {W : WX} {P0 F F' : Hp} {A : AEnds} {E : Ends} (w : Wk K W P0 F A E) (s : Same F F') : Wk K W P0 F' A E :=
  ⟨fun F2 en σ H s2 => w.nx F2 en σ H (s.trans s2), fun F2 en σ H v d s2 => w.rt F2 en σ H v d (s.trans s2), fun F2 en σ H s2 => w.bk F2 en σ H (s.trans s2), fun F2 en σ H s2 => w.ct F2 en σ H (s.trans s2), w.R.mono s⟩
def SimS (X : Cx) (W : WX) (t : TS) (m : MS) : Prop := ∀ (P0 F : Hp) (en : En) (σ : St) (H : Hp) (A : AEnds) (E : Ends), RS X.K P0 F en σ H → Wk X.K W P0 F A E → m A en → t E σ H
def AS (X : Cx) (W : WX) (st : Stmt) (m : MS) : Prop := ∃ t, PS X st t ∧ SimS X W t m
def ASs (X : Cx) (W : WX) (st : List Stmt) (m : MS) : Prop := ∃ t, PSs X st t ∧ SimS X W t m
def i1 (ds : List D) (k : Int → Prop) : Prop := match ds with
  | [.int j] => k j
  | _ => False
def i2 (ds : List D) (k : Int → Int → Prop) : Prop := match ds with
  | [.int i, .int j] => k i j
  | _ => False
def d2 (ds : List D) (k : D → D → Prop) : Prop := match ds with
  | [x, y] => k x y
  | _ => False
theorem i1_some {ds : List D} {k : Int → Prop} (h : i1 ds k) : ∃ j, ds = [.int j] ∧ k j := by
  unfold i1 at h
  split at h
  · exact ⟨_, rfl, h⟩
  · exact h.elim
theorem i2_some {ds : List D} {k : Int → Int → Prop} (h : i2 ds k) : ∃ i j, ds = [.int i, .int j] ∧ k i j := by
  unfold i2 at h
  split at h
  · exact ⟨_, _, rfl, h⟩
  · exact h.elim
section
variable {X : Cx} {W : WX} {st : Stmt} {rest : List Stmt} {e : Expr} {pos : Pos} {m u : MS} {me : ME} {mf : MF} {mt : MT}
def sNext : MS := fun A en => A.nx en
def sSeq (m u : MS) : MS := fun A en => m { A with nx := u A } en
theorem sim_next : SimS X W tNext sNext := fun P0 F en σ H A E rs w m => w.nx F en σ H (Same.refl F) rs m
theorem ass_nil : ASs X W [] sNext := ⟨_, pss_nil, sim_next⟩
theorem ass_cons (h1 : AS X W st m) (h2 : ASs X W rest u) : ASs X W (st :: rest) (sSeq m u) := by
  obtain ⟨_, p, s⟩ := h1
  obtain ⟨_, p', s'⟩ := h2
  refine ⟨_, pss_cons p p', fun P0 F en σ H A E rs w hm => s P0 F en σ H { A with nx := u A } _ rs ⟨fun F' en σ H s1 r q => ?_, w.rt, w.bk, w.ct, w.R⟩ hm⟩
  exact s' P0 F' en σ H A E r (w.mono s1) q
theorem ass_one (h1 : AS X W st m) : ASs X W [st] m := let ⟨_, p, s⟩ := h1; ⟨_, pss_one p, s⟩
def sDrop (m : ME) : MS := fun A en => m A.R en fun _ e1 => A.nx e1
theorem as_expr (he : AE X W e me) (hs : swapsWith e none pos.line X.env = pure false := by rfl) : AS X W (.Expr e pos) (sDrop me) := by
  obtain ⟨_, p, s⟩ := he
  exact ⟨_, ps_expr p hs, fun P0 F en σ H A E rs w hm => s P0 F en σ H _ _ _ rs w.R hm fun F' en' v d H' s1 r rp q => w.nx F' en' σ H' s1 r q⟩
def sRet (m : ME) : MS := fun A en => m A.R en A.rt
theorem as_ret (he : AE X W e me) : AS X W (.Return (some e) pos) (sRet me) := by
  obtain ⟨_, p, s⟩ := he
  exact ⟨_, ps_ret p, fun P0 F en σ H A E rs w hm => s P0 F en σ H _ _ _ rs w.R hm fun F' en' v d H' s1 r rp q => w.rt F' en' σ H' v d s1 r rp q⟩
def sRetN : MS := fun A en => A.rt .non en
def sIf (c : MT) (t u : MS) : MS := fun A en => c A.R en fun b e1 => if b = true then t A e1 else u A e1
theorem as_if {c : Expr} {a b : List Stmt} (hc : AT X W c mt) (ha : ASs X W a m) (hb : ASs X W b u) : AS X W (.If c a b pos) (sIf mt m u) := by
  obtain ⟨_, pc, sc⟩ := hc
  obtain ⟨_, pa, sa⟩ := ha
  obtain ⟨_, pb, sb⟩ := hb
  refine ⟨_, ps_if pc pa pb, fun P0 F en σ H A E rs w hm => sc P0 F en σ H _ _ _ rs w.R hm fun F' en' b H' s1 r q => ?_⟩
  cases b with
  | true =>
    rw [if_pos rfl] at q ⊢
    exact sa P0 F' en' σ H' A E r (w.mono s1) q
  | false =>
    rw [if_neg Bool.false_ne_true] at q ⊢
    exact sb P0 F' en' σ H' A E r (w.mono s1) q
def sSet (i : Nat) (m : ME) : MS := fun A en => m A.R en fun d e1 => A.nx { e1 with sl := e1.sl.set i (.v d) }
theorem as_set {i : Nat} {x : Str} {pos' : Pos} (hN : X.N.Nodup) (hi : X.N[i]? = some x) (hx : Loc X.env.scope x) (he : AE X W e me) (hs : swapsWith e (some (.Name x pos')) pos.line X.env = pure false := by rfl) (hf : X.fn x = true ∨ X.env.scope.names.lookup x = some .local := by first | exact .inl rfl | exact .inr rfl | assumption) :
    AS X W (.Assign [.Name x pos'] e pos) (sSet i me) := by
  obtain ⟨_, p, s⟩ := he
  refine ⟨_, ps_set hN hi hx p hs hf, fun P0 F en σ H A E rs w hm => s P0 F en σ H _ _ _ rs w.R hm fun F' en' v d H' s1 r rp q => ?_⟩
  exact w.nx F' _ _ H' s1 (r.setV rp) q
/-- the name owns the new list -/
def sSetO (i : Nat) (m : MF) : MS := fun A en => m A.R en fun ds e1 => A.nx { e1 with sl := e1.sl.set i (.ol ds) }
theorem as_setO {i : Nat} {x : Str} {pos' : Pos} (hN : X.N.Nodup) (hi : X.N[i]? = some x) (hx : Loc X.env.scope x) (he : AF X W e mf) (hs : swapsWith e (some (.Name x pos')) pos.line X.env = pure false := by rfl) (hf : X.fn x = true ∨ X.env.scope.names.lookup x = some .local := by first | exact .inl rfl | exact .inr rfl | assumption) :
    AS X W (.Assign [.Name x pos'] e pos) (sSetO i mf) := by
  obtain ⟨_, p, s⟩ := he
  refine ⟨_, ps_set hN hi hx p hs hf, fun P0 F en σ H A E rs w hm => s P0 F en σ H _ _ _ rs w.R hm fun F' en' p vs ds H' s1 r n hp rp q => ?_⟩
  exact w.nx F' _ _ H' s1 (r.setO (s := .ol ds) n rfl ⟨vs, hp, rp⟩) q
/-- a value, or a tuple that is taken apart at once -/
def Rt (K : PySem.W.Frag) (F : Hp) (v : V) (d : D) : Prop := Rp K F v d ∨ ∃ (a : Addr) (vs : List V) (ds : List D), v = .ref a ∧ d = .tup ds ∧ SqT K F a vs ∧ Rps K F vs ds
def rl : Bool → PySem.W.Frag → Hp → V → D → Prop
  | false => Rp
  | true => Rt
theorem rl_of {b : Bool} {K : PySem.W.Frag} {F : Hp} {v : V} {d : D} (h : Rp K F v d) : rl b K F v d := match b with
  | false => h
  | true => .inl h
theorem rt_of {b : Bool} {K : PySem.W.Frag} {F : Hp} {v : V} {d : D} (h : rl b K F v d) : Rt K F v d := match b, h with
  | false, h => .inl h
  | true, h => h
theorem rl_tup {b : Bool} {K : PySem.W.Frag} {F : Hp} {v : V} {ds : List D} (h : rl b K F v (.tup ds)) : ∃ a vs, v = .ref a ∧ SqT K F a vs ∧ Rps K F vs ds := by
  rcases rt_of h with h | ⟨a, vs, _, e1, e2, h1, h2⟩
  · cases h with
    | tup h1 h2 => exact ⟨_, _, rfl, h1.sq, h2⟩
  · cases e2; exact ⟨a, vs, e1, h1, h2⟩
abbrev MG := D → En → (En → Prop) → Prop
abbrev MGs := List D → En → (En → Prop) → Prop
def SimG (X : Cx) (b : Bool) (t : TG) (g : MG) (ws : List Nat) : Prop := ∀ (P0 F : Hp) (en : En) (σ : St) (H : Hp) (v : V) (d : D) (Q : En → Prop) (Qc : St → Hp → Prop), RS X.K P0 F en σ H → rl b X.K F v d → g d en Q →
  (∀ (F' : Hp) (en' : En) (σ' : St) (H' : Hp), Same F F' → RS X.K P0 F' en' σ' H' → σ'.length = σ.length → (∀ j, j ∉ ws → σ'[j]? = σ[j]?) → Q en' → Qc σ' H') → t v σ H Qc
def SimGs (X : Cx) (t : TGs) (g : MGs) (ws : List Nat) : Prop := ∀ (P0 F : Hp) (en : En) (σ : St) (H : Hp) (vs : List V) (ds : List D) (Q : En → Prop) (Qc : St → Hp → Prop), RS X.K P0 F en σ H → Rps X.K F vs ds → g ds en Q →
  (∀ (F' : Hp) (en' : En) (σ' : St) (H' : Hp), Same F F' → RS X.K P0 F' en' σ' H' → σ'.length = σ.length → (∀ j, j ∉ ws → σ'[j]? = σ[j]?) → Q en' → Qc σ' H') → t vs σ H Qc
def AG (X : Cx) (b : Bool) (tg : Expr) (g : MG) (ws : List Nat) : Prop := ∃ t, PG X tg t ∧ SimG X b t g ws
def AGs (X : Cx) (tg : List Expr) (g : MGs) (ws : List Nat) : Prop := ∃ t, PGs X tg t ∧ SimGs X t g ws
def gN (i : Nat) : MG := fun d en Q => Q { en with sl := en.sl.set i (.v d) }
theorem ag_name {i : Nat} {x : Str} {pos : Pos} (hN : X.N.Nodup) (hi : X.N[i]? = some x) (hx : Loc X.env.scope x) (hf : X.fn x = true ∨ X.env.scope.names.lookup x = some .local := by first | exact .inl rfl | exact .inr rfl | assumption) : AG X false (.Name x pos) (gN i) [i] :=
  ⟨_, pg_name hN hi hx hf, fun P0 F en σ H v d Q Qc rs rp q k => k F _ _ H (Same.refl F) (rs.setV rp) (by simp) (fun j hj => List.getElem?_set_ne (fun z => hj (by simp [z]))) q⟩
def gsNil : MGs := fun ds en Q => match ds with
  | [] => Q en
  | _ => False
def gsCons (g : MG) (r : MGs) : MGs := fun ds en Q => match ds with
  | d :: ds => g d en fun e1 => r ds e1 Q
  | _ => False
theorem ags_nil : AGs X [] gsNil [] := ⟨_, pgs_nil, fun P0 F en σ H vs ds Q Qc rs rp q k => by
  cases rp with
  | nil => exact ⟨rfl, k F en σ H (Same.refl F) rs rfl (fun _ _ => rfl) q⟩
  | cons _ _ => exact q.elim⟩
theorem ags_cons {e : Expr} {es : List Expr} {g : MG} {r : MGs} {ws ws' : List Nat} (h1 : AG X false e g ws) (h2 : AGs X es r ws') (hs : (assignEach (e :: es) X.env).map (·.2) = assign e X.env :: (assignEach es X.env).map (·.2) := by rfl) : AGs X (e :: es) (gsCons g r) (ws ++ ws') := by
  obtain ⟨_, p, s⟩ := h1
  obtain ⟨_, p', s'⟩ := h2
  refine ⟨_, pgs_cons p p' hs, fun P0 F en σ H vs ds Q Qc rs rp q k => ?_⟩
  cases rp with
  | nil => exact q.elim
  | cons r1 r2 =>
    refine ⟨_, _, rfl, s P0 F en σ H _ _ _ _ rs r1 q fun F1 e1 σ1 H1 s1 rs1 l1 k1 q1 => ?_⟩
    refine s' P0 F1 e1 σ1 H1 _ _ _ _ rs1 (r2.mono s1) q1 fun F2 e2 σ2 H2 s2 rs2 l2 k2 q2 => k F2 e2 σ2 H2 (s1.trans s2) rs2 (l2.trans l1) (fun j hj => ?_) q2
    exact (k2 j fun z => hj (List.mem_append_right _ z)).trans (k1 j fun z => hj (List.mem_append_left _ z))
def tupD : D → (List D → Prop) → Prop
  | .tup ds, k => k ds
  | _, _ => False
def gT (n : Nat) (g : MGs) : MG := fun d en Q => tupD d fun ds => ds.length = n ∧ g ds en Q
theorem ag_tup {b : Bool} {es : List Expr} {k : Nat} {g : MGs} {ws : List Nat} {n : Nat} (hc : X.calm = true) (h : AGs X es g ws)
    (hn : (assignEach es X.env).length = n := by rfl) (hst : (assignEach es X.env).findIdx? (·.1) = none := by rfl) : AG X b (.Tuple es k pos) (gT n g) ws := by
  obtain ⟨_, p, s⟩ := h
  refine ⟨_, pg_tup hc p hn hst, fun P0 F en σ H v d Q Qc rs rp q k => ?_⟩
  unfold gT tupD at q
  split at q
  · obtain ⟨q1, q2⟩ := q
    obtain ⟨a, vs, rfl, h1, h2⟩ := rl_tup rp
    exact ⟨_, _, rfl, sqT_mono rs.same h1, by rw [h2.length]; exact q1, s P0 F en σ H _ _ _ _ rs h2 q2 k⟩
  · exact q.elim
def sAsg (m : ME) (g : MG) : MS := fun A en => m A.R en fun d e1 => g d e1 A.nx
theorem as_asg {tg : Expr} {g : MG} {ws : List Nat} (he : AE X W e me) (hg : AG X false tg g ws) (hs : swapsWithSole [tg] e pos.line X.env = pure false := by rfl) (hw : swappedStores [tg] e X.env = pure none := by rfl)
    (h1 : (assignEach [tg] X.env).map (·.2) = [assign tg X.env] := by rfl) : AS X W (.Assign [tg] e pos) (sAsg me g) := by
  obtain ⟨_, p, s⟩ := he
  obtain ⟨_, p', s'⟩ := hg
  refine ⟨_, ps_asg p p' hs hw h1, fun P0 F en σ H A E rs w hm => s P0 F en σ H _ _ _ rs w.R hm fun F' en' v d H' s1 r rp q => ?_⟩
  exact s' P0 F' en' σ H' v d _ _ r rp q fun F2 e2 σ2 H2 s2 r2 _ _ q2 => w.nx F2 e2 σ2 H2 (s1.trans s2) r2 q2
abbrev MI := RX → En → (List D → En → Prop) → Prop
def ItOk (b : Bool) (K : PySem.W.Frag) (F : Hp) (J : It) (ds : List D) : Prop := ∀ H : Hp, Same F H →
  (∀ (i : Nat) (d : D), ds[i]? = some d → J.go i H ∧ ∀ (x : V) (H' : Hp), J.yld i H x H' → (H' = H ∧ Rp K F x d) ∨ (b = true ∧ ∃ (T : Addr) (vs : List V) (es : List D), H T = none ∧ H' = upd H T (.tup vs) ∧ x = .ref T ∧ Rps K F vs es ∧ d = .tup es)) ∧
  J.stop ds.length H
theorem ItOk.mono {b : Bool} {K : PySem.W.Frag} {F F' : Hp} {J : It} {ds : List D} (h : ItOk b K F J ds) (s : Same F F') : ItOk b K F' J ds := fun H sH =>
  ⟨fun i d e => ⟨((h H (s.trans sH)).1 i d e).1, fun x H' y => (((h H (s.trans sH)).1 i d e).2 x H' y).imp (fun z => ⟨z.1, z.2.mono s⟩) fun ⟨z, T, vs, es, a, b, c, r, q⟩ => ⟨z, T, vs, es, a, b, c, r.mono s, q⟩⟩, (h H (s.trans sH)).2⟩
def SimI (X : Cx) (W : WX) (b : Bool) (t : TI) (m : MI) : Prop := ∀ (P0 F : Hp) (en : En) (σ : St) (H : Hp) (R : RX) (Q : List D → En → Prop) (Qc : It → Hp → Prop), RS X.K P0 F en σ H → Rais X.K W P0 F R → m R en Q →
  (∀ (F' : Hp) (en' : En) (J : It) (ds : List D) (H' : Hp), Same F F' → RS X.K P0 F' en' σ H' → ItOk b X.K F' J ds → Q ds en' → Qc J H') → t σ H Qc
def AI (X : Cx) (W : WX) (b : Bool) (tg it : Expr) (m : MI) : Prop := ∃ t, PI X tg it t ∧ SimI X W b t m
theorem it_list {K : PySem.W.Frag} {F : Hp} {a : Addr} {vs : List V} {ds : List D} (h : F a = some (.lst vs)) (r : Rps K F vs ds) : ItOk false K F (Itl K a) ds := fun H sH => by
  have hq : SqL K H a vs := SqL.of (sH _ _ h)
  refine ⟨fun i d e => ?_, ⟨vs, hq, by rw [r.length]; exact Nat.le_refl _⟩⟩
  obtain ⟨v, h1, h2⟩ := r.getD e
  exact ⟨⟨vs, v, hq, h1⟩, fun x H' ⟨e1, e2⟩ => .inl ⟨e1, by
    have := e2 vs hq
    rw [h1] at this; cases this
    exact h2⟩⟩
theorem it_tup {K : PySem.W.Frag} {F : Hp} {a : Addr} {vs : List V} {ds : List D} (h : SqT K F a vs) (r : Rps K F vs ds) : ItOk false K F (Itt K a) ds := fun H sH => by
  have hq : SqT K H a vs := sqT_mono sH h
  refine ⟨fun i d e => ?_, ⟨vs, hq, by rw [r.length]; exact Nat.le_refl _⟩⟩
  obtain ⟨v, h1, h2⟩ := r.getD e
  exact ⟨⟨vs, v, hq, h1⟩, fun x H' ⟨e1, e2⟩ => .inl ⟨e1, by
    have := e2 vs hq
    rw [h1] at this; cases this
    exact h2⟩⟩
theorem it_scr {K : PySem.W.Frag} {F : Hp} {a : Addr} {ns : List Int} (h : SqL K F a (ns.map V.int)) : ItOk false K F (Itl K a) (ns.map D.int) := fun H sH => by
  have hq : SqL K H a (ns.map V.int) := sH.seq h
  refine ⟨fun i d e => ?_, ⟨_, hq, by simp⟩⟩
  rw [List.getElem?_map] at e
  cases e1 : ns[i]? with
  | none => rw [e1] at e; cases e
  | some n =>
    rw [e1] at e; cases e
    exact ⟨⟨_, .int n, hq, by rw [List.getElem?_map, e1]; rfl⟩, fun x H' ⟨e2, e3⟩ => .inl ⟨e2, by
      have := e3 _ hq
      rw [List.getElem?_map, e1] at this; cases this
      exact .int n⟩⟩
/-- lo, lo + 1, .. n of them -/
def rngL (lo : Int) (n : Nat) : List Int := (List.range n).map fun (i : Nat) => lo + (i : Int)
theorem it_rng {K : PySem.W.Frag} {F : Hp} {lo : Int} {n : Nat} : ItOk false K F (Itr lo n) ((rngL lo n).map D.int) := fun H _ => by
  refine ⟨fun i d e => ?_, by
    have hi' : n ≤ ((rngL lo n).map D.int).length := by simp [rngL]
    exact hi'⟩
  have hi : i < n := by
    have := (List.getElem?_eq_some_iff.mp e).1
    simpa [rngL] using this
  have ed : d = .int (lo + (i : Int)) := by
    unfold rngL at e
    rw [List.map_map, List.getElem?_map, List.getElem?_range hi] at e
    cases e; rfl
  subst ed
  exact ⟨hi, fun x H' ⟨e1, e2⟩ => .inl ⟨e1, by subst e2; exact .int _⟩⟩
def mSeq (m : ME) : MI := fun R en Q => m R en fun d e1 => match d with
  | .tup ds => Q ds e1
  | .lst ds => Q ds e1
  | .scr ns => Q (ns.map D.int) e1
  | _ => False
def mR1 (ma : MA) : MI := fun R en Q => ma R en fun ds e1 => i1 ds fun j => (-(2 ^ 62) ≤ j ∧ j < 2 ^ 62) ∧ Q ((rngL 0 j.toNat).map D.int) e1
def mR2 (ma : MA) : MI := fun R en Q => ma R en fun ds e1 => i2 ds fun i j => (-(2 ^ 62) ≤ i ∧ i < 2 ^ 62 ∧ -(2 ^ 62) ≤ j ∧ j < 2 ^ 62) ∧ Q ((rngL i (j - i).toNat).map D.int) e1
theorem ai_r1 {tg a : Expr} {ma : MA} {p pos : Pos} (hg : Gl X "range") (hm : X.mg "range" = none) (ha : AA X W [a] ma) (hs : starEach [a] X.env = [(false, eval a X.env)] := by rfl) : AI X W false tg (.Call (.Name "range" p) [a] [] pos) (mR1 ma) := by
  obtain ⟨_, p, s⟩ := ha
  refine ⟨_, pi_range1 hg hm p hs, fun P0 F en σ H R Q Qc rs rx hm k => s P0 F en σ H R _ _ rs rx hm fun F1 e1 vs ds H1 s1 r1 rp q => ?_⟩
  obtain ⟨j, e, q⟩ := i1_some q
  subst e
  obtain rfl : vs = [V.int j] := Rps.ints_of (ns := [j]) rp
  exact ⟨j, rfl, q.1.1, q.1.2, k F1 e1 _ _ H1 s1 r1 it_rng q.2⟩
theorem ai_r2 {tg a b : Expr} {ma : MA} {p pos : Pos} (hg : Gl X "range") (hm : X.mg "range" = none) (ha : AA X W [a, b] ma) (hs : starEach [a, b] X.env = [(false, eval a X.env), (false, eval b X.env)] := by rfl) (hs2 : starEach [b] X.env = [(false, eval b X.env)] := by rfl) :
    AI X W false tg (.Call (.Name "range" p) [a, b] [] pos) (mR2 ma) := by
  obtain ⟨_, p, s⟩ := ha
  refine ⟨_, pi_range2 hg hm p hs hs2, fun P0 F en σ H R Q Qc rs rx hm k => s P0 F en σ H R _ _ rs rx hm fun F1 e1 vs ds H1 s1 r1 rp q => ?_⟩
  obtain ⟨i, j, e, q⟩ := i2_some q
  subst e
  obtain rfl : vs = [V.int i, V.int j] := Rps.ints_of (ns := [i, j]) rp
  exact ⟨i, j, rfl, q.1, k F1 e1 _ _ H1 s1 r1 it_rng q.2⟩
def forR (g : MG) (body : MS) (A : AEnds) : List D → En → Prop
  | [], en => A.nx en
  | d :: ds, en => g d en fun e2 => body { A with nx := forR g body A ds, ct := forR g body A ds, bk := A.nx } e2
def sFor (it : MI) (g : MG) (body : MS) : MS := fun A en => it A.R en fun ds e1 => forR g body A ds e1
/-- a turn of what is walked, in the state -/
theorem ItOk.turn {b : Bool} {K : PySem.W.Frag} {P0 F : Hp} {en : En} {σ : St} {H H' : Hp} {J : It} {ds : List D} {i : Nat} {d : D} {x : V} (h : ItOk b K F J ds) (rs : RS K P0 F en σ H) (e : ds[i]? = some d) (y : J.yld i H x H') :
    ∃ F', Same F F' ∧ RS K P0 F' en σ H' ∧ rl b K F' x d := by
  rcases ((h H rs.same).1 i d e).2 x H' y with ⟨rfl, r⟩ | ⟨rfl, T, vs, es, hT, rfl, rfl, r, rfl⟩
  · exact ⟨F, Same.refl F, rs, rl_of r⟩
  · have s2 : Same F (upd F T (.tup vs)) := same_upd (rs.same.free hT)
    exact ⟨_, s2, rs.alloc hT, .inr ⟨T, vs, es, rfl, rfl, SqT.of upd_same, r.mono s2⟩⟩
theorem as_for {b : Bool} {tg iter : Expr} {body : List Stmt} {mi : MI} {g : MG} {ws : List Nat} (hp : PassesOwn (model X.prog X.w) X.A X.env X.xe) (hc : X.calm = true) (hi : AI X W b tg iter mi) (hg : AG X b tg g ws) (hb : ASs X W body m)
    (hs : ∀ x, foldedSetIterable iter X.env x = pure x := by intro _; rfl) : AS X W (.For tg iter body [] pos) (sFor mi g m) := by
  obtain ⟨_, pi, si⟩ := hi
  obtain ⟨_, pg, sg⟩ := hg
  obtain ⟨_, pb, sb⟩ := hb
  refine ⟨_, ps_for hp hc pi pg pb hs, fun P0 F en σ H A E rs w hm => si P0 F en σ H _ _ _ rs w.R hm fun F1 e1 J ds H1 s1 rs1 hJ q => ?_⟩
  refine ⟨fun i n σ H => ∃ F2 e2, Same F1 F2 ∧ RS X.K P0 F2 e2 σ H ∧ n = ds.length - i ∧ i ≤ ds.length ∧ forR g m A (ds.drop i) e2, ⟨ds.length, F1, e1, Same.refl F1, rs1, by simp, Nat.zero_le _, q⟩, ?_⟩
  rintro i n σ2 H2 ⟨F2, e2, s2, rs2, rfl, hi, q2⟩
  by_cases hlt : i < ds.length
  · refine .inr ⟨(((hJ.mono s2) H2 rs2.same).1 i ds[i] (by simp [hlt])).1, fun σ' H' => ∃ F3 e3, Same F1 F3 ∧ RS X.K P0 F3 e3 σ' H' ∧ forR g m A (ds.drop (i + 1)) e3, ?_, ?_⟩
    · rintro σ' H' ⟨F3, e3, s3, rs3, q3⟩
      exact ⟨ds.length - (i + 1), by omega, F3, e3, s3, rs3, rfl, hlt, q3⟩
    · intro x H3 y
      obtain ⟨F3, s3, rs3, rp⟩ := (hJ.mono s2).turn rs2 (List.getElem?_eq_getElem hlt) y
      rw [List.drop_eq_getElem_cons hlt] at q2
      refine sg P0 F3 e2 σ2 H3 x ds[i] _ _ rs3 rp q2 fun F4 e4 σ4 H4 s4 rs4 _ _ q4 => ?_
      refine sb P0 F4 e4 σ4 H4 { A with nx := forR g m A (ds.drop (i + 1)), ct := forR g m A (ds.drop (i + 1)), bk := A.nx } _ rs4 ⟨fun F5 e5 σ5 H5 s5 rs5 q5 => ?_, fun F5 e5 σ5 H5 v d s5 => w.rt F5 e5 σ5 H5 v d ((((s1.trans s2).trans s3).trans s4).trans s5), fun F5 e5 σ5 H5 s5 => w.nx F5 e5 σ5 H5 ((((s1.trans s2).trans s3).trans s4).trans s5), fun F5 e5 σ5 H5 s5 rs5 q5 => ?_, w.R.mono (((s1.trans s2).trans s3).trans s4)⟩ q4
      · exact ⟨F5, e5, ((s2.trans s3).trans s4).trans s5, rs5, q5⟩
      · exact ⟨F5, e5, ((s2.trans s3).trans s4).trans s5, rs5, q5⟩
  · have e : i = ds.length := by omega
    subst e
    rw [List.drop_length] at q2
    exact .inl ⟨((hJ.mono s2) H2 rs2.same).2, w.nx F2 e2 σ2 H2 (s1.trans s2) rs2 q2⟩
/-- an invariant by what is left to do -/
def sWhile (c : MT) (body : MS) : MS := fun A en => ∃ I : Nat → En → Prop, (∃ n, I n en) ∧ ∀ n e, I n e → c A.R e fun b e1 => if b = true then
  body { A with nx := fun e2 => ∃ k, k < n ∧ I k e2, ct := fun e2 => ∃ k, k < n ∧ I k e2, bk := A.nx } e1 else A.nx e1
theorem as_while {c : Expr} {body : List Stmt} (hp : PassesOwn (model X.prog X.w) X.A X.env X.xe) (hc : AT X W c mt) (hb : ASs X W body m) : AS X W (.While c body [] pos) (sWhile mt m) := by
  obtain ⟨_, pc, sc⟩ := hc
  obtain ⟨_, pb, sb⟩ := hb
  refine ⟨_, ps_while hp pc pb, fun P0 F en σ H A E rs w hm => ?_⟩
  obtain ⟨I, ⟨n0, h0⟩, turn⟩ := hm
  refine ⟨fun n σ H => ∃ F1 e1, Same F F1 ∧ RS X.K P0 F1 e1 σ H ∧ I n e1, ⟨n0, F, en, Same.refl F, rs, h0⟩, ?_⟩
  rintro n σ1 H1 ⟨F1, e1, s1, rs1, i1⟩
  refine sc P0 F1 e1 σ1 H1 _ _ _ rs1 (w.R.mono s1) (turn n e1 i1) fun F2 e2 b H2 s2 rs2 q => ?_
  cases b with
  | false =>
    rw [if_neg Bool.false_ne_true] at q ⊢
    exact w.nx F2 e2 σ1 H2 (s1.trans s2) rs2 q
  | true =>
    rw [if_pos rfl] at q ⊢
    refine ⟨fun σ' H' => ∃ k, k < n ∧ ∃ F3 e3, Same F F3 ∧ RS X.K P0 F3 e3 σ' H' ∧ I k e3, fun σ' H' ⟨k, hk, h⟩ => ⟨k, hk, h⟩, ?_⟩
    refine sb P0 F2 e2 σ1 H2 { A with nx := fun e2 => ∃ k, k < n ∧ I k e2, ct := fun e2 => ∃ k, k < n ∧ I k e2, bk := A.nx } _ rs2 ⟨fun F5 e5 σ5 H5 s5 rs5 ⟨k, hk, i5⟩ => ?_, fun F5 e5 σ5 H5 v d s5 => w.rt F5 e5 σ5 H5 v d ((s1.trans s2).trans s5), fun F5 e5 σ5 H5 s5 => w.nx F5 e5 σ5 H5 ((s1.trans s2).trans s5), fun F5 e5 σ5 H5 s5 rs5 ⟨k, hk, i5⟩ => ?_, w.R.mono (s1.trans s2)⟩ q
    · exact ⟨k, hk, F5, e5, (s1.trans s2).trans s5, rs5, i5⟩
    · exact ⟨k, hk, F5, e5, (s1.trans s2).trans s5, rs5, i5⟩
abbrev ASp := List D → Sto → (D → Sto → Prop) → (Exn → Sto → Prop) → Prop
def ASp.Mono (sp : ASp) : Prop := ∀ (ds : List D) (M : Sto) (Q Q' : D → Sto → Prop) (E E' : Exn → Sto → Prop), (∀ d M', Q d M' → Q' d M') → (∀ x M', E x M' → E' x M') → sp ds M Q E → sp ds M Q' E'
structure Fin (K : PySem.W.Frag) (F : Hp) (M : Sto) (H F' : Hp) (M' : Sto) (H' : Hp) : Prop where
  s1 : Same F F'
  s2 : Same F' H'
  so : SOk K F' M' H'
  k : ∀ q o, H q = some o → F q = none → M q = none → H' q = some o ∧ F' q = none ∧ M' q = none
def conc (K : PySem.W.Frag) (sp : ASp) : Sp := fun vs H Q E => ∃ (F : Hp) (M : Sto) (ds : List D), Same F H ∧ SOk K F M H ∧ Rps K F vs ds ∧ sp ds M
  (fun d M' => ∀ (F' : Hp) (v : V) (H' : Hp), Fin K F M H F' M' H' → Rp K F' v d → Q v H')
  (fun x M' => ∀ (F' : Hp) (cls : Value) (dd : Option Addr) (H' : Hp), Fin K F M H F' M' H' → XOk K F' x cls dd → E cls dd H')
theorem RS.fin {K : PySem.W.Frag} {P0 F F' H H' : Hp} {e : En} {σ : St} {M' : Sto} (R : RS K P0 F e σ H) (f : Fin K F e.M H F' M' H') : RS K P0 F' { e with M := M' } σ H' := R.call f.s1 f.s2 f.so f.k
def mCall (sp : ASp) (ma : MA) : ME := fun R en Q => ma R en fun ds e1 => sp ds e1.M (fun d M' => Q d { e1 with M := M' }) (fun x M' => R x { e1 with M := M' })
theorem sim_call {sp : ASp} {ma : MA} {t : TA} (mono : sp.Mono) (ha : SimA X W t ma) : SimE X W (tCallSD (conc X.K sp) [] (WE W) t) (mCall sp ma) := fun P0 F en σ H R Q Qc rs rx hm k =>
  ha P0 F en σ H R _ _ rs rx hm fun F1 e1 vs ds H1 s1 r1 rp q => by
    rw [List.append_nil]
    refine ⟨F1, e1.M, ds, r1.same, r1.sto, rp, mono _ _ _ _ _ _ (fun d M' q' F' v H' f rv => ?_) (fun x M' q' F' cls dd H' f xo => ?_) q⟩
    · exact k F' _ v d H' (s1.trans f.s1) (r1.fin f) rv q'
    · exact rx F' _ σ H' x cls dd (s1.trans f.s1) (r1.fin f) xo q'
structure FnG (P : Program) (w : World) (K : PySem.W.Frag) (mg : Str → Option Value) (base : Heap) (k : Nat) (f : Addr) (fd : FuncData) (ps : List Str) (sp : Sp) : Prop where
  len : ∀ (vs : List V) (H : Hp) (Q : VK) (E : XK), sp vs H Q E → ps.length = vs.length
  go : ∀ (A : Around), A.guards = some [] → Room k A → ∀ (out : List Env) (s : Shared) (H : Hp), Env0 P w K mg base A out s H → ∀ (args : Args) (us : List Value) (vs : List V), BindsTo s fd args (ps.zip us) → Vals vs us →
    ∀ (Q : VK) (E : XK), sp vs H Q E → codeAny (model P w) A (.call (.ref f) args) (CR (L2N.CX P w) out P w H s Q E) s
theorem FnG.mono {P : Program} {w : World} {K : PySem.W.Frag} {mg : Str → Option Value} {base : Heap} {j k : Nat} {f : Addr} {fd : FuncData} {ps : List Str} {sp : Sp} (G : FnG P w K mg base j f fd ps sp) (h : j ≤ k) : FnG P w K mg base k f fd ps sp :=
  ⟨G.len, fun A hg hr => G.go A hg (hr.mono h)⟩
theorem FnG.imp {P : Program} {w : World} {K : PySem.W.Frag} {mg : Str → Option Value} {base : Heap} {k : Nat} {f : Addr} {fd : FuncData} {ps : List Str} {sp sp' : Sp} (G : FnG P w K mg base k f fd ps sp)
    (h : ∀ vs H Q E, sp' vs H Q E → sp vs H Q E) : FnG P w K mg base k f fd ps sp' :=
  ⟨fun vs H Q E q => G.len vs H Q E (h _ _ _ _ q), fun A hg hr out s H e0 args us vs hb hv Q E q => G.go A hg hr out s H e0 args us vs hb hv Q E (h _ _ _ _ q)⟩
theorem go_at {k : Nat} {f : Addr} {fd : FuncData} {ps : List Str} {sp : Sp} {E : St → XK} {pins : List (Addr × Obj)} {σ : St} {H : Hp} {s : Shared} {Q : VK} {us ds : List Value} {vs dvs : List V}
    (G : FnG X.prog X.w X.K X.mg X.base k f fd ps sp) (hr : Room k X.A) (hgd : X.A.guards = some []) (hb : Binds X.K fd ps ds) (hd : Vals dvs ds) (hx : PassesAt (L2N.CX X.prog X.w) X σ (E σ))
    (I : Inv X pins σ H s) (r : Vals vs us) (h : sp (vs ++ dvs) H Q (E σ)) : wpAny (model X.prog X.w) X.A (call (.ref f) us) (EP X pins σ Q) X.xe s := by
  have rr : Vals (vs ++ dvs) (us ++ ds) := r.append hd
  have el : (us ++ ds).length = ps.length := rr.length.symm.trans (G.len _ _ _ _ h).symm
  have run := G.go X.A hgd hr X.stack s H I.env0 ⟨us, []⟩ _ _ (hb s us I.kIn el) rr Q (E σ) h
  refine wpAny_call (codeAny_mono run ?_)
  intro res s2 q
  match res, q with
  | .error ex, q => exact hx pins H s ex s2 I q
  | .ok (.ret u), q => exact I.after q
theorem pe_callG {k : Nat} {f : Addr} {fd : FuncData} {ps : List Str} {sp : Sp} {E : St → XK} {x : Str} {p : Pos} {es : List Expr} {t : TA} (G : FnG X.prog X.w X.K X.mg X.base k f fd ps sp) (hr : Room k X.A) (hgd : X.A.guards = some [])
    (hg : Gl X x) (hm : X.mg x = some (.ref f)) (hk : PySem.W.keepIn X.K (.ref f) = true) (hb : Binds X.K fd ps []) (hx : ∀ σ, PassesAt (L2N.CX X.prog X.w) X σ (E σ)) (ha : PA X (e :: es) t) (hdb : (x == ("__debug__" : Str)) = false)
    (he : starEach (e :: es) X.env = (false, eval e X.env) :: starEach es X.env) (hpl : (backTo pos (starEach es X.env)).any (·.1) = false) : PE X (.Call (.Name x p) (e :: es) [] pos) (tCallSD sp [] E t) where
  run := by
    intro pins s σ H Q I h
    have args := ha.run pos pins s σ H _ I h
    refine wpAny_Call_Name_kw (ld_glob I hg hm (PySem.W.callWith_K (h₀ := X.base) I.ok.mod.kin hk (thn args ?_) he hpl) hdb)
    rintro us s1 ⟨vs, H1, I1, rv, q⟩
    exact ⟨I1.kIn, go_at G hr hgd hb .nil (hx σ) I1 rv q⟩
theorem ae_call {sp : ASp} {ma : MA} {k : Nat} {f : Addr} {fd : FuncData} {ps : List Str} {x : Str} {p : Pos} {es : List Expr} (G : FnG X.prog X.w X.K X.mg X.base k f fd ps (conc X.K sp)) (mono : sp.Mono) (hr : Room k X.A) (hgd : X.A.guards = some []) (hg : Gl X x) (hm : X.mg x = some (.ref f))
    (hk : PySem.W.keepIn X.K (.ref f) = true) (hb : Binds X.K fd ps []) (tk : Takes X W) (ha : AA X W (e :: es) ma) (hdb : (x == ("__debug__" : Str)) = false := by decide)
    (he : starEach (e :: es) X.env = (false, eval e X.env) :: starEach es X.env := by rfl) (hpl : (backTo pos (starEach es X.env)).any (·.1) = false := by rfl) : AE X W (.Call (.Name x p) (e :: es) [] pos) (mCall sp ma) := by
  obtain ⟨_, pa, sa⟩ := ha
  exact ⟨_, pe_callG G hr hgd hg hm hk hb (fun σ => passAt tk σ) pa hdb he hpl, sim_call mono sa⟩
def prv (F : Hp) (M : Sto) (H : Hp) : Hp := fun p => match F p, M p with
  | none, none => H p
  | _, _ => none
theorem prv_some {F : Hp} {M : Sto} {H : Hp} {p : Addr} {o : HO} (h : prv F M H p = some o) : H p = some o ∧ F p = none ∧ M p = none := by
  unfold prv at h
  split at h
  · exact ⟨h, by assumption, by assumption⟩
  · cases h
theorem prv_of {F : Hp} {M : Sto} {H : Hp} {p : Addr} {o : HO} (h : H p = some o) (hf : F p = none) (hm : M p = none) : prv F M H p = some o := by
  unfold prv
  rw [hf, hm]
  exact h
def startA (n : Nat) (ds : List D) : List Sl := ds.map Sl.v ++ List.replicate (n - ds.length) .un
theorem rs_start {K : PySem.W.Frag} {F : Hp} {M : Sto} {H : Hp} {vs : List V} {ds : List D} {N : List Str} (s : Same F H) (so : SOk K F M H) (r : Rps K F vs ds) : RS K (prv F M H) F ⟨startA N.length ds, M⟩ (L2.start N vs) H where
  same := s
  prv := fun p o h => prv_some h
  len := by simp [startA, L2.start, r.length]
  val := fun i d h => by
    unfold startA at h
    unfold L2.start
    by_cases hi : i < ds.length
    · rw [List.getElem?_append_left (by simpa using hi), List.getElem?_map] at h
      rw [List.getElem?_append_left (by simpa [r.length] using hi), List.getElem?_map]
      cases e : ds[i]? with
      | none => rw [e] at h; cases h
      | some d' =>
        rw [e] at h; cases h
        obtain ⟨v, h1, h2⟩ := r.getD e
        exact ⟨v, by rw [h1]; rfl, h2⟩
    · rw [List.getElem?_append_right (by simpa using Nat.le_of_not_lt hi), List.getElem?_replicate] at h
      split at h <;> cases h
  own := fun i s h ho => by
    exfalso
    unfold startA at h
    by_cases hi : i < ds.length
    · rw [List.getElem?_append_left (by simpa using hi), List.getElem?_map] at h
      cases e : ds[i]? with
      | none => rw [e] at h; cases h
      | some d' => rw [e] at h; cases h; cases ho
    · rw [List.getElem?_append_right (by simpa using Nat.le_of_not_lt hi), List.getElem?_replicate] at h
      split at h
      · cases h; cases ho
      · cases h
  apart := fun i j p s s' _ h _ ho => by
    exfalso
    unfold startA at h
    by_cases hi : i < ds.length
    · rw [List.getElem?_append_left (by simpa using hi), List.getElem?_map] at h
      cases e : ds[i]? with
      | none => rw [e] at h; cases h
      | some d' => rw [e] at h; cases h; cases ho
    · rw [List.getElem?_append_right (by simpa using Nat.le_of_not_lt hi), List.getElem?_replicate] at h
      split at h
      · cases h; cases ho
      · cases h
  sto := so
def defEnds (Q : D → Sto → Prop) (E : Exn → Sto → Prop) : AEnds := { nx := fun en => Q .non en.M, rt := fun d en => Q d en.M, R := fun x en => E x en.M }
theorem wk_def {K : PySem.W.Frag} {F : Hp} {M : Sto} {H : Hp} {Qd : D → Sto → Prop} {Ed : Exn → Sto → Prop} {Q : VK} {E : XK}
    (hQ : ∀ d M', Qd d M' → ∀ (F' : Hp) (v : V) (H' : Hp), Fin K F M H F' M' H' → Rp K F' v d → Q v H')
    (hE : ∀ x M', Ed x M' → ∀ (F' : Hp) (cls : Value) (dd : Option Addr) (H' : Hp), Fin K F M H F' M' H' → XOk K F' x cls dd → E cls dd H') :
    Wk K (fun cls dd _ H' => E cls dd H') (prv F M H) F (defEnds Qd Ed) { nx := fun _ H' => Q .non H', rt := Q } := by
  have fin : ∀ (F' : Hp) (en : En) (σ : St) (H' : Hp), Same F F' → RS K (prv F M H) F' en σ H' → Fin K F M H F' en.M H' := fun F' en σ H' s r => ⟨s, r.same, r.sto, fun q o h1 h2 h3 => r.prv q o (prv_of h1 h2 h3)⟩
  exact ⟨fun F' en σ H' s r q => hQ _ _ q F' .non H' (fin F' en σ H' s r) .non, fun F' en σ H' v d s r rp q => hQ _ _ q F' v H' (fin F' en σ H' s r) rp, fun _ _ _ _ _ _ q => q.elim, fun _ _ _ _ _ _ q => q.elim,
    fun F' en σ H' x cls dd s r xo q => hE _ _ q F' cls dd H' (fin F' en σ H' s r) xo⟩
end
section
variable {P : Program} {w : World} {K : PySem.W.Frag} {mg : Str → Option Value} {base : Heap}
abbrev FnD (K : PySem.W.Frag) (x qual : Str) (st : Stmt) (dvs : List V) (kws : List (Str × V)) (f : Addr) (fd : FuncData) : Prop := FunD K x qual (defArgs st) (defBody st) (defScope st) dvs kws f fd
/-- the rule for a def by its body's reading -/
theorem fng_of {x qual : Str} {st : Stmt} {dvs : List V} {kws : List (Str × V)} {f : Addr} {fd : FuncData} {N ps : List Str} {k : Nat} {sp : Sp} (G : FnD K x qual st dvs kws f fd) (S : FnScope N ps (defScope st)) (len : ∀ (vs : List V) (H : Hp) (Q : VK) (E : XK), sp vs H Q E → ps.length = vs.length)
    (body : ∀ (cdv : Value) (A : Around) (out : List Env) (s : Shared) (H : Hp) (E : XK), A.guards = some [] → Room k (A.deeper (envOfC qual (defScope st) s.heap.objs.size f cdv)) → ∀ (vs : List V) (Q : VK), sp vs H Q E →
      ∃ t, PSs (cxOf (L2N.CX P w) P w K mg base N qual (defScope st) f cdv A out s H E) (defBody st) t ∧ t { nx := fun _ H' => Q .non H', rt := Q } (L2.start N vs) H) : FnG P w K mg base (k + 1) f fd ps sp where
  len := len
  go := by
    intro A hgd hr out s H e0 args us vs hb rv Q E hsp
    obtain ⟨oc, od, dV, kV, doc, pm, an, cdv, ct, osl, rfl, lk, hcd, _, _⟩ := G.ex
    have keep : ∀ b o, base.get? b = some o → s.heap.get? b = some o := fun b o h => (e0.bs b o h).1
    have kin := e0.mod.kin.keeps keep
    have el := (len _ _ _ _ hsp).symm
    have kinds : ∀ y ∈ ps.zip us, (defScope st).names.lookup y.1 = some .local ∨ ((defScope st).names.lookup y.1 = some .cell ∧ ((cellsFrom (s.heap.objs.size + 1) (defScope st).names []).lookup y.1).isSome = true) := by
      rintro ⟨nm, _⟩ hy
      exact (S.par nm (List.of_mem_zip hy).1).imp id fun q => ⟨q, PySem.W.cellsFrom_some _ _ _ (.inl q)⟩
    refine codeAny_call_function hr.depth (kin _ _ lk) rfl S.co S.gen rfl (PySem.W.codeRec_of kin hcd) (hb _ _ _ _ (wpAny_newFunctionEnv_cells S.kind kinds ?_))
    intro env he s1 ic
    subst he
    refine ⟨(e0.mod.nolimit.keeps keep).keeps ic.toInCall.keep, codeAny_func ?_⟩
    obtain ⟨t, pt, ht⟩ := body cdv A out s H E hgd (hr.deeper _) vs Q hsp
    have I0 := inv_start (CX := L2N.CX P w) (E := E) S hr.hd e0 el rv ic
    refine wpAny_mono (pt.run [] s1 _ H _ I0 ht) (fun fl s2 hs => ?_) fun _ _ hs => hs
    match fl, hs with
    | .ret u, ⟨v, _, H2, J, ru, q⟩ => exact ⟨v, H2, J.os, J.bare, J.base, J.hok, ru, q⟩
    | .next, ⟨_, H2, J, q⟩ => exact ⟨V.non, H2, J.os, J.bare, J.base, J.hok, rfl, q⟩
    | .brk, ⟨_, _, _, q⟩ => exact q.elim
    | .cont, ⟨_, _, _, q⟩ => exact q.elim
abbrev W0 : WX := fun _ _ _ _ => False
/-- a def that raises nothing -/
theorem def_ok {x qual : Str} {st : Stmt} {dvs : List V} {kws : List (Str × V)} {f : Addr} {fd : FuncData} {N ps : List Str} {k : Nat} {sp : ASp} {m : MS} (G : FnD K x qual st dvs kws f fd) (S : FnScope N ps (defScope st)) (len : ∀ ds M Q E, sp ds M Q E → ds.length = ps.length)
    (body : ∀ (cdv : Value) (A : Around) (outer : List Env) (s : Shared) (H : Hp) (E : XK), A.guards = some [] → Room k (A.deeper (envOfC qual (defScope st) s.heap.objs.size f cdv)) →
      Takes (cxOf (L2N.CX P w) P w K mg base N qual (defScope st) f cdv A outer s H E).nox W0 →
      PassesOwn (model P w) (cxOf (L2N.CX P w) P w K mg base N qual (defScope st) f cdv A outer s H E).A (cxOf (L2N.CX P w) P w K mg base N qual (defScope st) f cdv A outer s H E).env (fun _ _ => False) →
      ASs (cxOf (L2N.CX P w) P w K mg base N qual (defScope st) f cdv A outer s H E).nox W0 (defBody st) m)
    (spec : ∀ ds M Q E, sp ds M Q E → m (defEnds Q fun _ _ => False) ⟨startA N.length ds, M⟩) : FnG P w K mg base (k + 1) f fd ps (conc K sp) := by
  refine fng_of G S (fun vs H Q E h => ?_) (fun cdv A outer s H E hgd hr vs Q h => ?_)
  · obtain ⟨F, M, ds, _, _, r, h⟩ := h
    rw [r.length]
    exact (len _ _ _ _ h).symm
  · obtain ⟨F, M, ds, s1, so, r, h⟩ := h
    obtain ⟨t, p, sm⟩ := body cdv A outer s H E hgd hr takes0 PassesOwn.never
    exact ⟨t, p.nox, sm (prv F M H) F _ _ H _ _ (rs_start s1 so r) (wk_def (E := fun _ _ _ => False) (fun _ _ q => q) (fun _ _ q => q.elim)) (spec ds M _ _ h)⟩
end
end LP
namespace LP
open PySem PySem.Spec L2
open PyProof.Rows hiding St
def BinS (X : Cx) (op : Operator) (f : D → D → (D → Prop) → Prop) : Prop := ∃ r, OpR X (binaryOp op) r ∧ OpS X r f
def CmpS (X : Cx) (op : CmpOp) (f : D → D → (D → Prop) → Prop) : Prop := ∃ r, OpR X (compareOp op) r ∧ OpS X r f
section
variable {X : Cx} {W : WX} {r r' : R2} {f f' g : D → D → (D → Prop) → Prop} {K : PySem.W.Frag} {F H : Hp} {v : V}
theorem OpS.imp (h : OpS X r f) (i : ∀ dx dy k, g dx dy k → f dx dy k) : OpS X r g := fun P0 F en σ H x y dx dy k Qc rs vx vy q => h P0 F en σ H x y dx dy k Qc rs vx vy (i dx dy k q)
theorem OpS.or (h : OpS X r f) (h' : OpS X r' f') : OpS X (fun x y H Q => r x y H Q ∨ r' x y H Q) (fun dx dy k => f dx dy k ∨ f' dx dy k) := fun P0 F en σ H x y dx dy k Qc rs vx vy q kk => by
  rcases q with q | q
  · exact .inl (h P0 F en σ H x y dx dy k Qc rs vx vy q kk)
  · exact .inr (h' P0 F en σ H x y dx dy k Qc rs vx vy q kk)
theorem BinS.imp {op : Operator} (h : BinS X op f) (i : ∀ dx dy k, g dx dy k → f dx dy k) : BinS X op g := let ⟨r, a, b⟩ := h; ⟨r, a, b.imp i⟩
theorem BinS.or {op : Operator} (h : BinS X op f) (h' : BinS X op f') : BinS X op (fun dx dy k => f dx dy k ∨ f' dx dy k) := let ⟨_, a, b⟩ := h; let ⟨_, a', b'⟩ := h'; ⟨_, a.or a', b.or b'⟩
theorem CmpS.imp {op : CmpOp} (h : CmpS X op f) (i : ∀ dx dy k, g dx dy k → f dx dy k) : CmpS X op g := let ⟨r, a, b⟩ := h; ⟨r, a, b.imp i⟩
theorem CmpS.or {op : CmpOp} (h : CmpS X op f) (h' : CmpS X op f') : CmpS X op (fun dx dy k => f dx dy k ∨ f' dx dy k) := let ⟨_, a, b⟩ := h; let ⟨_, a', b'⟩ := h'; ⟨_, a.or a', b.or b'⟩
theorem Vw.int {i : Int} (h : Vw K F H v (.int i)) : v = .int i := by
  rcases h with h | ⟨_, _, _, _, e, _⟩
  · cases h; rfl
  · cases e
theorem Vw.bl {i : Bool} (h : Vw K F H v (.bl i)) : v = .bl i := by
  rcases h with h | ⟨_, _, _, _, e, _⟩
  · cases h; rfl
  · cases e
theorem Vw.str {i : Str} (h : Vw K F H v (.str i)) : v = .str i := by
  rcases h with h | ⟨_, _, _, _, e, _⟩
  · cases h; rfl
  · cases e
theorem Vw.non (h : Vw K F H v .non) : v = .non := by
  rcases h with h | ⟨_, _, _, _, e, _⟩
  · cases h; rfl
  · cases e
theorem os_I {C : Int → Int → Prop} {gv : Int → Int → V} {gd : Int → Int → D} (h : ∀ (F : Hp) (i j : Int), Rp X.K F (gv i j) (gd i j)) : OpS X (rI C gv) (fun dx dy k => ∃ i j, dx = .int i ∧ dy = .int j ∧ C i j ∧ k (gd i j)) := fun P0 F en σ H x y dx dy k Qc rs vx vy q kk => by
  obtain ⟨i, j, rfl, rfl, c, q⟩ := q
  exact ⟨i, j, vx.int, vy.int, c, kk F _ _ H (Same.refl F) rs (h F i j) q⟩
theorem os_I0 {gv : Int → Int → V} {gd : Int → Int → D} (h : ∀ (F : Hp) (i j : Int), Rp X.K F (gv i j) (gd i j)) : OpS X (rI0 gv) (fun dx dy k => ∃ i j, dx = .int i ∧ dy = .int j ∧ k (gd i j)) := fun P0 F en σ H x y dx dy k Qc rs vx vy q kk => by
  obtain ⟨i, j, rfl, rfl, q⟩ := q
  exact ⟨i, j, vx.int, vy.int, kk F _ _ H (Same.refl F) rs (h F i j) q⟩
def subK : D → D → (D → Prop) → Prop
  | .int a, .int b, k => k (.int (a - b))
  | _, _, _ => False
theorem o_sub : BinS X .Sub subK := BinS.imp ⟨_, op_sub, os_I0 (gd := fun i j => .int (i - j)) fun _ _ _ => .int _⟩ fun dx dy k q => by
  cases dx <;> cases dy <;> first | exact ⟨_, _, rfl, rfl, q⟩ | exact False.elim q
def fdivK : D → D → (D → Prop) → Prop
  | .int a, .int b, k => CDiv a b ∧ k (.int (a / b))
  | _, _, _ => False
theorem o_fdiv : BinS X .FloorDiv fdivK := BinS.imp ⟨_, op_fdiv, os_I (gd := fun i j => .int (i / j)) fun _ _ _ => .int _⟩ fun dx dy k q => by
  cases dx <;> cases dy <;> first | exact ⟨_, _, rfl, rfl, q.1, q.2⟩ | exact False.elim q
def powK : D → D → (D → Prop) → Prop
  | .int a, .int b, k => CPow a b ∧ k (.int (a ^ b.toNat))
  | _, _, _ => False
theorem o_pow : BinS X .Pow powK := BinS.imp ⟨_, op_pow, os_I (gd := fun i j => .int (i ^ j.toNat)) fun _ _ _ => .int _⟩ fun dx dy k q => by
  cases dx <;> cases dy <;> first | exact ⟨_, _, rfl, rfl, q.1, q.2⟩ | exact False.elim q
/-- a new tuple, a new list (given away) as an operation's end -/
theorem end_tup {P0 F : Hp} {en : En} {σ : St} {H : Hp} {vs : List V} {ds : List D} {k : D → Prop} {Qc : VK} (rs : RS X.K P0 F en σ H) (r : Rps X.K F vs ds) (q : k (.tup ds))
    (kk : ∀ (F' : Hp) (v : V) (d : D) (H' : Hp), Same F F' → RS X.K P0 F' en σ H' → Rp X.K F' v d → k d → Qc v H') : ∀ p us, H p = none → Qc (.ref p) (upd H p (.frz (tupO us) (.tup vs))) := fun p us hp =>
  have s2 : Same F (upd F p (.frz (tupO us) (.tup vs))) := same_upd (rs.same.free hp)
  kk _ _ _ _ s2 (rs.alloc hp) (.tup (.inl ⟨us, upd_same⟩) (r.mono s2)) q
theorem end_lst {P0 F : Hp} {en : En} {σ : St} {H : Hp} {vs : List V} {ds : List D} {k : D → Prop} {Qc : VK} (rs : RS X.K P0 F en σ H) (r : Rps X.K F vs ds) (q : k (.lst ds))
    (kk : ∀ (F' : Hp) (v : V) (d : D) (H' : Hp), Same F F' → RS X.K P0 F' en σ H' → Rp X.K F' v d → k d → Qc v H') : ∀ p, H p = none → Qc (.ref p) (upd H p (.lst vs)) := fun p hp =>
  have s2 : Same F (upd F p (.lst vs)) := same_upd (rs.same.free hp)
  kk _ _ _ _ s2 (rs.alloc hp) (.lst upd_same (r.mono s2)) q
theorem Rps.nil_iff {vs : List V} {ds : List D} (r : Rps K F vs ds) : vs = [] ↔ ds = [] := by
  cases r <;> simp
def addK : D → D → (D → Prop) → Prop
  | .int a, .int b, k => k (.int (a + b))
  | .str a, .str b, k => a.length + b.length ≤ sizeLine ∧ k (.str (a ++ b))
  | .tup a, .tup b, k => a.length + b.length ≤ sizeLine ∧ k (.tup (a ++ b))
  | .lst a, .lst b, k => a.length + b.length ≤ sizeLine ∧ k (.lst (a ++ b))
  | _, _, _ => False
theorem os_catT : OpS X (fun x y H Q => rCatTF X.K x y H Q ∨ rCatT0 X.K x y H Q) (fun dx dy k => ∃ a b, dx = .tup a ∧ dy = .tup b ∧ a.length + b.length ≤ sizeLine ∧ k (.tup (a ++ b))) := fun P0 F en σ H x y dx dy k Qc rs vx vy q kk => by
  obtain ⟨a, b, rfl, rfl, hz, q⟩ := q
  obtain ⟨p, vs, rfl, h1, r1, rp1, _⟩ := vx.tup rs.same
  obtain ⟨p', vs', rfl, h2, r2, rp2, _⟩ := vy.tup rs.same
  by_cases e : vs = []
  · subst e
    obtain rfl : a = [] := r1.nil_iff.mp rfl
    exact .inr ⟨p, p', vs', rfl, rfl, h1, h2, kk F _ _ H (Same.refl F) rs rp2 q⟩
  · refine .inl ⟨p, p', vs, vs', rfl, rfl, h1, h2, e, by rw [r1.length, r2.length]; exact hz, fun e2 => ?_, fun _ => end_tup rs (r1.append r2) q kk⟩
    subst e2
    obtain rfl : b = [] := r2.nil_iff.mp rfl
    rw [List.append_nil] at q
    exact kk F _ _ H (Same.refl F) rs rp1 q
theorem os_cat : OpS X rCat (fun dx dy k => ∃ a b, dx = .lst a ∧ dy = .lst b ∧ a.length + b.length ≤ sizeLine ∧ k (.lst (a ++ b))) := fun P0 F en σ H x y dx dy k Qc rs vx vy q kk => by
  obtain ⟨a, b, rfl, rfl, hz, q⟩ := q
  obtain ⟨p, vs, rfl, h1, r1⟩ := vx.lst rs.same
  obtain ⟨p', vs', rfl, h2, r2⟩ := vy.lst rs.same
  exact ⟨p, p', vs, vs', rfl, rfl, h1, h2, by rw [r1.length, r2.length]; exact hz, end_lst rs (r1.append r2) q kk⟩
theorem os_addS : OpS X (fun x y H Q => ∃ i j, x = .str i ∧ y = .str j ∧ i.length + j.length ≤ sizeLine ∧ Q (.str (i ++ j)) H) (fun dx dy k => ∃ a b, dx = .str a ∧ dy = .str b ∧ a.length + b.length ≤ sizeLine ∧ k (.str (a ++ b))) := fun P0 F en σ H x y dx dy k Qc rs vx vy q kk => by
  obtain ⟨a, b, rfl, rfl, hz, q⟩ := q
  exact ⟨a, b, vx.str, vy.str, hz, kk F _ _ H (Same.refl F) rs (.str _) q⟩
theorem o_add : BinS X .Add addK := BinS.imp (BinS.or ⟨_, op_add, os_I0 (gd := fun i j => .int (i + j)) fun _ _ _ => .int _⟩ (BinS.or ⟨_, op_catTF.or op_catT0, os_catT⟩ (BinS.or ⟨_, op_cat, os_cat⟩ ⟨_, op_add_str, os_addS⟩))) fun dx dy k q => by
  cases dx <;> cases dy <;> first | exact .inl ⟨_, _, rfl, rfl, q⟩ | exact .inr (.inl ⟨_, _, rfl, rfl, q.1, q.2⟩) | exact .inr (.inr (.inl ⟨_, _, rfl, rfl, q.1, q.2⟩)) | exact .inr (.inr (.inr ⟨_, _, rfl, rfl, q.1, q.2⟩)) | exact False.elim q
def ltK : D → D → (D → Prop) → Prop
  | .int a, .int b, k => k (.bl (decide (a < b)))
  | _, _, _ => False
def leK : D → D → (D → Prop) → Prop
  | .int a, .int b, k => k (.bl (decide (a ≤ b)))
  | _, _, _ => False
def gtK : D → D → (D → Prop) → Prop
  | .int a, .int b, k => k (.bl (decide (b < a)))
  | _, _, _ => False
def geK : D → D → (D → Prop) → Prop
  | .int a, .int b, k => k (.bl (decide (b ≤ a)))
  | _, _, _ => False
theorem o_lt : CmpS X .Lt ltK := CmpS.imp ⟨_, op_lt, os_I0 (gd := fun i j => .bl (decide (i < j))) fun _ _ _ => .bl _⟩ fun dx dy k q => by
  cases dx <;> cases dy <;> first | exact ⟨_, _, rfl, rfl, q⟩ | exact False.elim q
theorem o_le : CmpS X .LtE leK := CmpS.imp ⟨_, op_le, os_I0 (gd := fun i j => .bl (decide (i ≤ j))) fun _ _ _ => .bl _⟩ fun dx dy k q => by
  cases dx <;> cases dy <;> first | exact ⟨_, _, rfl, rfl, q⟩ | exact False.elim q
theorem o_gt : CmpS X .Gt gtK := CmpS.imp ⟨_, op_gt, os_I0 (gd := fun i j => .bl (decide (j < i))) fun _ _ _ => .bl _⟩ fun dx dy k q => by
  cases dx <;> cases dy <;> first | exact ⟨_, _, rfl, rfl, q⟩ | exact False.elim q
mutual
/-- data without addresses, as the library has them -/
def D.py : D → Option PyData
  | .non => some .none
  | .bl b => some (.bool b)
  | .int i => some (.int i)
  | .str x => some (.str x)
  | .tup xs => (D.pys xs).map PyData.tuple
  | .lst xs => (D.pys xs).map PyData.list
  | _ => none
def D.pys : List D → Option (List PyData)
  | [] => some []
  | x :: xs => match D.py x, D.pys xs with
    | some a, some b => some (a :: b)
    | _, _ => none
end
mutual
theorem dp_of (s : Same F H) : ∀ {d : D} {v : V} {e : PyData}, Rp K F v d → D.py d = some e → Dp K H v e
  | .non, _, _, h, q => by cases h; cases q; exact .non
  | .bl b, _, _, h, q => by cases h; cases q; exact .bl b
  | .int i, _, _, h, q => by cases h; cases q; exact .int i
  | .str x, _, _, h, q => by cases h; cases q; exact .str x
  | .tup xs, _, e, h, q => by
    unfold D.py at q
    cases e1 : D.pys xs with
    | none => rw [e1] at q; cases q
    | some es =>
      rw [e1] at q; cases q
      cases h with
      | tup h1 h2 => exact .tup (sqT_mono s h1.sq) (dps_of s h2 e1)
  | .lst xs, _, e, h, q => by
    unfold D.py at q
    cases e1 : D.pys xs with
    | none => rw [e1] at q; cases q
    | some es =>
      rw [e1] at q; cases q
      cases h with
      | lst h1 h2 => exact .lst (SqL.of (s _ _ h1)) (dps_of s h2 e1)
  | .dic _ _, _, _, _, q => by cases q
  | .ref _, _, _, _, q => by cases q
  | .ty _, _, _, _, q => by cases q
  | .scr _, _, _, _, q => by cases q
  | .exn _ _ _ _, _, _, _, q => by cases q
  | .kwd _ _, _, _, _, q => by cases q
  | .eo _ _ _, _, _, _, q => by cases q
theorem dps_of (s : Same F H) : ∀ {ds : List D} {vs : List V} {es : List PyData}, Rps K F vs ds → D.pys ds = some es → DpAll K H vs es
  | [], _, _, h, q => by cases h; cases q; exact .nil
  | d :: ds, _, _, h, q => by
    unfold D.pys at q
    cases e1 : D.py d with
    | none => rw [e1] at q; cases q
    | some e =>
      cases e2 : D.pys ds with
      | none => rw [e1, e2] at q; cases q
      | some es =>
        rw [e1, e2] at q; cases q
        cases h with
        | cons h1 h2 => exact .cons (dp_of s h1 e1) (dps_of s h2 e2)
end
theorem Vw.dp {d : D} {e : PyData} (s : Same F H) (h : Vw K F H v d) (q : D.py d = some e) : Dp K H v e := by
  rcases h with h | ⟨p, vs, ds, rfl, rfl, h1, h2⟩
  · exact dp_of s h q
  · unfold D.py at q
    cases e1 : D.pys ds with
    | none => rw [e1] at q; cases q
    | some es =>
      rw [e1] at q; cases q
      exact .lst (SqL.of h1) (dps_of s h2 e1)
/-- both are data that == serves -/
def eqD (neg : Bool) (x y : D) (k : D → Prop) : Prop := ∃ a b, x.py = some a ∧ y.py = some b ∧ (a.canLay0 = true ∧ b.canLay0 = true ∧ min a.depth b.depth ≤ 64) ∧ k (.bl (if neg then !PyData.eqv a b else PyData.eqv a b))
theorem os_eqM {neg : Bool} : OpS X (rEqM X.K neg) (eqD neg) := fun P0 F en σ H x y dx dy k Qc rs vx vy q kk => by
  obtain ⟨a, b, e1, e2, ⟨c1, c2, c3⟩, q⟩ := q
  exact ⟨a, b, vx.dp rs.same e1, vy.dp rs.same e2, c1, c2, c3, kk F _ _ H (Same.refl F) rs (.bl _) q⟩
def eqK : D → D → (D → Prop) → Prop
  | .int a, .int b, k => k (.bl (decide (a = b)))
  | .str a, .str b, k => k (.bl (decide (a = b)))
  | .bl a, .bl b, k => k (.bl (decide (a = b)))
  | .non, .non, k => k (.bl true)
  | x, y, k => eqD false x y k
def neK : D → D → (D → Prop) → Prop
  | .int a, .int b, k => k (.bl (!decide (a = b)))
  | .str a, .str b, k => k (.bl (!decide (a = b)))
  | .bl a, .bl b, k => k (.bl (!decide (a = b)))
  | .non, .non, k => k (.bl false)
  | x, y, k => eqD true x y k
theorem os_eq : OpS X rEq (fun dx dy k => (∃ i j, dx = .int i ∧ dy = .int j ∧ k (.bl (decide (i = j)))) ∨ (∃ i j, dx = .str i ∧ dy = .str j ∧ k (.bl (decide (i = j)))) ∨ (∃ i j, dx = .bl i ∧ dy = .bl j ∧ k (.bl (decide (i = j)))) ∨ (dx = .non ∧ dy = .non ∧ k (.bl true))) := fun P0 F en σ H x y dx dy k Qc rs vx vy q kk => by
  rcases q with ⟨i, j, rfl, rfl, q⟩ | ⟨i, j, rfl, rfl, q⟩ | ⟨i, j, rfl, rfl, q⟩ | ⟨rfl, rfl, q⟩
  · cases vx.int; cases vy.int
    exact ⟨rfl, kk F _ _ H (Same.refl F) rs (by rw [show decide (V.int i = V.int j) = decide (i = j) by simp]; exact .bl _) q⟩
  · cases vx.str; cases vy.str
    exact ⟨rfl, kk F _ _ H (Same.refl F) rs (by rw [show decide (V.str i = V.str j) = decide (i = j) by simp]; exact .bl _) q⟩
  · cases vx.bl; cases vy.bl
    exact ⟨rfl, kk F _ _ H (Same.refl F) rs (by rw [show decide (V.bl i = V.bl j) = decide (i = j) by simp]; exact .bl _) q⟩
  · cases vx.non; cases vy.non
    exact ⟨rfl, kk F _ _ H (Same.refl F) rs (.bl _) q⟩
theorem os_ne : OpS X rNe (fun dx dy k => (∃ i j, dx = .int i ∧ dy = .int j ∧ k (.bl (!decide (i = j)))) ∨ (∃ i j, dx = .str i ∧ dy = .str j ∧ k (.bl (!decide (i = j)))) ∨ (∃ i j, dx = .bl i ∧ dy = .bl j ∧ k (.bl (!decide (i = j)))) ∨ (dx = .non ∧ dy = .non ∧ k (.bl false))) := fun P0 F en σ H x y dx dy k Qc rs vx vy q kk => by
  rcases q with ⟨i, j, rfl, rfl, q⟩ | ⟨i, j, rfl, rfl, q⟩ | ⟨i, j, rfl, rfl, q⟩ | ⟨rfl, rfl, q⟩
  · cases vx.int; cases vy.int
    exact ⟨rfl, kk F _ _ H (Same.refl F) rs (by rw [show decide (V.int i = V.int j) = decide (i = j) by simp]; exact .bl _) q⟩
  · cases vx.str; cases vy.str
    exact ⟨rfl, kk F _ _ H (Same.refl F) rs (by rw [show decide (V.str i = V.str j) = decide (i = j) by simp]; exact .bl _) q⟩
  · cases vx.bl; cases vy.bl
    exact ⟨rfl, kk F _ _ H (Same.refl F) rs (by rw [show decide (V.bl i = V.bl j) = decide (i = j) by simp]; exact .bl _) q⟩
  · cases vx.non; cases vy.non
    exact ⟨rfl, kk F _ _ H (Same.refl F) rs (.bl _) q⟩
theorem o_eq (hu : X.A.units + 100 < cLine) : CmpS X .Eq eqK := CmpS.imp (CmpS.or ⟨_, op_eq, os_eq⟩ ⟨_, op_eqM hu, os_eqM⟩) fun dx dy k q => by
  unfold eqK at q
  split at q
  · exact .inl (.inl ⟨_, _, rfl, rfl, q⟩)
  · exact .inl (.inr (.inl ⟨_, _, rfl, rfl, q⟩))
  · exact .inl (.inr (.inr (.inl ⟨_, _, rfl, rfl, q⟩)))
  · exact .inl (.inr (.inr (.inr ⟨rfl, rfl, q⟩)))
  · exact .inr q
theorem o_ne (hu : X.A.units + 100 < cLine) : CmpS X .NotEq neK := CmpS.imp (CmpS.or ⟨_, op_ne, os_ne⟩ ⟨_, op_neM hu, os_eqM⟩) fun dx dy k q => by
  unfold neK at q
  split at q
  · exact .inl (.inl ⟨_, _, rfl, rfl, q⟩)
  · exact .inl (.inr (.inl ⟨_, _, rfl, rfl, q⟩))
  · exact .inl (.inr (.inr (.inl ⟨_, _, rfl, rfl, q⟩)))
  · exact .inl (.inr (.inr (.inr ⟨rfl, rfl, q⟩)))
  · exact .inr q
/-- is None -/
def D.isN : D → Bool
  | .non => true
  | _ => false
theorem Vw.isN {d : D} (h : Vw K F H v d) : decide (v = .non) = d.isN := by
  rcases h with h | ⟨p, vs, ds, rfl, rfl, h1, h2⟩
  · cases h <;> simp [D.isN]
  · simp [D.isN]
def isnotK : D → D → (D → Prop) → Prop
  | x, .non, k => k (.bl (!x.isN))
  | _, _, _ => False
theorem o_isnot : CmpS X .IsNot isnotK := ⟨_, op_notN, fun P0 F en σ H x y dx dy k Qc rs vx vy q kk => by
  cases dy <;> try exact False.elim q
  refine ⟨vy.non, ?_⟩
  rw [vx.isN]
  exact kk F _ _ H (Same.refl F) rs (.bl _) q⟩
/-- in, not in: flat items -/
def D.flat : D → Bool
  | .non => true
  | .bl _ => true
  | .int _ => true
  | .str _ => true
  | _ => false
def D.eqf : D → D → Bool
  | .non, .non => true
  | .bl a, .bl b => a == b
  | .bl a, .int b => (if a then 1 else 0) == b
  | .int a, .bl b => a == (if b then 1 else 0)
  | .int a, .int b => a == b
  | .str a, .str b => a == b
  | _, _ => false
theorem rp_flat {d : D} (h : Rp K F v d) (f : d.flat = true) : flatV v = true := by
  cases h <;> first | rfl | cases f
theorem rp_eqf {d e : D} {u : V} (h : Rp K F v d) (h' : Rp K F u e) (f : d.flat = true) (f' : e.flat = true) : eqV v u = d.eqf e := by
  cases h <;> cases h' <;> first | rfl | cases f | cases f'
theorem rps_flat : ∀ {vs : List V} {ds : List D}, Rps K F vs ds → ds.all D.flat = true → vs.all flatV = true
  | _, _, .nil, _ => rfl
  | _, _, .cons r t, f => by
    simp only [List.all_cons, Bool.and_eq_true] at f ⊢
    exact ⟨rp_flat r f.1, rps_flat t f.2⟩
theorem rps_any {d : D} (h : Rp K F v d) (f : d.flat = true) : ∀ {vs : List V} {ds : List D}, Rps K F vs ds → ds.all D.flat = true → inV v vs = ds.any fun e => e.eqf d
  | _, _, .nil, _ => rfl
  | _, _, .cons r t, g => by
    simp only [List.all_cons, Bool.and_eq_true] at g
    have ih := rps_any h f t g.2
    unfold inV at ih ⊢
    rw [List.any_cons, List.any_cons, rp_eqf r h g.1 f, ih]
def inK (neg : Bool) (x y : D) (k : D → Prop) : Prop := x.flat = true ∧ seqD y fun ds => ds.all D.flat = true ∧ k (.bl (if neg then !(ds.any fun e => e.eqf x) else ds.any fun e => e.eqf x))
theorem os_in {neg : Bool} : OpS X (rIn X.K neg) (inK neg) := fun P0 F en σ H x y dx dy k Qc rs vx vy q kk => by
  obtain ⟨f, q⟩ := q
  obtain ⟨ds, hd, g, q⟩ := seqD_some q
  have rx : Rp X.K F x dx := vx.rp fun ds z => by rw [z] at f; cases f
  have fin : ∀ (vs : List V), Rps X.K F vs ds → _ := fun vs r => kk F (.bl (if neg then !inV x vs else inV x vs)) _ H (Same.refl F) rs (by rw [rps_any rx f r g]; exact .bl _) q
  rcases hd with rfl | rfl
  · obtain ⟨p, vs, rfl, h1, r1, _⟩ := vy.tup rs.same
    exact ⟨p, vs, rfl, .inr h1, rp_flat rx f, rps_flat r1 g, fin vs r1⟩
  · obtain ⟨p, vs, rfl, h1, r1⟩ := vy.lst rs.same
    exact ⟨p, vs, rfl, .inl (SqL.of h1), rp_flat rx f, rps_flat r1 g, fin vs r1⟩
theorem o_in : CmpS X .In (inK false) := ⟨_, op_in_seq, os_in⟩
theorem o_notin : CmpS X .NotIn (inK true) := ⟨_, op_notIn_seq, os_in⟩
variable {a b c : Expr} {pos : Pos} {ma mb mc : MV}
theorem ae_bin {op : Operator} (h : BinS X op f) (ha : AV X W a ma) (hb : AV X W b mb) : AE X W (.BinOp a op b pos) (mOp f ma mb) := let ⟨_, o, s⟩ := h; ae_op o s ha hb
theorem ae_cm {op : CmpOp} (h : CmpS X op f) (ha : AV X W a ma) (hb : AV X W b mb) (hm : behindInMarks op b = false) : AE X W (.Compare a [op] [b] pos) (mOp f ma mb) := let ⟨_, o, s⟩ := h; ae_cmp o s ha hb hm
theorem at_cm {op : CmpOp} (h : CmpS X op f) (ha : AV X W a ma) (hb : AV X W b mb) (hm : behindInMarks op b = false) : AT X W (.Compare a [op] [b] pos) (mB (mOp f ma mb)) := let ⟨_, o, s⟩ := h; at_cmp o s ha hb hm
theorem ae_ch {op op' : CmpOp} (h : CmpS X op f) (h' : CmpS X op' f') (ha : AV X W a ma) (hb : AV X W b mb) (hc : AV X W c mc) (hm : lastMarks [op, op'] [b, c] = false := by with_unfolding_all rfl) : AE X W (.Compare a [op, op'] [b, c] pos) (mChain f f' ma mb mc) :=
  let ⟨_, o, s⟩ := h; let ⟨_, o', s'⟩ := h'; ae_chain o s o' s' ha hb hc hm
theorem at_ch {op op' : CmpOp} (h : CmpS X op f) (h' : CmpS X op' f') (ha : AV X W a ma) (hb : AV X W b mb) (hc : AV X W c mc) (hm : lastMarks [op, op'] [b, c] = false := by with_unfolding_all rfl) : AT X W (.Compare a [op, op'] [b, c] pos) (mB (mChain f f' ma mb mc)) :=
  let ⟨_, o, s⟩ := h; let ⟨_, o', s'⟩ := h'; at_chain o s o' s' ha hb hc hm
end
end LP
namespace LP
open PySem PySem.Spec L2
open PyProof.Rows hiding St
/-- the tuple at a, each item in a new pair behind its number -/
def IteT (K : PySem.W.Frag) (a : Addr) : It where
  go := fun i H => ∃ (xs : List V) (x : V), SqT K H a xs ∧ xs[i]? = some x
  yld := fun i H v H' => ∃ (T : Addr) (x : V), v = .ref T ∧ H T = none ∧ H' = upd H T (.tup [.int (i : Nat), x]) ∧ ∀ xs, SqT K H a xs → xs[i]? = some x
  stop := fun i H => ∃ xs : List V, SqT K H a xs ∧ xs.length = i
section
variable {prog : Program} {w : World} {A : Around} {E : Value → Shared → Prop} {s : Shared}
theorem meets_enum1 {v : Value} {o : Obj} {G : Heap → Prop} (B : Begins v o G) :
    Meets (Builtin.«enumerate.__new__» ⟨[.type "enumerate", v], []⟩) (fun _ R s => G s.heap ∧ R (.ok (.ret (.ref (s.heap.push o).objs.size)))
      { s with heap := (s.heap.push o).push { cls := .type "enumerate", data := .fields #[.none, .bool false, .ref s.heap.objs.size, rawInt 0, .none, .none] } }) :=
  .of_wp fun prog w A R st h => by
    obtain ⟨hp, gn, dr, tk, os⟩ := st
    obtain ⟨hG, h⟩ := h
    have se := sub_enumerate
    have it0 : ∀ {A' : Around} {E : Value → Shared → Prop} {Q : Value → Shared → Prop}, Q (.ref hp.objs.size) ⟨hp.push o, gn, dr, tk, os⟩ → wpAny (model prog w) A' (pyIter v) Q E ⟨hp, gn, dr, tk, os⟩ := fun q => B.iter prog w _ _ ⟨hp, gn, dr, tk, os⟩ _ hG q
    wp_walk using it0
    refine wpAny_stack_any fun sk => wpAny_pure ?_
    split
    · rename_i c _ _ _ _ _
      cases (c == Value.type "enumerate") <;> (wp_walk using it0; exact ⟨_, rfl, h⟩)
    · wp_walk using it0
      exact ⟨_, rfl, h⟩
theorem enum_begins1 {v : Value} {o : Obj} {G : Heap → Prop} {Q : Value → Shared → Prop} (B : Begins v o G) (hG : G s.heap)
    (h : ∀ h', IsEnum h' (s.heap.objs.size + 1) s.heap.objs.size 0 .none → h'.get? s.heap.objs.size = some o → (∀ b u, s.heap.get? b = some u → h'.get? b = some u) → Q (.ref (s.heap.objs.size + 1)) { s with heap := h' }) :
    wpAny (model prog w) A (call (.type "enumerate") [v]) Q E s := by
  refine callType_new F.called_enumerate (by decide) (F.typeCall_enumerate_1 _) (F.newCall_enumerate_1 _) (fun obj => F.args_object_init_2 obj _) F.entry_enumerate_new (meets_enum1 B) ⟨hG, ?_⟩
  have sz : (s.heap.push o).objs.size = s.heap.objs.size + 1 := Heap.size_push ..
  change _ ∧ _
  rw [sz]
  have en : IsEnum ((s.heap.push o).push { cls := .type "enumerate", data := .fields #[.none, .bool false, .ref s.heap.objs.size, rawInt 0, .none, .none] }) (s.heap.objs.size + 1) s.heap.objs.size 0 .none := by
    have z := Heap.get?_push_size (s.heap.push o) (o := { cls := .type "enumerate", data := .fields #[.none, .bool false, .ref s.heap.objs.size, rawInt 0, .none, .none] }) rfl
    rw [sz] at z
    exact z
  exact ⟨⟨_, en, rfl⟩, h _ en (Heap.get?_push_of_some _ (Heap.get?_push_size _ B.free)) fun b u q => Heap.get?_push_of_some _ (Heap.get?_push_of_some _ q)⟩
end
theorem turn_enumT {P : Program} {w : World} {K : PySem.W.Frag} {elts : List Expr} {kk : Nat} {tpos : Pos} (a e it : Addr) :
    Turn P w K (.Tuple elts kk tpos) (IteT K a) [e, it] e (fun i h => (∃ old, IsEnum h e it ((i : Nat) : Int) old) ∧ h.IsTupleIter it a i ∧ e ≠ it) where
  mem := List.mem_cons_self ..
  obj := by
    rintro i h ⟨⟨old, he⟩, ⟨o, ho, hc, hd⟩, _⟩ b hb
    rcases List.mem_cons.mp hb with rfl | hb
    · exact ⟨_, he, fun v q => nomatch q⟩
    · rw [List.mem_singleton.mp hb]
      exact ⟨o, ho, fun v q => by rw [hd] at q; cases q⟩
  keep := by
    rintro i h h' ⟨⟨old, he⟩, hi, hne⟩ k
    exact ⟨⟨old, k e (by simp) _ he⟩, hi.at fun o q => k it (by simp) o q, hne⟩
  item := by
    intro X hP hw hK hc i pins s σ H E I hf st hg
    subst hP hw hK
    obtain ⟨⟨old, he⟩, hit, hne⟩ := st
    obtain ⟨xs, x, hq, hx⟩ := hg
    obtain ⟨its, rv, p, hz⟩ := I.tuple hq
    obtain ⟨u, hu, ru⟩ := rv.get hx
    obtain ⟨oa, ha, ca, na, da⟩ := id p
    obtain ⟨oi, hi, ci, di⟩ := id hit
    have nai : a ≠ it := fun z => by rw [z, hi] at ha; cases ha; rw [ci] at ca; exact absurd ca (by decide)
    have nae : a ≠ e := fun z => by
      rw [z] at ha
      have := he.symm.trans ha
      cases this
      exact absurd (show Value.type "enumerate" = Value.type "tuple" from ca) (by decide)
    have hii : i < its.length := (List.getElem?_eq_some_iff.mp hu).1
    have Wk := GoesN.enumFrom (prog := X.prog) (w := X.w) (A := X.A) (elts := elts) (x1 := kk) (pos := tpos) 0 (Draws.tuple (A := X.A.in1) (I.ok.hd hc) it a nai its.toArray) e hne (by simp [hne, Ne.symm nae]) (by simp)
    refine Wk.goes i s (fun v s2 => ∃ x H', Inv X pins σ H' s2 ∧ RelV x v ∧ (IteT X.K a).yld i H x H' ∧ ((∃ old, IsEnum s2.heap e it (((i + 1 : Nat)) : Int) old) ∧ s2.heap.IsTupleIter it a (i + 1) ∧ e ≠ it) ∧ ∀ b ∈ [e, it], H' b = none) E (by simpa using hii)
      ⟨⟨old, by rw [Int.zero_add]; exact he⟩, hit, p⟩ ?_ |> fun z => wpAny_mono z (fun r s1 ⟨v, h1, h2⟩ => ⟨v, h1, h2⟩) fun _ _ z => z
    rintro v h' tk ⟨T, t, y, rfl, hT, hy, hTup⟩ ⟨⟨old', he'⟩, hit', _⟩ hk htk
    have ey : u = y := by
      have : its.toArray[i]? = some u := by simpa using hu
      rw [this] at hy; exact Option.some.inj hy
    subst ey
    have new : ObjOk X.prog X.w (upd H T (.tup [.int (i : Nat), x])) h' T (.tup [.int (i : Nat), x]) :=
      ⟨by show 2 ≤ sizeLine; decide, [.int (0 + (i : Int)) t, u], .cons ⟨t, by rw [Int.zero_add]⟩ (.cons ru .nil), hTup⟩
    refine ⟨.ref T, _, I.turnedNew (ch := [e, it]) (fun b o hb q => hk b o hb q) hf hT new, rfl, ⟨T, x, rfl, I.hok.fresh hT, rfl, fun ys hy => by rw [I.tuple_inj hy hq]; exact hx⟩, ⟨⟨old', ?_⟩, hit', hne⟩, fun b hb => ?_⟩
    · rw [Int.zero_add] at he'; exact he'
    · have hlt : b < s.heap.objs.size := by
        rcases List.mem_cons.mp hb with rfl | hb
        · exact Heap.lt_size he
        · rw [List.mem_singleton.mp hb]; exact Heap.lt_size hi
      rw [upd_ne (Nat.ne_of_lt (Nat.lt_of_lt_of_le hlt hT))]
      exact (hf b hb).1
  done := by
    intro X hP hw hK hc i pins s σ H E I hf st hg
    subst hP hw hK
    obtain ⟨⟨old, he⟩, hit, hne⟩ := st
    obtain ⟨xs, hq, hx⟩ := hg
    obtain ⟨its, rv, p, hz⟩ := I.tuple hq
    obtain ⟨oa, ha, ca, na, da⟩ := id p
    obtain ⟨oi, hi, ci, di⟩ := id hit
    have nai : a ≠ it := fun z => by rw [z, hi] at ha; cases ha; rw [ci] at ca; exact absurd ca (by decide)
    have nae : a ≠ e := fun z => by
      rw [z] at ha
      have := he.symm.trans ha
      cases this
      exact absurd (show Value.type "enumerate" = Value.type "tuple" from ca) (by decide)
    have D := Draws.tuple (prog := X.prog) (w := X.w) (A := X.A.in1) (I.ok.hd hc) it a nai its.toArray
    have ei : its.toArray.size = i := by rw [List.size_toArray, ← rv.length]; exact hx
    exact wpAny_pyNext_enum_endD D he (by rw [ei]; exact ⟨hit, p⟩) fun h' eb => ⟨rfl, I.turned (t' := s.toks) (fun b o hb q => eb b o hb q) (hf it (by simp)).1 (hf it (by simp)).2.1 (hf it (by simp)).2.2.2.1 (hf it (by simp)).2.2.2.2.1 (hf it (by simp)).2.2.2.2.2⟩
  self := fun A i s Q E st h => let ⟨⟨_, he⟩, _⟩ := st; wpAny_pyIter_enum he h
end LP
namespace LP
open PySem PySem.Spec L2
open PyProof.Rows hiding St
section
variable {X : Cx} {W : WX} {a b e : Expr} {es : List Expr} {pos : Pos} {m : ME} {ma mb : MV} {K : PySem.W.Frag} {F H : Hp}
def intD (d : D) (k : Int → Prop) : Prop := match d with
  | .int i => k i
  | _ => False
theorem intD_some {d : D} {k : Int → Prop} (h : intD d k) : ∃ i, d = .int i ∧ k i := by
  unfold intD at h
  split at h
  · exact ⟨_, rfl, h⟩
  · exact h.elim
def mNeg (m : ME) : ME := fun R en Q => m R en fun d e1 => intD d fun i => Q (.int (-i)) e1
theorem ae_neg (ha : AE X W a m) : AE X W (.UnaryOp .USub a pos) (mNeg m) := by
  obtain ⟨_, p, s⟩ := ha
  refine ⟨_, pe_un un_neg p, fun P0 F en σ H R Q Qc rs rx hm k => s P0 F en σ H R _ _ rs rx hm fun F1 e1 v d H1 s1 r1 rp q => ?_⟩
  obtain ⟨i, rfl, q⟩ := intD_some q
  cases rp
  exact ⟨i, rfl, k F1 e1 _ _ H1 s1 r1 (.int _) q⟩
def oo {α : Type} (x : Option α) (k : α → Prop) : Prop := match x with
  | some a => k a
  | none => False
theorem oo_some {α : Type} {x : Option α} {k : α → Prop} (h : oo x k) : ∃ a, x = some a ∧ k a := by
  unfold oo at h
  split at h
  · exact ⟨_, rfl, h⟩
  · exact h.elim
def ixK : D → D → (D → Prop) → Prop
  | .tup xs, .int i, k => oo (atI xs i) k
  | .lst xs, .int i, k => oo (atI xs i) k
  | .str z, .int i, k => z.length ≤ sizeLine ∧ oo (atI z.cps.toList i) fun c => k (.str ⟨#[c]⟩)
  | _, _, _ => False
theorem Rps.atI {vs : List V} {ds : List D} (r : Rps K F vs ds) {i : Int} {d : D} (h : L2.atI ds i = some d) : ∃ v, L2.atI vs i = some v ∧ Rp K F v d := by
  unfold L2.atI at h ⊢
  rw [r.length]
  cases e : ixN ds.length i with
  | none => rw [e] at h; cases h
  | some j =>
    rw [e] at h
    exact r.getD h
theorem os_ix : OpS X (rIx X.K) ixK := fun P0 F en σ H x y dx dy k Qc rs vx vy q kk => by
  cases dx <;> cases dy <;> try exact False.elim q
  · obtain ⟨hz, q⟩ := q
    obtain ⟨c, hc, q⟩ := oo_some q
    exact .inr (.inr ⟨_, _, c, vx.str, vy.int, hz, hc, kk F _ _ H (Same.refl F) rs (.str _) q⟩)
  · obtain ⟨d, hd, q⟩ := oo_some q
    obtain ⟨p, vs, rfl, h1, r1, _⟩ := vx.tup rs.same
    obtain ⟨v, hv, rv⟩ := r1.atI hd
    exact .inr (.inl ⟨p, vs, _, v, rfl, vy.int, h1, hv, kk F _ _ H (Same.refl F) rs rv q⟩)
  · obtain ⟨d, hd, q⟩ := oo_some q
    obtain ⟨p, vs, rfl, h1, r1⟩ := vx.lst rs.same
    obtain ⟨v, hv, rv⟩ := r1.atI hd
    exact .inl ⟨p, vs, _, v, rfl, vy.int, SqL.of h1, hv, kk F _ _ H (Same.refl F) rs rv q⟩
theorem ae_ix (ha : AV X W a ma) (hb : AV X W b mb) (hs : PlainIx b := by intro _ _; rfl) : AE X W (.Subscript a b pos) (mOp ixK ma mb) :=
  let ⟨_, pa, sa⟩ := ha; let ⟨_, pb, sb⟩ := hb; ⟨_, pe_ix ix_seq pa pb hs, sim_op os_ix sa sb⟩
abbrev MO := RX → En → (Option Int → En → Prop) → Prop
def SimO (X : Cx) (W : WX) (t : TO) (m : MO) : Prop := ∀ (P0 F : Hp) (en : En) (σ : St) (H : Hp) (R : RX) (Q : Option Int → En → Prop) (Qc : Option Int → Hp → Prop), RS X.K P0 F en σ H → Rais X.K W P0 F R → m R en Q →
  (∀ (F' : Hp) (en' : En) (o : Option Int) (H' : Hp), Same F F' → RS X.K P0 F' en' σ H' → Q o en' → Qc o H') → t σ H Qc
def APt (X : Cx) (W : WX) (e : Option Expr) (m : MO) : Prop := ∃ t, PO X e t ∧ SimO X W t m
def mNo : MO := fun _ en Q => Q none en
def mPart (m : ME) : MO := fun R en Q => m R en fun d e1 => intD d fun i => Q (some i) e1
theorem ao_none : APt X W none mNo := ⟨_, po_none, fun P0 F en σ H R Q Qc rs rx hm k => k F en none H (Same.refl F) rs hm⟩
theorem ao_some (h : AE X W e m) : APt X W (some e) (mPart m) := by
  obtain ⟨_, p, s⟩ := h
  refine ⟨_, po_some p, fun P0 F en σ H R Q Qc rs rx hm k => s P0 F en σ H R _ _ rs rx hm fun F1 e1 v d H1 s1 r1 rp q => ?_⟩
  obtain ⟨i, rfl, q⟩ := intD_some q
  cases rp
  exact ⟨i, rfl, k F1 e1 _ H1 s1 r1 q⟩
def cutL {α : Type} (xs : List α) (lo hi : Option Int) : List α := (xs.drop (HT.sIx xs.length 0 lo)).take (HT.sIx xs.length xs.length hi - HT.sIx xs.length 0 lo)
theorem cutL_V (xs : List V) (lo hi : Option Int) : cutV xs lo hi = cutL xs lo hi := rfl
theorem Rps.cut {vs : List V} {ds : List D} (r : Rps K F vs ds) (lo hi : Option Int) : Rps K F (cutV vs lo hi) (cutL ds lo hi) := by
  rw [cutL_V]
  unfold cutL
  rw [r.length]
  exact (r.drop _).take _
def slK (x : D) (lo hi : Option Int) (k : D → Prop) : Prop := match x with
  | .tup xs => k (.tup (cutL xs lo hi))
  | .lst xs => k (.lst (cutL xs lo hi))
  | _ => False
def mSl (ma : MV) (ml mh : MO) : ME := fun R en Q => ma R en fun g e1 => ml R e1 fun lo e2 => mh R e2 fun hi e3 => rq1 (g e3) fun x => slK x lo hi fun z => Q z e3
theorem ae_sl {lo hi : Option Expr} {p2 : Pos} {ml mh : MO} (ha : AV X W a ma) (hl : APt X W lo ml) (hh : APt X W hi mh) : AE X W (.Subscript a (.Slice lo hi none p2) pos) (mSl ma ml mh) := by
  obtain ⟨_, pa, sa⟩ := ha
  obtain ⟨_, pl, sl⟩ := hl
  obtain ⟨_, ph, sh⟩ := hh
  refine ⟨_, pe_slice (SlR.or sl_list (SlR.or sl_tupF sl_tup0)) pa pl ph, fun P0 F en σ H R Q Qc rs rx hm k => sa P0 F en σ H R _ _ rs rx hm fun F1 e1 v g H1 s1 r1 vg q =>
    sl P0 F1 e1 σ H1 R _ _ r1 (rx.mono s1) q fun F2 e2 l H2 s2 r2 q => sh P0 F2 e2 σ H2 R _ _ r2 (rx.mono (s1.trans s2)) q fun F3 e3 h H3 s3 r3 q => ?_⟩
  obtain ⟨d, ed, q⟩ := rq1_some q
  have vw := vg F3 e3 H3 d (s2.trans s3) r3 ed
  have kk : ∀ (F' : Hp) (v : V) (d : D) (H' : Hp), Same F3 F' → RS X.K P0 F' e3 σ H' → Rp X.K F' v d → Q d e3 → Qc v H' := fun F' v d H' s4 r4 rp q4 => k F' e3 v d H' (((s1.trans s2).trans s3).trans s4) r4 rp q4
  cases d <;> try exact False.elim q
  · rename_i xs
    obtain ⟨p, vs, rfl, h1, rps, rp, _⟩ := vw.tup r3.same
    by_cases hw : HT.sIx vs.length 0 l = 0 ∧ HT.sIx vs.length vs.length h = vs.length
    · refine .inr (.inr ⟨p, vs, rfl, h1, hw, kk F3 _ _ H3 (Same.refl _) r3 rp ?_⟩)
      have e : cutL xs l h = xs := by
        unfold cutL
        rw [← rps.length, hw.1, hw.2, List.drop_zero, Nat.sub_zero, rps.length, List.take_length]
      have q : Q (.tup (cutL xs l h)) e3 := q
      rw [e] at q
      exact q
    · exact .inr (.inl ⟨p, vs, rfl, h1, hw, end_tup (k := fun d => Q d e3) r3 (rps.cut l h) q kk⟩)
  · rename_i xs
    obtain ⟨p, vs, rfl, h1, rps⟩ := vw.lst r3.same
    exact .inl ⟨p, vs, rfl, SqL.of h1, end_lst (k := fun d => Q d e3) r3 (rps.cut l h) q kk⟩
inductive Vws (K : PySem.W.Frag) (F H : Hp) : List V → List D → Prop
  | nil : Vws K F H [] []
  | cons {v : V} {vs : List V} {d : D} {ds : List D} : Vw K F H v d → Vws K F H vs ds → Vws K F H (v :: vs) (d :: ds)
abbrev MAV := RX → En → ((En → Option (List D)) → En → Prop) → Prop
def ResL (K : PySem.W.Frag) (P0 F : Hp) (σ : St) (vs : List V) (g : En → Option (List D)) : Prop :=
  ∀ (F' : Hp) (en : En) (H : Hp) (ds : List D), Same F F' → RS K P0 F' en σ H → g en = some ds → Vws K F' H vs ds
def SimAV (X : Cx) (W : WX) (t : TA) (m : MAV) : Prop := ∀ (P0 F : Hp) (en : En) (σ : St) (H : Hp) (R : RX) (Q : (En → Option (List D)) → En → Prop) (Qc : List V → Hp → Prop), RS X.K P0 F en σ H → Rais X.K W P0 F R → m R en Q →
  (∀ (F' : Hp) (en' : En) (vs : List V) (g : En → Option (List D)) (H' : Hp), Same F F' → RS X.K P0 F' en' σ H' → ResL X.K P0 F' σ vs g → Q g en' → Qc vs H') → t σ H Qc
def AAV (X : Cx) (W : WX) (es : List Expr) (m : MAV) : Prop := ∃ t, PA X es t ∧ SimAV X W t m
def mvNil : MAV := fun _ en Q => Q (fun _ => some []) en
def cns (x : Option D) (xs : Option (List D)) : Option (List D) := match x, xs with
  | some a, some as => some (a :: as)
  | _, _ => none
def mvCons (a : MV) (r : MAV) : MAV := fun R en Q => a R en fun g e1 => r R e1 fun h e2 => Q (fun en => cns (g en) (h en)) e2
variable {mr : MAV}
theorem aav_nil : AAV X W [] mvNil := ⟨_, pa_nil, fun P0 F en σ H R Q Qc rs rx hm k => k F en [] _ H (Same.refl F) rs (fun F' en' H' ds _ _ e => by cases e; exact .nil) hm⟩
theorem aav_cons (ha : AV X W e ma) (hr : AAV X W es mr) (hs : starEach (e :: es) X.env = (false, eval e X.env) :: starEach es X.env := by rfl) : AAV X W (e :: es) (mvCons ma mr) := by
  obtain ⟨_, pa, sa⟩ := ha
  obtain ⟨_, pr, sr⟩ := hr
  refine ⟨_, pa_cons pa pr hs, fun P0 F en σ H R Q Qc rs rx hm k => sa P0 F en σ H R _ _ rs rx hm fun F1 e1 v g H1 s1 r1 vg q => sr P0 F1 e1 σ H1 R _ _ r1 (rx.mono s1) q fun F2 e2 vs h H2 s2 r2 vh q => ?_⟩
  refine k F2 e2 _ _ H2 (s1.trans s2) r2 (fun F3 e3 H3 ds s3 r3 hd => ?_) q
  unfold cns at hd
  split at hd
  · rename_i x xs h1 h2
    cases hd
    exact .cons (vg F3 e3 H3 _ (s2.trans s3) r3 h1) (vh F3 e3 H3 _ s3 r3 h2)
  · cases hd
/-- a call of a built-in, by values -/
def CallS (X : Cx) (fv : Value) (f : List D → (D → Prop) → Prop) : Prop := ∃ r, CallR X fv r ∧ ∀ (P0 F : Hp) (en : En) (σ : St) (H : Hp) (vs : List V) (ds : List D) (k : D → Prop) (Qc : VK), RS X.K P0 F en σ H → Vws X.K F H vs ds → f ds k →
  (∀ (F' : Hp) (v : V) (d : D) (H' : Hp), Same F F' → RS X.K P0 F' en σ H' → Rp X.K F' v d → k d → Qc v H') → r vs H Qc
theorem CallS.imp {fv : Value} {f g : List D → (D → Prop) → Prop} (h : CallS X fv f) (i : ∀ ds k, g ds k → f ds k) : CallS X fv g :=
  let ⟨r, c, s⟩ := h; ⟨r, c, fun P0 F en σ H vs ds k Qc rs vw q => s P0 F en σ H vs ds k Qc rs vw (i ds k q)⟩
theorem CallS.or {fv : Value} {f g : List D → (D → Prop) → Prop} (h : CallS X fv f) (h' : CallS X fv g) : CallS X fv (fun ds k => f ds k ∨ g ds k) := by
  obtain ⟨r, c, s⟩ := h
  obtain ⟨r', c', s'⟩ := h'
  refine ⟨_, c.or c', fun P0 F en σ H vs ds k Qc rs vw q kk => ?_⟩
  rcases q with q | q
  · exact .inl (s P0 F en σ H vs ds k Qc rs vw q kk)
  · exact .inr (s' P0 F en σ H vs ds k Qc rs vw q kk)
def mCB (f : List D → (D → Prop) → Prop) (ma : MAV) : ME := fun R en Q => ma R en fun g e1 => ∃ ds, g e1 = some ds ∧ f ds fun d => Q d e1
theorem ae_cb {x : Str} {p : Pos} {id : String} {f : List D → (D → Prop) → Prop} (h : CallS X (.builtin id) f) (hg : Gl X x) (hm : X.mg x = none) (hv : bootBuiltins x = some (.builtin id)) (ha : AAV X W (e :: es) mr) (hn : x ≠ "__name__" := by decide) (hdb : (x == ("__debug__" : Str)) = false := by decide)
    (he : starEach (e :: es) X.env = (false, eval e X.env) :: starEach es X.env := by rfl) (hpl : (backTo pos (starEach es X.env)).any (·.1) = false := by rfl) : AE X W (.Call (.Name x p) (e :: es) [] pos) (mCB f mr) := by
  obtain ⟨r, c, s⟩ := h
  obtain ⟨_, pa, sa⟩ := ha
  refine ⟨_, pe_callB c hg hm hv pa hn hdb he hpl, fun P0 F en σ H R Q Qc rs rx hm k => sa P0 F en σ H R _ _ rs rx hm fun F1 e1 vs g H1 s1 r1 vg q => ?_⟩
  obtain ⟨ds, ed, q⟩ := q
  exact s P0 F1 e1 σ H1 vs ds _ Qc r1 (vg F1 e1 H1 ds (Same.refl _) r1 ed) q fun F2 v d H2 s2 r2 rp q2 => k F2 e1 v d H2 (s1.trans s2) r2 rp q2
theorem ae_ct {x : Str} {p : Pos} {T : String} {f : List D → (D → Prop) → Prop} (h : CallS X (.type T) f) (hg : Gl X x) (hm : X.mg x = none) (hv : bootBuiltins x = some (.type T)) (ha : AAV X W (e :: es) mr) (hn : x ≠ "__name__" := by decide) (hdb : (x == ("__debug__" : Str)) = false := by decide)
    (he : starEach (e :: es) X.env = (false, eval e X.env) :: starEach es X.env := by rfl) (hpl : (backTo pos (starEach es X.env)).any (·.1) = false := by rfl) : AE X W (.Call (.Name x p) (e :: es) [] pos) (mCB f mr) := by
  obtain ⟨r, c, s⟩ := h
  obtain ⟨_, pa, sa⟩ := ha
  refine ⟨_, pe_callTy c hg hm hv pa hn hdb he hpl, fun P0 F en σ H R Q Qc rs rx hm k => sa P0 F en σ H R _ _ rs rx hm fun F1 e1 vs g H1 s1 r1 vg q => ?_⟩
  obtain ⟨ds, ed, q⟩ := q
  exact s P0 F1 e1 σ H1 vs ds _ Qc r1 (vg F1 e1 H1 ds (Same.refl _) r1 ed) q fun F2 v d H2 s2 r2 rp q2 => k F2 e1 v d H2 (s1.trans s2) r2 rp q2
theorem vws1 {v : List V} {d : D} (h : Vws K F H v [d]) : ∃ u, v = [u] ∧ Vw K F H u d := by
  cases h with
  | cons a b => cases b; exact ⟨_, rfl, a⟩
theorem vws2 {v : List V} {d d' : D} (h : Vws K F H v [d, d']) : ∃ u u', v = [u, u'] ∧ Vw K F H u d ∧ Vw K F H u' d' := by
  cases h with
  | cons a b =>
    cases b with
    | cons c b => cases b; exact ⟨_, _, rfl, a, c⟩
def lenK : List D → (D → Prop) → Prop
  | [.lst xs], k => k (.int xs.length)
  | [.tup xs], k => k (.int xs.length)
  | [.str z], k => z.length ≤ sizeLine ∧ k (.int z.length)
  | _, _ => False
theorem c_len : CallS X (.builtin "len") lenK := ⟨_, call_len_seq.or call_len_str, fun P0 F en σ H vs ds k Qc rs vw q kk => by
  unfold lenK at q
  split at q
  · obtain ⟨u, rfl, v1⟩ := vws1 vw
    obtain ⟨p, vs, rfl, h1, r1⟩ := v1.lst rs.same
    exact .inl ⟨p, vs, rfl, .inl (SqL.of h1), by rw [r1.length]; exact kk F _ _ H (Same.refl F) rs (.int _) q⟩
  · obtain ⟨u, rfl, v1⟩ := vws1 vw
    obtain ⟨p, vs, rfl, h1, r1, _⟩ := v1.tup rs.same
    exact .inl ⟨p, vs, rfl, .inr h1, by rw [r1.length]; exact kk F _ _ H (Same.refl F) rs (.int _) q⟩
  · obtain ⟨u, rfl, v1⟩ := vws1 vw
    cases v1.str
    exact .inr ⟨_, rfl, q.1, kk F _ _ H (Same.refl F) rs (.int _) q.2⟩
  · exact q.elim⟩
def rMaxT (K : PySem.W.Frag) : List V → Hp → VK → Prop := fun vs H Q => ∃ (a : Addr) (n : Int) (ns : List Int), vs = [V.ref a] ∧ (SqL K H a ((n :: ns).map V.int) ∨ SqT K H a ((n :: ns).map V.int)) ∧ Q (.int (PySem.W.maxOf n ns)) H
theorem hold_ints {h : Heap} : ∀ {ns : List Int} {us : List Value}, Vals (ns.map V.int) us → PySem.W.HoldAll h us ns
  | [], _, .nil => .nil
  | _ :: _, _, .cons ⟨t, e⟩ r => e ▸ .cons ⟨_, .int _ t⟩ (hold_ints r)
theorem held_int {h : Heap} {v : Value} {n : Int} (H : PySem.W.Holds h v n) : ∃ t, v = .int n t := by
  obtain ⟨as, r⟩ := H
  cases r
  exact ⟨_, rfl⟩
theorem cr_maxT (hc : X.calm = true) (hu : X.A.units + 100 < cLine) : CallR X (.builtin "max") (rMaxT X.K) := fun pins s σ H vs us Q I r h => by
  obtain ⟨a, n, ns, rfl, hs, q⟩ := h
  rw [Vals.ref1 r]
  have room : X.A.units + 1 + PySem.W.Datum.depth Int < cLine := by
    show X.A.units + 1 + 0 < cLine
    omega
  rcases hs with hs | hs
  · obtain ⟨its, rv, hl, _⟩ := I.list hs
    refine PySem.W.max_list_datum (I.ok.hd hc) hl.isList (hold_ints (ns := n :: ns) (by simpa using rv)) room fun i v h' tk _ hv hk => ?_
    obtain ⟨t, rfl⟩ := held_int hv
    exact ⟨.int _, H, I.kept hk, ⟨t, rfl⟩, q⟩
  · obtain ⟨its, rv, ht, _⟩ := I.tuple hs
    refine PySem.W.max_tuple_datum (I.ok.hd hc) ht (hold_ints (ns := n :: ns) (by simpa using rv)) room fun i v h' tk _ hv hk => ?_
    obtain ⟨t, rfl⟩ := held_int hv
    exact ⟨.int _, H, I.kept hk, ⟨t, rfl⟩, q⟩
/-- data that is a list of numbers -/
def D.ints : List D → Option (List Int)
  | [] => some []
  | .int i :: ds => (D.ints ds).map (i :: ·)
  | _ :: _ => none
theorem ints_map : ∀ ns : List Int, D.ints (ns.map D.int) = some ns
  | [] => rfl
  | n :: ns => by
    show (D.ints (ns.map D.int)).map (n :: ·) = _
    rw [ints_map ns]; rfl
theorem of_ints : ∀ {ds : List D} {ns : List Int}, D.ints ds = some ns → ds = ns.map D.int
  | [], ns, h => by cases h; rfl
  | .int i :: ds, ns, h => by
    have h : (D.ints ds).map (i :: ·) = some ns := h
    cases e : D.ints ds with
    | none => rw [e] at h; cases h
    | some ms => rw [e] at h; cases h; rw [of_ints e]; rfl
  | .non :: _, _, h => by cases h
  | .bl _ :: _, _, h => by cases h
  | .str _ :: _, _, h => by cases h
  | .tup _ :: _, _, h => by cases h
  | .lst _ :: _, _, h => by cases h
  | .dic _ _ :: _, _, h => by cases h
  | .ref _ :: _, _, h => by cases h
  | .ty _ :: _, _, h => by cases h
  | .scr _ :: _, _, h => by cases h
  | .exn _ _ _ _ :: _, _, h => by cases h
  | .kwd _ _ :: _, _, h => by cases h
  | .eo _ _ _ :: _, _, h => by cases h
def seq1 (ds : List D) (k : List D → Prop) : Prop := match ds with
  | [d] => seqD d k
  | _ => False
theorem seq1_some {ds : List D} {k : List D → Prop} (h : seq1 ds k) : ∃ d xs, ds = [d] ∧ (d = .tup xs ∨ d = .lst xs) ∧ k xs := by
  unfold seq1 at h
  split at h
  · obtain ⟨xs, a, b⟩ := seqD_some h
    exact ⟨_, xs, rfl, a, b⟩
  · exact h.elim
def maxK (ds : List D) (k : D → Prop) : Prop := seq1 ds fun xs => ∃ n ns, D.ints xs = some (n :: ns) ∧ k (.int (PySem.W.maxOf n ns))
theorem Vw.seq {v : V} {d : D} {xs : List D} (s : Same F H) (h : Vw K F H v d) (hd : d = .tup xs ∨ d = .lst xs) : ∃ p vs, v = .ref p ∧ (SqL K H p vs ∨ SqT K H p vs) ∧ Rps K F vs xs := by
  rcases hd with rfl | rfl
  · obtain ⟨p, vs, e, h1, r, _⟩ := h.tup s
    exact ⟨p, vs, e, .inr h1, r⟩
  · obtain ⟨p, vs, e, h1, r⟩ := h.lst s
    exact ⟨p, vs, e, .inl (SqL.of h1), r⟩
theorem c_max (hc : X.calm = true) (hu : X.A.units + 100 < cLine) : CallS X (.builtin "max") maxK := ⟨_, cr_maxT hc hu, fun P0 F en σ H vs ds k Qc rs vw q kk => by
  obtain ⟨d, xs, rfl, hd, n, ns, hi, q⟩ := seq1_some q
  obtain ⟨u, rfl, v1⟩ := vws1 vw
  obtain ⟨p, vs, rfl, h1, r1⟩ := v1.seq rs.same hd
  rw [of_ints hi] at r1
  rw [Rps.ints_of r1] at h1
  exact ⟨p, n, ns, rfl, h1, kk F _ _ H (Same.refl F) rs (.int _) q⟩⟩
def D.bls : List D → Option (List Bool)
  | [] => some []
  | .bl i :: ds => (D.bls ds).map (i :: ·)
  | _ :: _ => none
theorem bls_map : ∀ ns : List Bool, D.bls (ns.map D.bl) = some ns
  | [] => rfl
  | n :: ns => by
    show (D.bls (ns.map D.bl)).map (n :: ·) = _
    rw [bls_map ns]; rfl
theorem rps_bls : ∀ {ds : List D} {ns : List Bool} {vs : List V}, Rps K F vs ds → D.bls ds = some ns → vs = ns.map V.bl
  | [], ns, _, r, h => by cases h; cases r; rfl
  | .bl i :: ds, ns, _, r, h => by
    have h : (D.bls ds).map (i :: ·) = some ns := h
    cases e : D.bls ds with
    | none => rw [e] at h; cases h
    | some ms =>
      rw [e] at h; cases h
      cases r with
      | cons r1 r2 => cases r1; rw [rps_bls r2 e]; rfl
  | .non :: _, _, _, _, h => by cases h
  | .int _ :: _, _, _, _, h => by cases h
  | .str _ :: _, _, _, _, h => by cases h
  | .tup _ :: _, _, _, _, h => by cases h
  | .lst _ :: _, _, _, _, h => by cases h
  | .dic _ _ :: _, _, _, _, h => by cases h
  | .ref _ :: _, _, _, _, h => by cases h
  | .ty _ :: _, _, _, _, h => by cases h
  | .scr _ :: _, _, _, _, h => by cases h
  | .exn _ _ _ _ :: _, _, _, _, h => by cases h
  | .kwd _ _ :: _, _, _, _, h => by cases h
  | .eo _ _ _ :: _, _, _, _, h => by cases h
def lst1 (ds : List D) (k : List D → Prop) : Prop := match ds with
  | [.lst xs] => k xs
  | _ => False
theorem lst1_some {ds : List D} {k : List D → Prop} (h : lst1 ds k) : ∃ xs, ds = [.lst xs] ∧ k xs := by
  unfold lst1 at h
  split at h
  · exact ⟨_, rfl, h⟩
  · exact h.elim
def allK (ds : List D) (k : D → Prop) : Prop := lst1 ds fun xs => ∃ bs, D.bls xs = some bs ∧ k (.bl (bs.all id))
theorem c_all (hc : X.calm = true) : CallS X (.builtin "all") allK := ⟨_, cr_all hc, fun P0 F en σ H vs ds k Qc rs vw q kk => by
  obtain ⟨xs, rfl, bs, hb, q⟩ := lst1_some q
  obtain ⟨u, rfl, v1⟩ := vws1 vw
  obtain ⟨p, vs, rfl, h1, r1⟩ := v1.lst rs.same
  rw [rps_bls r1 hb] at h1
  exact ⟨p, bs, rfl, SqL.of h1, kk F _ _ H (Same.refl F) rs (.bl _) q⟩⟩
def tupleK (ds : List D) (k : D → Prop) : Prop := seq1 ds fun xs => k (.tup xs)
theorem c_tuple : CallS X (.type "tuple") tupleK := ⟨_, call_tupleF, fun P0 F en σ H vs ds k Qc rs vw q kk => by
  obtain ⟨d, xs, rfl, hd, q⟩ := seq1_some q
  obtain ⟨u, rfl, v1⟩ := vws1 vw
  rcases hd with rfl | rfl
  · obtain ⟨p, vs, rfl, h1, r1, rp, _⟩ := v1.tup rs.same
    exact ⟨p, vs, rfl, .inr ⟨h1, kk F _ _ H (Same.refl F) rs rp q⟩⟩
  · obtain ⟨p, vs, rfl, h1, r1⟩ := v1.lst rs.same
    exact ⟨p, vs, rfl, .inl ⟨SqL.of h1, end_tup rs r1 q kk⟩⟩⟩
def typeT : D → Option String
  | .non => some "NoneType"
  | .bl _ => some "bool"
  | .int _ => some "int"
  | .str _ => some "str"
  | .tup _ => some "tuple"
  | .lst _ => some "list"
  | .dic _ _ => some "dict"
  | _ => none
theorem Vw.type {v : V} {d : D} {t : String} (s : Same F H) (h : Vw K F H v d) (e : typeT d = some t) : TyX K H v (.type t) := by
  cases d <;> cases e
  · cases h.non; exact .base .non
  · cases h.bl; exact .base (.bl _)
  · cases h.int; exact .base (.int _)
  · cases h.str; exact .base (.str _)
  · obtain ⟨p, vs, rfl, h1, _⟩ := h.tup s
    rcases h1 with (h1 | ⟨o, h1⟩) | ⟨o, its, n, h1, h2, _⟩
    · exact .base (.tup h1)
    · exact .fTuple h1
    · exact .kTuple h1 h2
  · obtain ⟨p, vs, rfl, h1, _⟩ := h.lst s
    exact .base (.lst h1)
  · have h0 := h.rp fun ds z => nomatch z
    cases h0 with
    | dic h1 _ _ => exact .base (.dK (s _ _ h1))
def isiK : List D → (D → Prop) → Prop
  | [d, .ty c], k => ∃ t b, typeT d = some t ∧ kitB t c = some b ∧ k (.bl b)
  | _, _ => False
theorem c_isi : CallS X (.builtin "isinstance") isiK := ⟨_, call_isi, fun P0 F en σ H vs ds k Qc rs vw q kk => by
  unfold isiK at q
  split at q
  · obtain ⟨t, b, e1, e2, q⟩ := q
    obtain ⟨u, u', rfl, v1, v2⟩ := vws2 vw
    have r2 := v2.rp fun ds z => nomatch z
    cases r2
    exact ⟨u, _, _, _, b, rfl, .ty _, v1.type rs.same e1, kit_ty e2, kk F _ _ H (Same.refl F) rs (.bl _) q⟩
  · exact q.elim⟩
/-- a built-in class as a value -/
theorem ae_ty {x : Str} {T : String} {p : Pos} (hg : Gl X x) (hm : X.mg x = none) (hv : bootBuiltins x = some (.type T)) (hn : x ≠ "__name__" := by decide) (hd : (x == ("__debug__" : Str)) = false := by decide) : AE X W (.Name x p) (mC (.ty T)) :=
  ⟨_, pe_bltn (v := .ty T) hg hm hv rfl hn hd, sim_c fun _ => .ty T⟩
end
end LP
namespace LP
open PySem PySem.Spec L2
open PyProof.Rows hiding St
def wipeE (l : List Sl) : List Nat → List Sl
  | [] => l
  | v :: vs => (wipeE l vs).set v .un
/-- owning slots are as they were, and none of them is a name of the comprehension -/
def keepO (vs : List Nat) : Nat → List Sl → List Sl → Prop
  | _, [], _ => True
  | i, s :: l, [] => s.own = false ∧ keepO vs (i + 1) l []
  | i, s :: l, s' :: l' => (s.own = true → vs.contains i = false ∧ s' = s) ∧ keepO vs (i + 1) l l'
theorem keepO_at {vs : List Nat} : ∀ {l l' : List Sl} {k : Nat}, keepO vs k l l' → ∀ (i : Nat) (s : Sl), l[i]? = some s → s.own = true → vs.contains (k + i) = false ∧ l'[i]? = some s
  | [], _, _, _, i, s, h, _ => by simp at h
  | a :: l, [], k, h, 0, s, e, ho => by
    simp at e; subst e
    rw [h.1] at ho; cases ho
  | a :: l, [], k, h, i + 1, s, e, ho => by
    have z := keepO_at h.2 i s (by simpa using e) ho
    simp at z
  | a :: l, a' :: l', k, h, 0, s, e, ho => by
    simp at e; subst e
    obtain ⟨h1, h2⟩ := h.1 ho
    exact ⟨h1, by simp [h2]⟩
  | a :: l, a' :: l', k, h, i + 1, s, e, ho => by
    obtain ⟨h1, h2⟩ := keepO_at h.2 i s (by simpa using e) ho
    exact ⟨by rw [show k + (i + 1) = k + 1 + i by omega]; exact h1, by simpa using h2⟩
def lcR (g : MG) (tt : MT) (te : ME) (vs : List Nat) : List D → List D → En → (List D → En → Prop) → Prop
  | [], acc, en, Q => Q acc en
  | d :: ds, acc, en, Q => g d { en with sl := wipeE en.sl vs } fun e2 => tt (fun _ _ => False) e2 fun b e3 => if b = true
      then te (fun _ _ => False) e3 fun y e4 => keepO vs 0 en.sl e4.sl ∧ acc.length < sizeLine ∧ lcR g tt te vs ds (acc ++ [y]) { en with M := e4.M } Q
      else keepO vs 0 en.sl e3.sl ∧ lcR g tt te vs ds acc { en with M := e3.M } Q
def mLc (it : MI) (g : MG) (tt : MT) (te : ME) (vs : List Nat) : MF := fun R en Q => it R en fun ds e1 => lcR g tt te vs ds [] e1 Q
def ATs (X : Cx) (ifs : List Expr) (m : MT) : Prop := ∃ t, PTs X ifs t ∧ SimT X W0 t m
def mYes : MT := fun _ en Q => Q true en
theorem ats_nil {X : Cx} : ATs X [] mYes := ⟨_, pts_nil, fun P0 F en σ H R Q Qc rs rx hm k => k F en true H (Same.refl F) rs hm⟩
theorem ats_one {X : Cx} {c : Expr} {m : MT} (h : AT X W0 c m) : ATs X [c] m := let ⟨_, p, s⟩ := h; ⟨_, pts_one p, s⟩
section
variable {X : Cx} {W : WX} {K : PySem.W.Frag} {P0 F H : Hp} {en : En} {σ : St}
theorem RS.wipe (R : RS K P0 F en σ H) : ∀ vs : List Nat, RS K P0 F { en with sl := wipeE en.sl vs } (wipe σ vs) H
  | [] => R
  | v :: vs => (RS.wipe R vs).un
theorem wipe_same {σ σ' : St} (hl : σ'.length = σ.length) : ∀ {vs : List Nat}, (∀ j, j ∉ vs → σ'[j]? = σ[j]?) → L2.wipe σ' vs = L2.wipe σ vs := by
  intro vs h
  have core : ∀ (τ : St) (us : List Nat) (j : Nat), (L2.wipe τ us)[j]? = if j ∈ us then (if j < τ.length then some none else none) else τ[j]? := by
    intro τ us
    induction us with
    | nil => intro j; simp [L2.wipe]
    | cons u us ih =>
      intro j
      have len : (L2.wipe τ us).length = τ.length := wipe_length τ us
      show ((L2.wipe τ us).set u none)[j]? = _
      by_cases hj : u = j
      · subst hj
        by_cases hl : u < τ.length
        · rw [List.getElem?_set_self (by rw [len]; exact hl)]; simp [hl]
        · rw [List.getElem?_eq_none (by simp [len]; omega)]; simp [hl]
      · rw [List.getElem?_set_ne hj, ih j]
        simp [Ne.symm hj]
  apply List.ext_getElem?
  intro j
  rw [core, core, hl]
  by_cases hj : j ∈ vs
  · simp [hj]
  · simp [hj, h j hj]
theorem wipe_twice (σ : St) (vs : List Nat) : L2.wipe (L2.wipe σ vs) vs = L2.wipe σ vs :=
  wipe_same (wipe_length σ vs) fun j hj => wipe_out hj
/-- behind a turn -/
theorem RS.back {P1 F1 H1 : Hp} {e1 : En} {σ1 : St} {vs : List Nat} (R0 : RS K P0 F en σ H) (R1 : RS K P1 F1 e1 σ1 H1) (s : Same F F1) (hσ : ∀ j, j ∉ vs → σ1[j]? = σ[j]?) (k : keepO vs 0 en.sl e1.sl) : RS K P1 F1 { en with M := e1.M } σ H1 where
  same := R1.same
  prv := R1.prv
  len := R0.len
  val := fun i d h => let ⟨v, a, b⟩ := R0.val i d h; ⟨v, a, b.mono s⟩
  own := fun i sl h ho => by
    obtain ⟨h1, h2⟩ := keepO_at k i sl h ho
    obtain ⟨p, a, b, c, d, ok⟩ := R1.own i sl h2 ho
    exact ⟨p, (hσ i (fun z => by simp [z] at h1)).symm.trans a, b, c, d, ok⟩
  apart := R0.apart
  sto := R1.sto
theorem sim_lc {b : Bool} {wi : TI} {g : TG} {tt : TT} {te : TE} {mi : MI} {mg : MG} {mt : MT} {me : ME} {vs ws : List Nat} (hi : SimI X W b wi mi) (hg : SimG X b g mg ws) (ht : SimT X W0 tt mt) (he : SimE X W0 te me) (hw : ∀ i ∈ ws, i ∈ vs) :
    SimF X W (tLc wi g tt te vs) (mLc mi mg mt me vs) := fun P0 F en σ H R Q Qc rs rx hm k => hi P0 F en σ H R _ _ rs rx hm fun F1 e1 J ds H1 s1 rs1 hJ q => by
  intro D hD
  have n1 := rs1.new hD
  have n1' : New P0 F1 e1 σ (upd H1 D (.lst [])) D := n1.lay
  refine ⟨fun i n H2 => ∃ F2 e2 acc as, Same F1 F2 ∧ RS X.K (upd P0 D (.lst as)) F2 e2 σ H2 ∧ Rps X.K F2 as acc ∧ n = ds.length - i ∧ i ≤ ds.length ∧ lcR mg mt me vs (ds.drop i) acc e2 Q,
    ⟨ds.length, F1, e1, [], [], Same.refl F1, (rs1.lay hD).hold n1' upd_same, .nil, by simp, Nat.zero_le _, q⟩, ?_⟩
  rintro i n H2 ⟨F2, e2, acc, as, s2, rs2, ra, rfl, hi, q2⟩
  by_cases hlt : i < ds.length
  · refine .inr ⟨((hJ.mono s2 H2 rs2.same).1 i ds[i] (by simp [hlt])).1, fun H' => ∃ F3 e3 acc as, Same F1 F3 ∧ RS X.K (upd P0 D (.lst as)) F3 e3 σ H' ∧ Rps X.K F3 as acc ∧ lcR mg mt me vs (ds.drop (i + 1)) acc e3 Q, ?_, ?_⟩
    · rintro H' ⟨F3, e3, acc', as', s3, rs3, ra3, q3⟩
      exact ⟨ds.length - (i + 1), by omega, F3, e3, acc', as', s3, rs3, ra3, rfl, hlt, q3⟩
    · intro x H3 y
      obtain ⟨F3, s3, rs3, rp⟩ := (hJ.mono s2).turn rs2 (List.getElem?_eq_getElem hlt) y
      rw [List.drop_eq_getElem_cons hlt] at q2
      refine hg (upd P0 D (.lst as)) F3 _ (L2.wipe σ vs) H3 x ds[i] _ _ (rs3.wipe vs) rp q2 fun F4 e4 σ4 H4 s4 rs4 l4 k4 q4 => ?_
      have hσ : ∀ j, j ∉ vs → σ4[j]? = (L2.wipe σ vs)[j]? := fun j hj => k4 j fun z => hj (hw j z)
      refine ⟨(wipe_same l4 hσ).trans (wipe_twice σ vs), ?_⟩
      have hσ' : ∀ j, j ∉ vs → σ4[j]? = σ[j]? := fun j hj => (hσ j hj).trans (wipe_out hj)
      refine ht (upd P0 D (.lst as)) F4 e4 σ4 H4 _ _ _ rs4 (fun _ _ _ _ _ _ _ _ _ _ z => z) q4 fun F5 e5 b H5 s5 rs5 q5 => ?_
      cases b with
      | false =>
        rw [if_neg Bool.false_ne_true] at q5 ⊢
        obtain ⟨ko, q5⟩ := q5
        exact ⟨F5, _, acc, as, ((s2.trans s3).trans s4).trans s5, rs3.back rs5 (s4.trans s5) hσ' ko, ra.mono ((s3.trans s4).trans s5), q5⟩
      | true =>
        rw [if_pos rfl] at q5 ⊢
        refine he (upd P0 D (.lst as)) F5 e5 σ4 H5 _ _ _ rs5 (fun _ _ _ _ _ _ _ _ _ _ z => z) q5 fun F6 e6 y6 d6 H6 s6 rs6 r6 q6 => ?_
        obtain ⟨ko, hz, q6⟩ := q6
        have ra6 := ra.mono (((s3.trans s4).trans s5).trans s6)
        refine ⟨as, (rs6.prv D _ upd_same).1, by rw [ra6.length]; exact hz, F6, _, acc ++ [d6], as ++ [y6], (((s2.trans s3).trans s4).trans s5).trans s6, (rs3.back rs6 ((s4.trans s5).trans s6) hσ' ko).held, ra6.append (.cons r6 .nil), q6⟩
  · have e : i = ds.length := by omega
    subst e
    rw [List.drop_length] at q2
    obtain ⟨rs3, n3⟩ := rs2.letgo n1.p0
    exact .inl ⟨(hJ.mono s2 H2 rs2.same).2, k F2 e2 D as acc H2 (s1.trans s2) rs3 n3 (rs2.prv D _ upd_same).1 ra q2⟩
variable {elt tg iter : Expr} {ifs : List Expr} {scope : Scope} {own : List (Str × Nat)} {pos spos py' : Pos} {mi : MI} {mg : MG} {mt : MT} {me : ME} {ws : List Nat} {b : Bool}
/-- the reading that a meaning has by itself, whatever the context -/
def cE (K : PySem.W.Frag) (me : ME) : TE := fun σ H Q => ∃ (P0 F : Hp) (en : En) (R : RX) (Qa : D → En → Prop), RS K P0 F en σ H ∧ Rais K W0 P0 F R ∧ me R en Qa ∧
  ∀ (F' : Hp) (en' : En) (v : V) (d : D) (H' : Hp), Same F F' → RS K P0 F' en' σ H' → Rp K F' v d → Qa d en' → Q v H'
def cT (K : PySem.W.Frag) (mt : MT) : TT := fun σ H Q => ∃ (P0 F : Hp) (en : En) (R : RX) (Qa : Bool → En → Prop), RS K P0 F en σ H ∧ Rais K W0 P0 F R ∧ mt R en Qa ∧
  ∀ (F' : Hp) (en' : En) (b : Bool) (H' : Hp), Same F F' → RS K P0 F' en' σ H' → Qa b en' → Q b H'
def cG (K : PySem.W.Frag) (b : Bool) (mg : MG) (ws : List Nat) : TG := fun v σ H Q => ∃ (P0 F : Hp) (en : En) (d : D) (Qa : En → Prop), RS K P0 F en σ H ∧ rl b K F v d ∧ mg d en Qa ∧
  ∀ (F' : Hp) (en' : En) (σ' : St) (H' : Hp), Same F F' → RS K P0 F' en' σ' H' → σ'.length = σ.length → (∀ j, j ∉ ws → σ'[j]? = σ[j]?) → Qa en' → Q σ' H'
theorem pe_c {e : Expr} (h : AE X W0 e me) : PE X e (cE X.K me) := let ⟨_, p, s⟩ := h; ⟨fun pins st σ H Q I ⟨P0, F, en, R, Qa, rs, rx, hm, k⟩ => p.run pins st σ H Q I (s P0 F en σ H R Qa Q rs rx hm k)⟩
theorem pts_c {es : List Expr} (h : ATs X es mt) : PTs X es (cT X.K mt) := let ⟨_, p, s⟩ := h; ⟨fun pins st σ H Q I ⟨P0, F, en, R, Qa, rs, rx, hm, k⟩ => p.run pins st σ H Q I (s P0 F en σ H R Qa Q rs rx hm k)⟩
theorem pg_c {e : Expr} (h : AG X b e mg ws) : PG X e (cG X.K b mg ws) := let ⟨_, p, s⟩ := h; ⟨fun pins st σ H v u Q I rv ⟨P0, F, en, d, Qa, rs, rp, hm, k⟩ => p.run pins st σ H v u Q I rv (s P0 F en σ H v d Qa Q rs rp hm k)⟩
theorem sim_ce : SimE X W0 (cE X.K me) me := fun P0 F en σ H R Q Qc rs rx hm k => ⟨P0, F, en, R, Q, rs, rx, hm, k⟩
theorem sim_ct : SimT X W0 (cT X.K mt) mt := fun P0 F en σ H R Q Qc rs rx hm k => ⟨P0, F, en, R, Q, rs, rx, hm, k⟩
theorem sim_cg : SimG X b (cG X.K b mg ws) mg ws := fun P0 F en σ H v d Q Qc rs rp hm k => ⟨P0, F, en, d, Q, rs, rp, hm, k⟩
theorem af_lc (hc : X.calm = true) (hN : X.N.Nodup) (hi : AI X W b tg iter mi) (ok : BlkOk X.N X.env.scope scope own)
    (hg : ∀ (s : Shared) (H : Hp) (C : Addr) (cl : List (Str × Addr)) (fp : List Addr), AG (X.blk s H scope (compEnvC scope cl C X.env) fp) b tg mg ws)
    (ht : ∀ (s : Shared) (H : Hp) (C : Addr) (cl : List (Str × Addr)) (fp : List Addr), ATs (X.blk s H scope (compEnvC scope cl C X.env) fp) ifs mt)
    (he : ∀ (s : Shared) (H : Hp) (C : Addr) (cl : List (Str × Addr)) (fp : List Addr), AE (X.blk s H scope (compEnvC scope cl C X.env) fp) W0 elt me)
    (hw : ∀ i ∈ ws, i ∈ own.map (·.2) := by decide) (hs : ∀ x, foldedSetIterable iter X.env x = pure x := by intro _; rfl) : AF X W (.ListComp elt [⟨tg, iter, ifs, 0⟩] scope pos) (mLc mi mg mt me (own.map (·.2))) := by
  obtain ⟨_, pi, si⟩ := hi
  exact ⟨_, pe_lc hc hN pi ok (fun s H C cl fp => pg_c (hg s H C cl fp)) (fun s H C cl fp => pts_c (ht s H C cl fp)) (fun s H C cl fp => pe_c (he s H C cl fp)) hs, sim_lc si sim_cg sim_ct sim_ce hw⟩
theorem as_lc {i : Nat} {y : Str} (hc : X.calm = true) (hN : X.N.Nodup) (hy : X.N[i]? = some y) (hyl : X.env.scope.names.lookup y = some .local)
    (hsw : swapsWith (.ListComp elt [⟨tg, iter, ifs, 0⟩] scope pos) (some (.Name y py')) spos.line X.env = pure true) (hi : AI X W b tg iter mi) (ok : BlkOk X.N X.env.scope scope own)
    (hg : ∀ (s : Shared) (H : Hp) (C : Addr) (cl : List (Str × Addr)) (fp : List Addr), AG (X.blk s H scope (compEnvC scope cl C X.env) fp) b tg mg ws)
    (ht : ∀ (s : Shared) (H : Hp) (C : Addr) (cl : List (Str × Addr)) (fp : List Addr), ATs (X.blk s H scope (compEnvC scope cl C X.env) fp) ifs mt)
    (he : ∀ (s : Shared) (H : Hp) (C : Addr) (cl : List (Str × Addr)) (fp : List Addr), AE (X.blk s H scope (compEnvC scope cl C X.env) fp) W0 elt me)
    (hw : ∀ i ∈ ws, i ∈ own.map (·.2) := by decide) (hs : ∀ x, foldedSetIterable iter X.env x = pure x := by intro _; rfl) : AS X W (.Assign [.Name y py'] (.ListComp elt [⟨tg, iter, ifs, 0⟩] scope pos) spos) (sSet i (mL (mLc mi mg mt me (own.map (·.2))))) := by
  obtain ⟨_, pi, si⟩ := hi
  refine ⟨_, ps_setLc (te := cE X.K me) (tt := cT X.K mt) (g := cG X.K b mg ws) hc hN hy hyl hsw pi ok (fun s H C cl fp => pg_c (hg s H C cl fp)) (fun s H C cl fp => pts_c (ht s H C cl fp)) (fun s H C cl fp => pe_c (he s H C cl fp)) hs, fun P0 F en σ H A E rs w hm => ?_⟩
  refine sim_lc si sim_cg sim_ct sim_ce hw P0 F en σ H _ _ _ rs w.R hm fun F' en' p vs ds H' s1 r n hp rp q => ?_
  have s2 : Same F' (upd F' p (.lst vs)) := same_upd n.f
  exact w.nx _ _ _ H' (s1.trans s2) ((r.give n hp).setV (.lst upd_same (rp.mono s2))) q
end
section
variable {X : Cx} {W : WX} {o e ix : Expr} {es : List Expr} {pos apos : Pos} {me mi : ME} {x : Str}
theorem own_at {K : PySem.W.Frag} {P0 F H : Hp} {en : En} {σ : St} {i : Nat} {ds : List D} (R : RS K P0 F en σ H) (h : gt en.sl i = .ol ds) :
    ∃ (p : Addr) (vs : List V), σ[i]? = some (some (.ref p)) ∧ H p = some (.lst vs) ∧ Rps K F vs ds := by
  obtain ⟨p, a, _, _, _, vs, b, c⟩ := R.own i _ (gt_some h (fun z => nomatch z)) rfl
  exact ⟨p, vs, a, b, c⟩
theorem own_upd {K : PySem.W.Frag} {P0 F H : Hp} {en : En} {σ : St} {i : Nat} {ds ds' : List D} {p : Addr} {vs' : List V} (R : RS K P0 F en σ H) (h : gt en.sl i = .ol ds) (hp : σ[i]? = some (some (.ref p))) (r : Rps K F vs' ds') :
    RS K P0 F { en with sl := en.sl.set i (.ol ds') } σ (upd H p (.lst vs')) :=
  R.updO (s' := .ol ds') (gt_some h (fun z => nomatch z)) rfl hp rfl ⟨vs', upd_same, r⟩
def olD (s : Sl) (k : List D → Prop) : Prop := match s with
  | .ol ds => k ds
  | _ => False
theorem olD_some {s : Sl} {k : List D → Prop} (h : olD s k) : ∃ ds, s = .ol ds ∧ k ds := by
  unfold olD at h
  split at h
  · exact ⟨_, rfl, h⟩
  · exact h.elim
def isOl (s : Sl) : Prop := match s with
  | .ol _ => True
  | _ => False
theorem isOl_some {s : Sl} (h : isOl s) : ∃ ds, s = .ol ds := by
  unfold isOl at h
  split at h
  · exact ⟨_, rfl⟩
  · exact h.elim
/-- x.append(e) -/
def mApp (i : Nat) (m : ME) : ME := fun R en Q => isOl (gt en.sl i) ∧ m R en fun d e1 => olD (gt e1.sl i) fun ds => ds.length < sizeLine ∧ Q .non { e1 with sl := e1.sl.set i (.ol (ds ++ [d])) }
theorem ae_append (i : Nat) {p : Pos} (he : AE X W e me) (hN : X.N[i]? = some x := by rfl) (hv : Vis X.env.scope x := by first | exact Or.inl rfl | exact Or.inr (Or.inl rfl) | exact Or.inr (Or.inr rfl)) (hd : (x == ("__debug__" : Str)) = false := by decide)
    (hcd : (x == ("__classdict__" : Str)) = false := by decide) (hbase : attributeBase (.Name x p) "append" X.env (eval (.Name x p) X.env) = eval (.Name x p) X.env := by rfl)
    (hfew : ((backTo pos (starEach [e] X.env)).all (fun x => !x.1) && (backToKw pos (keywordEach [] X.env)).all (fun x => x.1.isSome) && decide ([e].length + ([] : List Keyword).length + (if ([] : List Keyword).isEmpty then 0 else 1) < 30)) = true := by rfl)
    (hline : (apos.endLine == pos.line) = true := by rfl) (hs : starEach [e] X.env = (false, eval e X.env) :: starEach [] X.env := by rfl) : AE X W (.Call (.Attribute (.Name x p) "append" apos) [e] [] pos) (mApp i me) := by
  obtain ⟨_, pe, se⟩ := he
  refine ⟨_, pe_bm PySem.F.plainAttrs_list PySem.F.slot_list_append PySem.F.type_list_append (r := rAppend) mt_append (pe_var hN hv hd hcd) (pa_cons pe pa_nil hs) hbase hfew hline hs rfl, fun P0 F en σ H R Q Qc rs rx hm k => ?_⟩
  obtain ⟨h0, hm⟩ := hm
  obtain ⟨ds0, h0⟩ := isOl_some h0
  obtain ⟨p, vs, h1, h2, _⟩ := own_at rs h0
  refine ⟨_, h1, .inl ⟨rfl, vs, SqL.of h2⟩, se P0 F en σ H R _ _ rs rx hm fun F1 e1 v d H1 s1 r1 rp q => ?_⟩
  obtain ⟨ds, h3, hz, q⟩ := olD_some q
  obtain ⟨p', vs', h4, h5, r5⟩ := own_at r1 h3
  rw [h1] at h4; cases h4
  exact ⟨p, vs', v, rfl, rfl, h5, by rw [r5.length]; exact hz, k F1 _ _ _ _ s1 (own_upd r1 h3 h1 (r5.append (.cons rp .nil))) .non q⟩
/-- x.pop() -/
def mPop (i : Nat) : ME := fun _ en Q => olD (gt en.sl i) fun ds => oo ds.getLast? fun d => Q d { en with sl := en.sl.set i (.ol ds.dropLast) }
theorem ae_pop (i : Nat) {p : Pos} (hN : X.N[i]? = some x := by rfl) (hv : Vis X.env.scope x := by first | exact Or.inl rfl | exact Or.inr (Or.inl rfl) | exact Or.inr (Or.inr rfl)) (hd : (x == ("__debug__" : Str)) = false := by decide)
    (hcd : (x == ("__classdict__" : Str)) = false := by decide) (hbase : attributeBase (.Name x p) "pop" X.env (eval (.Name x p) X.env) = eval (.Name x p) X.env := by rfl)
    (hline : (apos.endLine == pos.line) = true := by rfl) : AE X W (.Call (.Attribute (.Name x p) "pop" apos) [] [] pos) (mPop i) := by
  refine ⟨_, pe_bm0 PySem.F.plainAttrs_list PySem.F.slot_list_pop PySem.F.type_list_pop (r := rPop) mt_pop (pe_var hN hv hd hcd) hbase hline, fun P0 F en σ H R Q Qc rs rx hm k => ?_⟩
  obtain ⟨ds, h0, hm⟩ := olD_some hm
  obtain ⟨d, hl, q⟩ := oo_some hm
  obtain ⟨p, vs, h1, h2, r2⟩ := own_at rs h0
  have e1 : ds[ds.length - 1]? = some d := by rw [← List.getLast?_eq_getElem?]; exact hl
  obtain ⟨v, hv, rv⟩ := r2.getD e1
  exact ⟨_, h1, .inl ⟨rfl, vs, SqL.of h2⟩, p, vs, v, rfl, rfl, h2, by rw [r2.length]; exact hv, k F _ _ _ _ (Same.refl F) (own_upd rs h0 h1 r2.dropLast) rv q⟩
/-- x.pop(k) -/
def mPopAt (i : Nat) (m : ME) : ME := fun R en Q => isOl (gt en.sl i) ∧ m R en fun d e1 => intD d fun j => olD (gt e1.sl i) fun ds => (-(2 ^ 63) ≤ j ∧ j < 2 ^ 63) ∧ oo (seqIndex? j ds.length) fun n => oo ds[n]? fun y => Q y { e1 with sl := e1.sl.set i (.ol (ds.eraseIdx n)) }
/-- x.extend(a list) -/
def mExt (i : Nat) (m : ME) : ME := fun R en Q => isOl (gt en.sl i) ∧ m R en fun d e1 => lst1 [d] fun es => olD (gt e1.sl i) fun ds => ds.length + es.length ≤ sizeLine ∧ Q .non { e1 with sl := e1.sl.set i (.ol (ds ++ es)) }
/-- x[k] = e -/
def sSub (i : Nat) (me mi : ME) : MS := fun A en => me A.R en fun d e1 => (match gt e1.sl i with | .ol _ => True | _ => False) ∧ mi A.R e1 fun j e2 => intD j fun j => olD (gt e2.sl i) fun ds => oo (ixN ds.length j) fun n => A.nx { e2 with sl := e2.sl.set i (.ol (ds.set n d)) }
end
end LP
namespace LP
open PySem PySem.Spec L2
open PyProof.Rows hiding St
/-- data whose text is at most n long and k deep -/
def Bp (n k : Nat) (e : PyData) : Prop := e.showable = true ∧ e.hasDict = false ∧ e.depth ≤ k ∧ e.shown.length ≤ n
def Bd (n k : Nat) (d : D) : Prop := ∃ e, D.py d = some e ∧ Bp n k e
/-- the text of data -/
def rp (d : D) : Str := match D.py d with
  | some e => e.shown
  | none => Str.empty
theorem rp_py {d : D} {e : PyData} (h : D.py d = some e) : rp d = e.shown := by unfold rp; rw [h]
theorem Bd.mono {n n' k k' : Nat} {d : D} (h : Bd n k d) (hn : n ≤ n') (hk : k ≤ k') : Bd n' k' d := let ⟨e, a, b, c, x, y⟩ := h; ⟨e, a, b, c, Nat.le_trans x hk, Nat.le_trans y hn⟩
theorem bd_non : Bd 4 0 .non := ⟨_, rfl, rfl, rfl, by decide, by decide⟩
theorem bd_bl (b : Bool) : Bd 5 0 (.bl b) := ⟨_, rfl, rfl, rfl, by decide +revert, by cases b <;> decide⟩
theorem bd_int {i : Int} (h : i.natAbs < 10 ^ 48) : Bd 49 0 (.int i) := by
  refine ⟨_, rfl, ?_, rfl, Nat.le_refl _, ?_⟩
  · show decide (i.natAbs.log2 < 1920) = true
    refine decide_eq_true ?_
    by_cases h0 : i.natAbs = 0
    · rw [h0]; decide
    · exact (Nat.log2_lt h0).mpr (Nat.lt_of_lt_of_le h (by decide))
  · have e := int_text_length_le10 (k := 48) (by decide) h
    show (Str.ofString (toString i)).length ≤ 49
    rw [PySem.ofString_length]
    exact e
theorem listText_le (ts : List Str) : (listText ts).length ≤ piled ts + 2 := by
  cases ts with
  | nil => decide
  | cons t r =>
    have h := textFrom_length_pos r 1 (("[" : Str) ++ (if (0 : Nat) > 0 then ", " else "" : String) ++ t) (Nat.succ_pos 0)
    have e : ((("[" : Str) ++ (if (0 : Nat) > 0 then ", " else "" : String) ++ t)).length = 1 + t.length := by
      simp only [strLen_append]; rfl
    have hX : (listText (t :: r)).length = (textFrom 1 (("[" : Str) ++ (if (0 : Nat) > 0 then ", " else "" : String) ++ t) r).length + 1 := by
      unfold listText
      rw [strLen_append]; rfl
    have p := piled_cons t r
    omega
theorem tupleText_le (ts : List Str) : (tupleText ts).length ≤ piled ts + 3 := by
  unfold tupleText
  simp only [strLen_append]
  have e1 : ((("(" : String) : Str)).length = 1 := rfl
  have e3 : (((if ts.length == 1 then ",)" else ")" : String) : Str)).length ≤ 2 := by split <;> decide
  by_cases h : ts = []
  · subst h; decide
  · have := join_length_add ts h
    omega
theorem bps {n k : Nat} : ∀ {xs : List D}, (∀ x ∈ xs, Bd n k x) → ∃ es, D.pys xs = some es ∧ es.length = xs.length ∧ PyData.showableAll es = true ∧ PyData.hasDictAll es = false ∧ PyData.depthAll es ≤ k ∧ piled (PyData.shownAll es) ≤ xs.length * (n + 2)
  | [], _ => ⟨[], rfl, rfl, rfl, rfl, Nat.zero_le _, Nat.zero_le _⟩
  | x :: xs, h => by
    obtain ⟨es, a1, a2, a3, a4, a5, a6⟩ := bps (xs := xs) fun y hy => h y (List.mem_cons_of_mem _ hy)
    obtain ⟨e, b1, b2, b3, b4, b5⟩ := h x (List.mem_cons_self ..)
    refine ⟨e :: es, ?_, by simp [a2], ?_, ?_, ?_, ?_⟩
    · unfold D.pys; rw [b1, a1]
    · unfold PyData.showableAll; rw [b2, a3]; rfl
    · unfold PyData.hasDictAll; rw [b3, a4]; rfl
    · unfold PyData.depthAll; exact Nat.max_le.mpr ⟨b4, a5⟩
    · unfold PyData.shownAll
      rw [piled_cons, List.length_cons, Nat.add_mul]
      omega
theorem bd_tup {n k m : Nat} {xs : List D} (h : ∀ x ∈ xs, Bd n k x) (hm : xs.length ≤ m) : Bd (m * (n + 2) + 3) (k + 1) (.tup xs) := by
  obtain ⟨es, a1, a2, a3, a4, a5, a6⟩ := bps h
  refine ⟨.tuple es, by unfold D.py; rw [a1]; rfl, a3, a4, Nat.succ_le_succ a5, ?_⟩
  show (tupleText (PyData.shownAll es)).length ≤ _
  have := tupleText_le (PyData.shownAll es)
  have := Nat.mul_le_mul_right (n + 2) hm
  omega
section
variable {X : Cx}
def rRepr (K : PySem.W.Frag) : List V → Hp → VK → Prop := fun vs H Q => ∃ (v : V) (e : PyData), vs = [v] ∧ Dp K H v e ∧ Bp sizeLine 64 e ∧ Q (.str e.shown) H
theorem cr_repr (hg : X.A.guards = some []) (hu : X.A.units + 100 < cLine) : CallR X (.builtin "repr") (rRepr X.K) := fun pins s σ H vs us Q I r h => by
  obtain ⟨v, e, rfl, hd, ⟨b1, b2, b3, b4⟩, q⟩ := h
  obtain ⟨u, rfl, r1⟩ := vals1 r
  obtain ⟨as, rr⟩ := Dp.reads I e v u hd r1
  have fin : ∀ (t : Nat) (tk : Nat), EP X pins σ Q (.str e.shown t) { s with toks := tk } := fun t tk => ⟨.str e.shown, H, I.tok tk, ⟨t, rfl⟩, q⟩
  cases rr with
  | none => exact PySem.P.repr_of_none (fin _ _)
  | bool b => exact PySem.P.repr_of_bool (fin _ _)
  | int i t => exact PySem.P.repr_of_int (of_decide_eq_true b1) (fin _ _)
  | str x t => exact PySem.P.repr_of_str (fin _ _) b4
  | list h1 h2 h3 h4 =>
    exact repr_of_reads' (.list h1 h2 h3 h4) b1 (PyData.noDict_hsm b2) hg (by omega) (fun _ _ z => z) (fun h' u' tk k => ⟨.str _, H, I.kept k, ⟨_, rfl⟩, q⟩) b4
  | tuple h1 h2 h3 h4 =>
    exact repr_of_reads' (.tuple h1 h2 h3 h4) b1 (PyData.noDict_hsm b2) hg (by omega) (fun _ _ z => z) (fun h' u' tk k => ⟨.str _, H, I.kept k, ⟨_, rfl⟩, q⟩) b4
  | dict h1 h2 h3 h4 h5 => cases b2
def one (ds : List D) (k : D → Prop) : Prop := match ds with
  | [d] => k d
  | _ => False
theorem one_some {ds : List D} {k : D → Prop} (h : one ds k) : ∃ d, ds = [d] ∧ k d := by
  unfold one at h
  split at h
  · exact ⟨_, rfl, h⟩
  · exact h.elim
def reprK (ds : List D) (k : D → Prop) : Prop := one ds fun d => Bd sizeLine 64 d ∧ k (.str (rp d))
theorem c_repr (hg : X.A.guards = some []) (hu : X.A.units + 100 < cLine) : CallS X (.builtin "repr") reprK := ⟨_, cr_repr hg hu, fun P0 F en σ H vs ds k Qc rs vw q kk => by
  obtain ⟨d, rfl, ⟨e, he, b⟩, q⟩ := one_some q
  obtain ⟨u, rfl, w⟩ := vws1 vw
  rw [rp_py he] at q
  exact ⟨u, e, rfl, w.dp rs.same he, b, kk F _ _ H (Same.refl F) rs (.str _) q⟩⟩
end
end LP
namespace LP
open PySem PySem.Spec L2
open PyProof.Rows hiding St
def absI (i : Int) : Int := if i < 0 then -i else i
theorem absI_nn (i : Int) : 0 ≤ absI i := by unfold absI; split <;> omega
abbrev rAbs : List V → Hp → VK → Prop := fun xs H Q => ∃ i, xs = [.int i] ∧ Q (.int (if i < 0 then -i else i)) H
abbrev rLenS (K : PySem.W.Frag) : List V → Hp → VK → Prop := fun xs H Q => ∃ p ys, xs = [.ref p] ∧ (SqL K H p ys ∨ SqT K H p ys) ∧ Q (.int ys.length) H
abbrev rAdd0 : R2 := rI0 fun i j => .int (i + j)
abbrev rGe0 : R2 := rI0 fun i j => .bl (decide (j ≤ i))
abbrev rPow0 : R2 := rI CPow fun i j => .int (i ^ j.toNat)
def tStream (K : PySem.W.Frag) : TS :=
  tSeq (tAsg (tLc (iList K (tVar 0)) (gName 2) (fun σ H Q => Q true H) (tCB rAbs (tCons (tVar 2) tNil)) [2]) (gName 1))
    (tRet (tLst (tCons (tLc (iList K (tVar 1)) (gName 2) (tTest (tOp rGe0 (tVar 2) (tOp rPow0 (tC (.int 10)) (tC (.int 18))))) (tVar 2) [2])
      (tCons (tOp rCat (tVar 1) (tLst (tCons (tOp rAdd0 (tCB (rLenS K) (tCons (tVar 1) tNil)) (tC (.int 19))) tNil))) (tCons (tC (.int 0)) tNil)))))
def spStream : ASp := fun ds M Q _ => ∃ ns, ds = [.scr ns] ∧ ns.length ≤ 63 ∧ ∀ sa M', M' sa = some (.strm 0) → (∀ a o, M a = some o → M' a = some o) → Q (.ref sa) M'
theorem spStream_mono : spStream.Mono := fun ds M Q Q' E E' hq he ⟨ns, h1, h2, h3⟩ => ⟨ns, h1, h2, fun sa M' a b => hq _ _ (h3 sa M' a b)⟩
/-- a loop of a comprehension over numbers into numbers -/
theorem lc_ints {K : PySem.W.Frag} {wi : TI} {tt : TT} {te : TE} {σ : St} {H : Hp} {Q : VK} (a : Addr) (ns : List Int) (f : Int → Bool) (g : Int → Int)
    (hi : ∀ R : It → Hp → Prop, R (Itl K a) H → wi σ H R) (hS : SqL K H a (ns.map V.int)) (hz : ns.length ≤ 64)
    (ht : ∀ (n : Int) (H' : Hp) (k : Bool → Hp → Prop), k (f n) H' → tt ((L2.wipe σ [2]).set 2 (some (.int n))) H' k)
    (he : ∀ (n : Int) (H' : Hp) (k : VK), k (.int (g n)) H' → te ((L2.wipe σ [2]).set 2 (some (.int n))) H' k)
    (q : ∀ D, H D = none → Q (.ref D) (upd H D (.lst (((ns.filter f).map g).map V.int)))) : tLc wi (gName 2) tt te [2] σ H Q := by
  refine hi _ fun D hD => ?_
  refine ⟨fun i m H' => i + m = ns.length ∧ H' = upd H D (.lst ((((ns.take i).filter f).map g).map V.int)), ⟨ns.length, by omega, rfl⟩, ?_⟩
  rintro i m H' ⟨hm, rfl⟩
  have hS' : SqL K (upd H D (.lst ((((ns.take i).filter f).map g).map V.int))) a (ns.map V.int) := (same_upd hD).seq hS
  by_cases hlt : i < ns.length
  · refine .inr ⟨⟨_, .int ns[i], hS', by rw [List.getElem?_map, List.getElem?_eq_getElem hlt]; rfl⟩, fun H' => H' = upd H D (.lst ((((ns.take (i + 1)).filter f).map g).map V.int)), ?_, ?_⟩
    · rintro H' rfl
      exact ⟨m - 1, by omega, by omega, rfl⟩
    · rintro x H' ⟨rfl, hx⟩
      have ex := hx _ hS'
      rw [List.getElem?_map, List.getElem?_eq_getElem hlt] at ex
      cases ex
      have w : L2.wipe ((L2.wipe σ [2]).set 2 (some (.int ns[i]))) [2] = L2.wipe σ [2] := by
        show (((σ.set 2 none).set 2 (some (V.int ns[i]))).set 2 none) = σ.set 2 none
        rw [List.set_set, List.set_set]
      have tk : ns.take (i + 1) = ns.take i ++ [ns[i]] := by rw [List.take_add_one, List.getElem?_eq_getElem hlt]; rfl
      refine ⟨w, ht _ _ _ ?_⟩
      cases e : f ns[i] with
      | false =>
        rw [if_neg Bool.false_ne_true, tk, List.filter_append]
        simp [e]
      | true =>
        rw [if_pos rfl]
        refine he _ _ _ ⟨_, upd_same, ?_, ?_⟩
        · rw [List.length_map, List.length_map]
          exact Nat.lt_of_le_of_lt (Nat.le_trans (List.length_filter_le _ _) (by rw [List.length_take]; exact Nat.le_trans (Nat.min_le_right _ _) hz)) (by decide)
        · rw [upd_upd, tk, List.filter_append]
          simp [e]
  · refine .inl ⟨⟨_, hS', by rw [List.length_map]; omega⟩, ?_⟩
    rw [List.take_of_length_le (by omega)]
    exact q D hD
theorem AOk.grow {K : PySem.W.Frag} {F F' H H' : Hp} {M M' : Sto} (e : Same F F') (g : ∀ b o, M b = some o → M' b = some o) (k : ∀ b o, M b = some o → H' b = H b) : ∀ {s : AO} {p : Addr}, M p = some s → AOk K F M H p s → AOk K F' M' H' p s
  | .strm _, _, m, ⟨p1, p2, bs, cs, t, h, h1, h2, m1, m2, r⟩ => ⟨p1, p2, bs, cs, t, (k _ _ m).trans h, (k _ _ m1).trans h1, (k _ _ m2).trans h2, g _ _ m1, g _ _ m2, r⟩
  | .hid _, _, m, ⟨o, h⟩ => ⟨o, (k _ _ m).trans h⟩
  | .ins _ _ _, _, m, ⟨dx, vs, h, l, r⟩ => ⟨dx, vs, (k _ _ m).trans h, l, r.mono e⟩
  | .own _, _, m, ⟨vs, h, r⟩ => ⟨vs, (k _ _ m).trans h, r.mono e⟩
/-- the store with one more stream -/
def addS (M : Sto) (sa p1 p2 : Addr) : Sto := fun b => if b = sa then some (.strm 0) else if b = p1 then some (.hid sa) else if b = p2 then some (.hid sa) else M b
theorem pure_stream {K : PySem.W.Frag} {vs : List V} {H : Hp} {Q : VK} {E : XK} (h : conc K spStream vs H Q E) : tStream K { nx := fun _ H' => Q .non H', rt := Q } [vs.head?, none, none] H := by
  obtain ⟨F, M, ds, sF, so, r, ns, rfl, hl, q⟩ := h
  cases r with
  | cons r1 r2 =>
  cases r2
  cases r1 with
  | scr hS =>
  rename_i a
  have hS := sF.seq hS
  have nm : ∀ {H' : Hp} {b : Addr}, Same H H' → H' b = none → M b = none := fun {H' b} s e => by
    cases z : M b with
    | none => rfl
    | some o =>
      obtain ⟨x, hx⟩ := so.there z
      rw [s _ _ hx] at e; cases e
  have sz := show (64 : Nat) ≤ sizeLine by decide
  -- the first comprehension
  unfold tStream tSeq tAsg
  refine lc_ints (K := K) a ns (fun _ => true) absI (fun R h => ⟨.ref a, rfl, a, rfl, ⟨_, hS⟩, h⟩) hS (by omega) (fun n H' k h => h) (fun n H' k h => ?_) fun p0 h0 => ?_
  · exact ⟨.int n, rfl, n, rfl, h⟩
  have e0 : (ns.filter fun _ => true) = ns := by simp
  rw [e0]
  have s0 : Same H (upd H p0 (.lst ((ns.map absI).map V.int))) := same_upd h0
  -- the second
  dsimp only [gName, tRet, tLst, tCons]
  refine lc_ints (K := K) p0 (ns.map absI) (fun n => decide ((10 : Int) ^ (18 : Nat) ≤ n)) id (fun R h => ⟨.ref p0, rfl, p0, rfl, ⟨_, SqL.of upd_same⟩, h⟩) (SqL.of upd_same) (by simp; omega) (fun n H' k h => ?_) (fun n H' k h => ?_) fun p1 h1 => ?_
  · exact ⟨.int n, rfl, 10, 18, rfl, rfl, by unfold CPow; decide, n, _, rfl, rfl, _, rfl, h⟩
  · exact ⟨.int n, rfl, h⟩
  generalize hL1 : (((ns.map absI).filter fun n => decide ((10 : Int) ^ (18 : Nat) ≤ n)).map id) = bs
  have hb : ∀ b ∈ bs, (0 : Int) ≤ b := by
    intro b hb
    rw [← hL1] at hb
    simp only [List.map_id, List.mem_filter, List.mem_map] at hb
    obtain ⟨⟨n, _, rfl⟩, _⟩ := hb
    exact absI_nn n
  have hbl : bs.length ≤ 64 := by
    rw [← hL1, List.length_map]
    exact Nat.le_trans (List.length_filter_le _ _) (by rw [List.length_map]; omega)
  -- cells + [..]
  generalize e1 : upd H p0 (.lst ((ns.map absI).map V.int)) = H1 at *
  have g0 : H1 p0 = some (.lst ((ns.map absI).map V.int)) := by rw [← e1]; exact upd_same
  have s1 : Same H1 (upd H1 p1 (.lst (bs.map V.int))) := same_upd h1
  generalize e2 : upd H1 p1 (.lst (bs.map V.int)) = H2 at *
  have g1 : H2 p1 = some (.lst (bs.map V.int)) := by rw [← e2]; exact upd_same
  refine ⟨.ref p0, rfl, .ref p0, rfl, p0, _, rfl, .inl (SqL.of (s1 _ _ g0)), _, 19, rfl, rfl, (by decide : (1 : Nat) ≤ sizeLine), fun p3 h3 => ?_⟩
  have s2 : Same H2 (upd H2 p3 (.lst [V.int (((ns.map absI).map V.int).length + 19)])) := same_upd h3
  generalize e3 : upd H2 p3 (.lst [V.int (((ns.map absI).map V.int).length + 19)]) = H3 at *
  have g3 : H3 p3 = some (.lst [V.int (((ns.map absI).map V.int).length + 19)]) := by rw [← e3]; exact upd_same
  refine ⟨p0, p3, _, _, rfl, rfl, s2 _ _ (s1 _ _ g0), g3, by simp; omega, fun p2 h2 => ?_⟩
  have ec : ((ns.map absI).map V.int) ++ [V.int ((((ns.map absI).map V.int).length : Nat) + 19)] = ((ns.map absI) ++ [((((ns.map absI).map V.int).length : Nat) : Int) + 19]).map V.int := by simp
  rw [ec]
  generalize hcs : ((ns.map absI) ++ [((((ns.map absI).map V.int).length : Nat) : Int) + 19]) = cs
  have hc : ∀ b ∈ cs, (0 : Int) ≤ b := by
    intro b hb
    rw [← hcs, List.mem_append] at hb
    rcases hb with hb | hb
    · simp only [List.mem_map] at hb
      obtain ⟨n, _, rfl⟩ := hb
      exact absI_nn n
    · simp only [List.mem_singleton] at hb
      omega
  have hcn : cs ≠ [] := by rw [← hcs]; simp
  have hcl : cs.length ≤ 64 := by rw [← hcs]; simp; omega
  have s3 : Same H3 (upd H3 p2 (.lst (cs.map V.int))) := same_upd h2
  generalize e4 : upd H3 p2 (.lst (cs.map V.int)) = H4 at *
  have g2 : H4 p2 = some (.lst (cs.map V.int)) := by rw [← e4]; exact upd_same
  refine ⟨(by decide : (3 : Nat) ≤ sizeLine), fun sa h4 => ?_⟩
  have s4 : Same H4 (upd H4 sa (.lst [.ref p1, .ref p2, .int 0])) := same_upd h4
  generalize e5 : upd H4 sa (.lst [.ref p1, .ref p2, .int 0]) = H5 at *
  have g4 : H5 sa = some (.lst [.ref p1, .ref p2, .int 0]) := by rw [← e5]; exact upd_same
  have a03 := ((s0.trans s1).trans s2)
  have n21 : p1 ≠ p2 := ne_of_none ((s2) _ _ g1) h2
  have na1 : p1 ≠ sa := ne_of_none (s3 _ _ (s2 _ _ g1)) h4
  have na2 : p2 ≠ sa := ne_of_none g2 h4
  have m1 : M p1 = none := nm s0 h1
  have m2 : M p2 = none := nm a03 h2
  have ma : M sa = none := nm (a03.trans s3) h4
  have sAll := (a03.trans s3).trans s4
  have q' := q sa (addS M sa p1 p2) (by simp [addS]) (fun b o hb => by
    have nb : ∀ {p}, M p = none → b ≠ p := fun e z => by rw [z, e] at hb; cases hb
    simp [addS, nb ma, nb m1, nb m2, hb])
  refine q' F (.ref sa) H5 ⟨Same.refl F, fun b o hb => sAll _ _ (sF _ _ hb), fun b o hb => ?_, fun b o hb hf hm => ⟨sAll _ _ hb, hf, ?_⟩⟩ (.ref sa)
  · by_cases hs : b = sa
    · subst hs
      have : o = .strm 0 := by simpa [addS] using hb.symm
      subst this
      refine ⟨sF.free (((a03.trans s3)).free h4), p1, p2, bs, cs, 0, g4, s4 _ _ (s3 _ _ (s2 _ _ g1)), s4 _ _ g2, ?_, ?_, n21, ‹∀ b ∈ bs, (0 : Int) ≤ b›, hc, hcn, hcl, by decide, by decide⟩
      · simp [addS, na1]
      · simp [addS, na2, Ne.symm n21]
    · by_cases hb1 : b = p1
      · subst hb1
        have : o = .hid sa := by simpa [addS, hs] using hb.symm
        subst this
        exact ⟨sF.free (s0.free h1), _, s4 _ _ (s3 _ _ (s2 _ _ g1))⟩
      · by_cases hb2 : b = p2
        · subst hb2
          have : o = .hid sa := by simpa [addS, hs, hb1] using hb.symm
          subst this
          exact ⟨sF.free (a03.free h2), _, s4 _ _ g2⟩
        · have hm : M b = some o := by simpa [addS, hs, hb1, hb2] using hb
          obtain ⟨f, ok⟩ := so b o hm
          refine ⟨f, AOk.grow (Same.refl F) (fun b o hb => ?_) (fun b o hb => ?_) hm ok⟩
          · have nb : ∀ {p}, M p = none → b ≠ p := fun e z => by rw [z, e] at hb; cases hb
            simp [addS, nb ma, nb m1, nb m2, hb]
          · obtain ⟨x, hx⟩ := so.there hb
            rw [sAll _ _ hx, hx]
  · have nb : ∀ {p} {H' : Hp}, Same H H' → H' p = none → b ≠ p := fun s e z => by rw [← z, s _ _ hb] at e; cases e
    simp [addS, nb s0 h1, nb a03 h2, nb (a03.trans s3) h4, hm]
abbrev rGt0 : R2 := rI0 fun i j => .bl (decide (j < i))
abbrev rDiv0 : R2 := rI CDiv fun i j => .int (i / j)
abbrev rMod0 : R2 := rI (fun _ j => 0 < j) fun i j => .int (i % j)
abbrev rMul0 : R2 := rI CMul fun i j => .int (i * j)
abbrev tI (i : Int) : TE := tC (.int i)
def tDraw1 (K : PySem.W.Frag) : TS := tWhile (tTest (tOp (rEqM K true) (tOp (rIxL K) (tVar 0) (tI 0)) (tLst tNil)))
  (tSeq (tAsg (tOp (rIxL K) (tOp (rIxL K) (tVar 0) (tI 0)) (tI 0)) (gName 2))
    (tSeq (tIfS (tTest (tOp rGt0 (tVar 2) (tI 0))) (tSeq (tAsg (tOp rDiv0 (tVar 2) (tVar 1)) (gSub (tOp (rIxL K) (tVar 0) (tI 0)) (tI 0) rSetL)) (tRet (tOp rMod0 (tVar 2) (tVar 1)))) tNext)
      (tDrop (tBM K "list" rPopAt (tOp (rIxL K) (tVar 0) (tI 0)) (tCons (tI 0) tNil)))))
def tDraw2 (K : PySem.W.Frag) : TS :=
  tSeq (tAsg (tOp rAdd0 (tOp (rIxL K) (tVar 0) (tI 2)) (tI 1)) (gName 3))
    (tSeq (tAsg (tVar 3) (gSub (tVar 0) (tI 2) rSetL))
      (tSeq (tAsg (tOp rMod0 (tOp (rIxL K) (tOp (rIxL K) (tVar 0) (tI 1)) (tOp rMod0 (tVar 3) (tCB (rLenS K) (tCons (tOp (rIxL K) (tVar 0) (tI 1)) tNil)))) (tI 2147483587)) (gName 4))
        (tSeq (tAsg (tOp rMod0 (tOp rAdd0 (tOp rAdd0 (tOp rMul0 (tVar 4) (tOp rAdd0 (tI 40692) (tOp rMul0 (tI 48271) (tVar 3)))) (tOp rMul0 (tOp rMul0 (tI 69621) (tVar 3)) (tVar 3))) (tI 23)) (tI 2147483647)) (gName 5))
          (tRet (tOp rMod0 (tOp rDiv0 (tOp rMod0 (tOp rMul0 (tVar 5) (tVar 5)) (tI 2147483629)) (tI 16)) (tVar 1))))))
def tDraw (K : PySem.W.Frag) : TS := tSeq (tDraw1 K) (tDraw2 K)
def setM (M : Sto) (a : Addr) (o : AO) : Sto := fun b => if b = a then some o else M b
theorem setM_at {M : Sto} {a : Addr} {o : AO} : setM M a o a = some o := by simp [setM]
theorem setM_set {M : Sto} {a : Addr} {o o' : AO} : setM (setM M a o) a o' = setM M a o' := by funext b; simp only [setM]; split <;> rfl
def spDraw : ASp := fun ds M Q _ => ∃ (sa : Addr) (c : Nat) (many : Int), ds = [.ref sa, .int many] ∧ M sa = some (.strm c) ∧ c < 2 ^ 60 ∧ (0 < many ∧ many < 1073741824) ∧ ∀ k : Int, 0 ≤ k → k < many → Q (.int k) (setM M sa (.strm (c + 1)))
theorem spDraw_mono : spDraw.Mono := fun ds M Q Q' E E' hq he ⟨sa, c, many, h1, h2, h3, h4, h5⟩ => ⟨sa, c, many, h1, h2, h3, h4, fun k a b => hq _ _ (h5 k a b)⟩
/-- what a draw keeps -/
def Kp (sa p1 : Addr) (H H' : Hp) : Prop := ∀ q o, q ≠ sa → q ≠ p1 → H q = some o → H' q = some o
theorem Kp.trans {sa p1 : Addr} {H H1 H2 : Hp} (a : Kp sa p1 H H1) (b : Kp sa p1 H1 H2) : Kp sa p1 H H2 := fun q o n1 n2 h => b q o n1 n2 (a q o n1 n2 h)
theorem Kp.of {sa p1 : Addr} {H H' : Hp} (s : Same H H') : Kp sa p1 H H' := fun q o _ _ h => s q o h
theorem Kp.upd1 {sa p1 : Addr} {H : Hp} {o : HO} : Kp sa p1 H (upd H p1 o) := fun q u _ n h => by rw [upd_ne n]; exact h
theorem Kp.updS {sa p1 : Addr} {H : Hp} {o : HO} : Kp sa p1 H (upd H sa o) := fun q u n _ h => by rw [upd_ne n]; exact h
theorem draw_fin {K : PySem.W.Frag} {F H H' : Hp} {M : Sto} {sa p1 p2 : Addr} {bs cs : List Int} {t : Int} {c c' : Nat} (sF : Same F H) (so : SOk K F M H) (hm : M sa = some (.strm c)) (h2 : H p2 = some (.lst (cs.map V.int)))
    (m1 : M p1 = some (.hid sa)) (m2 : M p2 = some (.hid sa)) (n12 : p1 ≠ p2) (cn : ∀ b ∈ cs, (0 : Int) ≤ b) (ce : cs ≠ []) (cl : cs.length ≤ 64)
    (k : Kp sa p1 H H') (g0 : H' sa = some (.lst [.ref p1, .ref p2, .int t])) (g1 : H' p1 = some (.lst (bs.map V.int))) (bn : ∀ b ∈ bs, (0 : Int) ≤ b) (t0 : 0 ≤ t) (tc : t ≤ (c' : Int)) :
    Fin K F M H F (setM M sa (.strm c')) H' := by
  have ne1 : p1 ≠ sa := fun z => by rw [z, hm] at m1; cases m1
  have ne2 : p2 ≠ sa := fun z => by rw [z, hm] at m2; cases m2
  have keep : ∀ {b : Addr} {x : HO}, H b = some x → F b = some x → H' b = some x := fun {b x} h f => k b x (fun z => by rw [z, (so _ _ hm).1] at f; cases f) (fun z => by rw [z, (so _ _ m1).1] at f; cases f) h
  refine ⟨Same.refl F, fun b x f => keep (sF _ _ f) f, fun b o hb => ?_, fun b o hb hf hM => ?_⟩
  · by_cases hs : b = sa
    · subst hs
      have : o = .strm c' := by simpa [setM] using hb.symm
      subst this
      refine ⟨(so _ _ hm).1, p1, p2, bs, cs, t, g0, g1, k _ _ ne2 (Ne.symm n12) h2, ?_, ?_, n12, bn, cn, ce, cl, t0, tc⟩
      · simp [setM, ne1, m1]
      · simp [setM, ne2, m2]
    · have hM : M b = some o := by simpa [setM, hs] using hb
      obtain ⟨f, ok⟩ := so b o hM
      refine ⟨f, ?_⟩
      by_cases hb1 : b = p1
      · subst hb1
        rw [m1] at hM; cases hM
        exact ⟨_, g1⟩
      · obtain ⟨x, hx⟩ := so.there hM
        have hx' := k b x hs hb1 hx
        cases o with
        | strm c2 =>
          obtain ⟨q1, q2, bs2, cs2, t2, a0, a1, a2, b1, b2, r⟩ := ok
          have n1 : q1 ≠ sa := fun z => by rw [z, hm] at b1; cases b1
          have n2 : q2 ≠ sa := fun z => by rw [z, hm] at b2; cases b2
          have n3 : q1 ≠ p1 := fun z => by rw [z, m1] at b1; cases b1; exact hs rfl
          have n4 : q2 ≠ p1 := fun z => by rw [z, m1] at b2; cases b2; exact hs rfl
          exact ⟨q1, q2, bs2, cs2, t2, k _ _ hs hb1 a0, k _ _ n1 n3 a1, k _ _ n2 n4 a2, by simp [setM, n1, b1], by simp [setM, n2, b2], r⟩
        | hid a => exact ⟨x, hx'⟩
        | ins C fs ds =>
          obtain ⟨dx, vs, a0, a1, r⟩ := ok
          exact ⟨dx, vs, k _ _ hs hb1 a0, a1, r⟩
        | own ds =>
          obtain ⟨vs, a0, r⟩ := ok
          exact ⟨vs, k _ _ hs hb1 a0, r⟩
  · have n1 : b ≠ sa := fun z => by rw [z, hm] at hM; cases hM
    have n2 : b ≠ p1 := fun z => by rw [z, m1] at hM; cases hM
    exact ⟨k b o n1 n2 hb, hf, by simp [setM, n1, hM]⟩
theorem at0 {xs : List V} {x : V} : atI (x :: xs) 0 = some x := atI_nat (j := 0) rfl
theorem ix0 (x : Int) (xs : List Int) : ixN ((x :: xs).map V.int).length 0 = some 0 := by
  unfold ixN
  simp
theorem sx0 (x : Int) (xs : List Int) : seqIndex? 0 ((x :: xs).map V.int).length = some 0 := by
  unfold seqIndex?
  simp
theorem dps_ints {K : PySem.W.Frag} {H : Hp} : ∀ bs : List Int, DpAll K H (bs.map V.int) (bs.map PyData.int)
  | [] => .nil
  | b :: bs => .cons (.int b) (dps_ints bs)
theorem lay_ints : ∀ bs : List Int, PyData.canLayAll0 (bs.map PyData.int) = true
  | [] => rfl
  | b :: bs => by show (PyData.canLay0 (.int b) && PyData.canLayAll0 (bs.map PyData.int)) = true; rw [lay_ints bs]; rfl
theorem neq_ints (b : Int) (bs : List Int) : PyData.eqv (.list ((b :: bs).map PyData.int)) (.list []) = false := rfl
theorem pure_draw {K : PySem.W.Frag} {vs : List V} {H : Hp} {Q : VK} {E : XK} (h : conc K spDraw vs H Q E) : tDraw K { nx := fun _ H' => Q .non H', rt := Q } [vs[0]?, vs[1]?, none, none, none, none] H := by
  obtain ⟨F, M, ds, sF, so, r, sa, c, many, rfl, hm, hc, ⟨hm1, hm2⟩, q⟩ := h
  cases r with
  | cons r1 r2 =>
  cases r2 with
  | cons r2 r3 =>
  cases r3
  cases r1
  cases r2
  obtain ⟨_, p1, p2, bs, cs, t, g0, g1, g2, m1, m2, n12, bn, cn, ce, cl, t0, tc⟩ := so _ _ hm
  have ne1 : p1 ≠ sa := fun z => by rw [z, hm] at m1; cases m1
  have ne2 : p2 ≠ sa := fun z => by rw [z, hm] at m2; cases m2
  have fin : ∀ {H' : Hp} {bs' : List Int} {t' : Int}, Kp sa p1 H H' → H' sa = some (.lst [.ref p1, .ref p2, .int t']) → H' p1 = some (.lst (bs'.map V.int)) → (∀ b ∈ bs', (0 : Int) ≤ b) → 0 ≤ t' → t' ≤ t + 1 → ∀ k : Int, 0 ≤ k → k < many → Q (.int k) H' :=
    fun k h0 h1 hb ht0 ht1 j j0 j1 => q j j0 j1 F (.int j) _ (draw_fin sF so hm g2 m1 m2 n12 cn ce cl k h0 h1 hb ht0 (by have := Int.add_le_add_right tc 1; exact Int.le_trans ht1 (by push_cast; exact this))) (.int j)
  have modB : ∀ x : Int, 0 ≤ x % many ∧ x % many < many := fun x => ⟨Int.emod_nonneg x (by omega), Int.emod_lt_of_pos x hm1⟩
  refine ⟨fun m σ H' => ∃ (bs' : List Int) (y : Option V), σ = [some (.ref sa), some (.int many), y, none, none, none] ∧ m = bs'.length ∧ Kp sa p1 H H' ∧ H' sa = some (.lst [.ref p1, .ref p2, .int t]) ∧ H' p1 = some (.lst (bs'.map V.int)) ∧ ∀ b ∈ bs', (0 : Int) ≤ b,
    ⟨bs.length, bs, none, rfl, rfl, Kp.of (Same.refl H), g0, g1, bn⟩, ?_⟩
  rintro m σ H1 ⟨bs', y, rfl, rfl, k1, h0, h1, hb⟩
  -- the test
  refine ⟨.ref sa, rfl, sa, _, 0, .ref p1, rfl, rfl, SqL.of h0, rfl, by decide, fun pe hpe => ?_⟩
  have sE : Same H1 (upd H1 pe (.lst [])) := same_upd hpe
  have gE : (upd H1 pe (.lst [])) pe = some (.lst []) := upd_same
  generalize upd H1 pe (.lst []) = H2 at sE gE ⊢
  have h0' := sE _ _ h0
  have h1' := sE _ _ h1
  have k2 := k1.trans (Kp.of (sa := sa) (p1 := p1) sE)
  refine ⟨.list (bs'.map PyData.int), .list [], .lst (SqL.of h1') (dps_ints _), .lst (SqL.of gE) .nil, lay_ints _, rfl, Nat.le_trans (Nat.min_le_right _ _) (by decide), _, rfl, ?_⟩
  rw [if_pos rfl]
  cases bs' with
  | cons b br =>
    rw [neq_ints, Bool.not_false, if_pos rfl]
    have b0 : 0 ≤ b := hb b (List.mem_cons_self ..)
    have br0 : ∀ x ∈ br, (0 : Int) ≤ x := fun x hx => hb x (List.mem_cons_of_mem _ hx)
    refine ⟨fun σ' H' => ∃ y, σ' = [some (.ref sa), some (.int many), y, none, none, none] ∧ Kp sa p1 H H' ∧ H' sa = some (.lst [.ref p1, .ref p2, .int t]) ∧ H' p1 = some (.lst (br.map V.int)), ?_, ?_⟩
    · rintro σ' H' ⟨y, rfl, a, b, c⟩
      exact ⟨br.length, Nat.lt_succ_self _, br, y, rfl, rfl, a, b, c, br0⟩
    · -- rest = s[0][0]
      refine ⟨.ref sa, rfl, sa, _, 0, .ref p1, rfl, rfl, SqL.of h0', rfl, p1, _, 0, .int b, rfl, rfl, SqL.of h1', at0, ?_⟩
      -- if rest > 0
      refine ⟨.int b, rfl, b, 0, rfl, rfl, _, rfl, ?_⟩
      refine ite2 (fun hpos => ?_) (fun hpos => ?_)
      · refine ⟨.int b, rfl, .int many, rfl, b, many, rfl, rfl, ⟨hm1, hm2⟩, ?_⟩
        refine ⟨.ref sa, rfl, sa, _, 0, .ref p1, rfl, rfl, SqL.of h0', rfl, p1, _, 0, 0, rfl, rfl, h1', ix0 _ _, ?_⟩
        refine ⟨.int b, rfl, .int many, rfl, b, many, rfl, rfl, hm1, ?_⟩
        refine fin (bs' := b / many :: br) (t' := t) (k2.trans Kp.upd1) (by rw [upd_ne (Ne.symm ne1)]; exact h0') upd_same (fun x hx => ?_) t0 (by omega) _ (modB b).1 (modB b).2
        rcases List.mem_cons.mp hx with rfl | hx
        · exact Int.ediv_nonneg b0 (by omega)
        · exact br0 x hx
      · refine ⟨.ref sa, rfl, sa, _, 0, .ref p1, rfl, rfl, SqL.of h0', rfl, .inl ⟨rfl, _, SqL.of h1'⟩, p1, _, 0, 0, .int b, rfl, rfl, h1', by decide, by decide, sx0 _ _, rfl, ?_⟩
        exact ⟨_, rfl, k2.trans Kp.upd1, by rw [upd_ne (Ne.symm ne1)]; exact h0', upd_same⟩
  | nil =>
    rw [show PyData.eqv (.list (([] : List Int).map PyData.int)) (.list []) = true from rfl, Bool.not_true, if_neg Bool.false_ne_true]
    have tb : t < 2 ^ 60 := Int.lt_of_le_of_lt tc (by exact_mod_cast hc)
    -- turn = s[2] + 1
    refine ⟨.ref sa, rfl, sa, _, 2, .int t, rfl, rfl, SqL.of h0', rfl, t, 1, rfl, rfl, ?_⟩
    -- s[2] = turn
    refine ⟨.int (t + 1), rfl, .ref sa, rfl, sa, _, 2, 2, rfl, rfl, h0', rfl, ?_⟩
    have hS : (upd H2 sa (.lst ([V.ref p1, .ref p2, .int t].set 2 (.int (t + 1))))) sa = some (.lst [.ref p1, .ref p2, .int (t + 1)]) := upd_same
    have hS1 : (upd H2 sa (.lst ([V.ref p1, .ref p2, .int t].set 2 (.int (t + 1))))) p1 = some (.lst (([] : List Int).map V.int)) := by rw [upd_ne ne1]; exact h1'
    have k3 : Kp sa p1 H (upd H2 sa (.lst ([V.ref p1, .ref p2, .int t].set 2 (.int (t + 1))))) := k2.trans Kp.updS
    generalize upd H2 sa (.lst ([V.ref p1, .ref p2, .int t].set 2 (.int (t + 1)))) = H3 at hS hS1 k3 ⊢
    have hS2 : H3 p2 = some (.lst (cs.map V.int)) := k3 _ _ ne2 (Ne.symm n12) g2
    -- cell
    have cpos : (0 : Int) < cs.length := by
      cases cs with
      | nil => exact absurd rfl ce
      | cons _ _ => simp
    have hlen : ((cs.map V.int).length : Int) = cs.length := by simp
    have j0 : 0 ≤ (t + 1) % (cs.length : Int) := Int.emod_nonneg _ (by omega)
    have j1 : (t + 1) % (cs.length : Int) < cs.length := Int.emod_lt_of_pos _ cpos
    have hj : ((t + 1) % (cs.length : Int)).toNat < cs.length := by omega
    have hat : atI (cs.map V.int) ((t + 1) % (cs.length : Int)) = some (.int cs[((t + 1) % (cs.length : Int)).toNat]) := by
      have := atI_nat (xs := cs.map V.int) (j := ((t + 1) % (cs.length : Int)).toNat) (v := .int cs[((t + 1) % (cs.length : Int)).toNat]) (by rw [List.getElem?_map, List.getElem?_eq_getElem hj]; rfl)
      rw [Int.toNat_of_nonneg j0] at this
      exact this
    refine ⟨.ref sa, rfl, sa, _, 1, .ref p2, rfl, rfl, SqL.of hS, rfl, .int (t + 1), rfl, .ref sa, rfl, sa, _, 1, .ref p2, rfl, rfl, SqL.of hS, rfl, p2, _, rfl, .inl (SqL.of hS2), t + 1, _, rfl, rfl, ?_, ?_⟩
    · show (0 : Int) < ((cs.map V.int).length : Nat)
      rw [hlen]; exact cpos
    have hat' : atI (cs.map V.int) ((t + 1) % (((cs.map V.int).length : Nat) : Int)) = some (.int cs[((t + 1) % (cs.length : Int)).toNat]) := by rw [hlen]; exact hat
    refine ⟨p2, _, _, _, rfl, rfl, SqL.of hS2, hat', _, 2147483587, rfl, rfl, (by decide : (0 : Int) < 2147483587), ?_⟩
    generalize cs[((t + 1) % (cs.length : Int)).toNat] = cell
    have c0 : 0 ≤ cell % 2147483587 := Int.emod_nonneg _ (by decide)
    have c1 : cell % 2147483587 < 2147483587 := Int.emod_lt_of_pos _ (by decide)
    have sm : ∀ {x : Int}, 0 ≤ x → x < 2147483648 → -(2 ^ 64) < x ∧ x < 2 ^ 64 := fun a b => by omega
    -- mixed
    refine ⟨.int (cell % 2147483587), rfl, .int (t + 1), rfl, 48271, t + 1, rfl, rfl, .inl (by decide), 40692, _, rfl, rfl, _, _, rfl, rfl, .inl (sm c0 (by omega)), ?_⟩
    refine ⟨.int (t + 1), rfl, 69621, t + 1, rfl, rfl, .inl (by decide), .int (t + 1), rfl, _, _, rfl, rfl, .inr (by omega), _, _, rfl, rfl, _, 23, rfl, rfl, _, 2147483647, rfl, rfl, (by decide : (0 : Int) < 2147483647), ?_⟩
    generalize cell % 2147483587 * (40692 + 48271 * (t + 1)) + 69621 * (t + 1) * (t + 1) + 23 = mx
    have x0 : 0 ≤ mx % 2147483647 := Int.emod_nonneg _ (by decide)
    have x1 : mx % 2147483647 < 2147483647 := Int.emod_lt_of_pos _ (by decide)
    refine ⟨.int (mx % 2147483647), rfl, .int (mx % 2147483647), rfl, _, _, rfl, rfl, .inl (sm x0 (by omega)), _, 2147483629, rfl, rfl, (by decide : (0 : Int) < 2147483629), _, 16, rfl, rfl, ⟨by decide, by decide⟩, .int many, rfl, _, many, rfl, rfl, hm1, ?_⟩
    exact fin (bs' := []) k3 hS hS1 (fun _ h => nomatch h) (by omega) (by omega) _ (modB _).1 (modB _).2
end LP
namespace LP
open PySem PySem.Spec L2
open PyProof.Rows hiding St
/-- what a law is asked: true for every script -/
def spLaw (n : Nat) : ASp := fun ds M Q _ => ∃ ns, ds = [.scr ns] ∧ ns.length ≤ n ∧ ∀ M', Q (.bl true) M'
/-- the script alone is told of; not even it where it is one of the module's own -/
def scrH (K : PySem.W.Frag) (a : Addr) (vs : List Value) (ns : List Int) : Hp := fun b =>
  match K.lookup a with
  | some _ => none
  | none => if b = a then some (.frz { cls := .type "list", data := .seq vs.toArray } (.lst (ns.map V.int))) else none
section
variable {P : Program} {w : World} {K : PySem.W.Frag} {mg mb : Str → Option Value} {a : Addr} {s : Shared} {vs : List Value} {ns : List Int}
theorem scrH_other {b : Addr} (h : b ≠ a) : scrH K a vs ns b = none := by
  unfold scrH
  split
  · rfl
  · exact if_neg h
theorem scrH_some {b : Addr} {u : HO} (h : scrH K a vs ns b = some u) : K.lookup a = none ∧ b = a ∧ u = .frz { cls := .type "list", data := .seq vs.toArray } (.lst (ns.map V.int)) := by
  unfold scrH at h
  split at h
  · cases h
  · split at h
    · exact ⟨by assumption, by assumption, (Option.some.inj h).symm⟩
    · cases h
end
end LP
namespace LP
open PySem PySem.Spec L2
open PyProof.Rows hiding St
/-- an item: a value, or a list that nobody holds -/
inductive It1 where
  | v (d : D) | o (ds : List D)
def It1.sl : It1 → Sl
  | .v d => .v d
  | .o ds => .ol ds
abbrev MP := RX → En → (List It1 → En → Prop) → Prop
inductive Pk (K : PySem.W.Frag) (F : Hp) (en : En) (σ : St) (H : Hp) : Hp → List V → List It1 → Prop
  | nil {P0 : Hp} : Pk K F en σ H P0 [] []
  | v {P0 : Hp} {x : V} {d : D} {vs : List V} {is : List It1} : Rp K F x d → Pk K F en σ H P0 vs is → Pk K F en σ H P0 (x :: vs) (.v d :: is)
  | o {P0 : Hp} {p : Addr} {xs : List V} {ds : List D} {vs : List V} {is : List It1} : New P0 F en σ H p → H p = some (.lst xs) → Rps K F xs ds → Pk K F en σ H (upd P0 p (.lst xs)) vs is → Pk K F en σ H P0 (.ref p :: vs) (.o ds :: is)
def SimP (X : Cx) (W : WX) (t : TA) (m : MP) : Prop := ∀ (P0 F : Hp) (en : En) (σ : St) (H : Hp) (R : RX) (Q : List It1 → En → Prop) (Qc : List V → Hp → Prop), RS X.K P0 F en σ H → Rais X.K W P0 F R → m R en Q →
  (∀ (F' : Hp) (en' : En) (vs : List V) (is : List It1) (H' : Hp), Same F F' → RS X.K P0 F' en' σ H' → Pk X.K F' en' σ H' P0 vs is → Q is en' → Qc vs H') → t σ H Qc
def AP (X : Cx) (W : WX) (es : List Expr) (m : MP) : Prop := ∃ t, PA X es t ∧ SimP X W t m
def pNil : MP := fun _ en Q => Q [] en
def pV (a : ME) (r : MP) : MP := fun R en Q => a R en fun d e1 => r R e1 fun is e2 => Q (.v d :: is) e2
def pO (a : MF) (r : MP) : MP := fun R en Q => a R en fun ds e1 => r R e1 fun is e2 => Q (.o ds :: is) e2
section
variable {X : Cx} {W : WX} {e : Expr} {es : List Expr} {m : ME} {mf : MF} {mp : MP} {pos : Pos}
theorem ap_nil : AP X W [] pNil := ⟨_, pa_nil, fun P0 F en σ H R Q Qc rs rx hm k => k F en [] [] H (Same.refl F) rs .nil hm⟩
theorem ap_v (ha : AE X W e m) (hr : AP X W es mp) (hs : starEach (e :: es) X.env = (false, eval e X.env) :: starEach es X.env := by rfl) : AP X W (e :: es) (pV m mp) := by
  obtain ⟨_, pa, sa⟩ := ha
  obtain ⟨_, pr, sr⟩ := hr
  exact ⟨_, pa_cons pa pr hs, fun P0 F en σ H R Q Qc rs rx hm k => sa P0 F en σ H R _ _ rs rx hm fun F1 e1 v d H1 s1 r1 rp q => sr P0 F1 e1 σ H1 R _ _ r1 (rx.mono s1) q fun F2 e2 vs is H2 s2 r2 pk q2 => k F2 e2 _ _ H2 (s1.trans s2) r2 (.v (rp.mono s2) pk) q2⟩
theorem ap_o (ha : AF X W e mf) (hr : AP X W es mp) (hs : starEach (e :: es) X.env = (false, eval e X.env) :: starEach es X.env := by rfl) : AP X W (e :: es) (pO mf mp) := by
  obtain ⟨_, pa, sa⟩ := ha
  obtain ⟨_, pr, sr⟩ := hr
  refine ⟨_, pa_cons pa pr hs, fun P0 F en σ H R Q Qc rs rx hm k => sa P0 F en σ H R _ _ rs rx hm fun F1 e1 p xs ds H1 s1 r1 n hp rp q => ?_⟩
  have rx' : Rais X.K W (upd P0 p (.lst xs)) F1 R := fun F' en' σ' H' x cls dd sF rs' xo hR => (rx.mono s1) F' en' σ' H' x cls dd sF (rs'.letgo n.p0).1 xo hR
  refine sr (upd P0 p (.lst xs)) F1 e1 σ H1 R _ _ (r1.hold n hp) rx' q fun F2 e2 vs is H2 s2 r2 pk q2 => ?_
  obtain ⟨r3, n3⟩ := r2.letgo n.p0
  exact k F2 e2 _ _ H2 (s1.trans s2) r3 (.o n3 (r2.prv p _ upd_same).1 (rp.mono s2) pk) q2
section
variable {K : PySem.W.Frag} {F : Hp} {en : En} {σ : St} {H : Hp} {x : V} {i : Nat}
theorem Pk.keepV {d : D} : ∀ {P : Hp} {vs : List V} {is : List It1}, Pk K F en σ H P vs is → Pk K F { en with sl := en.sl.set i (.v d) } (σ.set i (some x)) H P vs is
  | _, _, _, .nil => .nil
  | _, _, _, .v r t => .v r t.keepV
  | _, _, _, .o n hp r t => .o ⟨n.p0, n.f, n.m, fun j s hj ho z => by
      rcases get_set hj with ⟨rfl, q⟩ | ⟨nj, hj⟩
      · subst q; cases ho
      · rw [List.getElem?_set_ne (Ne.symm nj)] at z
        exact n.sl j s hj ho z⟩ hp r t.keepV
theorem Pk.keepO {p : Addr} {ds : List D} : ∀ {P : Hp} {vs : List V} {is : List It1}, P p ≠ none → Pk K F en σ H P vs is → Pk K F { en with sl := en.sl.set i (.ol ds) } (σ.set i (some (.ref p))) H P vs is
  | _, _, _, _, .nil => .nil
  | _, _, _, hP, .v r t => .v r (t.keepO hP)
  | P, _, _, hP, .o (p := q) n hp r t => by
    have ne : q ≠ p := fun z => hP (by rw [← z]; exact n.p0)
    refine .o ⟨n.p0, n.f, n.m, fun j s hj ho z => ?_⟩ hp r (t.keepO (by rw [upd_ne (Ne.symm ne)]; exact hP))
    rcases get_set hj with ⟨rfl, e⟩ | ⟨nj, hj⟩
    · rcases get_set z with ⟨_, e2⟩ | ⟨nj, _⟩
      · cases e2; exact ne rfl
      · exact nj rfl
    · rw [List.getElem?_set_ne (Ne.symm nj)] at z
      exact n.sl j s hj ho z
theorem Pk.weak {p : Addr} {o : HO} : ∀ {P P' : Hp} {vs : List V} {is : List It1}, P p = none → P' = upd P p o → Pk K F en σ H P' vs is → Pk K F en σ H P vs is
  | _, _, _, _, _, _, .nil => .nil
  | _, _, _, _, hP, e, .v r t => .v r (t.weak hP e)
  | P, _, _, _, hP, e, .o (p := q) n hp r t => by
    subst e
    have ne : q ≠ p := fun z => by
      have := n.p0
      rw [z, upd_same] at this; cases this
    refine .o ⟨by have := n.p0; rw [upd_ne ne] at this; exact this, n.f, n.m, n.sl⟩ hp r (t.weak (o := o) (by rw [upd_ne (Ne.symm ne)]; exact hP) ?_)
    funext b
    by_cases h1 : b = p
    · subst h1; rw [upd_same, upd_ne (Ne.symm ne), upd_same]
    · by_cases h2 : b = q
      · subst h2; rw [upd_ne h1, upd_same, upd_same]
      · rw [upd_ne h1, upd_ne h2, upd_ne h2, upd_ne h1]
theorem RS.put {P0 : Hp} (i : Nat) {vs : List V} {it : It1} {is : List It1} (R : RS K P0 F en σ H) (k : Pk K F en σ H P0 (x :: vs) (it :: is)) :
    RS K P0 F { en with sl := en.sl.set i it.sl } (σ.set i (some x)) H ∧ Pk K F { en with sl := en.sl.set i it.sl } (σ.set i (some x)) H P0 vs is := by
  cases k with
  | v r k => exact ⟨R.setV r, k.keepV⟩
  | o n hp r k => exact ⟨R.setO (s := .ol _) n rfl ⟨_, hp, r⟩, (k.keepO (by rw [upd_same]; exact fun z => nomatch z)).weak n.p0 rfl⟩
theorem Pk.cons_inv {P0 : Hp} {vs : List V} {it : It1} {is : List It1} (k : Pk K F en σ H P0 vs (it :: is)) : ∃ x us, vs = x :: us := by
  cases k <;> exact ⟨_, _, rfl⟩
theorem Pk.nil_inv {P0 : Hp} {vs : List V} (k : Pk K F en σ H P0 vs []) : vs = [] := by
  cases k; rfl
end
def p2 (is : List It1) (k : It1 → It1 → Prop) : Prop := match is with
  | [a, b] => k a b
  | _ => False
def p3 (is : List It1) (k : It1 → It1 → It1 → Prop) : Prop := match is with
  | [a, b, c] => k a b c
  | _ => False
def sPar2 (i j : Nat) (ma : MP) : MS := fun A en => ma A.R en fun is e1 => p2 is fun x y => A.nx { e1 with sl := (e1.sl.set i x.sl).set j y.sl }
def sPar3 (i j l : Nat) (ma : MP) : MS := fun A en => ma A.R en fun is e1 => p3 is fun x y z => A.nx { e1 with sl := ((e1.sl.set i x.sl).set j y.sl).set l z.sl }
theorem as_par2 {i j : Nat} {x y : Str} {a b : Expr} {px py pt : Pos} {kt k2 pt2} (hc : X.calm = true) (hN : X.N.Nodup) (hi : X.N[i]? = some x) (hj : X.N[j]? = some y)
    (hx : X.env.scope.names.lookup x = some .local) (hy : X.env.scope.names.lookup y = some .local) (ha : AP X W [a, b] mp) (hij : i ≠ j := by decide)
    (hw : swappedStores [.Tuple [.Name x px, .Name y py] kt pt] (.Tuple [a, b] k2 pt2) X.env = pure (some [x, y]) := by rfl)
    (hs : swapsWithSole [.Tuple [.Name x px, .Name y py] kt pt] (.Tuple [a, b] k2 pt2) pos.line X.env = pure false := by rfl) :
    AS X W (.Assign [.Tuple [.Name x px, .Name y py] kt pt] (.Tuple [a, b] k2 pt2) pos) (sPar2 i j mp) := by
  obtain ⟨_, p, s⟩ := ha
  refine ⟨_, ps_par hc hN hi hj hij hx hy p hw hs, fun P0 F en σ H A E rs w hm => s P0 F en σ H _ _ _ rs w.R hm fun F' en' vs is H' s1 r pk q => ?_⟩
  match is, q, pk with
  | [a, b], q, pk =>
    obtain ⟨u, us, rfl⟩ := pk.cons_inv
    obtain ⟨r1, pk⟩ := r.put i pk
    obtain ⟨v, us, rfl⟩ := pk.cons_inv
    obtain ⟨r2, pk⟩ := r1.put j pk
    obtain rfl := pk.nil_inv
    exact ⟨_, _, rfl, w.nx F' _ _ H' s1 r2 q⟩
def enumD : Nat → List D → List D
  | _, [] => []
  | n, d :: ds => .tup [.int n, d] :: enumD (n + 1) ds
theorem enumD_get : ∀ {ds : List D} {n i : Nat} {d : D}, (enumD n ds)[i]? = some d → ∃ x, ds[i]? = some x ∧ d = .tup [.int ((n + i : Nat) : Int), x]
  | [], n, i, d, h => by simp [enumD] at h
  | a :: ds, n, 0, d, h => by simp [enumD] at h; exact ⟨a, rfl, by rw [← h]; rfl⟩
  | a :: ds, n, i + 1, d, h => by
    obtain ⟨x, h1, h2⟩ := enumD_get (ds := ds) (n := n + 1) (i := i) (by simpa [enumD] using h)
    exact ⟨x, by simpa using h1, by rw [h2, show n + 1 + i = n + (i + 1) by omega]⟩
theorem enumD_len : ∀ (ds : List D) (n : Nat), (enumD n ds).length = ds.length
  | [], _ => rfl
  | a :: ds, n => by simp [enumD, enumD_len ds]
theorem it_enumT {K : PySem.W.Frag} {F : Hp} {a : Addr} {vs : List V} {ds : List D} (h : SqT K F a vs) (r : Rps K F vs ds) : ItOk true K F (IteT K a) (enumD 0 ds) := fun H sH => by
  have hq : SqT K H a vs := sqT_mono sH h
  refine ⟨fun i d e => ?_, ⟨vs, hq, by rw [r.length, enumD_len]⟩⟩
  obtain ⟨x, e1, rfl⟩ := enumD_get e
  obtain ⟨v, h1, h2⟩ := r.getD e1
  refine ⟨⟨vs, v, hq, h1⟩, fun y H' ⟨T, z, e1, e2, e3, e4⟩ => .inr ⟨rfl, T, _, _, e2, e3, e1, .cons (.int _) (.cons ?_ .nil), by rw [Nat.zero_add]⟩⟩
  have := e4 vs hq
  rw [h1] at this; cases this
  exact h2
theorem it_enumL {K : PySem.W.Frag} {F : Hp} {a : Addr} {vs : List V} {ds : List D} (h : SqL K F a vs) (r : Rps K F vs ds) : ItOk true K F (Ite K a) (enumD 0 ds) := fun H sH => by
  have hq : SqL K H a vs := sH.seq h
  refine ⟨fun i d e => ?_, ⟨vs, hq, by rw [r.length, enumD_len]; exact Nat.le_refl _⟩⟩
  obtain ⟨x, e1, rfl⟩ := enumD_get e
  obtain ⟨v, h1, h2⟩ := r.getD e1
  refine ⟨⟨vs, v, hq, h1⟩, fun y H' ⟨T, z, e1, e2, e3, e4⟩ => .inr ⟨rfl, T, _, _, e2, e3, e1, .cons (.int _) (.cons ?_ .nil), by rw [Nat.zero_add]⟩⟩
  have := e4 vs hq
  rw [h1] at this; cases this
  exact h2
def sortI (ns : List Int) : List Int := ns.mergeSort (fun a b => decide (a ≤ b))
theorem sorted_uniq {ns ms : List Int} (h : ms.Perm ns) (s : ms.Pairwise (· ≤ ·)) : ms = sortI ns := by
  have h1 : (sortI ns).Perm ns := List.mergeSort_perm ns _
  have h2 : (sortI ns).Pairwise (fun a b => decide (a ≤ b) = true) := List.pairwise_mergeSort (fun a b c x y => by simp at *; omega) (fun a b => by simp; omega) ns
  refine (h.trans h1.symm).eq_of_pairwise (le := fun a b => a ≤ b) (fun a b _ _ x y => Int.le_antisymm x y) s (h2.imp fun h => of_decide_eq_true h)
def srtF (ds : List D) (k : List D → Prop) : Prop := lst1 ds fun xs => ∃ ns, D.ints xs = some ns ∧ ns.length < 64 ∧ k ((sortI ns).map D.int)
/-- a built-in call that makes a list that nobody holds -/
def CallF (X : Cx) (fv : Value) (f : List D → (List D → Prop) → Prop) : Prop := ∃ r, CallR X fv r ∧ ∀ (P0 F : Hp) (en : En) (σ : St) (H : Hp) (vs : List V) (ds : List D) (k : List D → Prop) (Qc : VK), RS X.K P0 F en σ H → Vws X.K F H vs ds → f ds k →
  (∀ (F' : Hp) (p : Addr) (xs : List V) (es : List D) (H' : Hp), Same F F' → RS X.K P0 F' en σ H' → New P0 F' en σ H' p → H' p = some (.lst xs) → Rps X.K F' xs es → k es → Qc (.ref p) H') → r vs H Qc
theorem f_sorted : CallF X (.builtin "sorted") srtF := ⟨_, cr_sorted, fun P0 F en σ H vs ds k Qc rs vw q kk => by
  obtain ⟨xs, rfl, ns, e, hz, q9⟩ := lst1_some q
  obtain ⟨u, rfl, w⟩ := vws1 vw
  obtain ⟨p, vs, rfl, h1, r1⟩ := w.lst rs.same
  have e2 := of_ints e
  subst e2
  obtain rfl := Rps.ints_of r1
  refine ⟨p, ns, rfl, SqL.of h1, hz, fun ns' a pm so ha => ?_⟩
  rw [sorted_uniq pm so]
  exact kk F a _ _ _ (Same.refl F) (rs.lay ha) (rs.new ha).lay upd_same (Rps.ints _) q9⟩
def mCF (f : List D → (List D → Prop) → Prop) (ma : MAV) : MF := fun R en Q => ma R en fun g e1 => ∃ ds, g e1 = some ds ∧ f ds fun d => Q d e1
variable {mr : MAV}
theorem af_cb {x : Str} {p : Pos} {id : String} {f : List D → (List D → Prop) → Prop} (h : CallF X (.builtin id) f) (hg : Gl X x) (hm : X.mg x = none) (hv : bootBuiltins x = some (.builtin id)) (ha : AAV X W (e :: es) mr) (hn : x ≠ "__name__" := by decide) (hdb : (x == ("__debug__" : Str)) = false := by decide)
    (he : starEach (e :: es) X.env = (false, eval e X.env) :: starEach es X.env := by rfl) (hpl : (backTo pos (starEach es X.env)).any (·.1) = false := by rfl) : AF X W (.Call (.Name x p) (e :: es) [] pos) (mCF f mr) := by
  obtain ⟨r, c, s⟩ := h
  obtain ⟨_, pa, sa⟩ := ha
  refine ⟨_, pe_callB c hg hm hv pa hn hdb he hpl, fun P0 F en σ H R Q Qc rs rx hm k => sa P0 F en σ H R _ _ rs rx hm fun F1 e1 vs g H1 s1 r1 vg q => ?_⟩
  obtain ⟨ds, ed, q⟩ := q
  exact s P0 F1 e1 σ H1 vs ds _ Qc r1 (vg F1 e1 H1 ds (Same.refl _) r1 ed) q fun F2 p xs es H2 s2 r2 n hp rp q2 => k F2 e1 p xs es H2 (s1.trans s2) r2 n hp rp q2
theorem pick1 (items : Array Value) : slicePick items none none (some 1) = items.toList.toArray := by
  have e : slicePick items none none (some 1) = slicePick items none none none := rfl
  rw [e, PySem.W.kmk_pick_nat items (a := 0) (b := items.size) rfl]
  congr 1
  rw [List.drop_zero, Nat.sub_zero]
  exact List.take_of_length_le (Nat.le_of_eq Array.length_toList)
def tStep (K : PySem.W.Frag) (te tk : TE) : TE := fun σ H Q => te σ H fun x H1 => tPart tk σ H1 fun o H2 => ∃ (a : Addr) (xs : List V) (k : Int), x = .ref a ∧ o = some k ∧ SqL K H2 a xs ∧ (k = 1 ∨ k = -1) ∧
  ∀ p, H2 p = none → Q (.ref p) (upd H2 p (.lst (if k = 1 then xs else xs.reverse)))
theorem pe_step {a b : Expr} {ta tb : TE} {p3 : Pos} (ha : PE X a ta) (hb : PE X b tb) : PE X (.Subscript a (.Slice none none (some b) p3) pos) (tStep X.K ta tb) where
  run := by
    intro pins s σ H Q I h
    refine Subscript_ (thn (ha.run pins s σ H _ I h) fun v s1 ⟨x, H1, I1, r1, q1⟩ => ?_)
    refine wpAny_Slice (thn (po_none.run pins s1 σ H1 (fun o H2 => o = none ∧ H2 = H1) I1 ⟨rfl, rfl⟩) fun vl s2 ⟨l, H2, I2, pl, el, e2⟩ => ?_)
    subst el e2
    refine thn (po_none.run pins s2 σ H2 (fun o H3 => o = none ∧ H3 = H2) I2 ⟨rfl, rfl⟩) fun vu s3 ⟨u, H3, I3, pu, eu, e3⟩ => ?_
    subst eu e3
    refine thn ((po_some hb).run pins s3 σ H3 (fun o H4 => ∃ (a : Addr) (xs : List V) (k : Int), x = .ref a ∧ o = some k ∧ SqL X.K H4 a xs ∧ (k = 1 ∨ k = -1) ∧ ∀ p, H4 p = none → Q (.ref p) (upd H4 p (.lst (if k = 1 then xs else xs.reverse)))) I3 q1) fun vs s4 ⟨o, H4, I4, ps, a0, xs, k, ex, ek, hS, hk, q⟩ => ?_
    · subst ex ek
      cases r1
      have I5 : Inv X pins σ H4 { s4 with heap := s4.heap.push { cls := .type "slice", data := .fields #[vl, vu, vs] } } := I4.kept (t' := s4.toks) fun b ob q => Heap.get?_push_of_some _ q
      obtain ⟨its, r, ht, hz⟩ := I5.list hS
      have hlen := r.length
      refine tail_any (ops := [.ref a0, .ref s4.heap.objs.size]) ht.isList.typeIs (PySem.slot_list_getitem.lookup) ?_ (by with_unfolding_all rfl)
      refine wpAny_getItem_list_slice ht.isList (Heap.IsSliceOf.new _ vl vu vs) pl pu ps (by rcases hk with rfl | rfl <;> decide) ?_ (by rw [List.size_toArray]; omega)
      have epk : slicePick its.toArray none none (some k) = (if k = 1 then its else its.reverse).toArray := by
        rcases hk with rfl | rfl
        · rw [pick1, if_pos rfl]
        · rw [PySem.W.krv_pick, if_neg (by decide)]
      rw [epk]
      have rr : Vals (if k = 1 then xs else xs.reverse) (if k = 1 then its else its.reverse) := by
        rcases hk with rfl | rfl
        · exact r
        · exact r.reverse
      have hl2 : (if k = 1 then xs else xs.reverse).length = xs.length := by split <;> simp
      exact ⟨.ref _, _, I5.laid (t' := s4.toks) (o := .lst (if k = 1 then xs else xs.reverse)) (fun b ob q => Heap.get?_push_of_some _ q) (Nat.le_refl _) ⟨by rw [hl2]; exact hz, _, 0, rr, Heap.get?_push_size _ rfl⟩, rfl, q _ (I5.hok.fresh (Nat.le_refl _))⟩
def lstD (d : D) (k : List D → Prop) : Prop := match d with
  | .lst xs => k xs
  | _ => False
theorem lstD_some {d : D} {k : List D → Prop} (h : lstD d k) : ∃ xs, d = .lst xs ∧ k xs := by
  unfold lstD at h
  split at h
  · exact ⟨_, rfl, h⟩
  · exact h.elim
def mStep (ma : MV) (mk : ME) : MF := fun R en Q => ma R en fun g e1 => mk R e1 fun d e2 => intD d fun k => (k = 1 ∨ k = -1) ∧ rq1 (g e2) fun x => lstD x fun xs => Q (if k = 1 then xs else xs.reverse) e2
theorem Rps.reverse {K : PySem.W.Frag} {F : Hp} : ∀ {vs : List V} {ds : List D}, Rps K F vs ds → Rps K F vs.reverse ds.reverse
  | _, _, .nil => .nil
  | _, _, .cons r t => by
    rw [List.reverse_cons, List.reverse_cons]
    exact t.reverse.append (.cons r .nil)
theorem af_step {a b : Expr} {ma : MV} {mk : ME} {p3 : Pos} (ha : AV X W a ma) (hb : AE X W b mk) : AF X W (.Subscript a (.Slice none none (some b) p3) pos) (mStep ma mk) := by
  obtain ⟨_, pa, sa⟩ := ha
  obtain ⟨_, pb, sb⟩ := hb
  refine ⟨_, pe_step pa pb, fun P0 F en σ H R Q Qc rs rx hm k => sa P0 F en σ H R _ _ rs rx hm fun F1 e1 v g H1 s1 r1 vg q => sb P0 F1 e1 σ H1 R _ _ r1 (rx.mono s1) q fun F2 e2 y d H2 s2 r2 ry q => ?_⟩
  obtain ⟨k0, rfl, hk, q⟩ := intD_some q
  obtain ⟨x, e, q⟩ := rq1_some q
  obtain ⟨xs, rfl, q⟩ := lstD_some q
  cases ry
  obtain ⟨p, vs, rfl, h1, rr⟩ := (vg F2 e2 H2 _ s2 r2 e).lst r2.same
  refine ⟨k0, rfl, p, vs, k0, rfl, rfl, SqL.of h1, hk, fun a ha => ?_⟩
  refine k F2 e2 a _ _ _ (s1.trans s2) (r2.lay ha) (r2.new ha).lay upd_same ?_ q
  split
  · exact rr
  · exact rr.reverse
end
end LP
namespace LP
open PySem PySem.Spec L2
open PyProof.Rows hiding St
section
variable {X : Cx} {W : WX} {tg l e : Expr} {es : List Expr} {me : ME} {ma : MA} {pos : Pos}
def iSeq (K : PySem.W.Frag) (tl : TE) : TI := fun σ H R => tl σ H fun x H1 => ∃ a, x = .ref a ∧ ((∃ xs, SqL K H1 a xs ∧ R (Itl K a) H1) ∨ (∃ xs, SqT K H1 a xs ∧ R (Itt K a) H1))
theorem pi_seq {tl : TE} (hl : PE X l tl) : PI X tg l (iSeq X.K tl) where
  run := by
    intro pins s σ H R I h
    have ev := hl.run pins s σ H _ I h
    refine thn ev ?_
    rintro v s1 ⟨x, H1, I1, r1, a, rfl, q⟩
    obtain rfl : v = .ref a := r1
    have fresh : ∀ b ∈ [s1.heap.objs.size], FpOk X pins H1 b := by
      intro b hb
      rw [List.mem_singleton.mp hb]
      exact I1.fpOk (Nat.le_refl _) (I1.hok.fresh (Nat.le_refl _))
    have keep : ∀ o : Obj, Inv X pins σ H1 { s1 with heap := s1.heap.push o } := fun o => I1.kept (t' := s1.toks) fun b u z => Heap.get?_push_of_some _ z
    rcases q with ⟨xs, hq, q⟩ | ⟨xs, hq, q⟩
    · obtain ⟨its, _, p, _⟩ := I1.list hq
      exact wpAny_pyIter_list p.isList ⟨s1.heap.objs.size, [s1.heap.objs.size], _, Itl X.K a, H1, rfl, keep _, turn_list a _, ⟨_, Heap.get?_push_size _ rfl, rfl, rfl⟩, fresh, q⟩
    · obtain ⟨its, _, p, _⟩ := I1.tuple hq
      exact wpAny_pyIter_tuple (show s1.heap.IsTuple a its.toArray from p) ⟨s1.heap.objs.size, [s1.heap.objs.size], _, Itt X.K a, H1, rfl, keep _, turn_tuple a _, ⟨_, Heap.get?_push_size _ rfl, rfl, rfl⟩, fresh, q⟩
theorem ai_seq (hl : AE X W l me) : AI X W false tg l (mSeq me) := by
  obtain ⟨_, p, s⟩ := hl
  refine ⟨_, pi_seq p, fun P0 F en σ H R Q Qc rs rx hm k => s P0 F en σ H R _ _ rs rx hm fun F1 e1 v d H1 s1 r1 rp q => ?_⟩
  cases rp with
  | tup h1 h2 => exact ⟨_, rfl, .inr ⟨_, sqT_mono r1.same h1.sq, k F1 e1 _ _ H1 s1 r1 (it_tup h1.sq h2) q⟩⟩
  | lst h1 h2 => exact ⟨_, rfl, .inl ⟨_, SqL.of (r1.same _ _ h1), k F1 e1 _ _ H1 s1 r1 (it_list h1 h2) q⟩⟩
  | scr h1 => exact ⟨_, rfl, .inl ⟨_, r1.same.seq h1, k F1 e1 _ _ H1 s1 r1 (it_scr h1) q⟩⟩
  | _ => exact q.elim
def iEnumS (K : PySem.W.Frag) (ta : TA) : TI := fun σ H R => ta σ H fun vs H1 => ∃ a, vs = [.ref a] ∧ ((∃ xs : List V, SqL K H1 a xs ∧ R (Ite K a) H1) ∨ (∃ xs : List V, SqT K H1 a xs ∧ R (IteT K a) H1))
theorem pi_enumS {p tpos : Pos} {elts : List Expr} {kk : Nat} {ta : TA} (hg : Gl X "enumerate") (hm : X.mg "enumerate" = none) (ha : PA X [e] ta) (hs : starEach [e] X.env = [(false, eval e X.env)]) :
    PI X (.Tuple elts kk tpos) (.Call (.Name "enumerate" p) [e] [] pos) (iEnumS X.K ta) where
  run := by
    intro pins s σ H R I h
    have args := ha.run pos pins s σ H _ I h
    refine Call_ (ld_blt I hg hm boot_enumerate (PyProof.Rows.callWith_type1 (thn args ?_) hs rfl))
    rintro us s1 ⟨vs, H1, I1, r1, a, rfl, q⟩
    obtain ⟨u, rfl, ru⟩ := vals1 r1
    cases ru
    have fresh : ∀ b ∈ [s1.heap.objs.size + 1, s1.heap.objs.size], FpOk X pins H1 b := by
      intro b hb
      have le : s1.heap.objs.size ≤ b := by
        rcases List.mem_cons.mp hb with z | z
        · rw [z]; exact Nat.le_succ _
        · rw [List.mem_singleton.mp z]; exact Nat.le_refl _
      exact I1.fpOk le (I1.hok.fresh le)
    rcases q with ⟨xs, hq, q⟩ | ⟨xs, hq, q⟩
    · obtain ⟨its, _, p', _⟩ := I1.list hq
      refine call_enumerate_list p'.isList fun h' he hit _ hk => wpAny_pyIter_enum he ?_
      exact ⟨s1.heap.objs.size + 1, [s1.heap.objs.size + 1, s1.heap.objs.size], _, Ite X.K a, H1, rfl, I1.kept (t' := s1.toks) hk, turn_enum a (s1.heap.objs.size + 1) s1.heap.objs.size, ⟨⟨.none, he⟩, hit, Nat.succ_ne_self _⟩, fresh, q⟩
    · obtain ⟨its, _, tp, _⟩ := I1.tuple hq
      refine enum_begins1 (begins_tuple a its.toArray) tp fun h' he hit hk => wpAny_pyIter_enum he ?_
      exact ⟨s1.heap.objs.size + 1, [s1.heap.objs.size + 1, s1.heap.objs.size], _, IteT X.K a, H1, rfl, I1.kept (t' := s1.toks) hk, turn_enumT a (s1.heap.objs.size + 1) s1.heap.objs.size, ⟨⟨.none, he⟩, ⟨_, hit, rfl, rfl⟩, Nat.succ_ne_self _⟩, fresh, q⟩
def mEnumS (ma : MA) : MI := fun R en Q => ma R en fun ds e1 => one ds fun d => match d with
  | .lst xs => Q (enumD 0 xs) e1
  | .tup xs => Q (enumD 0 xs) e1
  | .scr ns => Q (enumD 0 (ns.map D.int)) e1
  | _ => False
theorem ai_enum {p tpos : Pos} {elts : List Expr} {kk : Nat} (hg : Gl X "enumerate") (hm : X.mg "enumerate" = none) (ha : AA X W [e] ma) (hs : starEach [e] X.env = [(false, eval e X.env)] := by rfl) :
    AI X W true (.Tuple elts kk tpos) (.Call (.Name "enumerate" p) [e] [] pos) (mEnumS ma) := by
  obtain ⟨_, p, s⟩ := ha
  refine ⟨_, pi_enumS hg hm p hs, fun P0 F en σ H R Q Qc rs rx hm k => s P0 F en σ H R _ _ rs rx hm fun F1 e1 vs ds H1 s1 r1 rp q => ?_⟩
  obtain ⟨d, rfl, q⟩ := one_some q
  cases rp with
  | cons r2 r3 =>
    cases r3
    cases r2 with
    | lst h1 h2 => exact ⟨_, rfl, .inl ⟨_, SqL.of (r1.same _ _ h1), k F1 e1 _ _ H1 s1 r1 (it_enumL (SqL.of h1) h2) q⟩⟩
    | scr h1 => exact ⟨_, rfl, .inl ⟨_, r1.same.seq h1, k F1 e1 _ _ H1 s1 r1 (it_enumL h1 (Rps.ints _)) q⟩⟩
    | tup h1 h2 => exact ⟨_, rfl, .inr ⟨_, sqT_mono r1.same h1.sq, k F1 e1 _ _ H1 s1 r1 (it_enumT h1.sq h2) q⟩⟩
    | _ => exact q.elim
def dwnL (hi : Int) (n : Nat) : List Int := (List.range n).map fun (i : Nat) => hi - (i : Int)
def mR3 (ma : MA) : MI := fun R en Q => ma R en fun ds e1 => match ds with
  | [.int i, .int j, .int c] => c = -1 ∧ (-(2 ^ 62) ≤ i ∧ i < 2 ^ 62 ∧ -(2 ^ 62) ≤ j ∧ j < 2 ^ 62) ∧ Q ((dwnL i (i - j).toNat).map D.int) e1
  | _ => False
theorem it_dwn {K : PySem.W.Frag} {F : Hp} {hi : Int} {n : Nat} : ItOk false K F (Itc hi (-1) n) ((dwnL hi n).map D.int) := fun H _ => by
  refine ⟨fun i d e => ?_, by
    have hi' : n ≤ ((dwnL hi n).map D.int).length := by simp [dwnL]
    exact hi'⟩
  have hl : i < n := by
    have := (List.getElem?_eq_some_iff.mp e).1
    simpa [dwnL] using this
  have ed : d = .int (hi + (i : Nat) * (-1)) := by
    unfold dwnL at e
    rw [List.map_map, List.getElem?_map, List.getElem?_range hl] at e
    cases e
    show D.int (hi - (i : Int)) = _
    congr 1; omega
  subst ed
  exact ⟨hl, fun x H' ⟨e1, e2⟩ => .inl ⟨e1, by subst e2; exact .int _⟩⟩
theorem ai_r3 {a b c : Expr} {p : Pos} (hg : Gl X "range") (hm : X.mg "range" = none) (ha : AA X W [a, b, c] ma) (hs : starEach [a, b, c] X.env = (false, eval a X.env) :: starEach [b, c] X.env := by rfl) (hpl : (backTo pos (starEach [b, c] X.env)).any (·.1) = false := by rfl) :
    AI X W false tg (.Call (.Name "range" p) [a, b, c] [] pos) (mR3 ma) := by
  obtain ⟨_, p, s⟩ := ha
  refine ⟨_, pi_range3 hg hm p hs hpl, fun P0 F en σ H R Q Qc rs rx hm k => s P0 F en σ H R _ _ rs rx hm fun F1 e1 vs ds H1 s1 r1 rp q => ?_⟩
  split at q
  · obtain ⟨rfl, ⟨q1, q2, q3, q4⟩, q⟩ := q
    rename_i i j
    obtain rfl : vs = [V.int i, V.int j, V.int (-1)] := Rps.ints_of (ns := [i, j, -1]) rp
    exact ⟨i, j, -1, _, rfl, RgC.neg q1 q2 q3 q4, k F1 e1 _ _ H1 s1 r1 it_dwn q⟩
  · exact q.elim
def sAug (i : Nat) (f : Int → Int → Int) (m : ME) : MS := fun A en => match gt en.sl i with
  | .v (.int a) => m A.R en fun d e1 => intD d fun b => A.nx { e1 with sl := e1.sl.set i (.v (.int (f a b))) }
  | _ => False
theorem as_aug {i : Nat} {x : Str} {op : Operator} {f : Int → Int → Int} {pos' : Pos} (ho : PIp X op (ipI f)) (hN : X.N.Nodup) (hi : X.N[i]? = some x) (hx : Loc X.env.scope x) (he : AE X W e me) (hf : X.fn x = true ∨ X.env.scope.names.lookup x = some .local := by first | exact .inl rfl | exact .inr rfl | assumption) :
    AS X W (.AugAssign (.Name x pos') op e pos) (sAug i f me) := by
  obtain ⟨_, p, s⟩ := he
  refine ⟨_, ps_aug hN hi hx p ho hf, fun P0 F en σ H A E rs w hm => ?_⟩
  unfold sAug at hm
  split at hm
  · rename_i a ea
    obtain ⟨v, h1, h2⟩ := rs.val i _ (gt_some ea (fun z => nomatch z))
    cases h2
    refine ⟨_, h1, s P0 F en σ H _ _ _ rs w.R hm fun F' en' v d H' s1 r rp q => ?_⟩
    obtain ⟨b, rfl, q⟩ := intD_some q
    cases rp
    exact ⟨a, b, rfl, rfl, w.nx F' _ _ H' s1 (r.setV (.int _)) q⟩
  · exact hm.elim
end
/-- a def at the top: its function object, its name -/
structure Fn (K : PySem.W.Frag) (mg : Str → Option Value) (x : Str) (st : Stmt) where
  f : Addr
  fd : FuncData
  F : FnD K x x st [] [] f fd
  g : mg x = some (.ref f)
section
variable {X : Cx} {W : WX} {e : Expr} {es : List Expr} {pos : Pos} {ma : MA}
theorem ae_cf {x : Str} {st : Stmt} {j k : Nat} {ps : List Str} {sp : ASp} {p : Pos} (V : Fn X.K X.mg x st) (G : FnG X.prog X.w X.K X.mg X.base j V.f V.fd ps (conc X.K sp)) (mono : sp.Mono) (hb : Binds X.K V.fd ps []) (hr : Room k X.A) (hgd : X.A.guards = some []) (tk : Takes X W) (hg : Gl X x) (ha : AA X W (e :: es) ma)
    (hjk : j ≤ k) (hdb : (x == ("__debug__" : Str)) = false := by decide) (he : starEach (e :: es) X.env = (false, eval e X.env) :: starEach es X.env := by rfl) (hpl : (backTo pos (starEach es X.env)).any (·.1) = false := by rfl) : AE X W (.Call (.Name x p) (e :: es) [] pos) (mCall sp ma) :=
  ae_call (G.mono hjk) mono hr hgd hg V.g V.F.kp hb tk ha hdb he hpl
end
section
variable {X : Cx} {W : WX} {es : List Expr} {pos : Pos} {mp : MP} {K : PySem.W.Frag} {F : Hp} {en : En} {σ : St} {H : Hp}
theorem Pk.alloc {T : Addr} {o : HO} : ∀ {P : Hp} {vs : List V} {is : List It1}, Same F H → H T = none → Pk K F en σ H P vs is → Pk K (upd F T o) en σ (upd H T o) P vs is
  | _, _, _, _, _, .nil => .nil
  | _, _, _, s, hT, .v r t => .v (r.mono (same_upd (s.free hT))) (t.alloc s hT)
  | _, _, _, s, hT, .o (p := p) n hp r t => by
    have ne : p ≠ T := ne_of_none hp hT
    exact .o ⟨n.p0, by rw [upd_ne ne]; exact n.f, n.m, n.sl⟩ (by rw [upd_ne ne]; exact hp) (r.mono (same_upd (s.free hT))) (t.alloc s hT)
theorem Pk.length {P : Hp} {vs : List V} {is : List It1} (k : Pk K F en σ H P vs is) : vs.length = is.length := by
  induction k with
  | nil => rfl
  | v _ _ ih => exact congrArg (· + 1) ih
  | o _ _ _ _ ih => exact congrArg (· + 1) ih
def gNames : List Nat → TGs
  | [] => gNil
  | i :: is => gCons (gName i) (gNames is)
def putAll (l : List Sl) : List Nat → List It1 → List Sl
  | i :: is, x :: xs => putAll (l.set i x.sl) is xs
  | _, _ => l
theorem gNames_put {P0 : Hp} {Q : St → Hp → Prop} : ∀ {idx : List Nat} {vs : List V} {is : List It1} {en : En} {σ : St}, RS K P0 F en σ H → Pk K F en σ H P0 vs is → is.length = idx.length →
    (∀ σ', RS K P0 F { en with sl := putAll en.sl idx is } σ' H → Q σ' H) → gNames idx vs σ H Q
  | [], vs, is, en, σ, r, pk, hl, q => by
    obtain rfl : is = [] := List.length_eq_zero_iff.mp hl
    obtain rfl := pk.nil_inv
    exact ⟨rfl, q σ r⟩
  | i :: idx, vs, [], en, σ, r, pk, hl, q => by cases hl
  | i :: idx, vs, x :: is, en, σ, r, pk, hl, q => by
    obtain ⟨v, us, rfl⟩ := pk.cons_inv
    obtain ⟨r1, pk1⟩ := r.put i pk
    exact ⟨v, us, rfl, gNames_put r1 pk1 (Nat.succ.inj hl) q⟩
def sTupN (idx : List Nat) (ma : MP) : MS := fun A en => ma A.R en fun is e1 => is.length = idx.length ∧ idx.length ≤ 1000 ∧ A.nx { e1 with sl := putAll e1.sl idx is }
theorem an_nil : PGs X [] (gNames []) := pgs_nil
theorem an_cons {i : Nat} {x : Str} {is : List Nat} {p : Pos} (hN : X.N.Nodup) (hi : X.N[i]? = some x) (hx : Loc X.env.scope x) (h : PGs X es (gNames is)) (hf : X.fn x = true ∨ X.env.scope.names.lookup x = some .local := by first | exact .inl rfl | exact .inr rfl | assumption)
    (hs : (assignEach (.Name x p :: es) X.env).map (·.2) = assign (.Name x p) X.env :: (assignEach es X.env).map (·.2) := by rfl) : PGs X (.Name x p :: es) (gNames (i :: is)) := pgs_cons (pg_name hN hi hx hf) h hs
theorem as_tupN {idx : List Nat} {tgs : List Expr} {k k2 : Nat} {p p2 : Pos} (hc : X.calm = true) (hg : PGs X tgs (gNames idx)) (ha : AP X W es mp)
    (hn : (assignEach tgs X.env).length = idx.length := by rfl) (hst : (assignEach tgs X.env).findIdx? (·.1) = none := by rfl)
    (hs : swapsWithSole [.Tuple tgs k p] (.Tuple es k2 p2) pos.line X.env = pure false := by rfl) (hw : swappedStores [.Tuple tgs k p] (.Tuple es k2 p2) X.env = pure none := by rfl)
    (h1 : (assignEach [.Tuple tgs k p] X.env).map (·.2) = [assign (.Tuple tgs k p) X.env] := by rfl) : AS X W (.Assign [.Tuple tgs k p] (.Tuple es k2 p2) pos) (sTupN idx mp) := by
  obtain ⟨_, pa, sa⟩ := ha
  refine ⟨_, ps_asg (pe_tupF pa) (pg_tup hc hg hn hst) hs hw h1, fun P0 F en σ H A E rs w hm => sa P0 F en σ H _ _ _ rs w.R hm fun F1 e1 vs is H1 s1 r1 pk q => ?_⟩
  obtain ⟨q1, q2, q⟩ := q
  have hl := pk.length
  refine ⟨by rw [hl, q1]; exact Nat.le_trans q2 (by decide), fun T us hT => ⟨T, vs, rfl, .inl (.inr ⟨_, upd_same⟩), by rw [hl, q1], ?_⟩⟩
  have s2 : Same F1 (upd F1 T (.frz (tupO us) (.tup vs))) := same_upd (r1.same.free hT)
  exact gNames_put (r1.alloc hT) (pk.alloc r1.same hT) q1 fun σ' r => w.nx _ _ σ' _ (s1.trans s2) r q
end
theorem fng_never {P : Program} {w : World} {K : PySem.W.Frag} {mg : Str → Option Value} {base : Heap} {k : Nat} {f : Addr} {fd : FuncData} {ps : List Str} (sp : ASp) (h : ∀ ds M Q E, sp ds M Q E → False) : FnG P w K mg base k f fd ps (conc K sp) where
  len := fun vs H Q E ⟨_, _, _, _, _, _, z⟩ => (h _ _ _ _ z).elim
  go := fun A _ _ out s H _ args us vs _ _ Q E ⟨_, _, _, _, _, _, z⟩ => (h _ _ _ _ z).elim
/-- a comprehension's scope, looked at -/
def blkB (N : List Str) (sc scope : Scope) (own : List (Str × Nat)) : Bool :=
  decide (scope.kind = .function) && scope.names.all (fun y => decide (scope.names.lookup y.1 = some y.2) && (!decide (y.2 = .free) || decide (sc.names.lookup y.1 = some .cell) || decide (sc.names.lookup y.1 = some .free)) && (own.any (fun p => decide (p.1 = y.1)) || !(N.any fun x => decide (x = y.1)) || !(decide (y.2 = .local) || decide (y.2 = .cell)))) && own.all fun p => decide (N[p.2]? = some p.1)
theorem blk_of {N : List Str} {sc scope : Scope} {own : List (Str × Nat)} (h : blkB N sc scope own = true) : BlkOk N sc scope own := by
  unfold blkB at h
  simp only [Bool.and_eq_true, List.all_eq_true, decide_eq_true_eq] at h
  obtain ⟨⟨h1, h2⟩, h3⟩ := h
  refine ⟨h1, fun y hy => (h2 y hy).1.1, h3, fun y hy z => ?_, fun y hy z => ?_⟩
  · have q := (h2 y hy).1.2
    simp only [Bool.or_eq_true, decide_eq_true_eq, Bool.not_eq_true', decide_eq_false_iff_not] at q
    rcases q with (q | q) | q
    · exact absurd z q
    · exact .inl q
    · exact .inr q
  have q := (h2 y hy).2
  simp only [Bool.or_eq_true, List.any_eq_true, decide_eq_true_eq, Bool.not_eq_true'] at q
  rcases q with (⟨p, hp, e⟩ | q) | q
  · exact .inl (List.mem_map.mpr ⟨p, hp, e⟩)
  · refine .inr fun hm => ?_
    have : (N.any fun x => decide (x = y.1)) = true := List.any_eq_true.mpr ⟨y.1, hm, by simp⟩
    rw [this] at q; cases q
  · rcases z with z | z <;> simp [z] at q
end LP
namespace LP
open PySem PySem.Spec L2
open PyProof.Rows hiding St
section
variable {X : Cx} {W : WX} {e o a b : Expr} {es : List Expr} {pos : Pos} {me : ME} {mv : MV} {ma : MA} {mr : MAV}
def tBM2 (K : PySem.W.Frag) (r1 r2 : V → List V → Hp → VK → Prop) (to : TE) (t : TA) : TE := fun σ H Q => to σ H fun x H1 => ∃ a, x = .ref a ∧ (((∃ xs, SqL K H1 a xs) ∧ t σ H1 fun xs H2 => r1 x xs H2 Q) ∨ ((∃ vs, PlT K H1 a vs) ∧ t σ H1 fun xs H2 => r2 x xs H2 Q))
theorem PlT.obj {pins : List (Addr × Obj)} {σ : St} {H : Hp} {s : Shared} {a : Addr} {vs : List V} (I : Inv X pins σ H s) (h : PlT X.K H a vs) : ∃ o, s.heap.get? a = some o ∧ o.cls = .type "tuple" ∧ o.dict = none := by
  rcases h with ⟨us, h⟩ | ⟨o, its, n, h1, h2, h3, _⟩
  · obtain ⟨e, _⟩ := I.hok a _ h
    exact ⟨_, e, rfl, rfl⟩
  · exact ⟨o, I.kIn a o h1, h2, h3⟩
theorem pe_bm2 {id1 id2 : String} {r1 r2 : V → List V → Hp → VK → Prop} {to : TE} {t : TA} {name : Str} {apos cpos : Pos} (s1 : Slot "list" name id1) (y1 : typeOf (.builtin id1) = pure (.type "method_descriptor")) (m1 : MtR X id1 r1)
    (s2 : Slot "tuple" name id2) (y2 : typeOf (.builtin id2) = pure (.type "method_descriptor")) (m2 : MtR X id2 r2) (ho : PE X o to) (ha : PA X (e :: es) t)
    (hbase : attributeBase o name X.env (eval o X.env) = eval o X.env)
    (hfew : ((backTo cpos (starEach (e :: es) X.env)).all (fun x => !x.1) && (backToKw cpos (keywordEach [] X.env)).all (fun x => x.1.isSome) && decide ((e :: es).length + ([] : List Keyword).length + (if ([] : List Keyword).isEmpty then 0 else 1) < 30)) = true)
    (hline : (apos.endLine == cpos.line) = true) (hs : starEach (e :: es) X.env = (false, eval e X.env) :: starEach es X.env) (hpl : (backTo cpos (starEach es X.env)).any (·.1) = false) :
    PE X (.Call (.Attribute o name apos) (e :: es) [] cpos) (tBM2 X.K r1 r2 to t) where
  run := by
    intro pins s σ H Q I h
    have ev := ho.run pins s σ H _ I h
    refine wpAny_Call_method_late hbase hfew hline rfl (thn ev ?_)
    rintro v s' ⟨x, H1, I1, rx, a, rfl, q⟩
    obtain rfl : v = .ref a := rx
    rcases q with ⟨⟨xs, ty⟩, q⟩ | ⟨⟨xs, ty⟩, q⟩
    · obtain ⟨its, _, ⟨o1, n, e1, c1, d1, _⟩, _⟩ := I1.list ty
      refine ⟨"list", id1, PySem.F.plainAttrs_list, s1, y1, ⟨o1, e1, c1⟩, fun b z => ⟨o1, by cases z; exact e1, d1⟩, ?_⟩
      have hA := ha.run cpos pins s' σ H1 _ I1 q
      rw [hs] at hA ⊢
      refine Calls.callWith_builtin hpl (Calls.evalArgs_plain (thn hA ?_))
      rintro us s2 ⟨vs, H2, I2, r2, q2⟩
      exact m1 pins s2 σ H2 (.ref a) vs _ us Q I2 rfl r2 q2
    · obtain ⟨o1, e1, c1, d1⟩ := ty.obj I1
      refine ⟨"tuple", id2, PySem.F.plainAttrs_tuple, s2, y2, ⟨o1, e1, c1⟩, fun b z => ⟨o1, by cases z; exact e1, d1⟩, ?_⟩
      have hA := ha.run cpos pins s' σ H1 _ I1 q
      rw [hs] at hA ⊢
      refine Calls.callWith_builtin hpl (Calls.evalArgs_plain (thn hA ?_))
      rintro us s2 ⟨vs, H2, I2, r2, q2⟩
      exact m2 pins s2 σ H2 (.ref a) vs _ us Q I2 rfl r2 q2
def rIdxL (K : PySem.W.Frag) : V → List V → Hp → VK → Prop := fun x xs H Q => ∃ (a : Addr) (ns : List Int) (n : Int), x = .ref a ∧ xs = [.int n] ∧ SqL K H a (ns.map V.int) ∧ n ∈ ns ∧ Q (.int (ns.idxOf n : Nat)) H
def rIdxT (K : PySem.W.Frag) : V → List V → Hp → VK → Prop := fun x xs H Q => ∃ (a : Addr) (ns : List Int) (n : Int), x = .ref a ∧ xs = [.int n] ∧ SqT K H a (ns.map V.int) ∧ n ∈ ns ∧ Q (.int (ns.idxOf n : Nat)) H
theorem room_int {u : Nat} (hu : u + 100 < cLine) : u + 1 + PySem.W.Datum.depth Int < cLine := by
  show u + 1 + 0 < cLine
  omega
theorem mt_idxL (hu : X.A.units + 100 < cLine) : MtR X "list.index" (rIdxL X.K) := fun pins s σ H x xs v us Q I rx rxs h => by
  obtain ⟨a, ns, n, rfl, rfl, hS, hn, q⟩ := h
  cases rx
  obtain ⟨u, rfl, t, rfl⟩ := vals1 rxs
  obtain ⟨its, rv, hl, hz⟩ := I.list hS
  exact PySem.W.index_list_datum hl.isList (hold_ints rv) ⟨_, .int n t⟩ (room_int hu) (by rw [List.length_map] at hz; exact hz) hn ⟨.int _, H, I.tok _, ⟨_, rfl⟩, q⟩
theorem mt_idxT (hu : X.A.units + 100 < cLine) : MtR X "tuple.index" (rIdxT X.K) := fun pins s σ H x xs v us Q I rx rxs h => by
  obtain ⟨a, ns, n, rfl, rfl, hS, hn, q⟩ := h
  cases rx
  obtain ⟨u, rfl, t, rfl⟩ := vals1 rxs
  obtain ⟨its, rv, hl, hz⟩ := I.tuple hS
  exact PySem.W.index_tuple_datum (show s.heap.IsTuple a its.toArray from hl) (hold_ints rv) ⟨_, .int n t⟩ (room_int hu) hn ⟨.int _, H, I.tok _, ⟨_, rfl⟩, q⟩
/-- o.index(a number) -/
def mIdx (mo : MV) (m : ME) : ME := fun R en Q => mo R en fun g e1 => ∃ d ys, g e1 = some d ∧ (d = .tup ys ∨ d = .lst ys) ∧ m R e1 fun d2 e2 => intD d2 fun n => ∃ ns, D.ints ys = some ns ∧ n ∈ ns ∧ g e2 = some d ∧ Q (.int (ns.idxOf n : Nat)) e2
theorem ae_index {apos : Pos} (hu : X.A.units + 100 < cLine) (ho : AV X W o mv) (he : AE X W e me) (hbase : attributeBase o "index" X.env (eval o X.env) = eval o X.env := by rfl)
    (hfew : ((backTo pos (starEach [e] X.env)).all (fun x => !x.1) && (backToKw pos (keywordEach [] X.env)).all (fun x => x.1.isSome) && decide ([e].length + ([] : List Keyword).length + (if ([] : List Keyword).isEmpty then 0 else 1) < 30)) = true := by rfl)
    (hline : (apos.endLine == pos.line) = true := by rfl) (hs : starEach [e] X.env = (false, eval e X.env) :: starEach [] X.env := by rfl) : AE X W (.Call (.Attribute o "index" apos) [e] [] pos) (mIdx mv me) := by
  obtain ⟨_, po, so⟩ := ho
  obtain ⟨_, pe, se⟩ := he
  refine ⟨_, pe_bm2 PySem.F.slot_list_index PySem.F.type_list_index (mt_idxL hu) PySem.F.slot_tuple_index PySem.F.type_tuple_index (mt_idxT hu) po (pa_cons pe pa_nil hs) hbase hfew hline hs rfl, fun P0 F en σ H R Q Qc rs rx hm k => so P0 F en σ H R _ _ rs rx hm fun F1 e1 v g H1 s1 r1 vg q => ?_⟩
  obtain ⟨d, ys, hd, hd2, q⟩ := q
  have w1 := vg F1 e1 H1 d (Same.refl _) r1 hd
  rcases hd2 with rfl | rfl
  · obtain ⟨p, vs, rfl, _, _, _, h1⟩ := w1.tup r1.same
    refine ⟨p, rfl, .inr ⟨⟨vs, h1⟩, se P0 F1 e1 σ H1 _ _ _ r1 (rx.mono s1) q fun F2 e2 u d2 H2 s2 r2 ru q => ?_⟩⟩
    obtain ⟨n, rfl, ns, hns, hn, hg, q7⟩ := intD_some q
    cases ru
    obtain ⟨p', vs', ep, h2, rr, _⟩ := (vg F2 e2 H2 _ s2 r2 hg).tup r2.same
    cases ep
    have e2 := of_ints hns
    subst e2
    obtain rfl := Rps.ints_of rr
    exact ⟨p, ns, n, rfl, rfl, h2, hn, k F2 _ _ _ H2 (s1.trans s2) r2 (.int _) q7⟩
  · obtain ⟨p, vs, rfl, h1, _⟩ := w1.lst r1.same
    refine ⟨p, rfl, .inl ⟨⟨vs, SqL.of h1⟩, se P0 F1 e1 σ H1 _ _ _ r1 (rx.mono s1) q fun F2 e2 u d2 H2 s2 r2 ru q => ?_⟩⟩
    obtain ⟨n, rfl, ns, hns, hn, hg, q7⟩ := intD_some q
    cases ru
    obtain ⟨p', vs', ep, h2, rr⟩ := (vg F2 e2 H2 _ s2 r2 hg).lst r2.same
    cases ep
    have e2 := of_ints hns
    subst e2
    obtain rfl := Rps.ints_of rr
    exact ⟨p, ns, n, rfl, rfl, SqL.of h2, hn, k F2 _ _ _ H2 (s1.trans s2) r2 (.int _) q7⟩
def intK (ds : List D) (k : D → Prop) : Prop := one ds fun d => match d with
  | .int i => k (.int i)
  | .bl b => k (.int (if b then 1 else 0))
  | _ => False
def max2K (ds : List D) (k : D → Prop) : Prop := i2 ds fun i j => k (.int (if j > i then j else i))
def min2K (ds : List D) (k : D → Prop) : Prop := i2 ds fun i j => k (.int (if j < i then j else i))
def mLr1 (m : ME) : MF := fun R en Q => m R en fun d e1 => intD d fun n => RgOk 0 n ∧ Q ((rngL 0 n.toNat).map D.int) e1
def mLr2 (m m' : ME) : MF := fun R en Q => m R en fun d e1 => m' R e1 fun d' e2 => intD d fun i => intD d' fun j => RgOk i j ∧ Q ((rngL i (j - i).toNat).map D.int) e2
def zipD : List D → List D → List D
  | x :: xs, y :: ys => .tup [x, y] :: zipD xs ys
  | _, _ => []
def mZip (ma : MA) : MI := fun R en Q => ma R en fun ds e1 => match ds with
  | [.lst xs, .lst ys] => Q (zipD xs ys) e1
  | [.tup xs, .tup ys] => Q (zipD xs ys) e1
  | _ => False
/-- a number that the module names -/
theorem ae_gint {x : Str} {i : Int} (hg : Gl X x) (hm : ∃ t, X.mg x = some (.int i t)) (hd : (x == ("__debug__" : Str)) = false := by decide) : AE X W (.Name x pos) (mC (.int i)) :=
  let ⟨t, h⟩ := hm
  ⟨_, pe_glob (v := .int i) hg h ⟨t, rfl⟩ hd, sim_c fun _ => .int i⟩
end
end LP
namespace LP
open PySem PySem.Spec L2
open PyProof.Rows hiding St
section
variable {X : Cx}
def rInA (K : PySem.W.Frag) (neg : Bool) : R2 := fun x y H Q => ∃ (d : PyData) (es : List PyData), Dp K H x d ∧ (Dp K H y (.list es) ∨ Dp K H y (.tuple es)) ∧ d.plain = true ∧ PyData.plainAll es = true ∧ d.depth ≤ 60 ∧
  Q (.bl (if neg then !(es.any fun z => PyData.eqv z d) else es.any fun z => PyData.eqv z d)) H
theorem op_inA (hu : X.A.units + 100 < cLine) : OpR X (compareOp .In) (rInA X.K false) := fun pins s σ H x y v u Q I rx ry h => by
  obtain ⟨d, es, hd, he, p1, p2, hz, q⟩ := h
  obtain ⟨as, r1⟩ := Dp.reads I d x v hd rx
  have room : X.A.units + 1 + min (PyData.depthAll es) d.depth < cLine := by
    have := Nat.min_le_right (PyData.depthAll es) d.depth
    omega
  rcases he with he | he
  · obtain ⟨bs, r2⟩ := Dp.reads I _ y u he ry
    exact SeqAt.in_list_data r2 r1 p2 p1 room ⟨.bl _, H, I, rfl, q⟩
  · obtain ⟨bs, r2⟩ := Dp.reads I _ y u he ry
    exact SeqAt.in_tuple_data r2 r1 p2 p1 room ⟨.bl _, H, I, rfl, q⟩
theorem op_notInA (hu : X.A.units + 100 < cLine) : OpR X (compareOp .NotIn) (rInA X.K true) := fun pins s σ H x y v u Q I rx ry h => by
  obtain ⟨d, es, hd, he, p1, p2, hz, q⟩ := h
  obtain ⟨as, r1⟩ := Dp.reads I d x v hd rx
  have room : X.A.units + 1 + min (PyData.depthAll es) d.depth < cLine := by
    have := Nat.min_le_right (PyData.depthAll es) d.depth
    omega
  rcases he with he | he
  · obtain ⟨bs, r2⟩ := Dp.reads I _ y u he ry
    exact SeqAt.notIn_list_data r2 r1 p2 p1 room ⟨.bl _, H, I, rfl, q⟩
  · obtain ⟨bs, r2⟩ := Dp.reads I _ y u he ry
    exact SeqAt.notIn_tuple_data r2 r1 p2 p1 room ⟨.bl _, H, I, rfl, q⟩
def inA (neg : Bool) (x y : D) (k : D → Prop) : Prop := ∃ (d : PyData) (es : List PyData) (ys : List D), D.py x = some d ∧ (y = .tup ys ∨ y = .lst ys) ∧ D.pys ys = some es ∧ d.plain = true ∧ PyData.plainAll es = true ∧ d.depth ≤ 60 ∧
  k (.bl (if neg then !(es.any fun z => PyData.eqv z d) else es.any fun z => PyData.eqv z d))
theorem os_inA {neg : Bool} : OpS X (rInA X.K neg) (inA neg) := fun P0 F en σ H x y dx dy k Qc rs vx vy q kk => by
  obtain ⟨d, es, ys, e1, e2, e3, p1, p2, hz, q⟩ := q
  refine ⟨d, es, vx.dp rs.same e1, ?_, p1, p2, hz, kk F _ _ H (Same.refl F) rs (.bl _) q⟩
  rcases e2 with rfl | rfl
  · exact .inr (vy.dp rs.same (by unfold D.py; rw [e3]; rfl))
  · exact .inl (vy.dp rs.same (by unfold D.py; rw [e3]; rfl))
/-- flat items, or data of any depth -/
def in2 (neg : Bool) (x y : D) (k : D → Prop) : Prop := inK neg x y k ∨ inA neg x y k
theorem o_in2 (hu : X.A.units + 100 < cLine) : CmpS X .In (in2 false) := CmpS.or o_in ⟨_, op_inA hu, os_inA⟩
theorem o_notin2 (hu : X.A.units + 100 < cLine) : CmpS X .NotIn (in2 true) := CmpS.or o_notin ⟨_, op_notInA hu, os_inA⟩
end
end LP
namespace LP
open PySem PySem.Spec L2
open PyProof.Rows hiding St
theorem sizeLine_is : sizeLine = 16777216 := by decide
abbrev no : RX := fun _ _ => False
def nums (ns : List Int) : List D := ns.map D.int
theorem nums_len (ns : List Int) : (nums ns).length = ns.length := by simp [nums]
theorem nums_app (a b : List Int) : nums (a ++ b) = nums a ++ nums b := by simp [nums]
theorem dints (ns : List Int) : D.ints (nums ns) = some ns := ints_map ns
theorem atI_int {ns : List Int} {i : Nat} {x : Int} (h : ns[i]? = some x) : atI (nums ns) (i : Int) = some (.int x) := atI_nat (by simp [nums, h])
theorem rng_cons (lo : Int) (n : Nat) : (rngL lo (n + 1)).map D.int = .int lo :: (rngL (lo + 1) n).map D.int := by
  unfold rngL
  rw [List.range_succ_eq_map]
  simp only [List.map_cons, List.map_map]
  congr 1
  · simp
  · apply List.map_congr_left
    intro a _
    simp only [Function.comp]
    congr 1
    push_cast; omega
theorem dwn_cons (hi : Int) (n : Nat) : (dwnL hi (n + 1)).map D.int = .int hi :: (dwnL (hi - 1) n).map D.int := by
  unfold dwnL
  rw [List.range_succ_eq_map]
  simp only [List.map_cons, List.map_map]
  congr 1
  · simp
  · apply List.map_congr_left
    intro a _
    simp only [Function.comp]
    congr 1
    push_cast; omega
theorem rng_len (lo : Int) (n : Nat) : (rngL lo n).length = n := by simp [rngL]
/-- a comprehension that changes nothing -/
theorem lcR_pure {g : MG} {tt : MT} {te : ME} {vs : List Nat} {en : En} {Q : List D → En → Prop} (p : D → Bool) (h : D → D) (ev : D → En) : ∀ (ds acc : List D), acc.length + ds.length ≤ sizeLine →
    (∀ d ∈ ds, ∀ C : En → Prop, C (ev d) → g d { en with sl := wipeE en.sl vs } C) → (∀ d ∈ ds, ∀ C : Bool → En → Prop, C (p d) (ev d) → tt no (ev d) C) → (∀ d ∈ ds, p d = true → ∀ C : D → En → Prop, C (h d) (ev d) → te no (ev d) C) →
    (∀ d ∈ ds, keepO vs 0 en.sl (ev d).sl) → (∀ d ∈ ds, (ev d).M = en.M) → Q (acc ++ (ds.filter p).map h) en → lcR g tt te vs ds acc en Q
  | [], acc, _, _, _, _, _, _, q => by
    rw [List.filter_nil, List.map_nil, List.append_nil] at q
    exact q
  | d :: ds, acc, hz, hg, ht, he, hk, hM, q => by
    have m : d ∈ d :: ds := List.mem_cons_self ..
    have up : ∀ {x}, x ∈ ds → x ∈ d :: ds := fun z => List.mem_cons_of_mem _ z
    have ne : { en with M := (ev d).M } = en := by rw [hM d m]
    rw [List.length_cons] at hz
    refine hg d m _ (ht d m _ ?_)
    cases e : p d with
    | true =>
      rw [if_pos rfl]
      refine he d m e _ ⟨hk d m, by omega, ?_⟩
      rw [ne]
      refine lcR_pure p h ev ds _ (by rw [List.length_append, List.length_singleton]; omega) (fun x hx => hg x (up hx)) (fun x hx => ht x (up hx)) (fun x hx => he x (up hx)) (fun x hx => hk x (up hx)) (fun x hx => hM x (up hx)) ?_
      rw [List.filter_cons, e, if_pos rfl, List.map_cons] at q
      rw [List.append_assoc]
      exact q
    | false =>
      rw [if_neg Bool.false_ne_true]
      refine ⟨hk d m, ?_⟩
      rw [ne]
      refine lcR_pure p h ev ds _ (by omega) (fun x hx => hg x (up hx)) (fun x hx => ht x (up hx)) (fun x hx => he x (up hx)) (fun x hx => hk x (up hx)) (fun x hx => hM x (up hx)) ?_
      rw [List.filter_cons, e, if_neg Bool.false_ne_true] at q
      exact q
/-- .. all of whose items are drawn -/
theorem lcR_draw {g : MG} {te : ME} {vs : List Nat} {M : Sto} {sa : Addr} {sl : List Sl} {Q : List D → En → Prop} {b : Nat} (R : D → D → Prop) (ev : D → List Sl) : ∀ (ds acc : List D) (c : Nat), acc.length + ds.length ≤ sizeLine →
    (∀ d ∈ ds, ∀ (c1 : Nat) (C : En → Prop), C ⟨ev d, setM M sa (.strm c1)⟩ → g d ⟨wipeE sl vs, setM M sa (.strm c1)⟩ C) →
    (∀ d ∈ ds, ∀ (c1 : Nat) (C : D → En → Prop), c1 ≤ c + b * ds.length → (∀ y c2, R d y → c1 ≤ c2 → c2 ≤ c1 + b → C y ⟨ev d, setM M sa (.strm c2)⟩) → te no ⟨ev d, setM M sa (.strm c1)⟩ C) →
    (∀ d ∈ ds, keepO vs 0 sl (ev d)) → (∀ (ys : List D) (c' : Nat), ys.length = ds.length → (∀ (i : Nat) (y : D), ys[i]? = some y → ∃ d, ds[i]? = some d ∧ R d y) → c ≤ c' → c' ≤ c + b * ds.length → Q (acc ++ ys) ⟨sl, setM M sa (.strm c')⟩) →
    lcR g mYes te vs ds acc ⟨sl, setM M sa (.strm c)⟩ Q
  | [], acc, c, _, _, _, _, q => by
    have := q [] c rfl (fun i y h => by simp at h) (Nat.le_refl _) (Nat.le_add_right _ _)
    rw [List.append_nil] at this
    exact this
  | d :: ds, acc, c, hz, hg, he, hk, q => by
    have m : d ∈ d :: ds := List.mem_cons_self ..
    have up : ∀ {x}, x ∈ ds → x ∈ d :: ds := fun z => List.mem_cons_of_mem _ z
    rw [List.length_cons] at hz
    refine hg d m c _ ?_
    refine he d m c _ (Nat.le_add_right _ _) fun y c2 r l1 l2 => ⟨hk d m, by omega, ?_⟩
    have hb : b * (ds.length + 1) = b * ds.length + b := Nat.mul_succ _ _
    refine lcR_draw R ev ds _ c2 (by rw [List.length_append, List.length_singleton]; omega) (fun x hx => hg x (up hx)) (fun x hx c1 C hc => he x (up hx) c1 C (by rw [List.length_cons, hb]; omega)) (fun x hx => hk x (up hx)) fun (ys : List D) (c' : Nat) e1 e2 e3 e4 => ?_
    rw [List.append_assoc]
    refine q (y :: ys) c' (by simp [e1]) (fun (i : Nat) (z : D) (hz : (y :: ys)[i]? = some z) => ?_) (by omega) (by rw [List.length_cons, hb]; omega)
    cases i with
    | zero => simp at hz; subst hz; exact ⟨d, rfl, r⟩
    | succ i => exact e2 i z (by simpa using hz)
theorem setM_self {M : Sto} {a : Addr} {o : AO} (h : M a = some o) : setM M a o = M := by
  funext b
  unfold setM
  split
  · rename_i e; rw [e, h]
  · rfl
/-- a draw, the stream at sa -/
theorem draw_at {M : Sto} {sa : Addr} {c : Nat} {many : Int} {Q : D → Sto → Prop} {E : Exn → Sto → Prop} (hc : c < 2 ^ 60) (h0 : 0 < many) (h1 : many < 1073741824) (q : ∀ k : Int, 0 ≤ k → k < many → Q (.int k) (setM M sa (.strm (c + 1)))) : spDraw [.ref sa, .int many] (setM M sa (.strm c)) Q E :=
  ⟨sa, c, many, rfl, setM_at, hc, ⟨h0, h1⟩, fun k a b => by rw [setM_set]; exact q k a b⟩
end LP
namespace LP
open PySem PySem.Spec L2
open PyProof.Rows hiding St
/-- how far the nearest earlier entry that is not greater stands before place i -/
def lastD (i : Nat) : Option Nat → Int
  | some j => (i : Int) - (j : Int)
  | none => 0
def distL (row : List Int) (i : Nat) : Int := lastD i ((List.range i).filter fun j => decide (row.getD j 0 ≤ row.getD i 0)).getLast?
def shapeL (row : List Int) : List Int := (List.range row.length).map (distL row)
theorem shapeL_len (row : List Int) : (shapeL row).length = row.length := by simp [shapeL]
/-- the last place before i whose entry is at most x -/
def isLast (row : List Int) (i : Nat) (x : Int) (o : Option Nat) : Prop := match o with
  | some j => j < i ∧ row.getD j 0 ≤ x ∧ ∀ k, j < k → k < i → x < row.getD k 0
  | none => ∀ k, k < i → x < row.getD k 0
theorem last_filter (row : List Int) (x : Int) : ∀ i : Nat, isLast row i x ((List.range i).filter fun j => decide (row.getD j 0 ≤ x)).getLast?
  | 0 => fun k hk => absurd hk (Nat.not_lt_zero k)
  | i + 1 => by
    rw [List.range_succ, List.filter_append]
    by_cases h : row.getD i 0 ≤ x
    · rw [List.filter_cons, if_pos (decide_eq_true h), List.filter_nil, List.getLast?_append]
      show isLast row (i + 1) x (some i)
      exact ⟨Nat.lt_succ_self i, h, fun k h1 h2 => by omega⟩
    · rw [List.filter_cons, if_neg (by simpa using h), List.filter_nil, List.append_nil]
      have ih := last_filter row x i
      cases e : ((List.range i).filter fun j => decide (row.getD j 0 ≤ x)).getLast? with
      | none =>
        rw [e] at ih
        intro k hk
        by_cases hki : k = i
        · subst hki; omega
        · exact ih k (by omega)
      | some j =>
        rw [e] at ih
        obtain ⟨a, b, c⟩ := ih
        refine ⟨by omega, b, fun k h1 h2 => ?_⟩
        by_cases hki : k = i
        · subst hki; omega
        · exact c k h1 (by omega)
theorem last_uniq {row : List Int} {i : Nat} {x : Int} {o o' : Option Nat} (h : isLast row i x o) (h' : isLast row i x o') : o = o' := by
  cases o with
  | none =>
    cases o' with
    | none => rfl
    | some j => have := h j h'.1; have := h'.2.1; omega
  | some j =>
    cases o' with
    | none => have := h' j h.1; have := h.2.1; omega
    | some k =>
      have h1 := h.2.2 k; have h2 := h'.2.2 j
      have a := h.2.1; have b := h'.2.1; have c := h.1; have d := h'.1
      congr 1
      rcases Nat.lt_trichotomy j k with z | z | z
      · have := h1 z d; omega
      · exact z
      · have := h2 z c; omega
theorem distL_of {row : List Int} {i : Nat} {o : Option Nat} (h : isLast row i (row.getD i 0) o) : distL row i = lastD i o := by
  unfold distL
  rw [last_uniq (last_filter row (row.getD i 0) i) h]
def sp__law_shape : ASp := fun ds M Q _ => ∃ row : List Int, ds = [.tup (nums row)] ∧ row.length ≤ 10000 ∧ Q (.tup (nums (shapeL row))) M
theorem sp__law_shape_mono : sp__law_shape.Mono := fun ds M Q Q' E E' hq he ⟨row, a, b, c⟩ => ⟨row, a, b, hq _ _ c⟩
theorem sp__law_shape_len (ds : List D) (M : Sto) (Q : D → Sto → Prop) (E : Exn → Sto → Prop) (h : sp__law_shape ds M Q E) : ds.length = 1 := by obtain ⟨_, rfl, _⟩ := h; rfl
def m__law_shape : MS := (sSeq (sSetO 1 (mLst mNil)) (sSeq (sFor (mR1 (mCons (mCB lenK (mvCons (mV (mVar 0)) mvNil)) mNil)) (gN 2) (sSeq (sSet 3 (mL (mLc (mR1 (mCons (mVar 2) mNil)) (gN 4) (mB (mOp leK (mV (mOp ixK (mV (mVar 0)) (mV (mVar 4)))) (mV (mOp ixK (mV (mVar 0)) (mV (mVar 2)))))) (mVar 4) [4]))) (sDrop (mApp 1 (mIf (mB (mOp neK (mV (mVar 3)) (mV (mL (mLst mNil))))) (mOp subK (mV (mVar 2)) (mV (mCB maxK (mvCons (mV (mVar 3)) mvNil)))) (mC (.int 0))))))) (sRet (mCB tupleK (mvCons (mO 1) mvNil)))))
theorem maxOf_is {n : Int} {ns : List Int} {m : Int} (hm : m ∈ n :: ns) (h : ∀ x ∈ n :: ns, x ≤ m) : PySem.W.maxOf n ns = m := by
  unfold PySem.W.maxOf
  induction ns generalizing n with
  | nil => exact (List.mem_singleton.mp hm).symm
  | cons y ys ih =>
    have h1 := h n (List.mem_cons_self ..)
    have h2 := h y (by simp)
    rw [List.foldl_cons]
    show List.foldl _ (if decide (n < y) = true then y else n) ys = m
    by_cases c : n < y
    · rw [if_pos (decide_eq_true c)]
      refine ih ?_ fun x hx => h x (List.mem_cons_of_mem _ hx)
      rcases List.mem_cons.mp hm with e | e
      · omega
      · exact e
    · rw [if_neg (by simpa using c)]
      refine ih ?_ fun x hx => ?_
      · rcases List.mem_cons.mp hm with e | e
        · exact e ▸ List.mem_cons_self ..
        · rcases List.mem_cons.mp e with e | e
          · have : m = n := by omega
            exact this ▸ List.mem_cons_self ..
          · exact List.mem_cons_of_mem _ e
      · rcases List.mem_cons.mp hx with e | e
        · exact e ▸ h1
        · exact h x (List.mem_cons_of_mem _ (List.mem_cons_of_mem _ e))
theorem le_last {l : List Nat} (h : l.Pairwise (· < ·)) {j : Nat} (hj : l.getLast? = some j) : ∀ y ∈ l, y ≤ j := by
  intro y hy
  obtain ⟨l', rfl⟩ := List.getLast?_eq_some_iff.mp hj
  rcases List.mem_append.mp hy with z | z
  · exact Nat.le_of_lt ((List.pairwise_append.mp h).2.2 y z j (by simp))
  · rw [List.mem_singleton.mp z]; exact Nat.le_refl _
theorem oo_of {α : Type} {x : Option α} {a : α} {k : α → Prop} (h : x = some a) (q : k a) : oo x k := by
  subst h; exact q
theorem atI_getD {ns : List Int} {i : Nat} (h : i < ns.length) : atI (nums ns) (i : Int) = some (.int (ns.getD i 0)) := atI_int (by rw [List.getD_eq_getElem?_getD, List.getElem?_eq_getElem h]; rfl)
theorem pys_nums : ∀ ns : List Int, D.pys (nums ns) = some (ns.map PyData.int)
  | [] => rfl
  | n :: ns => by
    show D.pys (.int n :: nums ns) = _
    unfold D.pys
    rw [pys_nums ns]
    rfl
/-- a list of numbers against [] -/
theorem ne_nums_nil {ns : List Int} {k : D → Prop} (h : k (.bl (!ns.isEmpty))) : neK (.lst (nums ns)) (.lst []) k := by
  refine ⟨.list (ns.map PyData.int), .list [], by unfold D.py; rw [pys_nums]; rfl, rfl, ⟨lay_ints ns, rfl, Nat.le_trans (Nat.min_le_right _ _) (by decide)⟩, ?_⟩
  cases ns with
  | nil => exact h
  | cons n ns => exact h
theorem rng_filter (p : D → Bool) (n : Nat) : (((rngL 0 n).map D.int).filter p).map id = nums (((List.range n).filter fun (j : Nat) => p (.int (j : Int))).map fun (j : Nat) => (j : Int)) := by
  unfold rngL nums
  rw [List.map_id, List.map_map, List.filter_map, List.map_map]
  have : (p ∘ (D.int ∘ fun (i : Nat) => (0 : Int) + (i : Int))) = fun (j : Nat) => p (.int (j : Int)) := by funext j; simp
  rw [this]
  apply List.map_congr_left
  intro a _
  simp
theorem nums_range_succ (f : Nat → Int) (i : Nat) : nums ((List.range (i + 1)).map f) = nums ((List.range i).map f) ++ [.int (f i)] := by
  rw [List.range_succ, List.map_append, nums_app]; rfl
theorem pure__law_shape (ds : List D) (M : Sto) (Q : D → Sto → Prop) (E : Exn → Sto → Prop) (h : sp__law_shape ds M Q E) : m__law_shape (defEnds Q fun _ _ => False) ⟨startA 5 ds, M⟩ := by
  obtain ⟨row, rfl, hl, q⟩ := h
  refine ⟨Nat.zero_le _, ?_⟩
  refine ⟨_, rfl, ⟨by omega, by rw [nums_len]; omega⟩, ?_⟩
  rw [nums_len]
  show forR _ _ _ ((rngL 0 row.length).map D.int) ⟨[.v (.tup (nums row)), .ol (nums ((List.range 0).map (distL row))), .un, .un, .un], M⟩
  have loop : ∀ (k i : Nat) (s2 s3 : Sl), i + k = row.length → forR (gN 2) (sSeq (sSet 3 (mL (mLc (mR1 (mCons (mVar 2) mNil)) (gN 4) (mB (mOp leK (mV (mOp ixK (mV (mVar 0)) (mV (mVar 4)))) (mV (mOp ixK (mV (mVar 0)) (mV (mVar 2)))))) (mVar 4) [4]))) (sDrop (mApp 1 (mIf (mB (mOp neK (mV (mVar 3)) (mV (mL (mLst mNil))))) (mOp subK (mV (mVar 2)) (mV (mCB maxK (mvCons (mV (mVar 3)) mvNil)))) (mC (.int 0))))))
      { defEnds Q (fun _ _ => False) with nx := (sRet (mCB tupleK (mvCons (mO 1) mvNil))) (defEnds Q fun _ _ => False) } ((rngL (i : Int) k).map D.int) ⟨[.v (.tup (nums row)), .ol (nums ((List.range i).map (distL row))), s2, s3, .un], M⟩ := by
    intro k
    induction k with
    | zero =>
      intro i s2 s3 hi
      have e : i = row.length := by omega
      subst e
      exact ⟨⟨_, rfl⟩, _, rfl, q⟩
    | succ k ih =>
      intro i s2 s3 hi
      rw [rng_cons]
      -- earlier = [..]
      refine ⟨⟨by omega, by omega⟩, ?_⟩
      refine lcR_pure (fun d => match d with
        | .int j => decide (row.getD j.toNat 0 ≤ row.getD i 0)
        | _ => false) id (fun d => ⟨[.v (.tup (nums row)), .ol (nums ((List.range i).map (distL row))), .v (.int i), s3, .v d], M⟩) _ _ ?_ ?_ ?_ ?_ ?_ ?_ ?_
      · rw [List.length_map, rng_len, List.length_nil]
        exact Nat.le_trans (show 0 + (i : Int).toNat ≤ 10000 by omega) (by decide)
      · exact fun d hd C hc => hc
      · intro d hd C hc
        simp only [rngL, List.map_map, List.mem_map, List.mem_range, Function.comp] at hd
        obtain ⟨j, hj, rfl⟩ := hd
        rw [Int.zero_add] at hc ⊢
        exact oo_of (atI_getD (i := j) (by omega)) (oo_of (atI_getD (i := i) (by omega)) hc)
      · exact fun d hd hp C hc => hc
      · intro d hd
        simp [keepO, Sl.own]
      · exact fun d hd => rfl
      · rw [List.nil_append, rng_filter]
        dsimp only
        have ef : (List.range (i : Int).toNat).filter (fun (j : Nat) => decide (row.getD ((j : Int)).toNat 0 ≤ row.getD i 0)) = (List.range i).filter (fun j => decide (row.getD j 0 ≤ row.getD i 0)) := by
          rw [Int.toNat_natCast]; rfl
        have sorted : ((List.range i).filter (fun j => decide (row.getD j 0 ≤ row.getD i 0))).Pairwise (· < ·) := List.pairwise_lt_range.filter _
        have lf := last_filter row (row.getD i 0) i
        have dl := distL_of lf
        rw [ef]
        generalize (List.range i).filter (fun j => decide (row.getD j 0 ≤ row.getD i 0)) = l at *
        refine ⟨trivial, Nat.zero_le _, ?_⟩
        dsimp only [rq2, asB]
        refine ne_nums_nil (ns := l.map fun (j : Nat) => (j : Int)) ?_
        dsimp only
        have fin : ∀ s3 : Sl, forR (gN 2) (sSeq (sSet 3 (mL (mLc (mR1 (mCons (mVar 2) mNil)) (gN 4) (mB (mOp leK (mV (mOp ixK (mV (mVar 0)) (mV (mVar 4)))) (mV (mOp ixK (mV (mVar 0)) (mV (mVar 2)))))) (mVar 4) [4]))) (sDrop (mApp 1 (mIf (mB (mOp neK (mV (mVar 3)) (mV (mL (mLst mNil))))) (mOp subK (mV (mVar 2)) (mV (mCB maxK (mvCons (mV (mVar 3)) mvNil)))) (mC (.int 0))))))
            { defEnds Q (fun _ _ => False) with nx := (sRet (mCB tupleK (mvCons (mO 1) mvNil))) (defEnds Q fun _ _ => False) } ((rngL ((i : Int) + 1) k).map D.int) ⟨[.v (.tup (nums row)), .ol (nums ((List.range i).map (distL row)) ++ [.int (distL row i)]), .v (.int i), s3, .un], M⟩ := by
          intro s3
          rw [← nums_range_succ]
          exact ih (i + 1) _ _ (by omega)
        cases l with
        | nil =>
          refine ⟨by rw [nums_len]; simp; exact Nat.lt_of_le_of_lt (show i ≤ 10000 by omega) (by decide), ?_⟩
          have := fin (.v (.lst []))
          rw [dl] at this
          exact this
        | cons n l =>
          refine ⟨_, rfl, (n : Int), l.map (fun (j : Nat) => (j : Int)), dints _, ?_⟩
          refine ⟨by rw [nums_len]; simp; exact Nat.lt_of_le_of_lt (show i ≤ 10000 by omega) (by decide), ?_⟩
          have := fin (.v (.lst (nums ((n :: l).map fun (j : Nat) => (j : Int)))))
          obtain ⟨j, hj⟩ : ∃ j, (n :: l).getLast? = some j := ⟨_, List.getLast?_eq_some_getLast (List.cons_ne_nil n l)⟩
          rw [hj] at dl
          have hm : PySem.W.maxOf (n : Int) (l.map fun (j : Nat) => (j : Int)) = (j : Int) := by
            refine maxOf_is ?_ ?_
            · rw [← List.map_cons (f := fun (j : Nat) => (j : Int))]
              exact List.mem_map.mpr ⟨j, List.mem_of_getLast? hj, rfl⟩
            · rw [← List.map_cons (f := fun (j : Nat) => (j : Int))]
              intro x hx
              obtain ⟨y, hy, rfl⟩ := List.mem_map.mp hx
              have := le_last sorted hj y hy
              omega
          rw [hm]
          rw [dl] at this
          exact this
  exact loop row.length 0 .un .un (by omega)
def nats (S : List Nat) : List D := nums (S.map fun (j : Nat) => (j : Int))
structure Stk (row : List Int) (i : Nat) (S : List Nat) : Prop where
  up : S.Pairwise (· < ·)
  lt : ∀ s ∈ S, s < i
  all : ∀ j, j < i → ∃ s ∈ S, j ≤ s ∧ row.getD s 0 ≤ row.getD j 0
/-- behind the popping: the last one left is the nearest -/
theorem Stk.last {row : List Int} {i : Nat} {S T : List Nat} {x : Int} (h : Stk row i (S ++ T)) (hT : ∀ s ∈ T, x < row.getD s 0) (hS : ∀ s, S.getLast? = some s → row.getD s 0 ≤ x) : isLast row i x S.getLast? := by
  cases e : S.getLast? with
  | none =>
    have e0 : S = [] := List.getLast?_eq_none_iff.mp e
    subst e0
    intro k hk
    obtain ⟨s, hs, _, h2⟩ := h.all k hk
    have := hT s (by simpa using hs)
    omega
  | some s =>
    obtain ⟨S', rfl⟩ := List.getLast?_eq_some_iff.mp e
    refine ⟨h.lt s (by simp), hS s e, fun k h1 h2 => ?_⟩
    obtain ⟨t, ht, a, b⟩ := h.all k h2
    rcases List.mem_append.mp ht with ht | ht
    · exfalso
      have hp := (List.pairwise_append.mp h.up).1
      rcases List.mem_append.mp ht with z | z
      · have := (List.pairwise_append.mp hp).2.2 t z s (by simp)
        omega
      · have : t = s := by simpa using z
        omega
    · have := hT t ht
      omega
theorem Stk.push {row : List Int} {i : Nat} {S T : List Nat} (h : Stk row i (S ++ T)) (hT : ∀ s ∈ T, row.getD i 0 < row.getD s 0) : Stk row (i + 1) (S ++ [i]) where
  up := by
    refine List.pairwise_append.mpr ⟨(List.pairwise_append.mp h.up).1, List.pairwise_singleton _ _, fun a ha b hb => ?_⟩
    rw [List.mem_singleton.mp hb]
    exact h.lt a (List.mem_append_left _ ha)
  lt := fun s hs => by
    rcases List.mem_append.mp hs with z | z
    · have := h.lt s (List.mem_append_left _ z); omega
    · rw [List.mem_singleton.mp z]; omega
  all := fun j hj => by
    by_cases e : j = i
    · subst e; exact ⟨j, by simp, Nat.le_refl _, Int.le_refl _⟩
    · obtain ⟨s, hs, a, b⟩ := h.all j (by omega)
      rcases List.mem_append.mp hs with z | z
      · exact ⟨s, List.mem_append_left _ z, a, b⟩
      · exact ⟨i, by simp, by omega, by have := hT s z; omega⟩
theorem enumD_nums_cons (i : Nat) (x : Int) (xs : List Int) : enumD i (nums (x :: xs)) = .tup [.int (i : Nat), .int x] :: enumD (i + 1) (nums xs) := rfl
end LP
namespace LP
open PySem PySem.Spec L2
open PyProof.Rows hiding St
def bigE : Int := 1000000000
def Small (x : Int) : Prop := -bigE ≤ x ∧ x ≤ bigE
def sp__law_row : ASp := fun ds M Q _ => ∃ (sa : Addr) (c : Nat) (most : Int) (M0 : Sto), ds = [.ref sa, .int most] ∧ M = setM M0 sa (.strm c) ∧ c + 300 ≤ 2 ^ 60 ∧ (1 ≤ most ∧ most ≤ 60) ∧
  ∀ (row : List Int) (c' : Nat), row ≠ [] → (row.length : Int) ≤ most → (∀ x ∈ row, Small x) → c' ≤ c + 300 → Q (.tup (nums row)) (setM M0 sa (.strm c'))
theorem sp__law_row_mono : sp__law_row.Mono := fun ds M Q Q' E E' hq he ⟨sa, c, m, M0, h1, h2, h3, h4, h5⟩ => ⟨sa, c, m, M0, h1, h2, h3, h4, fun row c' a b d e => hq _ _ (h5 row c' a b d e)⟩
theorem sp__law_row_len (ds : List D) (M : Sto) (Q : D → Sto → Prop) (E : Exn → Sto → Prop) (h : sp__law_row ds M Q E) : ds.length = 2 := by obtain ⟨_, _, _, _, rfl, _⟩ := h; rfl
def m__law_row : MS := (sSeq (sTupN [2, 3] (pV (mOp addK (mV (mC (.int 1))) (mV (mCall spDraw (mCons (mVar 0) (mCons (mVar 1) mNil))))) (pV (mCall spDraw (mCons (mVar 0) (mCons (mC (.int 6)) mNil))) pNil))) (sSeq (sSet 4 (mOp ixK (mV (mL (mLst (mCons (mC (.int 2)) (mCons (mC (.int 3)) (mCons (mC (.int 6)) (mCons (mC (.int 40)) (mCons (mC (.int 3)) (mCons (mOp powK (mV (mC (.int 10))) (mV (mC (.int 9)))) mNil))))))))) (mV (mVar 3)))) (sSeq (sSet 5 (mL (mLc (mR1 (mCons (mVar 2) mNil)) (gN 6) mYes (mCall spDraw (mCons (mVar 0) (mCons (mVar 4) mNil))) [6]))) (sSeq (sIf (mB (mOp eqK (mV (mVar 3)) (mV (mC (.int 4))))) (sSet 5 (mL (mLc (mR1 (mCons (mVar 2) mNil)) (gN 7) mYes (mOp ixK (mV (mL (mLst (mCons (mVar 7) (mCons (mOp subK (mV (mVar 2)) (mV (mVar 7))) (mCons (mC (.int 0)) mNil)))))) (mV (mCall spDraw (mCons (mVar 0) (mCons (mC (.int 3)) mNil))))) [7]))) sNext) (sSeq (sIf (mB (mOp eqK (mV (mVar 3)) (mV (mC (.int 5))))) (sSet 5 (mL (mLc (mSeq (mVar 5)) (gN 8) mYes (mOp ixK (mV (mL (mLst (mCons (mVar 8) (mCons (mOp subK (mV (mC (.int 0))) (mV (mVar 8))) (mCons (mOp powK (mV (mC (.int 10))) (mV (mC (.int 9)))) (mCons (mOp subK (mV (mC (.int 0))) (mV (mOp powK (mV (mC (.int 10))) (mV (mC (.int 9)))))) mNil))))))) (mV (mCall spDraw (mCons (mVar 0) (mCons (mC (.int 4)) mNil))))) [8]))) sNext) (sSeq (sIf (mAnd (mB (mOp eqK (mV (mVar 3)) (mV (mC (.int 3))))) (mB (mOp eqK (mV (mCall spDraw (mCons (mVar 0) (mCons (mC (.int 2)) mNil)))) (mV (mC (.int 0)))))) (sSet 5 (mL (mStep (mV (mL (mCF srtF (mvCons (mV (mVar 5)) mvNil)))) (mOp ixK (mV (mL (mLst (mCons (mC (.int 1)) (mCons (mNeg (mC (.int 1))) mNil))))) (mV (mCall spDraw (mCons (mVar 0) (mCons (mC (.int 2)) mNil)))))))) sNext) (sRet (mCB tupleK (mvCons (mV (mVar 5)) mvNil)))))))))
/-- items that are small numbers -/
theorem smalls {P : Int → Prop} : ∀ {ys : List D}, (∀ (i : Nat) (y : D), ys[i]? = some y → ∃ n, y = .int n ∧ P n) → ∃ ns : List Int, ys = nums ns ∧ ∀ x ∈ ns, P x
  | [], _ => ⟨[], rfl, fun _ h => nomatch h⟩
  | y :: ys, h => by
    obtain ⟨n, rfl, hn⟩ := h 0 y rfl
    obtain ⟨ns, rfl, h2⟩ := smalls (ys := ys) fun i z hz => h (i + 1) z (by simpa using hz)
    refine ⟨n :: ns, rfl, fun x hx => ?_⟩
    rcases List.mem_cons.mp hx with rfl | hx
    · exact hn
    · exact h2 x hx
theorem pick_small {xs : List Int} {k : Int} (h0 : 0 ≤ k) (h1 : k < xs.length) : ∃ x, x ∈ xs ∧ atI (nums xs) k = some (.int x) := by
  obtain ⟨n, rfl⟩ := Int.eq_ofNat_of_zero_le h0
  have hn : n < xs.length := by omega
  exact ⟨xs.getD n 0, by rw [List.getD_eq_getElem?_getD, List.getElem?_eq_getElem hn]; exact List.getElem_mem hn, atI_getD hn⟩
def m_row4 : MS := sIf (mB (mOp eqK (mV (mVar 3)) (mV (mC (.int 4))))) (sSet 5 (mL (mLc (mR1 (mCons (mVar 2) mNil)) (gN 7) mYes (mOp ixK (mV (mL (mLst (mCons (mVar 7) (mCons (mOp subK (mV (mVar 2)) (mV (mVar 7))) (mCons (mC (.int 0)) mNil)))))) (mV (mCall spDraw (mCons (mVar 0) (mCons (mC (.int 3)) mNil))))) [7]))) sNext
def m_row5 : MS := sIf (mB (mOp eqK (mV (mVar 3)) (mV (mC (.int 5))))) (sSet 5 (mL (mLc (mSeq (mVar 5)) (gN 8) mYes (mOp ixK (mV (mL (mLst (mCons (mVar 8) (mCons (mOp subK (mV (mC (.int 0))) (mV (mVar 8))) (mCons (mOp powK (mV (mC (.int 10))) (mV (mC (.int 9)))) (mCons (mOp subK (mV (mC (.int 0))) (mV (mOp powK (mV (mC (.int 10))) (mV (mC (.int 9)))))) mNil))))))) (mV (mCall spDraw (mCons (mVar 0) (mCons (mC (.int 4)) mNil))))) [8]))) sNext
def m_row3 : MS := sIf (mAnd (mB (mOp eqK (mV (mVar 3)) (mV (mC (.int 3))))) (mB (mOp eqK (mV (mCall spDraw (mCons (mVar 0) (mCons (mC (.int 2)) mNil)))) (mV (mC (.int 0)))))) (sSet 5 (mL (mStep (mV (mL (mCF srtF (mvCons (mV (mVar 5)) mvNil)))) (mOp ixK (mV (mL (mLst (mCons (mC (.int 1)) (mCons (mNeg (mC (.int 1))) mNil))))) (mV (mCall spDraw (mCons (mVar 0) (mCons (mC (.int 2)) mNil)))))))) sNext
def m_rowR : MS := sRet (mCB tupleK (mvCons (mV (mVar 5)) mvNil))
theorem mem_nums {x : D} {ns : List Int} (h : x ∈ nums ns) : ∃ n, n ∈ ns ∧ x = .int n := by
  obtain ⟨n, hn, e⟩ := List.mem_map.mp h
  exact ⟨n, hn, e.symm⟩
section
variable {sa : Addr} {most : Int} {M0 : Sto} {A : AEnds} {sz : Nat} {way wd : Int} {C : Nat}
theorem row3 (hC : C + 10 ≤ 1152921504606846976) (h60 : sz < 64) (q : ∀ (row : List Int) (c' : Nat), row.length = sz → (∀ x ∈ row, Small x) → c' ≤ C + 2 → A.rt (.tup (nums row)) ⟨[.v (.ref sa), .v (.int most), .v (.int sz), .v (.int way), .v (.int wd), .v (.lst (nums row)), .un, .un, .un], setM M0 sa (.strm c')⟩) :
    ∀ (ns : List Int) (c : Nat), c ≤ C → ns.length = sz → (∀ x ∈ ns, Small x) → sSeq m_row3 m_rowR A ⟨[.v (.ref sa), .v (.int most), .v (.int sz), .v (.int way), .v (.int wd), .v (.lst (nums ns)), .un, .un, .un], setM M0 sa (.strm c)⟩ := by
  intro ns c hc hl hs
  have fin : ∀ (row : List Int) (c' : Nat), row.length = sz → (∀ x ∈ row, Small x) → c' ≤ C + 2 → m_rowR A ⟨[.v (.ref sa), .v (.int most), .v (.int sz), .v (.int way), .v (.int wd), .v (.lst (nums row)), .un, .un, .un], setM M0 sa (.strm c')⟩ := by
    intro row c' h1 h2 h3
    exact ⟨_, rfl, q row c' h1 h2 h3⟩
  refine ite2 (fun _ => ?_) (fun _ => fin ns c hl hs (by omega))
  refine ⟨sa, c, 2, rfl, setM_at, by omega, ⟨by decide, by decide⟩, fun k a1 a2 => ?_⟩
  rw [setM_set]
  refine ite2 (fun _ => ?_) (fun _ => fin ns (c + 1) hl hs (by omega))
  refine ⟨_, rfl, ns, dints ns, by omega, ?_⟩
  refine ⟨by decide, sa, c + 1, 2, rfl, setM_at, by omega, ⟨by decide, by decide⟩, fun k b1 b2 => ?_⟩
  rw [setM_set]
  have hp : (sortI ns).Perm ns := List.mergeSort_perm ns _
  have pl : (sortI ns).length = sz := hp.length_eq.trans hl
  have ps : ∀ x ∈ sortI ns, Small x := fun x hx => hs x (hp.mem_iff.mp hx)
  have hk : k = 0 ∨ k = 1 := by omega
  rcases hk with rfl | rfl
  · exact ⟨.inl rfl, fin (sortI ns) (c + 2) pl ps (by omega)⟩
  · refine ⟨.inr rfl, ?_⟩
    have e : ((sortI ns).map D.int).reverse = nums (sortI ns).reverse := by simp [nums]
    show m_rowR A ⟨[.v (.ref sa), .v (.int most), .v (.int sz), .v (.int way), .v (.int wd), .v (.lst ((sortI ns).map D.int).reverse), .un, .un, .un], setM M0 sa (.strm (c + 2))⟩
    rw [e]
    exact fin _ (c + 2) (by simp [pl]) (fun x hx => ps x (by simpa using hx)) (by omega)
theorem row5 (hC : C + sz + 10 ≤ 1152921504606846976) (h60 : sz < 64) (q : ∀ (row : List Int) (c' : Nat), row.length = sz → (∀ x ∈ row, Small x) → c' ≤ C + 2 + sz → A.rt (.tup (nums row)) ⟨[.v (.ref sa), .v (.int most), .v (.int sz), .v (.int way), .v (.int wd), .v (.lst (nums row)), .un, .un, .un], setM M0 sa (.strm c')⟩) :
    ∀ (ns : List Int) (c : Nat), c ≤ C → ns.length = sz → (∀ x ∈ ns, Small x) → sSeq m_row5 (sSeq m_row3 m_rowR) A ⟨[.v (.ref sa), .v (.int most), .v (.int sz), .v (.int way), .v (.int wd), .v (.lst (nums ns)), .un, .un, .un], setM M0 sa (.strm c)⟩ := by
  intro ns c hc hl hs
  have nxt := row3 (sa := sa) (most := most) (M0 := M0) (A := A) (sz := sz) (way := way) (wd := wd) (C := C + sz) (by omega) h60 (fun row c' h1 h2 h3 => q row c' h1 h2 (by omega))
  refine ite2 (fun _ => ?_) (fun _ => nxt ns c (by omega) hl hs)
  refine lcR_draw (b := 1) (fun _ y => ∃ n, y = .int n ∧ Small n) (fun d => [.v (.ref sa), .v (.int most), .v (.int sz), .v (.int way), .v (.int wd), .v (.lst (nums ns)), .un, .un, .v d]) (nums ns) [] c ?_ ?_ ?_ ?_ ?_
  · rw [nums_len, hl]; exact Nat.le_trans (show 0 + sz ≤ 64 by omega) (by decide)
  · exact fun d hd c1 K h => h
  · intro d hd c1 K hc1 h
    obtain ⟨n, hn, rfl⟩ := mem_nums hd
    have sn := hs n hn
    rw [nums_len, hl] at hc1
    refine ⟨⟨by decide, by decide, by decide⟩, ⟨by decide, by decide, by decide⟩, (show (4 : Nat) ≤ sizeLine by decide), sa, c1, 4, rfl, setM_at, by omega, ⟨by decide, by decide⟩, fun k b1 b2 => ?_⟩
    rw [setM_set]
    dsimp only [rq2]
    obtain ⟨x, hx, ex⟩ := pick_small (xs := [n, 0 - n, 10 ^ (9 : Int).toNat, 0 - 10 ^ (9 : Int).toNat]) b1 b2
    refine oo_of ex (h _ (c1 + 1) ⟨x, rfl, ?_⟩ (by omega) (by omega))
    have e9 : (10 : Int) ^ (9 : Int).toNat = 1000000000 := by decide
    rw [e9] at hx
    simp only [List.mem_cons, List.not_mem_nil, or_false] at hx
    unfold Small bigE at sn ⊢
    omega
  · intro d hd
    simp [keepO, Sl.own]
  · intro ys c' h1 h2 h3 h4
    obtain ⟨ms, rfl, hms⟩ := smalls (P := Small) (ys := ys) fun i y hy => by
      obtain ⟨d, _, n, e, sn⟩ := h2 i y hy
      exact ⟨n, e, sn⟩
    rw [nums_len, nums_len, hl] at h1
    rw [nums_len, hl] at h4
    exact nxt ms c' (by omega) h1 hms
theorem row4 (hC : C + sz + sz + 10 ≤ 1152921504606846976) (h60 : sz < 64) (q : ∀ (row : List Int) (c' : Nat), row.length = sz → (∀ x ∈ row, Small x) → c' ≤ C + 2 + sz + sz → A.rt (.tup (nums row)) ⟨[.v (.ref sa), .v (.int most), .v (.int sz), .v (.int way), .v (.int wd), .v (.lst (nums row)), .un, .un, .un], setM M0 sa (.strm c')⟩) :
    ∀ (ns : List Int) (c : Nat), c ≤ C → ns.length = sz → (∀ x ∈ ns, Small x) → sSeq m_row4 (sSeq m_row5 (sSeq m_row3 m_rowR)) A ⟨[.v (.ref sa), .v (.int most), .v (.int sz), .v (.int way), .v (.int wd), .v (.lst (nums ns)), .un, .un, .un], setM M0 sa (.strm c)⟩ := by
  intro ns c hc hl hs
  have nxt := row5 (sa := sa) (most := most) (M0 := M0) (A := A) (sz := sz) (way := way) (wd := wd) (C := C + sz) (by omega) h60 (fun row c' h1 h2 h3 => q row c' h1 h2 (by omega))
  refine ite2 (fun _ => ?_) (fun _ => nxt ns c (by omega) hl hs)
  refine ⟨⟨by omega, by omega⟩, ?_⟩
  refine lcR_draw (b := 1) (fun _ y => ∃ n, y = .int n ∧ Small n) (fun d => [.v (.ref sa), .v (.int most), .v (.int sz), .v (.int way), .v (.int wd), .v (.lst (nums ns)), .un, .v d, .un]) ((rngL 0 (sz : Int).toNat).map D.int) [] c ?_ ?_ ?_ ?_ ?_
  · rw [List.length_map, rng_len]; exact Nat.le_trans (show 0 + (sz : Int).toNat ≤ 64 by omega) (by decide)
  · exact fun d hd c1 K h => h
  · intro d hd c1 K hc1 h
    simp only [rngL, List.map_map, List.mem_map, List.mem_range, Function.comp] at hd
    obtain ⟨j, hj, rfl⟩ := hd
    rw [Int.zero_add] at *
    rw [List.length_map, rng_len] at hc1
    refine ⟨(show (3 : Nat) ≤ sizeLine by decide), sa, c1, 3, rfl, setM_at, by omega, ⟨by decide, by decide⟩, fun k b1 b2 => ?_⟩
    rw [setM_set]
    dsimp only [rq2]
    obtain ⟨x, hx, ex⟩ := pick_small (xs := [(j : Int), sz - j, 0]) b1 b2
    refine oo_of ex (h _ (c1 + 1) ⟨x, rfl, ?_⟩ (by omega) (by omega))
    simp only [List.mem_cons, List.not_mem_nil, or_false] at hx
    unfold Small bigE
    omega
  · intro d hd
    simp [keepO, Sl.own]
  · intro ys c' h1 h2 h3 h4
    obtain ⟨ms, rfl, hms⟩ := smalls (P := Small) (ys := ys) fun i y hy => by
      obtain ⟨d, _, n, e, sn⟩ := h2 i y hy
      exact ⟨n, e, sn⟩
    rw [nums_len, List.length_map, rng_len] at h1
    rw [List.length_map, rng_len] at h4
    exact nxt ms c' (by omega) (by omega) hms
end
theorem pure__law_row (ds : List D) (M : Sto) (Q : D → Sto → Prop) (E : Exn → Sto → Prop) (h : sp__law_row ds M Q E) : m__law_row (defEnds Q fun _ _ => False) ⟨startA 9 ds, M⟩ := by
  obtain ⟨sa, c, most, M0, rfl, rfl, hc, ⟨hm1, hm2⟩, q⟩ := h
  have c60 : (2 : Nat) ^ 60 = 1152921504606846976 := by decide
  rw [c60] at hc
  -- size, way
  refine ⟨sa, c, most, rfl, setM_at, by omega, ⟨by omega, by omega⟩, fun k1 a1 a2 => ?_⟩
  rw [setM_set]
  refine ⟨sa, c + 1, 6, rfl, setM_at, by omega, ⟨by decide, by decide⟩, fun way b1 b2 => ?_⟩
  rw [setM_set]
  refine ⟨rfl, by decide, ?_⟩
  -- width
  refine ⟨⟨by decide, by decide, by decide⟩, by decide, ?_⟩
  dsimp only [rq2]
  obtain ⟨wd, hw, ew⟩ := pick_small (xs := [2, 3, 6, 40, 3, 1000000000]) b1 b2
  refine oo_of ew ?_
  have w1 : 0 < wd ∧ wd ≤ 1000000000 := by
    simp only [List.mem_cons, List.not_mem_nil, or_false] at hw
    omega
  obtain ⟨sz, hsz⟩ : ∃ sz : Nat, 1 + k1 = (sz : Int) := ⟨(1 + k1).toNat, by omega⟩
  refine ⟨⟨by omega, by omega⟩, ?_⟩
  refine lcR_draw (b := 1) (sl := [.v (.ref sa), .v (.int most), .v (.int (1 + k1)), .v (.int way), .v (.int wd), .un, .un, .un, .un]) (fun _ y => ∃ n, y = .int n ∧ Small n) (fun d => [.v (.ref sa), .v (.int most), .v (.int (1 + k1)), .v (.int way), .v (.int wd), .un, .v d, .un, .un]) ((rngL 0 (1 + k1).toNat).map D.int) [] (c + 2) ?_ ?_ ?_ ?_ ?_
  · rw [List.length_map, rng_len]; exact Nat.le_trans (show 0 + (1 + k1).toNat ≤ 64 by omega) (by decide)
  · exact fun d hd c1 K h => h
  · intro d hd c1 K hc1 h
    rw [List.length_map, rng_len] at hc1
    refine ⟨sa, c1, wd, rfl, setM_at, by omega, ⟨by omega, by omega⟩, fun k b1 b2 => ?_⟩
    rw [setM_set]
    exact h _ (c1 + 1) ⟨k, rfl, by unfold Small bigE; omega⟩ (by omega) (by omega)
  · intro d hd
    simp [keepO, Sl.own]
  · intro ys c' h1 h2 h3 h4
    obtain ⟨ms, rfl, hms⟩ := smalls (P := Small) (ys := ys) fun i y hy => by
      obtain ⟨d, _, n, e, sn⟩ := h2 i y hy
      exact ⟨n, e, sn⟩
    rw [nums_len, List.length_map, rng_len] at h1
    rw [List.length_map, rng_len] at h4
    have nxt := row4 (sa := sa) (most := most) (M0 := M0) (A := defEnds Q fun _ _ => False) (sz := sz) (way := way) (wd := wd) (C := c') (by omega) (by omega) (fun row c2 e1 e2 e3 => ?_) ms c' (Nat.le_refl _) (by omega) hms
    · rw [← hsz] at nxt
      exact nxt
    · refine q row c2 (fun z => ?_) (by omega) e2 (by omega)
      rw [z] at e1
      simp at e1
      omega
def sp__law_pick : ASp := fun ds M Q _ => ∃ (sa : Addr) (c : Nat) (xs : List D) (M0 : Sto), (ds = [.ref sa, .lst xs] ∨ ds = [.ref sa, .tup xs]) ∧ M = setM M0 sa (.strm c) ∧ c + 1 ≤ 2 ^ 60 ∧ xs ≠ [] ∧ xs.length < 1073741824 ∧ ∀ x ∈ xs, Q x (setM M0 sa (.strm (c + 1)))
theorem sp__law_pick_len (ds : List D) (M : Sto) (Q : D → Sto → Prop) (E : Exn → Sto → Prop) (h : sp__law_pick ds M Q E) : ds.length = 2 := by obtain ⟨_, _, _, _, rfl | rfl, _⟩ := h <;> rfl
def m__law_pick : MS := (sRet (mOp ixK (mV (mVar 1)) (mV (mCall spDraw (mCons (mVar 0) (mCons (mCB lenK (mvCons (mV (mVar 1)) mvNil)) mNil))))))
theorem atI_mem {xs : List D} {k : Int} (h0 : 0 ≤ k) (h1 : k < xs.length) : ∃ x, x ∈ xs ∧ atI xs k = some x := by
  obtain ⟨n, rfl⟩ := Int.eq_ofNat_of_zero_le h0
  have hn : n < xs.length := by omega
  exact ⟨xs[n], List.getElem_mem hn, atI_nat (List.getElem?_eq_getElem hn)⟩
theorem pure__law_pick (ds : List D) (M : Sto) (Q : D → Sto → Prop) (E : Exn → Sto → Prop) (h : sp__law_pick ds M Q E) : m__law_pick (defEnds Q fun _ _ => False) ⟨startA 2 ds, M⟩ := by
  obtain ⟨sa, c, xs, M0, hd, rfl, hc, hx, hl, q⟩ := h
  have hp : (0 : Int) < xs.length := by
    cases xs with
    | nil => exact absurd rfl hx
    | cons x xs => simp
  rcases hd with rfl | rfl
  · refine ⟨_, rfl, sa, c, _, rfl, setM_at, by omega, ⟨hp, by omega⟩, fun k a b => ?_⟩
    rw [setM_set]
    dsimp only [rq2]
    obtain ⟨x, hx, e⟩ := atI_mem a b
    exact oo_of e (q x hx)
  · refine ⟨_, rfl, sa, c, _, rfl, setM_at, by omega, ⟨hp, by omega⟩, fun k a b => ?_⟩
    rw [setM_set]
    dsimp only [rq2]
    obtain ⟨x, hx, e⟩ := atI_mem a b
    exact oo_of e (q x hx)
end LP
namespace LP
open PySem PySem.Spec L2
open PyProof.Rows hiding St
/-- the leftmost place of the window with its least entry -/
structure IsLeast (row : List Int) (f l p : Nat) : Prop where
  ge : f ≤ p
  le : p ≤ l
  before : ∀ j, f ≤ j → j < p → row.getD p 0 < row.getD j 0
  behind : ∀ j, p ≤ j → j ≤ l → row.getD p 0 ≤ row.getD j 0
theorem IsLeast.uniq {row : List Int} {f l p q : Nat} (h : IsLeast row f l p) (h' : IsLeast row f l q) : p = q := by
  rcases Nat.lt_trichotomy p q with z | z | z
  · have := h'.before p h.ge z
    have := h.behind q (by omega) h'.le
    omega
  · exact z
  · have := h.before q h'.ge z
    have := h'.behind p (by omega) h.le
    omega
def leastF (row : List Int) (f : Nat) : Nat → Nat
  | 0 => f
  | n + 1 => let b := leastF row f n; if row.getD (f + n + 1) 0 < row.getD b 0 then f + n + 1 else b
theorem leastF_is (row : List Int) (f : Nat) : ∀ n : Nat, IsLeast row f (f + n) (leastF row f n)
  | 0 => ⟨Nat.le_refl _, Nat.le_refl _, fun j h1 h2 => by unfold leastF at h2; omega, fun j h1 h2 => by
      have : j = f := by unfold leastF at h1; omega
      subst this; exact Int.le_refl _⟩
  | n + 1 => by
    have ih := leastF_is row f n
    unfold leastF
    dsimp only
    split
    · rename_i h
      refine ⟨by omega, by omega, fun j h1 h2 => ?_, fun j h1 h2 => ?_⟩
      · by_cases hj : j < leastF row f n
        · have := ih.before j h1 hj; omega
        · have := ih.behind j (by omega) (by omega); omega
      · have : j = f + n + 1 := by omega
        subst this; exact Int.le_refl _
    · rename_i h
      refine ⟨ih.ge, by have := ih.le; omega, ih.before, fun j h1 h2 => ?_⟩
      by_cases hj : j = f + n + 1
      · subst hj; omega
      · exact ih.behind j h1 (by omega)
def leastP (row : List Int) (f l : Nat) : Nat := leastF row f (l - f)
theorem leastP_is {row : List Int} {f l : Nat} (h : f ≤ l) : IsLeast row f l (leastP row f l) := by
  have := leastF_is row f (l - f)
  rw [show f + (l - f) = l by omega] at this
  exact this
theorem leastP_eq {row : List Int} {f l p : Nat} (h : IsLeast row f l p) : leastP row f l = p := (leastP_is (Nat.le_trans h.ge h.le)).uniq h
def isHead (sh : List Int) (f p : Nat) : Bool := decide (sh.getD p 0 = 0) || decide ((p : Int) - sh.getD p 0 < f)
theorem shapeL_getD {row : List Int} {p : Nat} (h : p < row.length) : (shapeL row).getD p 0 = distL row p := by
  unfold shapeL
  rw [List.getD_eq_getElem?_getD, List.getElem?_map, List.getElem?_range h]
  rfl
theorem isHead_iff {row : List Int} {f p : Nat} (hp : p < row.length) : isHead (shapeL row) f p = true ↔ ∀ j, f ≤ j → j < p → row.getD p 0 < row.getD j 0 := by
  unfold isHead
  rw [shapeL_getD hp]
  have h := last_filter row (row.getD p 0) p
  rw [distL_of h]
  generalize ((List.range p).filter fun j => decide (row.getD j 0 ≤ row.getD p 0)).getLast? = o at h
  cases o with
  | none =>
    exact ⟨fun _ j _ h2 => h j h2, fun _ => rfl⟩
  | some j =>
    obtain ⟨h1, h2, h3⟩ := h
    show (decide ((p : Int) - (j : Int) = 0) || decide ((p : Int) - ((p : Int) - (j : Int)) < f)) = true ↔ _
    rw [Bool.or_eq_true, decide_eq_true_eq, decide_eq_true_eq]
    constructor
    · intro z k hk1 hk2
      have : j < f := by omega
      exact h3 k (by omega) hk2
    · intro z
      by_cases hf : f ≤ j
      · have := z j hf h1; omega
      · right; omega
/-- the last head of a window is its least place -/
theorem head_least {row : List Int} {f l : Nat} (h : f ≤ l) (hl : l < row.length) : isHead (shapeL row) f (leastP row f l) = true ∧ ∀ p, f ≤ p → p ≤ l → isHead (shapeL row) f p = true → p ≤ leastP row f l := by
  have L := leastP_is (row := row) h
  have := L.le
  refine ⟨(isHead_iff (by omega)).mpr L.before, fun p h1 h2 h3 => ?_⟩
  have z := (isHead_iff (by omega)).mp h3
  by_cases hp : p ≤ leastP row f l
  · exact hp
  · have a := z (leastP row f l) L.ge (by omega)
    have b := L.behind p (by omega) h2
    omega
def sp_is_head : ASp := fun ds M Q _ => ∃ (sh : List Int) (f p : Nat), ds = [.tup (nums sh), .int f, .int p] ∧ p < sh.length ∧ Q (.bl (isHead sh f p)) M
theorem sp_is_head_mono : sp_is_head.Mono := fun ds M Q Q' E E' hq he ⟨sh, f, p, a, b, c⟩ => ⟨sh, f, p, a, b, hq _ _ c⟩
theorem sp_is_head_len (ds : List D) (M : Sto) (Q : D → Sto → Prop) (E : Exn → Sto → Prop) (h : sp_is_head ds M Q E) : ds.length = 3 := by obtain ⟨_, _, _, rfl, _⟩ := h; rfl
def m_is_head : MS := (sRet (mOrV (mOp eqK (mV (mOp ixK (mV (mVar 0)) (mV (mVar 2)))) (mV (mC (.int 0)))) (mOp ltK (mV (mOp subK (mV (mVar 2)) (mV (mOp ixK (mV (mVar 0)) (mV (mVar 2)))))) (mV (mVar 1)))))
theorem pure_is_head (ds : List D) (M : Sto) (Q : D → Sto → Prop) (E : Exn → Sto → Prop) (h : sp_is_head ds M Q E) : m_is_head (defEnds Q fun _ _ => False) ⟨startA 3 ds, M⟩ := by
  obtain ⟨sh, f, p, rfl, hp, q⟩ := h
  refine oo_of (atI_getD hp) ?_
  unfold isHead at q
  refine ite2 (fun h => ?_) (fun h => ?_)
  · rw [h, Bool.true_or] at q
    exact q
  · have h' : decide (sh.getD p 0 = 0) = false := by
      cases e : decide (sh.getD p 0 = 0) with
      | true => exact absurd e h
      | false => rfl
    rw [h', Bool.false_or] at q
    exact oo_of (atI_getD hp) q
def sp_least_in : ASp := fun ds M Q _ => ∃ (row : List Int) (f l : Nat), ds = [.tup (nums (shapeL row)), .int f, .int l] ∧ f ≤ l ∧ l < row.length ∧ row.length ≤ 10000 ∧ Q (.int (leastP row f l)) M
theorem sp_least_in_mono : sp_least_in.Mono := fun ds M Q Q' E E' hq he ⟨row, f, l, a, b, c, d, e⟩ => ⟨row, f, l, a, b, c, d, hq _ _ e⟩
theorem sp_least_in_len (ds : List D) (M : Sto) (Q : D → Sto → Prop) (E : Exn → Sto → Prop) (h : sp_least_in ds M Q E) : ds.length = 3 := by obtain ⟨_, _, _, rfl, _⟩ := h; rfl
def m_least_in : MS := (sRet (mCB maxK (mvCons (mV (mL (mLc (mR2 (mCons (mVar 1) (mCons (mOp addK (mV (mVar 2)) (mV (mC (.int 1)))) mNil))) (gN 3) (mB (mCall sp_is_head (mCons (mVar 0) (mCons (mVar 1) (mCons (mVar 3) mNil))))) (mVar 3) [3]))) mvNil)))
theorem rng2_filter (p : D → Bool) (f n : Nat) : (((rngL (f : Int) n).map D.int).filter p).map id = nums (((List.range' f n).filter fun (j : Nat) => p (.int (j : Int))).map fun (j : Nat) => (j : Int)) := by
  unfold rngL nums
  rw [List.map_id, List.map_map, List.filter_map, List.map_map, List.range'_eq_map_range, List.filter_map, List.map_map]
  have : (p ∘ (D.int ∘ fun (i : Nat) => (f : Int) + (i : Int))) = ((fun (j : Nat) => p (.int (j : Int))) ∘ fun (x : Nat) => f + x) := by
    funext j
    simp
  rw [this]
  apply List.map_congr_left
  intro a _
  simp
theorem mem_rng {d : D} {lo : Int} {n : Nat} (h : d ∈ (rngL lo n).map D.int) : ∃ j : Nat, j < n ∧ d = .int (lo + j) := by
  simp only [rngL, List.map_map, List.mem_map, List.mem_range, Function.comp] at h
  obtain ⟨j, hj, rfl⟩ := h
  exact ⟨j, hj, rfl⟩
/-- max of the places of a window that a test lets through -/
theorem max_places {l : List Nat} {m : Nat} {M : Sto} {k : D → Prop} (hm : m ∈ l) (h : ∀ x ∈ l, x ≤ m) (q : k (.int (m : Int))) : ∃ n ns, D.ints (nums (l.map fun (j : Nat) => (j : Int))) = some (n :: ns) ∧ k (.int (PySem.W.maxOf n ns)) := by
  cases l with
  | nil => cases hm
  | cons x l =>
    refine ⟨_, _, dints _, ?_⟩
    rw [maxOf_is (m := (m : Int)) (by rw [← List.map_cons (f := fun (j : Nat) => (j : Int))]; exact List.mem_map.mpr ⟨m, hm, rfl⟩) (fun y hy => by
      rw [← List.map_cons (f := fun (j : Nat) => (j : Int))] at hy
      obtain ⟨z, hz, rfl⟩ := List.mem_map.mp hy
      have := h z hz
      omega)]
    exact q
theorem pure_least_in (ds : List D) (M : Sto) (Q : D → Sto → Prop) (E : Exn → Sto → Prop) (h : sp_least_in ds M Q E) : m_least_in (defEnds Q fun _ _ => False) ⟨startA 4 ds, M⟩ := by
  obtain ⟨row, f, l, rfl, hfl, hl, hz, q⟩ := h
  refine ⟨⟨by omega, by omega, by omega, by omega⟩, ?_⟩
  have en : ((l : Int) + 1 - f).toNat = l + 1 - f := by omega
  refine lcR_pure (en := ⟨[.v (.tup (nums (shapeL row))), .v (.int f), .v (.int l), .un], M⟩) (fun d => match d with
    | .int j => isHead (shapeL row) f j.toNat
    | _ => false) id (fun d => ⟨[.v (.tup (nums (shapeL row))), .v (.int f), .v (.int l), .v d], M⟩) _ _ ?_ ?_ ?_ ?_ ?_ ?_ ?_
  · rw [List.length_map, rng_len, List.length_nil]
    exact Nat.le_trans (show 0 + ((l : Int) + 1 - f).toNat ≤ 10001 by omega) (by decide)
  · exact fun d hd C hc => hc
  · intro d hd C hc
    obtain ⟨j, hj, rfl⟩ := mem_rng hd
    rw [show (f : Int) + j = ((f + j : Nat) : Int) by push_cast; rfl] at hc ⊢
    exact ⟨shapeL row, f, f + j, rfl, by rw [shapeL_len]; omega, hc⟩
  · exact fun d hd hp C hc => hc
  · intro d hd
    simp [keepO, Sl.own]
  · exact fun d hd => rfl
  · rw [List.nil_append, rng2_filter]
    refine ⟨_, rfl, ?_⟩
    obtain ⟨a, b⟩ := head_least hfl hl
    have L := leastP_is (row := row) hfl
    refine max_places (k := fun d => Q d M) (m := leastP row f l) (M := M) ?_ (fun x hx => ?_) q
    · rw [List.mem_filter, List.mem_range'_1]
      have := L.ge; have := L.le
      refine ⟨⟨by omega, by omega⟩, ?_⟩
      simpa using a
    · rw [List.mem_filter, List.mem_range'_1] at hx
      refine b x hx.1.1 (by omega) ?_
      simpa using hx.2
def treeF (row : List Int) : Nat → Nat → Nat → D
  | 0, _, _ => .tup []
  | k + 1, f, n => if n = 0 then .tup [] else .tup [treeF row k f (leastP row f (f + n - 1) - f), treeF row k (leastP row f (f + n - 1) + 1) (f + n - 1 - leastP row f (f + n - 1))]
def sp_tree_from : Nat → ASp
  | 0 => fun _ _ _ _ => False
  | k + 1 => fun ds M Q _ => ∃ (row : List Int) (f n : Nat), ds = [.tup (nums (shapeL row)), .int f, .int ((f : Int) + n - 1)] ∧ f + n ≤ row.length ∧ row.length ≤ 10000 ∧ n ≤ k ∧ Q (treeF row (k + 1) f n) M
theorem sp_tree_from_mono : ∀ n, (sp_tree_from n).Mono
  | 0 => fun _ _ _ _ _ _ _ _ h => h
  | k + 1 => fun ds M Q Q' E E' hq he ⟨row, f, n, a, b, c, d, e⟩ => ⟨row, f, n, a, b, c, d, hq _ _ e⟩
theorem sp_tree_from_len (n : Nat) (ds : List D) (M : Sto) (Q : D → Sto → Prop) (E : Exn → Sto → Prop) (h : sp_tree_from n ds M Q E) : ds.length = 3 := by
  cases n with
  | zero => exact h.elim
  | succ k => obtain ⟨_, _, _, rfl, _⟩ := h; rfl
def m_tree_from (n : Nat) : MS := (sSeq (sIf (mB (mOp gtK (mV (mVar 1)) (mV (mVar 2)))) (sRet (mTup mNil)) sNext) (sSeq (sSet 3 (mCall sp_least_in (mCons (mVar 0) (mCons (mVar 1) (mCons (mVar 2) mNil))))) (sRet (mTup (mCons (mCall (sp_tree_from n) (mCons (mVar 0) (mCons (mVar 1) (mCons (mOp subK (mV (mVar 3)) (mV (mC (.int 1)))) mNil)))) (mCons (mCall (sp_tree_from n) (mCons (mVar 0) (mCons (mOp addK (mV (mVar 3)) (mV (mC (.int 1)))) (mCons (mVar 2) mNil)))) mNil))))))
theorem pure_tree_from (k : Nat) (ds : List D) (M : Sto) (Q : D → Sto → Prop) (E : Exn → Sto → Prop) (h : sp_tree_from (k + 1) ds M Q E) : m_tree_from k (defEnds Q fun _ _ => False) ⟨startA 4 ds, M⟩ := by
  obtain ⟨row, f, n, rfl, hl, hz, hn, q⟩ := h
  unfold treeF at q
  refine ite2 (fun h => ?_) (fun h => ?_)
  · have := of_decide_eq_true h
    rw [if_pos (by omega)] at q
    exact ⟨Nat.zero_le _, q⟩
  · have h0 : n ≠ 0 := fun z => h (decide_eq_true (by omega))
    rw [if_neg h0] at q
    cases k with
    | zero => omega
    | succ k =>
      have L := leastP_is (row := row) (f := f) (l := f + n - 1) (by omega)
      have := L.ge; have := L.le
      refine ⟨row, f, f + n - 1, ?_, by omega, by omega, hz, ?_⟩
      · rw [show (f : Int) + n - 1 = ((f + n - 1 : Nat) : Int) by omega]
      generalize leastP row f (f + n - 1) = m at *
      refine ⟨row, f, m - f, ?_, by omega, hz, by omega, ?_⟩
      · rw [show (f : Int) + ((m - f : Nat) : Int) - 1 = (m : Int) - 1 by omega]
      refine ⟨row, m + 1, f + n - 1 - m, ?_, by omega, hz, by omega, ?_⟩
      · rw [show ((m + 1 : Nat) : Int) + ((f + n - 1 - m : Nat) : Int) - 1 = (f : Int) + n - 1 by omega, show ((m + 1 : Nat) : Int) = (m : Int) + 1 by omega]
      exact ⟨(show (2 : Nat) ≤ sizeLine by decide), q⟩
def sp_tree_of : ASp := fun ds M Q _ => ∃ row : List Int, ds = [.tup (nums (shapeL row))] ∧ row.length ≤ 63 ∧ Q (treeF row 64 0 row.length) M
theorem sp_tree_of_mono : sp_tree_of.Mono := fun ds M Q Q' E E' hq he ⟨row, a, b, c⟩ => ⟨row, a, b, hq _ _ c⟩
theorem sp_tree_of_len (ds : List D) (M : Sto) (Q : D → Sto → Prop) (E : Exn → Sto → Prop) (h : sp_tree_of ds M Q E) : ds.length = 1 := by obtain ⟨_, rfl, _⟩ := h; rfl
def m_tree_of : MS := (sRet (mCall (sp_tree_from 64) (mCons (mVar 0) (mCons (mC (.int 0)) (mCons (mOp subK (mV (mCB lenK (mvCons (mV (mVar 0)) mvNil))) (mV (mC (.int 1)))) mNil)))))
theorem pure_tree_of (ds : List D) (M : Sto) (Q : D → Sto → Prop) (E : Exn → Sto → Prop) (h : sp_tree_of ds M Q E) : m_tree_of (defEnds Q fun _ _ => False) ⟨startA 1 ds, M⟩ := by
  obtain ⟨row, rfl, hl, q⟩ := h
  refine ⟨_, rfl, row, 0, row.length, ?_, by omega, by omega, hl, q⟩
  rw [nums_len, shapeL_len]
  simp
end LP
namespace LP
open PySem PySem.Spec L2
open PyProof.Rows hiding St
abbrev sp__law_stream : ASp := spStream
abbrev sp__law_draw : ASp := spDraw
abbrev sp_law : ASp := spLaw 63
theorem sp_law_len (ds : List D) (M : Sto) (Q : D → Sto → Prop) (E : Exn → Sto → Prop) (h : sp_law ds M Q E) : ds.length = 1 := by obtain ⟨_, rfl, _⟩ := h; rfl
theorem bd_smalls {row : List Int} {m : Nat} (h : ∀ x ∈ row, Small x) (hl : row.length ≤ m) : Bd (m * (49 + 2) + 3) 1 (.tup (nums row)) := bd_tup (k := 0) (fun d hd => by
  obtain ⟨n, hn, rfl⟩ := mem_nums hd
  have := h n hn
  unfold Small bigE at this
  exact bd_int (by omega)) (by rw [nums_len]; exact hl)
theorem bd_row {row : List Int} (h : ∀ x ∈ row, Small x) (hl : row.length ≤ 100) : Bd (100 * (49 + 2) + 3) 1 (.tup (nums row)) := bd_smalls h hl
theorem distL_small {row : List Int} {i : Nat} (hi : i < 100) : Small (distL row i) := by
  have h := last_filter row (row.getD i 0) i
  rw [distL_of h]
  unfold Small bigE lastD
  split
  · rename_i j e
    rw [e] at h
    have := h.1
    omega
  · omega
theorem shapeL_small {row : List Int} (hl : row.length ≤ 100) : ∀ x ∈ shapeL row, Small x := by
  intro x hx
  obtain ⟨i, hi, rfl⟩ := List.mem_map.mp hx
  exact distL_small (by have := List.mem_range.mp hi; omega)
theorem bd_shape {row : List Int} (hl : row.length ≤ 100) : Bd (100 * (49 + 2) + 3) 1 (.tup (nums (shapeL row))) := bd_row (shapeL_small hl) (by rw [shapeL_len]; exact hl)
/-- a text that repr can write -/
theorem Bd.ok {n k : Nat} {d : D} (h : Bd n k d) (hn : n ≤ 16777216 := by decide) (hk : k ≤ 64 := by decide) : Bd sizeLine 64 d := h.mono hn hk
theorem e60 : (2 : Nat) ^ 60 = 1152921504606846976 := by decide
/-- texts that are the same: the test is no -/
theorem ne_same {α : Type} [DecidableEq α] {s : α} {t u : Prop} (h : u) : if (!decide (s = s)) = true then t else u := by
  rw [decide_eq_true rfl, Bool.not_true, if_neg Bool.false_ne_true]; exact h
end LP
namespace LP
open PySem PySem.Spec L2
open PyProof.Rows hiding St
def longer (p : Nat) (x : List Int × List Int) : List (List Int × List Int) :=
  (x.1 ++ [0], [(p : Int)]) :: ((List.range x.2.length).reverse.map fun k => (x.1 ++ [(p : Int) - x.2.getD k 0], x.2.take (k + 1) ++ [(p : Int)]))
def allS : Nat → List (List Int × List Int)
  | 0 => [([], [])]
  | p + 1 => (allS p).flatMap (longer p)
def pairD (x : List Int × List Int) : D := .tup [.tup (nums x.1), .tup (nums x.2)]
def shD (x : List Int × List Int) : D := .tup (nums x.1)
theorem allS_place : ∀ (p : Nat) (x : List Int × List Int), x ∈ allS p → x.1.length = p ∧ x.2.length ≤ p
  | 0, x, h => by
    simp [allS] at h
    subst h; exact ⟨rfl, Nat.le_refl _⟩
  | p + 1, x, h => by
    obtain ⟨y, hy, hx⟩ := List.mem_flatMap.mp h
    obtain ⟨h1, h2⟩ := allS_place p y hy
    rcases List.mem_cons.mp hx with rfl | hx
    · simp [h1]
    · obtain ⟨k, hk, rfl⟩ := List.mem_map.mp hx
      simp at hk
      simp [h1]; omega
def sp__law_all_shapes : ASp := fun ds M Q _ => ∃ n : Nat, ds = [.int n] ∧ n ≤ 7 ∧ Q (.lst ((allS n).map shD)) M
theorem sp__law_all_shapes_mono : sp__law_all_shapes.Mono := fun ds M Q Q' E E' hq he ⟨n, a, b, c⟩ => ⟨n, a, b, hq _ _ c⟩
theorem sp__law_all_shapes_len (ds : List D) (M : Sto) (Q : D → Sto → Prop) (E : Exn → Sto → Prop) (h : sp__law_all_shapes ds M Q E) : ds.length = 1 := by obtain ⟨_, rfl, _⟩ := h; rfl
def ab_k : MS := (sDrop (mApp 3 (mTup (mCons (mOp addK (mV (mVar 4)) (mV (mTup (mCons (mOp subK (mV (mVar 2)) (mV (mOp ixK (mV (mVar 5)) (mV (mVar 6))))) mNil)))) (mCons (mOp addK (mV (mSl (mV (mVar 5)) mNo (mPart (mOp addK (mV (mVar 6)) (mV (mC (.int 1))))))) (mV (mTup (mCons (mVar 2) mNil)))) mNil)))))
def ab_x : MS := (sSeq (sDrop (mApp 3 (mTup (mCons (mOp addK (mV (mVar 4)) (mV (mTup (mCons (mC (.int 0)) mNil)))) (mCons (mTup (mCons (mVar 2) mNil)) mNil))))) (sFor (mR3 (mCons (mOp subK (mV (mCB lenK (mvCons (mV (mVar 5)) mvNil))) (mV (mC (.int 1)))) (mCons (mNeg (mC (.int 1))) (mCons (mNeg (mC (.int 1))) mNil)))) (gN 6) ab_k))
def ab_p : MS := (sSeq (sSetO 3 (mLst mNil)) (sSeq (sFor (mSeq (mVar 1)) (gT 2 (gsCons (gN 4) (gsCons (gN 5) gsNil))) ab_x) (sSet 1 (mVar 3))))
def m__law_all_shapes : MS := (sSeq (sSet 1 (mL (mLst (mCons (mTup (mCons (mTup mNil) (mCons (mTup mNil) mNil))) mNil)))) (sSeq (sFor (mR1 (mCons (mVar 0) mNil)) (gN 2) ab_p) (sRet (mL (mLc (mSeq (mVar 1)) (gT 2 (gsCons (gN 4) (gsCons (gN 5) gsNil))) mYes (mVar 4) [4, 5])))))
theorem len429 : ∀ n, n ≤ 7 → (allS n).length ≤ 429 := by
  intro n hn
  have h : (List.range 8).all (fun n => decide ((allS n).length ≤ 429)) = true := by decide +kernel
  exact of_decide_eq_true (List.all_eq_true.mp h n (List.mem_range.mpr (by omega)))
theorem cut_to {α : Type} (xs : List α) (b : Nat) : cutL xs none (some (b : Int)) = xs.take b := by
  unfold cutL
  rw [HT.sIx_none, HT.sIx_nat, List.drop_zero, Nat.sub_zero, List.take_eq_take_iff]
  omega
theorem loop_k {M : Sto} {A : AEnds} {p : Nat} {x : List Int × List Int} {s0 s1 : Sl} {fin : List D} (h1 : x.1.length ≤ 100) (h2 : x.2.length ≤ 100) (hz : fin.length ≤ 100000) (hA : ∀ s6, s6.own = false → A.nx ⟨[s0, s1, .v (.int p), .ol fin, .v (.tup (nums x.1)), .v (.tup (nums x.2)), s6], M⟩) : ∀ (j : Nat) (acc : List D) (s6 : Sl), s6.own = false → j ≤ x.2.length →
    acc ++ ((List.range j).reverse.map fun k => pairD (x.1 ++ [(p : Int) - x.2.getD k 0], x.2.take (k + 1) ++ [(p : Int)])) = fin →
    forR (gN 6) ab_k A ((dwnL ((j : Int) - 1) j).map D.int) ⟨[s0, s1, .v (.int p), .ol acc, .v (.tup (nums x.1)), .v (.tup (nums x.2)), s6], M⟩
  | 0, acc, s6, o6, hj, hf => by
    simp at hf
    subst hf
    exact hA _ o6
  | j + 1, acc, s6, o6, hj, hf => by
    rw [show ((j + 1 : Nat) : Int) - 1 = (j : Int) by omega, dwn_cons]
    have hl : acc.length < fin.length := by
      rw [← hf]; simp
    refine ⟨trivial, oo_of (atI_getD (i := j) (by omega)) ⟨(show (1 : Nat) ≤ sizeLine by decide), ⟨?_, ?_⟩⟩⟩
    · rw [nums_len]; exact Nat.le_trans (show x.1.length + 1 ≤ 101 by omega) (by decide)
    have ct : cutL (nums x.2) none (some ((j : Int) + 1)) = (nums x.2).take (j + 1) := cut_to _ (j + 1)
    refine ⟨(show (1 : Nat) ≤ sizeLine by decide), ?_, (show (2 : Nat) ≤ sizeLine by decide), ?_, ?_⟩
    · rw [ct, List.length_take, nums_len]
      exact Nat.le_trans (show min (j + 1) x.2.length + 1 ≤ 101 by omega) (by decide)
    · exact Nat.lt_of_le_of_lt (show acc.length ≤ 100000 by omega) (by decide)
    · have go := loop_k (s0 := s0) (s1 := s1) h1 h2 hz hA j (acc ++ [pairD (x.1 ++ [(p : Int) - x.2.getD j 0], x.2.take (j + 1) ++ [(p : Int)])]) (.v (.int j)) rfl (by omega) (by
        rw [← hf, List.append_assoc, List.range_succ, List.reverse_append]
        simp)
      unfold pairD at go
      rw [nums_app, nums_app] at go
      have e : (nums x.2).take (j + 1) = nums (x.2.take (j + 1)) := by simp [nums, List.map_take]
      rw [← e, ← ct] at go
      exact go
theorem pairs_longer (p : Nat) (x : List Int × List Int) : (longer p x).map pairD = pairD (x.1 ++ [0], [(p : Int)]) :: ((List.range x.2.length).reverse.map fun k => pairD (x.1 ++ [(p : Int) - x.2.getD k 0], x.2.take (k + 1) ++ [(p : Int)])) := by
  unfold longer
  rw [List.map_cons, List.map_map]; rfl
theorem loop_x {M : Sto} {A : AEnds} {p : Nat} {s0 s1 : Sl} {fin : List D} (hz : fin.length ≤ 100000) (hA : ∀ s4 s5 s6, s4.own = false → s5.own = false → s6.own = false → A.nx ⟨[s0, s1, .v (.int p), .ol fin, s4, s5, s6], M⟩) : ∀ (l : List (List Int × List Int)) (acc : List D) (s4 s5 s6 : Sl), s4.own = false → s5.own = false → s6.own = false → (∀ x ∈ l, x.1.length ≤ 100 ∧ x.2.length ≤ 100) →
    acc ++ (l.flatMap (longer p)).map pairD = fin →
    forR (gT 2 (gsCons (gN 4) (gsCons (gN 5) gsNil))) ab_x A (l.map pairD) ⟨[s0, s1, .v (.int p), .ol acc, s4, s5, s6], M⟩
  | [], acc, s4, s5, s6, o4, o5, o6, hl, hf => by
    simp at hf
    subst hf
    exact hA _ _ _ o4 o5 o6
  | x :: l, acc, s4, s5, s6, o4, o5, o6, hl, hf => by
    obtain ⟨h1, h2⟩ := hl x (List.mem_cons_self ..)
    rw [List.flatMap_cons, List.map_append, pairs_longer] at hf
    have h3 : acc.length + 1 + x.2.length ≤ fin.length := by
      rw [← hf]; simp; omega
    refine ⟨rfl, trivial, (show (1 : Nat) ≤ sizeLine by decide), ⟨?_, ?_⟩⟩
    · rw [nums_len]; exact Nat.le_trans (show x.1.length + 1 ≤ 101 by omega) (by decide)
    refine ⟨(show (1 : Nat) ≤ sizeLine by decide), (show (2 : Nat) ≤ sizeLine by decide), Nat.lt_of_le_of_lt (show acc.length ≤ 100000 by omega) (by decide), ?_⟩
    refine ⟨_, rfl, rfl, ⟨by rw [nums_len]; omega, by rw [nums_len]; omega, by decide, by decide⟩, ?_⟩
    rw [nums_len, show ((x.2.length : Int) - 1 - -1).toNat = x.2.length by omega]
    have e0 : pairD (x.1 ++ [0], [(p : Int)]) = .tup [.tup (nums x.1 ++ [.int 0]), .tup [.int p]] := by simp [pairD, nums]
    have go := fun A hA => loop_k (M := M) (A := A) (p := p) (s0 := s0) (s1 := s1) (x := x) (fin := acc ++ (pairD (x.1 ++ [0], [(p : Int)]) :: ((List.range x.2.length).reverse.map fun k => pairD (x.1 ++ [(p : Int) - x.2.getD k 0], x.2.take (k + 1) ++ [(p : Int)])))) h1 h2 (by simp; omega) hA x.2.length (acc ++ [pairD (x.1 ++ [0], [(p : Int)])]) s6 o6 (Nat.le_refl _) (by rw [List.append_assoc]; rfl)
    rw [e0] at go
    refine go _ ?_
    intro s6 o6
    rw [← e0]
    exact loop_x hz hA l _ _ _ _ rfl rfl o6 (fun y hy => hl y (List.mem_cons_of_mem _ hy)) (by rw [← hf, List.append_assoc])
theorem loop_p {M : Sto} {A : AEnds} {n : Nat} (hn : n ≤ 7) (hA : ∀ s2 s3 s4 s5 s6, s2.own = false → s3.own = false → s4.own = false → s5.own = false → s6.own = false → A.nx ⟨[.v (.int n), .v (.lst ((allS n).map pairD)), s2, s3, s4, s5, s6], M⟩) : ∀ (k p : Nat) (s2 s3 s4 s5 s6 : Sl), s2.own = false → s3.own = false → s4.own = false → s5.own = false → s6.own = false → p + k = n →
    forR (gN 2) ab_p A ((rngL (p : Int) k).map D.int) ⟨[.v (.int n), .v (.lst ((allS p).map pairD)), s2, s3, s4, s5, s6], M⟩
  | 0, p, s2, s3, s4, s5, s6, o2, o3, o4, o5, o6, hk => by
    have : p = n := by omega
    subst this
    exact hA _ _ _ _ _ o2 o3 o4 o5 o6
  | k + 1, p, s2, s3, s4, s5, s6, o2, o3, o4, o5, o6, hk => by
    rw [rng_cons]
    refine ⟨Nat.zero_le _, ?_⟩
    refine loop_x (fin := (allS (p + 1)).map pairD) (by rw [List.length_map]; exact Nat.le_trans (len429 (p + 1) (by omega)) (by decide)) ?_ (allS p) [] _ _ _ o4 o5 o6 (fun x hx => ?_) (by rw [List.nil_append]; rfl)
    · intro s4 s5 s6 o4 o5 o6
      exact loop_p hn hA k (p + 1) _ _ _ _ _ rfl rfl o4 o5 o6 (by omega)
    · obtain ⟨a, b⟩ := allS_place p x hx
      omega
theorem pure__law_all_shapes (ds : List D) (M : Sto) (Q : D → Sto → Prop) (E : Exn → Sto → Prop) (h : sp__law_all_shapes ds M Q E) : m__law_all_shapes (defEnds Q fun _ _ => False) ⟨startA 7 ds, M⟩ := by
  obtain ⟨n, rfl, hn, q⟩ := h
  refine ⟨Nat.zero_le _, Nat.zero_le _, (show (2 : Nat) ≤ sizeLine by decide), (show (1 : Nat) ≤ sizeLine by decide), ⟨by omega, by omega⟩, ?_⟩
  refine loop_p hn ?_ n 0 _ _ _ _ _ rfl rfl rfl rfl rfl (by omega)
  intro s2 s3 s4 s5 s6 o2 o3 o4 o5 o6
  have hl := len429 n hn
  refine lcR_pure (en := ⟨[.v (.int n), .v (.lst ((allS n).map pairD)), s2, s3, s4, s5, s6], M⟩) (fun _ => true) (fun d => match d with
    | .tup (x :: _) => x
    | d => d) (fun d => match d with
    | .tup [x, y] => ⟨[.v (.int n), .v (.lst ((allS n).map pairD)), s2, s3, .v x, .v y, s6], M⟩
    | _ => ⟨[], M⟩) _ _ ?_ ?_ ?_ ?_ ?_ ?_ ?_
  · rw [List.length_map]; exact Nat.le_trans (show 0 + (allS n).length ≤ 429 by omega) (by decide)
  · intro d hd C hc
    obtain ⟨x, _, rfl⟩ := List.mem_map.mp hd
    exact ⟨rfl, hc⟩
  · exact fun d hd C hc => hc
  · intro d hd hp C hc
    obtain ⟨x, _, rfl⟩ := List.mem_map.mp hd
    exact hc
  · intro d hd
    obtain ⟨x, _, rfl⟩ := List.mem_map.mp hd
    simp [pairD, keepO, o2, o3, o4, o5, o6]
  · intro d hd
    obtain ⟨x, _, rfl⟩ := List.mem_map.mp hd
    rfl
  · rw [List.filter_eq_self.mpr (fun _ _ => rfl), List.map_map, List.nil_append]
    exact q
end LP
namespace LP
open PySem PySem.Spec L2
open PyProof.Rows hiding St
/-- a claim: first, last, place -/
structure Cl where
  f : Nat
  l : Nat
  p : Nat
def Cl.D (c : Cl) : D := .tup [.int c.f, .int c.l, .int c.p]
def Cl.ok (c : Cl) (n : Nat) : Prop := c.f ≤ c.p ∧ c.p ≤ c.l ∧ c.l < n
def Cl.holds (row : List Int) (c : Cl) : Bool := decide (leastP row c.f c.l = c.p)
def cls (cs : List Cl) : List D := cs.map Cl.D
theorem cls_len (cs : List Cl) : (cls cs).length = cs.length := by simp [cls]
end LP
namespace LP
open PySem PySem.Spec L2
open PyProof.Rows hiding St
/-- data that == serves -/
def EqOk (d : D) : Prop := ∃ e, D.py d = some e ∧ e.canLay0 = true ∧ e.depth ≤ 60
end LP
namespace LP
open PySem PySem.Spec L2
open PyProof.Rows hiding St
/-- from, to, by how much -/
structure Edge where
  u : Nat
  v : Nat
  w : Int
def Sat (es : List Edge) (s : List Int) : Prop := ∀ e ∈ es, s.getD e.u 0 + e.w ≤ s.getD e.v 0
def Le (n : Nat) (a b : List Int) : Prop := ∀ i, i < n → a.getD i 0 ≤ b.getD i 0
/-- a round: raises, keeps below solutions, serves every bound -/
structure Rnd (n : Nat) (es : List Edge) (R : List Int → List Int) : Prop where
  len : ∀ a, a.length = n → (R a).length = n
  up : ∀ a, a.length = n → Le n a (R a)
  below : ∀ a s, a.length = n → s.length = n → Sat es s → Le n a s → Le n (R a) s
  serve : ∀ a, a.length = n → ∀ e ∈ es, a.getD e.u 0 + e.w ≤ (R a).getD e.v 0
theorem ext_getD {n : Nat} {a b : List Int} (ha : a.length = n) (hb : b.length = n) (h : ∀ i, i < n → a.getD i 0 = b.getD i 0) : a = b := by
  apply List.ext_getElem (by rw [ha, hb])
  intro i h1 h2
  have := h i (by omega)
  rw [List.getD_eq_getElem?_getD, List.getD_eq_getElem?_getD, List.getElem?_eq_getElem h1, List.getElem?_eq_getElem h2] at this
  exact this
section
variable {n : Nat} {es : List Edge} {R : List Int → List Int} (H : Rnd n es R)
include H
end
end LP
namespace LP
open PySem PySem.Spec L2
open PyProof.Rows hiding St
def mkE (p o : Nat) : Edge := ⟨p, o, if o < p then 1 else 0⟩
def leadD (i : Nat) (e : Edge) : D := .tup [.int i, .int e.u, .int e.v]
/-- leads with their places, the numbers ahead being whatever -/
inductive Lds : List D → List Edge → Prop
  | nil : Lds [] []
  | cons {i : Nat} {p o : Nat} {ds : List D} {es : List Edge} : Lds ds es → Lds (leadD i (mkE p o) :: ds) (mkE p o :: es)
theorem Lds.app : ∀ {a b : List D} {es fs : List Edge}, Lds a es → Lds b fs → Lds (a ++ b) (es ++ fs)
  | _, _, _, _, .nil, h => h
  | _, _, _, _, .cons t, h => .cons (t.app h)
end LP
namespace LP
open PySem PySem.Spec L2
open PyProof.Rows hiding St
theorem py_tup_nums (a : List Int) : D.py (.tup (nums a)) = some (.tuple (a.map PyData.int)) := by
  unfold D.py; rw [pys_nums]; rfl
theorem depth_nums : ∀ a : List Int, PyData.depthAll (a.map PyData.int) = 0
  | [] => rfl
  | x :: a => by
    show max 0 (PyData.depthAll (a.map PyData.int)) = 0
    rw [depth_nums a]; rfl
def rowD (r : List Int) : D := .tup (nums r)
def oV (s : Sl) (i : Nat) (en : En) (Q : D → En → Prop) : Prop := match s with
  | .v d => Q d en
  | .ol ds => Q (.lst ds) { en with sl := en.sl.set i (.v (.lst ds)) }
  | .od ks ds => Q (.dic ks ds) { en with sl := en.sl.set i (.v (.dic ks ds)) }
  | _ => False
theorem mVar_dat (i : Nat) (R : RX) (en : En) (Q : D → En → Prop) : mVar i R en Q = oV (gt en.sl i) i en Q := rfl
theorem oV_v (d : D) (i : Nat) (en : En) (Q : D → En → Prop) : oV (.v d) i en Q = Q d en := rfl
theorem oV_ol (ds : List D) (i : Nat) (en : En) (Q : D → En → Prop) : oV (.ol ds) i en Q = Q (.lst ds) { en with sl := en.sl.set i (.v (.lst ds)) } := rfl
theorem oV_od (ks : List Key) (ds : List D) (i : Nat) (en : En) (Q : D → En → Prop) : oV (.od ks ds) i en Q = Q (.dic ks ds) { en with sl := en.sl.set i (.v (.dic ks ds)) } := rfl
end LP
namespace LP
open PySem PySem.Spec L2
open PyProof.Rows hiding St
local macro_rules | `(tactic| sleep 1) => `(tactic| set_option simprocs false in dsimp only [lcR, mLc, mLr1, mLr2, gN, gT, gsCons, gsNil, tupD, mB, mOp, mOpF, mV, mO, mL, mCall, mCons, mNil, mvCons, mvNil, mCB, mCF, mVar_dat, oV_v, oV_ol, oV_od, mC, mIf, mAnd, mOr, mNot, mAndV, mOrV, mNotV, mTup, mLst, mNeg, mYes, mSl, mPart, mNo, mSeq, mR1, mR2, mR3, mEnumS, mZip, mIdx, mStep, mApp, mPop, mPopAt, mExt, mChain, pV, pO, pNil, sSeq, sFor, sSet, sSetO, sDrop, sRet, sRetN, sIf, sNext, sAug, sSub, sAsg, sPar2, sPar3, sTupN, LP.putAll, It1.sl, p2, p3, gt, List.set, wipeE, rq2, rq1, asB, LP.intD, i1, i2, d2, one, seqD, addK, subK, ltK, leK, gtK, geK, lenK, slD, defEnds, cns, slK, min2K, max2K, intK, mStar, olD, isOl, seq1, lst1, tupleK])
local macro_rules | `(tactic| sleep 2) => `(tactic| (simp [keepO]; try simp [Sl.own]))
local macro_rules | `(tactic| sleep 3) => `(tactic| (rw [sizeLine_is]; simp only [List.length_map, List.length_append, List.length_cons, List.length_nil, List.length_set, nums_len, cls_len, rng_len, List.length_range, List.length_replicate]; omega))
local macro_rules | `(tactic| sleep 7) => `(tactic| simp only [Bool.false_eq_true, Bool.not_true, Bool.not_false, ↓reduceIte, if_true, if_false])
local macro_rules | `(tactic| sleep 6) => `(tactic| (sleep 1; try simp only [exSome, exOl, true_and, Bool.false_eq_true, Bool.not_true, Bool.not_false, ↓reduceIte, if_true, if_false]; try sleep 1))
local macro_rules | `(tactic| sleep 8) => `(tactic| repeat (refine szAnd (by (try simp only [List.length_cons, List.length_nil, List.length_append, List.length_map, List.length_take, List.length_drop, List.length_reverse, nums_len, cls_len, nats_len']); omega) ?_))
theorem szOk {n : Nat} (h : n ≤ 16777216) : n ≤ sizeLine := by rw [sizeLine_is]; exact h
theorem ix_tD {xs : List D} {i : Int} {d : D} {k : D → Prop} (h : atI xs i = some d) (q : k d) : ixK (.tup xs) (.int i) k := oo_of h q
theorem nats_len' (S : List Nat) : (nats S).length = S.length := by simp [nats, nums]
end LP
namespace LP
open PySem PySem.Spec L2
open PyProof.Rows hiding St
local macro_rules | `(tactic| sleep 1) => `(tactic| set_option simprocs false in dsimp only [lcR, mLc, mLr1, mLr2, gN, gT, gsCons, gsNil, tupD, mB, mOp, mOpF, mV, mO, mL, mCall, mCons, mNil, mvCons, mvNil, mCB, mCF, mVar_dat, oV_v, oV_ol, oV_od, mC, mIf, mAnd, mOr, mNot, mAndV, mOrV, mNotV, mTup, mLst, mNeg, mYes, mSl, mPart, mNo, mSeq, mR1, mR2, mR3, mEnumS, mZip, mIdx, mStep, mApp, mPop, mPopAt, mExt, mChain, pV, pO, pNil, sSeq, sFor, sSet, sSetO, sDrop, sRet, sRetN, sIf, sNext, sAug, sSub, sAsg, sPar2, sPar3, sTupN, LP.putAll, It1.sl, p2, p3, gt, List.set, wipeE, rq2, rq1, asB, LP.intD, i1, i2, d2, one, seqD, addK, subK, ltK, leK, gtK, geK, lenK, slD, defEnds, cns, slK, min2K, max2K, intK, mStar, olD, isOl, seq1, lst1, tupleK])
local macro_rules | `(tactic| sleep 2) => `(tactic| (simp [keepO]; try simp [Sl.own]))
local macro_rules | `(tactic| sleep 3) => `(tactic| (rw [sizeLine_is]; simp only [List.length_map, List.length_append, List.length_cons, List.length_nil, List.length_set, nums_len, cls_len, rng_len, List.length_range, List.length_replicate]; omega))
local macro_rules | `(tactic| sleep 7) => `(tactic| simp only [Bool.false_eq_true, Bool.not_true, Bool.not_false, ↓reduceIte, if_true, if_false])
local macro_rules | `(tactic| sleep 6) => `(tactic| (sleep 1; try simp only [exSome, exOl, true_and, Bool.false_eq_true, Bool.not_true, Bool.not_false, ↓reduceIte, if_true, if_false]; try sleep 1))
local macro_rules | `(tactic| sleep 8) => `(tactic| repeat (refine szAnd (by (try simp only [List.length_cons, List.length_nil, List.length_append, List.length_map, List.length_take, List.length_drop, List.length_reverse, nums_len, cls_len, nats_len']); omega) ?_))
theorem exSome {α : Type} (x : α) (P : α → Prop) : (∃ ds, some x = some ds ∧ P ds) = P x := propext ⟨fun ⟨_, e, h⟩ => by cases e; exact h, fun h => ⟨x, rfl, h⟩⟩
theorem exOl (x : List D) : (∃ ds, Sl.ol x = Sl.ol ds) = True := propext ⟨fun _ => trivial, fun _ => ⟨x, rfl⟩⟩
theorem szAnd {n : Nat} {P : Prop} (h : n ≤ 16777216) (p : P) : n ≤ sizeLine ∧ P := ⟨szOk h, p⟩
theorem at_draw {sa : Addr} {c : Nat} {many : Int} {M0 : Sto} {Q : D → Sto → Prop} {E : Exn → Sto → Prop} (hc : c ≤ 1000000000) (hn : 0 < many ∧ many < 1073741824)
    (q : ∀ k : Nat, (k : Int) < many → Q (.int k) (setM M0 sa (.strm (c + 1)))) : spDraw [.ref sa, .int many] (setM M0 sa (.strm c)) Q E :=
  draw_at (by rw [e60]; omega) hn.1 hn.2 fun k h0 h1 => by
    obtain ⟨j, rfl⟩ : ∃ j : Nat, k = (j : Int) := ⟨k.toNat, by omega⟩
    exact q j h1
theorem at_row {sa : Addr} {c : Nat} {most : Int} {M0 : Sto} {Q : D → Sto → Prop} {E : Exn → Sto → Prop} (hc : c ≤ 1000000000) (hn : 1 ≤ most ∧ most ≤ 60)
    (q : ∀ (row : List Int) (c' : Nat), 1 ≤ row.length → (row.length : Int) ≤ most → (∀ x ∈ row, Small x) → c' ≤ c + 300 → Q (.tup (nums row)) (setM M0 sa (.strm c'))) : sp__law_row [.ref sa, .int most] (setM M0 sa (.strm c)) Q E :=
  ⟨sa, c, most, M0, rfl, rfl, by rw [e60]; omega, hn, fun row c' a b d e => q row c' (by cases row with | nil => exact absurd rfl a | cons _ _ => simp) b d e⟩
theorem size1 : (1 : Nat) ≤ sizeLine := by decide
theorem size2 : (2 : Nat) ≤ sizeLine := by decide
theorem size3 : (3 : Nat) ≤ sizeLine := by decide
end LP
namespace LP
open PySem PySem.Spec L2
open PyProof.Rows hiding St
local macro_rules | `(tactic| sleep 1) => `(tactic| set_option simprocs false in dsimp only [lcR, mLc, mLr1, mLr2, gN, gT, gsCons, gsNil, tupD, mB, mOp, mOpF, mV, mO, mL, mCall, mCons, mNil, mvCons, mvNil, mCB, mCF, mVar_dat, oV_v, oV_ol, oV_od, mC, mIf, mAnd, mOr, mNot, mAndV, mOrV, mNotV, mTup, mLst, mNeg, mYes, mSl, mPart, mNo, mSeq, mR1, mR2, mR3, mEnumS, mZip, mIdx, mStep, mApp, mPop, mPopAt, mExt, mChain, pV, pO, pNil, sSeq, sFor, sSet, sSetO, sDrop, sRet, sRetN, sIf, sNext, sAug, sSub, sAsg, sPar2, sPar3, sTupN, LP.putAll, It1.sl, p2, p3, gt, List.set, wipeE, rq2, rq1, asB, LP.intD, i1, i2, d2, one, seqD, addK, subK, ltK, leK, gtK, geK, lenK, slD, defEnds, cns, slK, min2K, max2K, intK, mStar, olD, isOl, seq1, lst1, tupleK])
local macro_rules | `(tactic| sleep 2) => `(tactic| (simp [keepO]; try simp [Sl.own]))
local macro_rules | `(tactic| sleep 3) => `(tactic| (rw [sizeLine_is]; simp only [List.length_map, List.length_append, List.length_cons, List.length_nil, List.length_set, nums_len, cls_len, rng_len, List.length_range, List.length_replicate]; omega))
local macro_rules | `(tactic| sleep 7) => `(tactic| simp only [Bool.false_eq_true, Bool.not_true, Bool.not_false, ↓reduceIte, if_true, if_false])
local macro_rules | `(tactic| sleep 6) => `(tactic| (sleep 1; try simp only [exSome, exOl, true_and, Bool.false_eq_true, Bool.not_true, Bool.not_false, ↓reduceIte, if_true, if_false]; try sleep 1))
local macro_rules | `(tactic| sleep 8) => `(tactic| repeat (refine szAnd (by (try simp only [List.length_cons, List.length_nil, List.length_append, List.length_map, List.length_take, List.length_drop, List.length_reverse, nums_len, cls_len, nats_len']); omega) ?_))
def D.isTup : D → Bool
  | .tup _ => true
  | _ => false
def D.isBl : D → Bool
  | .bl _ => true
  | _ => false
def D.isInt : D → Bool
  | .bl _ => true
  | .int _ => true
  | _ => false
def D.hasT : D → Bool
  | .ref _ => false
  | .ty _ => false
  | .scr _ => false
  | .exn _ _ _ _ => false
  | .kwd _ _ => false
  | .eo _ _ _ => false
  | _ => true
theorem isi_tup {d : D} {k : D → Prop} (h : d.hasT = true) (q : k (.bl d.isTup)) : isiK [d, .ty "tuple"] k := by
  cases d <;> first | exact ⟨_, _, rfl, by kernel_rfl, q⟩ | cases h
theorem isi_bool {d : D} {k : D → Prop} (h : d.hasT = true) (q : k (.bl d.isBl)) : isiK [d, .ty "bool"] k := by
  cases d <;> first | exact ⟨_, _, rfl, by kernel_rfl, q⟩ | cases h
theorem isi_int {d : D} {k : D → Prop} (h : d.hasT = true) (q : k (.bl d.isInt)) : isiK [d, .ty "int"] k := by
  cases d <;> first | exact ⟨_, _, rfl, by kernel_rfl, q⟩ | cases h
end LP
namespace LP
open PySem PySem.Spec L2
open PyProof.Rows hiding St
local macro_rules | `(tactic| sleep 1) => `(tactic| set_option simprocs false in dsimp only [lcR, mLc, mLr1, mLr2, gN, gT, gsCons, gsNil, tupD, mB, mOp, mOpF, mV, mO, mL, mCall, mCons, mNil, mvCons, mvNil, mCB, mCF, mVar_dat, oV_v, oV_ol, oV_od, mC, mIf, mAnd, mOr, mNot, mAndV, mOrV, mNotV, mTup, mLst, mNeg, mYes, mSl, mPart, mNo, mSeq, mR1, mR2, mR3, mEnumS, mZip, mIdx, mStep, mApp, mPop, mPopAt, mExt, mChain, pV, pO, pNil, sSeq, sFor, sSet, sSetO, sDrop, sRet, sRetN, sIf, sNext, sAug, sSub, sAsg, sPar2, sPar3, sTupN, LP.putAll, It1.sl, p2, p3, gt, List.set, wipeE, rq2, rq1, asB, LP.intD, i1, i2, d2, one, seqD, addK, subK, ltK, leK, gtK, geK, lenK, slD, defEnds, cns, slK, min2K, max2K, intK, mStar, olD, isOl, seq1, lst1, tupleK])
local macro_rules | `(tactic| sleep 2) => `(tactic| (simp [keepO]; try simp [Sl.own]))
local macro_rules | `(tactic| sleep 3) => `(tactic| (rw [sizeLine_is]; simp only [List.length_map, List.length_append, List.length_cons, List.length_nil, List.length_set, nums_len, cls_len, rng_len, List.length_range, List.length_replicate]; omega))
local macro_rules | `(tactic| sleep 7) => `(tactic| simp only [Bool.false_eq_true, Bool.not_true, Bool.not_false, ↓reduceIte, if_true, if_false])
local macro_rules | `(tactic| sleep 6) => `(tactic| (sleep 1; try simp only [exSome, exOl, true_and, Bool.false_eq_true, Bool.not_true, Bool.not_false, ↓reduceIte, if_true, if_false]; try sleep 1))
local macro_rules | `(tactic| sleep 8) => `(tactic| repeat (refine szAnd (by (try simp only [List.length_cons, List.length_nil, List.length_append, List.length_map, List.length_take, List.length_drop, List.length_reverse, nums_len, cls_len, nats_len']); omega) ?_))
section
variable {X : Cx} {W : WX} {pos : Pos}
theorem upd_upd {H : Hp} {p : Addr} {a b : HO} : upd (upd H p a) p b = upd H p b := by
  funext x
  by_cases h : x = p
  · subst h; rw [upd_same, upd_same]
  · rw [upd_ne h, upd_ne h, upd_ne h]
end
def keyPy : Key → PyData
  | .inl i => .int i
  | .inr x => .str x
mutual
def D.pyX : D → Option PyData
  | .non => some .none
  | .bl b => some (.bool b)
  | .int i => some (.int i)
  | .str x => some (.str x)
  | .tup xs => (D.pysX xs).map PyData.tuple
  | .lst xs => (D.pysX xs).map PyData.list
  | .dic ks xs => (D.pysX xs).map fun es => PyData.dict ((ks.map keyPy).zip es)
  | _ => none
def D.pysX : List D → Option (List PyData)
  | [] => some []
  | x :: xs => match D.pyX x, D.pysX xs with
    | some a, some b => some (a :: b)
    | _, _ => none
end
mutual
theorem pyX_of : ∀ {d : D} {e : PyData}, D.py d = some e → D.pyX d = some e
  | .non, _, h => h
  | .bl _, _, h => h
  | .int _, _, h => h
  | .str _, _, h => h
  | .tup xs, e, h => by
    unfold D.py at h
    cases q : D.pys xs with
    | none => rw [q] at h; cases h
    | some es =>
      rw [q] at h
      unfold D.pyX
      rw [pysX_of q]
      exact h
  | .lst xs, e, h => by
    unfold D.py at h
    cases q : D.pys xs with
    | none => rw [q] at h; cases h
    | some es =>
      rw [q] at h
      unfold D.pyX
      rw [pysX_of q]
      exact h
  | .dic _ _, _, h => by cases h
  | .ref _, _, h => by cases h
  | .ty _, _, h => by cases h
  | .scr _, _, h => by cases h
  | .exn _ _ _ _, _, h => by cases h
  | .kwd _ _, _, h => by cases h
  | .eo _ _ _, _, h => by cases h
theorem pysX_of : ∀ {ds : List D} {es : List PyData}, D.pys ds = some es → D.pysX ds = some es
  | [], _, h => h
  | d :: ds, es, h => by
    unfold D.pys at h
    cases e1 : D.py d with
    | none => rw [e1] at h; cases h
    | some e =>
      cases e2 : D.pys ds with
      | none => rw [e1, e2] at h; cases h
      | some es =>
        rw [e1, e2] at h
        unfold D.pysX
        rw [pyX_of e1, pysX_of e2]
        exact h
end
section
variable {X : Cx} {pins : List (Addr × Obj)} {σ : St} {H F : Hp} {s : Shared}
end
/-- a text of at most n signs, k deep; dicts may stand in it -/
def BpX (n k : Nat) (e : PyData) : Prop := e.showable = true ∧ e.depth ≤ k ∧ e.shown.length ≤ n
def BdX (n k : Nat) (d : D) : Prop := ∃ e, D.pyX d = some e ∧ BpX n k e
theorem BdX.mono {n n' k k' : Nat} {d : D} (h : BdX n k d) (hn : n ≤ n') (hk : k ≤ k') : BdX n' k' d := let ⟨e, a, b, x, y⟩ := h; ⟨e, a, b, Nat.le_trans x hk, Nat.le_trans y hn⟩
theorem Bd.x {n k : Nat} {d : D} (h : Bd n k d) : BdX n k d := let ⟨e, a, b, _, x, y⟩ := h; ⟨e, pyX_of a, b, x, y⟩
theorem BdX.ok {n k : Nat} {d : D} (h : BdX n k d) (hn : n ≤ 16777216 := by decide) (hk : k ≤ 64 := by decide) : BdX sizeLine 64 d := h.mono hn hk
section
variable {X : Cx}
end
theorem bpsX {n k : Nat} : ∀ {xs : List D}, (∀ x ∈ xs, BdX n k x) → ∃ es, D.pysX xs = some es ∧ es.length = xs.length ∧ PyData.showableAll es = true ∧ PyData.depthAll es ≤ k ∧ piled (PyData.shownAll es) ≤ xs.length * (n + 2)
  | [], _ => ⟨[], rfl, rfl, rfl, Nat.zero_le _, Nat.zero_le _⟩
  | x :: xs, h => by
    obtain ⟨e, h1, b1, b3, b4⟩ := h x (List.mem_cons_self ..)
    obtain ⟨es, g1, g2, g3, g5, g6⟩ := bpsX (n := n) (k := k) (xs := xs) fun y hy => h y (List.mem_cons_of_mem _ hy)
    refine ⟨e :: es, ?_, by simp [g2], ?_, ?_, ?_⟩
    · unfold D.pysX; rw [h1, g1]
    · show (e.showable && PyData.showableAll es) = true
      rw [b1, g3]; rfl
    · show max e.depth (PyData.depthAll es) ≤ k
      exact Nat.max_le.mpr ⟨b3, g5⟩
    · have : piled (PyData.shownAll (e :: es)) = e.shown.length + 2 + piled (PyData.shownAll es) := by
        show piled (e.shown :: PyData.shownAll es) = _
        simp [piled]
      rw [this, List.length_cons, Nat.succ_mul]
      omega
theorem bdX_lst {n k m : Nat} {xs : List D} (h : ∀ x ∈ xs, BdX n k x) (hm : xs.length ≤ m) : BdX (m * (n + 2) + 2) (k + 1) (.lst xs) := by
  obtain ⟨es, g1, g2, g3, g5, g6⟩ := bpsX h
  refine ⟨.list es, by unfold D.pyX; rw [g1]; rfl, g3, Nat.succ_le_succ g5, ?_⟩
  refine Nat.le_trans (listText_le _) ?_
  have := Nat.mul_le_mul_right (n + 2) hm
  omega
theorem bdX_tup {n k m : Nat} {xs : List D} (h : ∀ x ∈ xs, BdX n k x) (hm : xs.length ≤ m) : BdX (m * (n + 2) + 3) (k + 1) (.tup xs) := by
  obtain ⟨es, g1, g2, g3, g5, g6⟩ := bpsX h
  refine ⟨.tuple es, by unfold D.pyX; rw [g1]; rfl, g3, Nat.succ_le_succ g5, ?_⟩
  refine Nat.le_trans (tupleText_le _) ?_
  have := Nat.mul_le_mul_right (n + 2) hm
  omega
section
variable {X : Cx}
def eqX (x y : D) (k : D → Prop) : Prop := eqK x y k ∨ ∃ xs, x = .tup xs ∧ y = .tup [] ∧ k (.bl xs.isEmpty)
end
abbrev Fb : Type := PySem.W.Frag → Bool
def obsXK (fa : List He.Fa) (fb : List Fb) (fn : List He.DefD) (K : PySem.W.Frag) : He.AlD := (((fa.all fun f => f.ok K) && fb.all fun f => f K) && fn.all fun d => d.ok K, fn.map fun d => He.fnW K d.at_)
def SaysX (fa : List He.Fa) (fb : List Fb) (fn : List He.DefD) (K : PySem.W.Frag) : Prop := obsXK fa fb fn K = He.valD fn
section
variable {fa : List He.Fa} {fb : List Fb} {fn : List He.DefD} {K : PySem.W.Frag}
theorem SaysX.all3 (c : SaysX fa fb fn K) : (fa.all fun f => f.ok K) = true ∧ (fb.all fun f => f K) = true ∧ (fn.all fun d => d.ok K) = true := by
  have h : (((fa.all fun f => f.ok K) && fb.all fun f => f K) && fn.all fun d => d.ok K) = true := congrArg (fun z : He.AlD => z.1) c
  rw [Bool.and_eq_true, Bool.and_eq_true] at h
  exact ⟨h.1.1, h.1.2, h.2⟩
theorem SaysX.fact (c : SaysX fa fb fn K) (i : Nat) {f : He.Fa} (h : fa[i]? = some f := by rfl) : f.ok K = true := List.all_eq_true.mp c.all3.1 f (List.mem_of_getElem? h)
theorem SaysX.own (c : SaysX fa fb fn K) (i : Nat) {f : Fb} (h : fb[i]? = some f := by rfl) : f K = true := List.all_eq_true.mp c.all3.2.1 f (List.mem_of_getElem? h)
theorem SaysX.toD (c : SaysX fa fb fn K) : He.SaysD fa fn K := by
  obtain ⟨h1, _, h3⟩ := c.all3
  have h2 : fn.map (fun d => He.fnW K d.at_) = fn.map He.DefD.val := congrArg (fun z : He.AlD => z.2) c
  show (((fa.all fun f => f.ok K) && fn.all fun d => d.ok K), fn.map fun d => He.fnW K d.at_) = (true, fn.map He.DefD.val)
  rw [h1, h3, h2]; rfl
theorem SaysX.def_ (c : SaysX fa fb fn K) (i : Nat) {d : He.DefD} (h : fn[i]? = some d := by rfl) : ∃ fd, FunD K d.name d.qual d.params d.body d.scope (d.dvs K) (d.kws K) (He.fAd K d.at_) fd := c.toD.def_ i h
end
section
variable {prog : Program} {w : World} {A : Around} {E : Value → Shared → Prop} {s : Shared}
end
section
variable {X : Cx} {W : WX} {pos : Pos}
end
section
variable {X : Cx} {W : WX}
end
end LP
namespace LP
open PySem PySem.Spec L2
open PyProof.Rows hiding St
local macro_rules | `(tactic| sleep 1) => `(tactic| set_option simprocs false in dsimp only [lcR, mLc, mLr1, mLr2, gN, gT, gsCons, gsNil, tupD, mB, mOp, mOpF, mV, mO, mL, mCall, mCons, mNil, mvCons, mvNil, mCB, mCF, mVar_dat, oV_v, oV_ol, oV_od, mC, mIf, mAnd, mOr, mNot, mAndV, mOrV, mNotV, mTup, mLst, mNeg, mYes, mSl, mPart, mNo, mSeq, mR1, mR2, mR3, mEnumS, mZip, mIdx, mStep, mApp, mPop, mPopAt, mExt, mChain, pV, pO, pNil, sSeq, sFor, sSet, sSetO, sDrop, sRet, sRetN, sIf, sNext, sAug, sSub, sAsg, sPar2, sPar3, sTupN, LP.putAll, It1.sl, p2, p3, gt, List.set, wipeE, rq2, rq1, asB, LP.intD, i1, i2, d2, one, seqD, addK, subK, ltK, leK, gtK, geK, lenK, slD, defEnds, cns, slK, min2K, max2K, intK, mStar, olD, isOl, seq1, lst1, tupleK])
local macro_rules | `(tactic| sleep 2) => `(tactic| (simp [keepO]; try simp [Sl.own]))
local macro_rules | `(tactic| sleep 3) => `(tactic| (rw [sizeLine_is]; simp only [List.length_map, List.length_append, List.length_cons, List.length_nil, List.length_set, nums_len, cls_len, rng_len, List.length_range, List.length_replicate]; omega))
local macro_rules | `(tactic| sleep 7) => `(tactic| simp only [Bool.false_eq_true, Bool.not_true, Bool.not_false, ↓reduceIte, if_true, if_false])
local macro_rules | `(tactic| sleep 6) => `(tactic| (sleep 1; try simp only [exSome, exOl, true_and, Bool.false_eq_true, Bool.not_true, Bool.not_false, ↓reduceIte, if_true, if_false]; try sleep 1))
local macro_rules | `(tactic| sleep 8) => `(tactic| repeat (refine szAnd (by (try simp only [List.length_cons, List.length_nil, List.length_append, List.length_map, List.length_take, List.length_drop, List.length_reverse, nums_len, cls_len, nats_len']); omega) ?_))
/-- what may stand anywhere: plain, its text short -/
structure Od (d : D) : Prop where
  ty : d.hasT = true
  bd : BdX 600 4 d
theorem Od.int {i : Int} (h : i.natAbs < 10 ^ 48) : Od (.int i) := ⟨rfl, (bd_int h).x.mono (by decide) (by decide)⟩
theorem Od.non : Od .non := ⟨rfl, bd_non.x.mono (by decide) (by decide)⟩
theorem Od.bl (b : Bool) : Od (.bl b) := ⟨rfl, (bd_bl b).x.mono (by decide) (by decide)⟩
def smallB (i : Int) : Bool := decide (i.natAbs < 10 ^ 48)
theorem Od.tups {xs : List Int} (h : (xs.all smallB && decide (xs.length ≤ 5)) = true) : Od (.tup (nums xs)) := by
  rw [Bool.and_eq_true, decide_eq_true_eq] at h
  refine ⟨rfl, (bdX_tup (n := 49) (k := 0) (m := 5) (fun d hd => ?_) (by rw [nums_len]; exact h.2)).mono (by decide) (by decide)⟩
  obtain ⟨x, hx, rfl⟩ := mem_nums hd
  exact (bd_int (of_decide_eq_true (List.all_eq_true.mp h.1 x hx))).x
def isIntegerB (lo hi : Int) : D → Bool
  | .int i => decide (lo ≤ i) && decide (i ≤ hi)
  | _ => false
def sp_is_integer : ASp := fun ds M Q _ => ∃ (d : D) (lo hi : Int), ds = [d, .int lo, .int hi] ∧ d.hasT = true ∧ Q (.bl (isIntegerB lo hi d)) M
theorem sp_is_integer_mono : sp_is_integer.Mono := fun ds M Q Q' E E' hq he ⟨d, lo, hi, a, b, c⟩ => ⟨d, lo, hi, a, b, hq _ _ c⟩
theorem sp_is_integer_len (ds : List D) (M : Sto) (Q : D → Sto → Prop) (E : Exn → Sto → Prop) (h : sp_is_integer ds M Q E) : ds.length = 3 := by obtain ⟨_, _, _, rfl, _⟩ := h; rfl
theorem at_integer {d : D} {lo hi : Int} {M : Sto} {Q : D → Sto → Prop} {E : Exn → Sto → Prop} (h : d.hasT = true) (q : Q (.bl (isIntegerB lo hi d)) M) : sp_is_integer [d, .int lo, .int hi] M Q E := ⟨d, lo, hi, rfl, h, q⟩
def m_is_integer : MS := (sRet (mAndV (mCB isiK (mvCons (mV (mVar 0)) (mvCons (mV (mC (.ty "int"))) mvNil))) (mAndV (mNotV (mCB isiK (mvCons (mV (mVar 0)) (mvCons (mV (mC (.ty "bool"))) mvNil)))) (mChain leK leK (mV (mVar 1)) (mV (mVar 0)) (mV (mVar 2))))))
theorem m_is_integer_eq (A : AEnds) (en : En) : m_is_integer A en = (sRet (mAndV (mCB isiK (mvCons (mV (mVar 0)) (mvCons (mV (mC (.ty "int"))) mvNil))) (mAndV (mNotV (mCB isiK (mvCons (mV (mVar 0)) (mvCons (mV (mC (.ty "bool"))) mvNil)))) (mChain leK leK (mV (mVar 1)) (mV (mVar 0)) (mV (mVar 2)))))) A en := rfl
theorem pure_is_integer (ds : List D) (M : Sto) (Q : D → Sto → Prop) (E : Exn → Sto → Prop) (h : sp_is_integer ds M Q E) : m_is_integer (defEnds Q fun _ _ => False) ⟨startA 3 ds, M⟩ := by
  obtain ⟨d, lo, hi, rfl, hd, q⟩ := h
  show m_is_integer _ ⟨[.v (d), .v (.int lo), .v (.int hi)], _⟩
  dsimp only [m_is_integer_eq]
  sleep 6
  refine isi_int hd ?_
  cases d with
  | int i =>
    dsimp only [D.isInt]
    sleep 6
    refine isi_bool rfl ?_
    dsimp only [D.isBl]
    sleep 6
    dsimp only [isIntegerB] at q
    refine ite2 (fun h => ?_) (fun h => ?_)
    · rw [h, Bool.true_and] at q
      exact q
    · have e : decide (lo ≤ i) = false := by simpa using h
      rw [e, Bool.false_and] at q
      exact q
  | bl b =>
    dsimp only [D.isInt]
    sleep 6
    refine isi_bool rfl ?_
    dsimp only [D.isBl]
    sleep 6
    exact q
  | ref _ => cases hd
  | ty _ => cases hd
  | scr _ => cases hd
  | _ =>
    dsimp only [D.isInt]
    sleep 6
    exact q
/-- plain, and so is what stands in it -/
def VOk : D → Prop
  | .tup xs => ∀ x ∈ xs, x.hasT = true
  | d => d.hasT = true
theorem VOk.ty {d : D} (h : VOk d) : d.hasT = true := by cases d <;> first | rfl | exact h
/-- plain values; a tuple's or list's items are odd, at most L of them -/
def Vl (L : Nat) : D → Prop
  | .tup xs => xs.length ≤ L ∧ ∀ x ∈ xs, Od x
  | .lst xs => xs.length ≤ L ∧ ∀ x ∈ xs, Od x
  | d => Od d
theorem Vl.ok {L : Nat} {d : D} (h : Vl L d) : VOk d := by
  cases d with
  | tup xs => exact fun x hx => (h.2 x hx).ty
  | lst xs => rfl
  | _ => exact h.ty
theorem Vl.bd {L : Nat} {d : D} (h : Vl L d) : BdX (L * 602 + 700) 5 d := by
  cases d with
  | tup xs => exact (bdX_tup (fun x hx => (h.2 x hx).bd) h.1).mono (by omega) (Nat.le_refl _)
  | lst xs => exact (bdX_lst (fun x hx => (h.2 x hx).bd) h.1).mono (by omega) (Nat.le_refl _)
  | _ => exact (Od.bd h).mono (by omega) (by decide)
theorem Vl.mono {L L' : Nat} {d : D} (h : Vl L d) (hl : L ≤ L') : Vl L' d := by
  cases d with
  | tup xs => exact ⟨Nat.le_trans h.1 hl, h.2⟩
  | lst xs => exact ⟨Nat.le_trans h.1 hl, h.2⟩
  | _ => exact h
end LP
namespace LP
open PySem PySem.Spec L2
open PyProof.Rows hiding St
local macro_rules | `(tactic| sleep 1) => `(tactic| set_option simprocs false in dsimp only [lcR, mLc, mLr1, mLr2, gN, gT, gsCons, gsNil, tupD, mB, mOp, mOpF, mV, mO, mL, mCall, mCons, mNil, mvCons, mvNil, mCB, mCF, mVar_dat, oV_v, oV_ol, oV_od, mC, mIf, mAnd, mOr, mNot, mAndV, mOrV, mNotV, mTup, mLst, mNeg, mYes, mSl, mPart, mNo, mSeq, mR1, mR2, mR3, mEnumS, mZip, mIdx, mStep, mApp, mPop, mPopAt, mExt, mChain, pV, pO, pNil, sSeq, sFor, sSet, sSetO, sDrop, sRet, sRetN, sIf, sNext, sAug, sSub, sAsg, sPar2, sPar3, sTupN, LP.putAll, It1.sl, p2, p3, gt, List.set, wipeE, rq2, rq1, asB, LP.intD, i1, i2, d2, one, seqD, addK, subK, ltK, leK, gtK, geK, lenK, slD, defEnds, cns, slK, min2K, max2K, intK, mStar, olD, isOl, seq1, lst1, tupleK])
local macro_rules | `(tactic| sleep 2) => `(tactic| (simp [keepO]; try simp [Sl.own]))
local macro_rules | `(tactic| sleep 3) => `(tactic| (rw [sizeLine_is]; simp only [List.length_map, List.length_append, List.length_cons, List.length_nil, List.length_set, nums_len, cls_len, rng_len, List.length_range, List.length_replicate]; omega))
local macro_rules | `(tactic| sleep 7) => `(tactic| simp only [Bool.false_eq_true, Bool.not_true, Bool.not_false, ↓reduceIte, if_true, if_false])
local macro_rules | `(tactic| sleep 6) => `(tactic| (sleep 1; try simp only [exSome, exOl, true_and, Bool.false_eq_true, Bool.not_true, Bool.not_false, ↓reduceIte, if_true, if_false]; try sleep 1))
local macro_rules | `(tactic| sleep 8) => `(tactic| repeat (refine szAnd (by (try simp only [List.length_cons, List.length_nil, List.length_append, List.length_map, List.length_take, List.length_drop, List.length_reverse, nums_len, cls_len, nats_len']); omega) ?_))
theorem any_ints (x : Int) : ∀ xs : List Int, ((nums xs).any fun e => e.eqf (.int x)) = decide (x ∈ xs)
  | [] => rfl
  | y :: ys => by
    show ((D.int y).eqf (.int x) || (nums ys).any _) = _
    rw [any_ints x ys]
    have e : (D.int y).eqf (.int x) = decide (y = x) := rfl
    rw [e]
    by_cases h : y = x
    · subst h; simp
    · have : ¬ x = y := fun z => h z.symm
      simp [h, this]
theorem flat_nums (xs : List Int) : (nums xs).all D.flat = true := by
  rw [List.all_eq_true]
  intro d hd
  obtain ⟨y, _, rfl⟩ := mem_nums hd
  rfl
theorem in_lst {neg : Bool} {x : Int} {xs : List Int} {k : D → Prop} (q : k (.bl (if neg then !(decide (x ∈ xs)) else decide (x ∈ xs)))) : in2 neg (.int x) (.lst (nums xs)) k := by
  refine .inl ⟨rfl, ?_⟩
  dsimp only [seqD]
  refine ⟨flat_nums xs, ?_⟩
  rw [any_ints]
  exact q
theorem in_tup {neg : Bool} {x : Int} {xs : List Int} {k : D → Prop} (q : k (.bl (if neg then !(decide (x ∈ xs)) else decide (x ∈ xs)))) : in2 neg (.int x) (.tup (nums xs)) k := by
  refine .inl ⟨rfl, ?_⟩
  dsimp only [seqD]
  refine ⟨flat_nums xs, ?_⟩
  rw [any_ints]
  exact q
/-- the open places behind the first p ones, by the distances -/
def openF : List Int → Nat → List Int → Option (List Int)
  | acc, _, [] => some acc
  | acc, p, d :: ds => if d = 0 then openF [(p : Int)] (p + 1) ds else if (p : Int) - d ∈ acc then openF (acc.take (acc.idxOf ((p : Int) - d) + 1) ++ [(p : Int)]) (p + 1) ds else none
def optL : Option (List Int) → D
  | some a => .lst (nums a)
  | none => .non
def sp_open_after : ASp := fun ds M Q _ => ∃ v : List Int, ds = [.tup (nums v)] ∧ v.length ≤ 10000 ∧ Q (optL (openF [] 0 v)) M
theorem sp_open_after_mono : sp_open_after.Mono := fun ds M Q Q' E E' hq he ⟨v, a, b, c⟩ => ⟨v, a, b, hq _ _ c⟩
theorem sp_open_after_len (ds : List D) (M : Sto) (Q : D → Sto → Prop) (E : Exn → Sto → Prop) (h : sp_open_after ds M Q E) : ds.length = 1 := by obtain ⟨_, rfl, _⟩ := h; rfl
theorem at_open_after {v : List Int} {M : Sto} {Q : D → Sto → Prop} {E : Exn → Sto → Prop} (h : v.length ≤ 10000) (q : Q (optL (openF [] 0 v)) M) : sp_open_after [.tup (nums v)] M Q E := ⟨v, rfl, h, q⟩
def open_after_f0 : MS := (sSeq (sSet 4 (mOp subK (mV (mVar 2)) (mV (mVar 3)))) (sIf (mB (mOp eqK (mV (mVar 3)) (mV (mC (.int 0))))) (sSet 1 (mL (mLst (mCons (mVar 2) mNil)))) (sIf (mB (mOp (in2 false) (mV (mVar 4)) (mV (mVar 1)))) (sSet 1 (mL (mLst (mStar (mV (mSl (mV (mVar 1)) mNo (mPart (mOp addK (mV (mIdx (mV (mVar 1)) (mVar 4))) (mV (mC (.int 1))))))) (mCons (mVar 2) mNil))))) (sRet (mC .non)))))
theorem open_after_f0_eq (A : AEnds) (en : En) : open_after_f0 A en = (sSeq (sSet 4 (mOp subK (mV (mVar 2)) (mV (mVar 3)))) (sIf (mB (mOp eqK (mV (mVar 3)) (mV (mC (.int 0))))) (sSet 1 (mL (mLst (mCons (mVar 2) mNil)))) (sIf (mB (mOp (in2 false) (mV (mVar 4)) (mV (mVar 1)))) (sSet 1 (mL (mLst (mStar (mV (mSl (mV (mVar 1)) mNo (mPart (mOp addK (mV (mIdx (mV (mVar 1)) (mVar 4))) (mV (mC (.int 1))))))) (mCons (mVar 2) mNil))))) (sRet (mC .non))))) A en := rfl
def m_open_after : MS := (sSeq (sSet 1 (mL (mLst mNil))) (sSeq (sFor (mEnumS (mCons (mVar 0) mNil)) (gT 2 (gsCons (gN 2) (gsCons (gN 3) gsNil))) open_after_f0) (sRet (mVar 1))))
theorem m_open_after_eq (A : AEnds) (en : En) : m_open_after A en = (sSeq (sSet 1 (mL (mLst mNil))) (sSeq (sFor (mEnumS (mCons (mVar 0) mNil)) (gT 2 (gsCons (gN 2) (gsCons (gN 3) gsNil))) open_after_f0) (sRet (mVar 1)))) A en := rfl
theorem loop_open {M : Sto} {A : AEnds} {s0 : Sl} (res : Option (List Int)) (hA : ∀ a s2 s3 s4, res = some a → A.nx ⟨[s0, .v (.lst (nums a)), s2, s3, s4], M⟩) (hR : res = none → ∀ sl, A.rt .non ⟨sl, M⟩) : ∀ (v acc : List Int) (p : Nat) (s2 s3 s4 : Sl), acc.length ≤ p → p + v.length ≤ 10000 → openF acc p v = res →
    forR (gT 2 (gsCons (gN 2) (gsCons (gN 3) gsNil))) open_after_f0 A (enumD p (nums v)) ⟨[s0, .v (.lst (nums acc)), s2, s3, s4], M⟩
  | [], acc, p, s2, s3, s4, ha, hp, hr => hA acc _ _ _ hr.symm
  | d :: ds, acc, p, s2, s3, s4, ha, hp, hr => by
    rw [List.length_cons] at hp
    show forR _ open_after_f0 A (.tup [.int (p : Nat), .int d] :: enumD (p + 1) (nums ds)) _
    dsimp only [forR, open_after_f0_eq]
    sleep 6
    refine ⟨rfl, ?_⟩
    unfold openF at hr
    dsimp only [eqK]
    by_cases h0 : d = 0
    · rw [if_pos h0] at hr
      rw [decide_eq_true h0]
      sleep 6
      exact ⟨size1, loop_open res hA hR ds [(p : Int)] (p + 1) _ _ _ (by simp) (by omega) hr⟩
    · rw [if_neg h0] at hr
      rw [decide_eq_false h0]
      sleep 6
      refine in_lst ?_
      by_cases h1 : (p : Int) - d ∈ acc
      · rw [if_pos h1] at hr
        rw [decide_eq_true h1]
        sleep 6
        refine ⟨_, _, rfl, .inr rfl, acc, dints acc, h1, rfl, ?_⟩
        have e : cutL (nums acc) none (some ((acc.idxOf ((p : Int) - d) : Int) + 1)) ++ [D.int p] = nums (acc.take (acc.idxOf ((p : Int) - d) + 1) ++ [(p : Int)]) := by
          have := cut_to (nums acc) (acc.idxOf ((p : Int) - d) + 1)
          rw [Int.natCast_add] at this
          rw [show ((acc.idxOf ((p : Int) - d) : Int) + 1) = ((acc.idxOf ((p : Int) - d) : Int) + ((1 : Nat) : Int)) from rfl, this, nums_app]
          unfold nums
          rw [List.map_take]
          rfl
        rw [e]
        have hz : (acc.take (acc.idxOf ((p : Int) - d) + 1) ++ [(p : Int)]).length ≤ p + 1 := by
          rw [List.length_append, List.length_take, List.length_singleton]
          omega
        exact ⟨szOk (by rw [nums_len]; omega), loop_open res hA hR ds _ (p + 1) _ _ _ hz (by omega) hr⟩
      · rw [if_neg h1] at hr
        rw [decide_eq_false h1]
        sleep 6
        exact hR hr.symm _
theorem pure_open_after (ds : List D) (M : Sto) (Q : D → Sto → Prop) (E : Exn → Sto → Prop) (h : sp_open_after ds M Q E) : m_open_after (defEnds Q fun _ _ => False) ⟨startA 5 ds, M⟩ := by
  obtain ⟨v, rfl, hl, q⟩ := h
  show m_open_after _ ⟨[.v (.tup (nums v)), .un, .un, .un, .un], _⟩
  dsimp only [m_open_after_eq]
  sleep 6
  refine ⟨Nat.zero_le _, ?_⟩
  refine loop_open (openF [] 0 v) (fun a s2 s3 s4 e => ?_) (fun e sl => ?_) v [] 0 _ _ _ (Nat.le_refl 0) (by omega) rfl
  · rw [e] at q
    sleep 6
    exact q
  · rw [e] at q
    exact q
theorem lcR_map {α : Type} {g : MG} {tt : MT} {te : ME} {vs : List Nat} {sl : List Sl} {M : Sto} {Q : List D → En → Prop} (f : α → D) (p : α → Bool) (h : α → D) (ev : α → List Sl) : ∀ (l : List α) (acc : List D), acc.length + l.length ≤ sizeLine →
    (∀ a ∈ l, ∀ C : En → Prop, C ⟨ev a, M⟩ → g (f a) ⟨wipeE sl vs, M⟩ C) → (∀ a ∈ l, ∀ C : Bool → En → Prop, C (p a) ⟨ev a, M⟩ → tt no ⟨ev a, M⟩ C) → (∀ a ∈ l, p a = true → ∀ C : D → En → Prop, C (h a) ⟨ev a, M⟩ → te no ⟨ev a, M⟩ C) →
    (∀ a ∈ l, keepO vs 0 sl (ev a)) → Q (acc ++ (l.filter p).map h) ⟨sl, M⟩ → lcR g tt te vs (l.map f) acc ⟨sl, M⟩ Q
  | [], acc, _, _, _, _, _, q => by
    rw [List.filter_nil, List.map_nil, List.append_nil] at q
    exact q
  | d :: ds, acc, hz, hg, ht, he, hk, q => by
    have m : d ∈ d :: ds := List.mem_cons_self ..
    have up : ∀ {x}, x ∈ ds → x ∈ d :: ds := fun z => List.mem_cons_of_mem _ z
    rw [List.length_cons] at hz
    rw [List.map_cons]
    refine hg d m _ (ht d m _ ?_)
    cases e : p d with
    | true =>
      rw [if_pos rfl]
      refine he d m e _ ⟨hk d m, by omega, ?_⟩
      refine lcR_map f p h ev ds _ (by rw [List.length_append, List.length_singleton]; omega) (fun x hx => hg x (up hx)) (fun x hx => ht x (up hx)) (fun x hx => he x (up hx)) (fun x hx => hk x (up hx)) ?_
      rw [List.filter_cons, e, if_pos rfl, List.map_cons] at q
      rw [List.append_assoc]
      exact q
    | false =>
      rw [if_neg Bool.false_ne_true]
      refine ⟨hk d m, ?_⟩
      refine lcR_map f p h ev ds _ (by omega) (fun x hx => hg x (up hx)) (fun x hx => ht x (up hx)) (fun x hx => he x (up hx)) (fun x hx => hk x (up hx)) ?_
      rw [List.filter_cons, e, if_neg Bool.false_ne_true] at q
      exact q
theorem enum_at : ∀ (xs : List D) (i : Nat) (k : Nat), (enumD i xs)[k]? = xs[k]?.map fun x => .tup [.int ((i + k : Nat)), x]
  | [], i, k => rfl
  | x :: xs, i, 0 => rfl
  | x :: xs, i, k + 1 => by
    show (enumD (i + 1) xs)[k]? = _
    rw [enum_at xs (i + 1) k, List.getElem?_cons_succ]
    congr 2
    funext x
    rw [show i + 1 + k = i + (k + 1) by omega]
def fallsL (v : List Int) : List Int := ((List.range v.length).filter fun k => decide (v.getD k 0 = 0)).map fun (k : Nat) => (k : Int)
def gapF (place : Int) : Option Int → Int
  | some t => place - t
  | none => 0
def joinF (n1 : Nat) : List Int → List Int → List (Option Int) → List Int
  | f, k :: ks, t :: ts => joinF n1 (f.set ((n1 : Int) + k).toNat (gapF ((n1 : Int) + k) t)) ks ts
  | f, _, _ => f
def joinL (v1 v2 : List Int) (ts : List (Option Int)) : List Int := joinF v1.length (v1 ++ v2) (fallsL v2) ts
def cutShL (v : List Int) (f n : Nat) : List Int := (List.range n).map fun k => if isHead v f (f + k) = true then 0 else v.getD (f + k) 0
/-- the targets by which a shape is the join of its first n places and the others -/
def tgsL (v : List Int) (n : Nat) : List (Option Int) := (fallsL (cutShL v n (v.length - n))).map fun k => if v.getD (n + k.toNat) 0 > 0 then some ((n : Int) + k - v.getD (n + k.toNat) 0) else none
end LP
namespace LP
open PySem PySem.Spec L2
open PyProof.Rows hiding St
local macro_rules | `(tactic| sleep 1) => `(tactic| set_option simprocs false in dsimp only [lcR, mLc, mLr1, mLr2, gN, gT, gsCons, gsNil, tupD, mB, mOp, mOpF, mV, mO, mL, mCall, mCons, mNil, mvCons, mvNil, mCB, mCF, mVar_dat, oV_v, oV_ol, oV_od, mC, mIf, mAnd, mOr, mNot, mAndV, mOrV, mNotV, mTup, mLst, mNeg, mYes, mSl, mPart, mNo, mSeq, mR1, mR2, mR3, mEnumS, mZip, mIdx, mStep, mApp, mPop, mPopAt, mExt, mChain, pV, pO, pNil, sSeq, sFor, sSet, sSetO, sDrop, sRet, sRetN, sIf, sNext, sAug, sSub, sAsg, sPar2, sPar3, sTupN, LP.putAll, It1.sl, p2, p3, gt, List.set, wipeE, rq2, rq1, asB, LP.intD, i1, i2, d2, one, seqD, addK, subK, ltK, leK, gtK, geK, lenK, slD, defEnds, cns, slK, min2K, max2K, intK, mStar, olD, isOl, seq1, lst1, tupleK])
local macro_rules | `(tactic| sleep 2) => `(tactic| (simp [keepO]; try simp [Sl.own]))
local macro_rules | `(tactic| sleep 3) => `(tactic| (rw [sizeLine_is]; simp only [List.length_map, List.length_append, List.length_cons, List.length_nil, List.length_set, nums_len, cls_len, rng_len, List.length_range, List.length_replicate]; omega))
local macro_rules | `(tactic| sleep 7) => `(tactic| simp only [Bool.false_eq_true, Bool.not_true, Bool.not_false, ↓reduceIte, if_true, if_false])
local macro_rules | `(tactic| sleep 6) => `(tactic| (sleep 1; try simp only [exSome, exOl, true_and, Bool.false_eq_true, Bool.not_true, Bool.not_false, ↓reduceIte, if_true, if_false]; try sleep 1))
local macro_rules | `(tactic| sleep 8) => `(tactic| repeat (refine szAnd (by (try simp only [List.length_cons, List.length_nil, List.length_append, List.length_map, List.length_take, List.length_drop, List.length_reverse, nums_len, cls_len, nats_len']); omega) ?_))
def openB (v : List Int) (i p : Nat) : Bool := (List.range i).all fun k => decide (k ≤ p) || (!decide (v.getD k 0 = 0) && decide ((p : Int) ≤ (k : Int) - v.getD k 0))
def opensN (v : List Int) (i : Nat) : List Nat := (List.range i).filter (openB v i)
def opensL (v : List Int) (i : Nat) : List Int := (opensN v i).map fun (k : Nat) => (k : Int)
theorem openB_iff {v : List Int} {i p : Nat} : openB v i p = true ↔ ∀ k, p < k → k < i → v.getD k 0 ≠ 0 ∧ (p : Int) ≤ (k : Int) - v.getD k 0 := by
  unfold openB
  rw [List.all_eq_true]
  constructor
  · intro h k h1 h2
    have := h k (List.mem_range.mpr h2)
    rw [Bool.or_eq_true, Bool.and_eq_true] at this
    rcases this with e | ⟨a, b⟩
    · have := of_decide_eq_true e; omega
    · refine ⟨?_, of_decide_eq_true b⟩
      intro z
      rw [decide_eq_true z] at a
      cases a
  · intro h k hk
    have hk := List.mem_range.mp hk
    by_cases e : k ≤ p
    · rw [decide_eq_true e]; rfl
    · obtain ⟨a, b⟩ := h k (by omega) hk
      rw [decide_eq_false a, decide_eq_true b, Bool.or_eq_true]
      exact .inr rfl
theorem mem_opens {v : List Int} {i : Nat} {t : Int} : t ∈ opensL v i ↔ ∃ p : Nat, t = (p : Int) ∧ p < i ∧ ∀ k, p < k → k < i → v.getD k 0 ≠ 0 ∧ (p : Int) ≤ (k : Int) - v.getD k 0 := by
  unfold opensL opensN
  rw [List.mem_map]
  constructor
  · rintro ⟨p, hp, rfl⟩
    obtain ⟨a, b⟩ := List.mem_filter.mp hp
    exact ⟨p, rfl, List.mem_range.mp a, openB_iff.mp b⟩
  · rintro ⟨p, rfl, a, b⟩
    exact ⟨p, List.mem_filter.mpr ⟨List.mem_range.mpr a, openB_iff.mpr b⟩, rfl⟩
theorem opens_up (v : List Int) (i : Nat) : (opensL v i).Pairwise (· < ·) := by
  unfold opensL opensN
  rw [List.pairwise_map]
  refine List.Pairwise.filter _ ?_
  refine List.Pairwise.imp ?_ List.pairwise_lt_range
  intro a b h
  omega
theorem take_idx : ∀ (L : List Int) (t : Int), L.Pairwise (· < ·) → t ∈ L → L.take (L.idxOf t + 1) = L.filter fun x => decide (x ≤ t)
  | [], t, _, h => by cases h
  | x :: xs, t, hp, h => by
    obtain ⟨h1, h2⟩ := List.pairwise_cons.mp hp
    by_cases e : x = t
    · subst e
      rw [List.idxOf_cons_self, List.filter_cons, if_pos (decide_eq_true (Int.le_refl x))]
      rw [List.filter_eq_nil_iff.mpr]
      · rfl
      · intro y hy
        have := h1 y hy
        rw [decide_eq_true_eq]
        omega
    · have hm : t ∈ xs := by
        rcases List.mem_cons.mp h with z | z
        · exact absurd z.symm e
        · exact z
      have hx := h1 t hm
      have hi : (x :: xs).idxOf t = xs.idxOf t + 1 := by
        rw [List.idxOf_cons]
        have : (x == t) = false := by simpa using e
        rw [this]
        rfl
      rw [hi, List.filter_cons, if_pos (decide_eq_true (by omega)), ← take_idx xs t h2 hm, List.take_succ_cons]
theorem opens_succ (v : List Int) (p : Nat) : opensL v (p + 1) = (if v.getD p 0 = 0 then [] else (opensL v p).filter fun x => decide (x ≤ (p : Int) - v.getD p 0)) ++ [(p : Int)] := by
  unfold opensL opensN
  rw [List.range_succ, List.filter_append, List.map_append]
  congr 1
  · split
    · rename_i e
      rw [List.map_eq_nil_iff, List.filter_eq_nil_iff]
      intro q hq h
      have := List.mem_range.mp hq
      exact (openB_iff.mp h p this (Nat.lt_succ_self p)).1 e
    · rename_i e
      rw [List.filter_map, List.filter_filter]
      congr 1
      apply List.filter_congr
      intro q hq
      have hq := List.mem_range.mp hq
      rw [Bool.eq_iff_iff, Bool.and_eq_true, openB_iff, openB_iff]
      constructor
      · intro h
        exact ⟨decide_eq_true (h p hq (Nat.lt_succ_self p)).2, fun k h1 h2 => h k h1 (by omega)⟩
      · rintro ⟨a, b⟩ k h1 h2
        by_cases z : k = p
        · subst z
          exact ⟨e, of_decide_eq_true a⟩
        · exact b k h1 (by omega)
  · have : openB v (p + 1) p = true := openB_iff.mpr fun k h1 h2 => by omega
    rw [List.filter_cons, if_pos this]
    rfl
/-- each distance leads to an open place -/
def okAt (v : List Int) (q : Nat) : Bool := decide (v.getD q 0 = 0) || decide ((q : Int) - v.getD q 0 ∈ opensL v q)
def okFrom (v : List Int) (p : Nat) : Bool := (List.range v.length).all fun q => decide (q < p) || okAt v q
theorem okFrom_iff {v : List Int} {p : Nat} : okFrom v p = true ↔ ∀ q, p ≤ q → q < v.length → okAt v q = true := by
  unfold okFrom
  rw [List.all_eq_true]
  constructor
  · intro h q h1 h2
    have := h q (List.mem_range.mpr h2)
    rw [decide_eq_false (by omega), Bool.false_or] at this
    exact this
  · intro h q hq
    have hq := List.mem_range.mp hq
    by_cases e : q < p
    · rw [decide_eq_true e]; rfl
    · rw [h q (by omega) hq, Bool.or_true]
theorem openF_at (v : List Int) : ∀ (rest : List Int) (p : Nat), v.drop p = rest → p + rest.length = v.length →
    openF (opensL v p) p rest = if okFrom v p = true then some (opensL v v.length) else none
  | [], p, hd, hl => by
    have : p = v.length := by simpa using hl
    subst this
    unfold openF
    rw [if_pos (okFrom_iff.mpr fun q h1 h2 => by omega)]
  | d :: ds, p, hd, hl => by
    rw [List.length_cons] at hl
    have hp : p < v.length := by omega
    have hg : v.getD p 0 = d := by
      have : (v.drop p)[0]? = some d := by rw [hd]; rfl
      rw [List.getElem?_drop] at this
      rw [List.getD_eq_getElem?_getD]
      rw [show p + 0 = p from rfl] at this
      rw [this]; rfl
    have hdrop : v.drop (p + 1) = ds := by rw [← List.drop_drop, hd]; rfl
    have ih := openF_at v ds (p + 1) hdrop (by omega)
    unfold openF
    have split : okFrom v p = true ↔ okAt v p = true ∧ okFrom v (p + 1) = true := by
      rw [okFrom_iff, okFrom_iff]
      constructor
      · exact fun h => ⟨h p (Nat.le_refl p) hp, fun q h1 h2 => h q (by omega) h2⟩
      · rintro ⟨a, b⟩ q h1 h2
        by_cases e : q = p
        · subst e; exact a
        · exact b q (by omega) h2
    by_cases h0 : d = 0
    · rw [if_pos h0]
      have e : opensL v (p + 1) = [(p : Int)] := by rw [opens_succ, hg, if_pos h0]; rfl
      rw [← e, ih]
      have : okAt v p = true := by unfold okAt; rw [hg, decide_eq_true h0]; rfl
      simp only [split, this, true_and]
    · rw [if_neg h0]
      by_cases h1 : (p : Int) - d ∈ opensL v p
      · rw [if_pos h1, take_idx _ _ (opens_up v p) h1]
        have e : opensL v (p + 1) = (opensL v p).filter (fun x => decide (x ≤ (p : Int) - d)) ++ [(p : Int)] := by rw [opens_succ, hg, if_neg h0]
        rw [← e, ih]
        have : okAt v p = true := by unfold okAt; rw [hg, decide_eq_true h1, Bool.or_true]
        simp only [split, this, true_and]
      · rw [if_neg h1, if_neg]
        intro z
        have := (split.mp z).1
        unfold okAt at this
        rw [hg, decide_eq_false h0, decide_eq_false h1] at this
        cases this
theorem openF_eq (v : List Int) : openF [] 0 v = if okFrom v 0 = true then some (opensL v v.length) else none := by
  have := openF_at v v 0 rfl (Nat.zero_add _)
  have e : opensL v 0 = [] := rfl
  rw [e] at this
  exact this
theorem dist_last (row : List Int) (p : Nat) : isLast row p (row.getD p 0) ((List.range p).filter fun j => decide (row.getD j 0 ≤ row.getD p 0)).getLast? := last_filter row _ p
theorem shape_ok (row : List Int) : ∀ q, q < (shapeL row).length → okAt (shapeL row) q = true := by
  intro q hq
  rw [shapeL_len] at hq
  unfold okAt
  rw [shapeL_getD hq]
  have h := dist_last row q
  rw [distL_of h]
  generalize ((List.range q).filter fun j => decide (row.getD j 0 ≤ row.getD q 0)).getLast? = o at h
  cases o with
  | none => rfl
  | some j =>
    obtain ⟨h1, h2, h3⟩ := h
    rw [Bool.or_eq_true]
    right
    rw [decide_eq_true_eq, mem_opens]
    refine ⟨j, by show (q : Int) - ((q : Int) - j) = j; omega, h1, fun k k1 k2 => ?_⟩
    have hk := h3 k k1 k2
    have h := dist_last row k
    rw [shapeL_getD (by omega), distL_of h]
    generalize ((List.range k).filter fun j => decide (row.getD j 0 ≤ row.getD k 0)).getLast? = o at h
    cases o with
    | none => have := h j k1; omega
    | some i =>
      obtain ⟨i1, i2, i3⟩ := h
      have : j ≤ i := by
        apply Classical.byContradiction
        intro z
        have := i3 j (by omega) k1
        omega
      show (k : Int) - i ≠ 0 ∧ (j : Int) ≤ k - (k - i)
      omega
theorem win_getD (row : List Int) (f m k : Nat) (h : k < m) : ((row.drop f).take m).getD k 0 = row.getD (f + k) 0 := by
  rw [List.getD_eq_getElem?_getD, List.getD_eq_getElem?_getD, List.getElem?_take, if_pos h, List.getElem?_drop]
theorem win_len {row : List Int} {f m : Nat} (h : f + m ≤ row.length) : ((row.drop f).take m).length = m := by
  rw [List.length_take, List.length_drop]; omega
theorem cut_shape_win {row : List Int} {f m : Nat} (h : f + m ≤ row.length) : cutShL (shapeL row) f m = shapeL ((row.drop f).take m) := by
  unfold cutShL
  show _ = (List.range ((row.drop f).take m).length).map (distL ((row.drop f).take m))
  rw [win_len h]
  apply List.map_congr_left
  intro k hk
  have hk := List.mem_range.mp hk
  have hw := win_getD row f m
  have hd := dist_last row (f + k)
  have key : ∀ o, isLast ((row.drop f).take m) k (((row.drop f).take m).getD k 0) o → distL ((row.drop f).take m) k = lastD k o := fun o h => distL_of h
  unfold isHead
  rw [shapeL_getD (by omega), distL_of hd]
  generalize ((List.range (f + k)).filter fun j => decide (row.getD j 0 ≤ row.getD (f + k) 0)).getLast? = o at hd
  cases o with
  | none =>
    show (if (decide ((0 : Int) = 0) || _) = true then (0 : Int) else _) = _
    rw [decide_eq_true rfl, Bool.true_or, if_pos rfl]
    refine (key none ?_).symm
    intro j hj
    rw [hw k hk, hw j (by omega)]
    exact hd (f + j) (by omega)
  | some i =>
    obtain ⟨h1, h2, h3⟩ := hd
    show (if (decide (((f + k : Nat) : Int) - i = 0) || decide (((f + k : Nat) : Int) - (((f + k : Nat) : Int) - i) < f)) = true then (0 : Int) else ((f + k : Nat) : Int) - i) = _
    rw [decide_eq_false (by omega), Bool.false_or]
    by_cases e : i < f
    · rw [if_pos (decide_eq_true (by omega))]
      refine (key none ?_).symm
      intro j hj
      rw [hw k hk, hw j (by omega)]
      exact h3 (f + j) (by omega) (by omega)
    · rw [if_neg (fun z => e (by have := of_decide_eq_true z; omega))]
      rw [key (some (i - f)) ⟨by omega, by rw [hw k hk, hw (i - f) (by omega), show f + (i - f) = i by omega]; exact h2, fun j h4 h5 => by
        rw [hw k hk, hw j (by omega)]
        exact h3 (f + j) (by omega) (by omega)⟩]
      show ((f + k : Nat) : Int) - i = (k : Int) - ((i - f : Nat) : Int)
      omega
theorem take_shape {row : List Int} {m : Nat} (h : m ≤ row.length) : (shapeL row).take m = shapeL (row.take m) := by
  unfold shapeL
  rw [← List.map_take, List.take_range, List.length_take]
  apply List.map_congr_left
  intro k hk
  have hk := List.mem_range.mp hk
  have hw : ∀ j, j < m → (row.take m).getD j 0 = row.getD j 0 := fun j hj => by
    rw [List.getD_eq_getElem?_getD, List.getD_eq_getElem?_getD, List.getElem?_take, if_pos hj]
  have hd := dist_last row k
  rw [distL_of hd]
  generalize ((List.range k).filter fun j => decide (row.getD j 0 ≤ row.getD k 0)).getLast? = o at hd
  refine (distL_of ?_).symm
  cases o with
  | none =>
    intro j hj
    rw [hw k (by omega), hw j (by omega)]
    exact hd j hj
  | some i =>
    obtain ⟨h1, h2, h3⟩ := hd
    refine ⟨h1, ?_, fun j a b => ?_⟩
    · rw [hw k (by omega), hw i (by omega)]; exact h2
    · rw [hw k (by omega), hw j (by omega)]; exact h3 j a b
def fF : Nat → List Int → List Int
  | _, [] => []
  | i, g :: gs => if g = 0 then (i : Int) :: fF (i + 1) gs else fF (i + 1) gs
theorem fF_eq : ∀ (v : List Int) (i : Nat), fF i v = ((List.range v.length).filter fun k => decide (v.getD k 0 = 0)).map fun (k : Nat) => ((i + k : Nat) : Int)
  | [], i => rfl
  | g :: gs, i => by
    unfold fF
    rw [List.length_cons, List.range_succ_eq_map, List.filter_cons, fF_eq gs (i + 1)]
    have e : ((List.map Nat.succ (List.range gs.length)).filter fun k => decide ((g :: gs).getD k 0 = 0)).map (fun (k : Nat) => ((i + k : Nat) : Int)) = ((List.range gs.length).filter fun k => decide (gs.getD k 0 = 0)).map fun (k : Nat) => ((i + 1 + k : Nat) : Int) := by
      rw [List.filter_map, List.map_map]
      congr 1
      funext k
      show ((i + (k + 1) : Nat) : Int) = _
      rw [show i + (k + 1) = i + 1 + k by omega]
    by_cases h : g = 0
    · rw [if_pos h, if_pos (show decide ((g :: gs).getD 0 0 = 0) = true from decide_eq_true h), List.map_cons, e]
      rfl
    · rw [if_neg h, if_neg (show ¬ decide ((g :: gs).getD 0 0 = 0) = true from fun z => h (of_decide_eq_true z)), e]
theorem falls_eq (v : List Int) : fallsL v = fF 0 v := by
  rw [fF_eq]
  unfold fallsL
  simp only [Nat.zero_add]
/-- the second row's distances, each fall's one changed -/
def jointF (n1 : Nat) : Nat → List Int → List (Option Int) → List Int
  | _, [], _ => []
  | p, g :: gs, ts => if g = 0 then match ts with
      | t :: ts => gapF ((n1 : Int) + p) t :: jointF n1 (p + 1) gs ts
      | [] => 0 :: jointF n1 (p + 1) gs []
    else g :: jointF n1 (p + 1) gs ts
theorem join_joint (n1 : Nat) : ∀ (gs : List Int) (p : Nat) (pre : List Int) (ts : List (Option Int)), pre.length = n1 + p → (fF p gs).length = ts.length → joinF n1 (pre ++ gs) (fF p gs) ts = pre ++ jointF n1 p gs ts
  | [], p, pre, ts, hp, hl => by
    unfold fF joinF jointF
    rfl
  | g :: gs, p, pre, ts, hp, hl => by
    unfold fF jointF
    unfold fF at hl
    by_cases h : g = 0
    · rw [if_pos h] at hl ⊢
      rw [if_pos h]
      cases ts with
      | nil => simp at hl
      | cons t ts =>
        unfold joinF
        have e : ((n1 : Int) + (p : Int)).toNat = pre.length := by omega
        have s : (pre ++ g :: gs).set pre.length (gapF ((n1 : Int) + p) t) = (pre ++ [gapF ((n1 : Int) + p) t]) ++ gs := by
          rw [List.set_append_right _ _ (Nat.le_refl _), Nat.sub_self, List.set_cons_zero, List.append_assoc]
          rfl
        rw [e, s, join_joint n1 gs (p + 1) _ ts (by rw [List.length_append, List.length_singleton]; omega) (by simpa using hl), List.append_assoc]
        rfl
    · rw [if_neg h] at hl ⊢
      rw [if_neg h]
      have s : pre ++ g :: gs = (pre ++ [g]) ++ gs := by rw [List.append_assoc]; rfl
      rw [s, join_joint n1 gs (p + 1) _ ts (by rw [List.length_append, List.length_singleton]; omega) hl, List.append_assoc]
      rfl
theorem joinL_eq {v1 v2 : List Int} {ts : List (Option Int)} (h : (fallsL v2).length = ts.length) : joinL v1 v2 ts = v1 ++ jointF v1.length 0 v2 ts := by
  unfold joinL
  rw [falls_eq] at h ⊢
  exact join_joint v1.length v2 0 v1 ts rfl h
theorem joint_map (n1 : Nat) (τ : Int → Option Int) : ∀ (gs : List Int) (p : Nat), jointF n1 p gs ((fF p gs).map τ) = (List.range gs.length).map fun k => if gs.getD k 0 = 0 then gapF ((n1 : Int) + ((p + k : Nat) : Int)) (τ ((p + k : Nat) : Int)) else gs.getD k 0
  | [], p => rfl
  | g :: gs, p => by
    rw [List.length_cons, List.range_succ_eq_map, List.map_cons, List.map_map]
    unfold fF jointF
    have tl : jointF n1 (p + 1) gs ((fF (p + 1) gs).map τ) = (List.range gs.length).map ((fun k => if (g :: gs).getD k 0 = 0 then gapF ((n1 : Int) + ((p + k : Nat) : Int)) (τ ((p + k : Nat) : Int)) else (g :: gs).getD k 0) ∘ Nat.succ) := by
      rw [joint_map n1 τ gs (p + 1)]
      apply List.map_congr_left
      intro k _
      show _ = if gs.getD k 0 = 0 then gapF ((n1 : Int) + ((p + (k + 1) : Nat) : Int)) (τ ((p + (k + 1) : Nat) : Int)) else gs.getD k 0
      rw [show p + (k + 1) = p + 1 + k by omega]
    by_cases h : g = 0
    · rw [if_pos h, if_pos h, List.map_cons]
      show _ :: _ = (if g = 0 then _ else _) :: _
      rw [if_pos h, tl]
      rfl
    · rw [if_neg h, if_neg h]
      show _ :: _ = (if g = 0 then _ else _) :: _
      rw [if_neg h, tl]
      rfl
def tgAt (s : List Int) (n : Nat) (k : Int) : Option Int := if s.getD (n + k.toNat) 0 > 0 then some ((n : Int) + k - s.getD (n + k.toNat) 0) else none
theorem tgsL_eq {row : List Int} {n : Nat} (h : n ≤ row.length) : tgsL (shapeL row) n = (fF 0 (shapeL (row.drop n))).map (tgAt (shapeL row) n) := by
  unfold tgsL
  rw [shapeL_len, cut_shape_win (by omega), falls_eq]
  have : (row.drop n).take (row.length - n) = row.drop n := List.take_of_length_le (by rw [List.length_drop]; omega)
  rw [this]
  rfl
theorem shape_split {row : List Int} {n : Nat} (h : n ≤ row.length) : shapeL (row.take n) = (shapeL row).take n ∧ ∀ k, n + k < row.length → (shapeL (row.drop n)).getD k 0 = if isHead (shapeL row) n (n + k) = true then 0 else (shapeL row).getD (n + k) 0 := by
  refine ⟨(take_shape h).symm, fun k hk => ?_⟩
  have e : (row.drop n).take (row.length - n) = row.drop n := List.take_of_length_le (by rw [List.length_drop]; omega)
  have c := cut_shape_win (row := row) (f := n) (m := row.length - n) (by omega)
  rw [e] at c
  rw [← c]
  unfold cutShL
  rw [List.getD_eq_getElem?_getD, List.getElem?_map, List.getElem?_range (by omega)]
  rfl
theorem shape_nonneg (row : List Int) (p : Nat) : 0 ≤ (shapeL row).getD p 0 := by
  by_cases h : p < row.length
  · rw [shapeL_getD h]
    have hd := dist_last row p
    rw [distL_of hd]
    generalize ((List.range p).filter fun j => decide (row.getD j 0 ≤ row.getD p 0)).getLast? = o at hd
    cases o with
    | none => exact Int.le_refl 0
    | some j =>
      have := hd.1
      show 0 ≤ (p : Int) - j
      omega
  · rw [List.getD_eq_getElem?_getD, List.getElem?_eq_none (by rw [shapeL_len]; omega)]
    exact Int.le_refl 0
theorem join_split {row : List Int} {n : Nat} (h : n ≤ row.length) : joinL (shapeL (row.take n)) (shapeL (row.drop n)) (tgsL (shapeL row) n) = shapeL row := by
  obtain ⟨h1, h2⟩ := shape_split h
  have hl : (shapeL (row.take n)).length = n := by rw [shapeL_len, List.length_take]; omega
  rw [tgsL_eq h, joinL_eq (by rw [falls_eq, List.length_map]), hl, joint_map, h1]
  have e : shapeL row = (shapeL row).take n ++ (shapeL row).drop n := (List.take_append_drop n _).symm
  have : (List.range (shapeL (row.drop n)).length).map (fun k => if (shapeL (row.drop n)).getD k 0 = 0 then gapF ((n : Int) + ((0 + k : Nat) : Int)) (tgAt (shapeL row) n ((0 + k : Nat) : Int)) else (shapeL (row.drop n)).getD k 0) = (shapeL row).drop n := by
    apply List.ext_getElem?
    intro k
    rw [List.getElem?_map, List.getElem?_drop]
    by_cases hk : n + k < row.length
    · rw [List.getElem?_range (by rw [shapeL_len, List.length_drop]; omega)]
      have g : (shapeL row)[n + k]? = some ((shapeL row).getD (n + k) 0) := by
        rw [List.getD_eq_getElem?_getD, List.getElem?_eq_getElem (by rw [shapeL_len]; exact hk)]; rfl
      rw [g]
      show some (if (shapeL (row.drop n)).getD k 0 = 0 then gapF ((n : Int) + ((0 + k : Nat) : Int)) (tgAt (shapeL row) n ((0 + k : Nat) : Int)) else (shapeL (row.drop n)).getD k 0) = some _
      rw [Nat.zero_add]
      congr 1
      have hz := shape_nonneg row (n + k)
      by_cases z : (shapeL (row.drop n)).getD k 0 = 0
      · rw [if_pos z]
        unfold tgAt
        rw [Int.toNat_natCast]
        by_cases y : (shapeL row).getD (n + k) 0 > 0
        · rw [if_pos y]
          show (n : Int) + k - ((n : Int) + k - _) = _
          omega
        · rw [if_neg y]
          show (0 : Int) = _
          omega
      · rw [if_neg z]
        have := h2 k hk
        rw [this] at z ⊢
        split at z
        · exact absurd rfl z
        · rename_i q
          rw [if_neg q]
    · rw [List.getElem?_eq_none (by rw [List.length_range, shapeL_len, List.length_drop]; omega), List.getElem?_eq_none (by rw [shapeL_len]; omega)]
      rfl
  rw [this]
  exact e.symm
end LP
namespace LP
open PySem PySem.Spec L2
open PyProof.Rows hiding St
local macro_rules | `(tactic| sleep 1) => `(tactic| set_option simprocs false in dsimp only [lcR, mLc, mLr1, mLr2, gN, gT, gsCons, gsNil, tupD, mB, mOp, mOpF, mV, mO, mL, mCall, mCons, mNil, mvCons, mvNil, mCB, mCF, mVar_dat, oV_v, oV_ol, oV_od, mC, mIf, mAnd, mOr, mNot, mAndV, mOrV, mNotV, mTup, mLst, mNeg, mYes, mSl, mPart, mNo, mSeq, mR1, mR2, mR3, mEnumS, mZip, mIdx, mStep, mApp, mPop, mPopAt, mExt, mChain, pV, pO, pNil, sSeq, sFor, sSet, sSetO, sDrop, sRet, sRetN, sIf, sNext, sAug, sSub, sAsg, sPar2, sPar3, sTupN, LP.putAll, It1.sl, p2, p3, gt, List.set, wipeE, rq2, rq1, asB, LP.intD, i1, i2, d2, one, seqD, addK, subK, ltK, leK, gtK, geK, lenK, slD, defEnds, cns, slK, min2K, max2K, intK, mStar, olD, isOl, seq1, lst1, tupleK])
local macro_rules | `(tactic| sleep 2) => `(tactic| (simp [keepO]; try simp [Sl.own]))
local macro_rules | `(tactic| sleep 3) => `(tactic| (rw [sizeLine_is]; simp only [List.length_map, List.length_append, List.length_cons, List.length_nil, List.length_set, nums_len, cls_len, rng_len, List.length_range, List.length_replicate]; omega))
local macro_rules | `(tactic| sleep 7) => `(tactic| simp only [Bool.false_eq_true, Bool.not_true, Bool.not_false, ↓reduceIte, if_true, if_false])
local macro_rules | `(tactic| sleep 6) => `(tactic| (sleep 1; try simp only [exSome, exOl, true_and, Bool.false_eq_true, Bool.not_true, Bool.not_false, ↓reduceIte, if_true, if_false]; try sleep 1))
local macro_rules | `(tactic| sleep 8) => `(tactic| repeat (refine szAnd (by (try simp only [List.length_cons, List.length_nil, List.length_append, List.length_map, List.length_take, List.length_drop, List.length_reverse, nums_len, cls_len, nats_len']); omega) ?_))
end LP
namespace LP
open PySem PySem.Spec L2
open PyProof.Rows hiding St
end LP
namespace LP
open PySem PySem.Spec L2
open PyProof.Rows hiding St
local macro_rules | `(tactic| sleep 1) => `(tactic| set_option simprocs false in dsimp only [lcR, mLc, mLr1, mLr2, gN, gT, gsCons, gsNil, tupD, mB, mOp, mOpF, mV, mO, mL, mCall, mCons, mNil, mvCons, mvNil, mCB, mCF, mVar_dat, oV_v, oV_ol, oV_od, mC, mIf, mAnd, mOr, mNot, mAndV, mOrV, mNotV, mTup, mLst, mNeg, mYes, mSl, mPart, mNo, mSeq, mR1, mR2, mR3, mEnumS, mZip, mIdx, mStep, mApp, mPop, mPopAt, mExt, mChain, pV, pO, pNil, sSeq, sFor, sSet, sSetO, sDrop, sRet, sRetN, sIf, sNext, sAug, sSub, sAsg, sPar2, sPar3, sTupN, LP.putAll, It1.sl, p2, p3, gt, List.set, wipeE, rq2, rq1, asB, LP.intD, i1, i2, d2, one, seqD, addK, subK, ltK, leK, gtK, geK, lenK, slD, defEnds, cns, slK, min2K, max2K, intK, mStar, olD, isOl, seq1, lst1, tupleK])
local macro_rules | `(tactic| sleep 2) => `(tactic| (simp [keepO]; try simp [Sl.own]))
local macro_rules | `(tactic| sleep 3) => `(tactic| (rw [sizeLine_is]; simp only [List.length_map, List.length_append, List.length_cons, List.length_nil, List.length_set, nums_len, cls_len, rng_len, List.length_range, List.length_replicate]; omega))
local macro_rules | `(tactic| sleep 7) => `(tactic| simp only [Bool.false_eq_true, Bool.not_true, Bool.not_false, ↓reduceIte, if_true, if_false])
local macro_rules | `(tactic| sleep 6) => `(tactic| (sleep 1; try simp only [exSome, exOl, true_and, Bool.false_eq_true, Bool.not_true, Bool.not_false, ↓reduceIte, if_true, if_false]; try sleep 1))
local macro_rules | `(tactic| sleep 8) => `(tactic| repeat (refine szAnd (by (try simp only [List.length_cons, List.length_nil, List.length_append, List.length_map, List.length_take, List.length_drop, List.length_reverse, nums_len, cls_len, nats_len']); omega) ?_))
def valI : D → Int
  | .int i => i
  | _ => 0
def distB : Nat → List D → Bool
  | _, [] => true
  | i, x :: xs => isIntegerB 0 i x && distB (i + 1) xs
def hasB (most : Int) : D → Bool
  | .tup xs => decide (1 ≤ (xs.length : Int)) && decide ((xs.length : Int) ≤ most) && distB 0 xs
  | _ => false
def shpOf (most : Int) : D → Bool
  | .tup xs => hasB most (.tup xs) && okFrom (xs.map valI) 0
  | _ => false
theorem hasB_tup {most : Int} {xs : List D} : hasB most (.tup xs) = (decide (1 ≤ (xs.length : Int)) && decide ((xs.length : Int) ≤ most) && distB 0 xs) := rfl
theorem shpOf_tup {most : Int} {xs : List D} : shpOf most (.tup xs) = (hasB most (.tup xs) && okFrom (xs.map valI) 0) := rfl
theorem isInt_val {i : Nat} {x : D} (h : isIntegerB 0 i x = true) : x = .int (valI x) ∧ 0 ≤ valI x ∧ valI x ≤ i := by
  cases x with
  | int j =>
    have h : (decide ((0 : Int) ≤ j) && decide (j ≤ i)) = true := h
    rw [Bool.and_eq_true, decide_eq_true_eq, decide_eq_true_eq] at h
    exact ⟨rfl, h⟩
  | _ => cases h
theorem dist_nums : ∀ (xs : List D) (i : Nat), distB i xs = true → xs = nums (xs.map valI)
  | [], i, h => rfl
  | x :: xs, i, h => by
    have h : (isIntegerB 0 i x && distB (i + 1) xs) = true := h
    rw [Bool.and_eq_true] at h
    show x :: xs = .int (valI x) :: nums (xs.map valI)
    rw [← dist_nums xs (i + 1) h.2, ← (isInt_val h.1).1]
theorem dist_at : ∀ (xs : List D) (i : Nat), distB i xs = (List.range xs.length).all fun k => isIntegerB 0 ((i + k : Nat) : Int) (xs.getD k .non)
  | [], i => rfl
  | x :: xs, i => by
    rw [List.length_cons, List.range_succ_eq_map, List.all_cons, List.all_map]
    show (isIntegerB 0 (i : Int) x && distB (i + 1) xs) = _
    rw [dist_at xs (i + 1)]
    congr 1
    congr 1
    funext k
    show isIntegerB 0 ((i + 1 + k : Nat) : Int) (xs.getD k .non) = isIntegerB 0 ((i + (k + 1) : Nat) : Int) (xs.getD k .non)
    rw [show i + 1 + k = i + (k + 1) by omega]
def sp_has_distances : ASp := fun ds M Q _ => ∃ (d : D) (most : Int), ds = [d, .int most] ∧ VOk d ∧ most ≤ 10000 ∧ Q (.bl (hasB most d)) M
theorem sp_has_distances_mono : sp_has_distances.Mono := fun ds M Q Q' E E' hq he ⟨v, w, a, b, c, e⟩ => ⟨v, w, a, b, c, hq _ _ e⟩
theorem sp_has_distances_len (ds : List D) (M : Sto) (Q : D → Sto → Prop) (E : Exn → Sto → Prop) (h : sp_has_distances ds M Q E) : ds.length = 2 := by obtain ⟨_, _, rfl, _⟩ := h; rfl
def m_has_distances : MS := (sSeq (sIf (mOr (mNot (mB (mCB isiK (mvCons (mV (mVar 0)) (mvCons (mV (mC (.ty "tuple"))) mvNil))))) (mNot (mB (mChain leK leK (mV (mC (.int 1))) (mV (mCB lenK (mvCons (mV (mVar 0)) mvNil))) (mV (mVar 1)))))) (sRet (mC (.bl false))) sNext) (sRet (mCB allK (mvCons (mV (mL (mLc (mEnumS (mCons (mVar 0) mNil)) (gT 2 (gsCons (gN 2) (gsCons (gN 3) gsNil))) mYes (mCall sp_is_integer (mCons (mVar 3) (mCons (mC (.int 0)) (mCons (mVar 2) mNil)))) [2, 3]))) mvNil))))
theorem m_has_distances_eq (A : AEnds) (en : En) : m_has_distances A en = (sSeq (sIf (mOr (mNot (mB (mCB isiK (mvCons (mV (mVar 0)) (mvCons (mV (mC (.ty "tuple"))) mvNil))))) (mNot (mB (mChain leK leK (mV (mC (.int 1))) (mV (mCB lenK (mvCons (mV (mVar 0)) mvNil))) (mV (mVar 1)))))) (sRet (mC (.bl false))) sNext) (sRet (mCB allK (mvCons (mV (mL (mLc (mEnumS (mCons (mVar 0) mNil)) (gT 2 (gsCons (gN 2) (gsCons (gN 3) gsNil))) mYes (mCall sp_is_integer (mCons (mVar 3) (mCons (mC (.int 0)) (mCons (mVar 2) mNil)))) [2, 3]))) mvNil)))) A en := rfl
theorem enum_range (xs : List D) : enumD 0 xs = (List.range xs.length).map fun k => .tup [.int (k : Nat), xs.getD k .non] := by
  apply List.ext_getElem?
  intro k
  rw [enum_at, List.getElem?_map]
  by_cases h : k < xs.length
  · rw [List.getElem?_range h, List.getElem?_eq_getElem h, Nat.zero_add]
    have e : xs.getD k .non = xs[k] := by rw [List.getD_eq_getElem?_getD, List.getElem?_eq_getElem h]; rfl
    show some (D.tup [.int (k : Nat), xs[k]]) = some (.tup [.int (k : Nat), xs.getD k .non])
    rw [e]
  · have e1 : xs[k]? = none := List.getElem?_eq_none (by omega)
    have e2 : (List.range xs.length)[k]? = none := List.getElem?_eq_none (by rw [List.length_range]; omega)
    rw [e1, e2]
    rfl
theorem getD_mem {xs : List D} {k : Nat} (h : k < xs.length) : xs.getD k .non ∈ xs := by
  rw [List.getD_eq_getElem?_getD, List.getElem?_eq_getElem h]
  exact List.getElem_mem h
theorem pure_has_distances (ds : List D) (M : Sto) (Q : D → Sto → Prop) (E : Exn → Sto → Prop) (h : sp_has_distances ds M Q E) : m_has_distances (defEnds Q fun _ _ => False) ⟨startA 4 ds, M⟩ := by
  obtain ⟨d, most, rfl, hd, hm, q⟩ := h
  show m_has_distances _ ⟨[.v (d), .v (.int most), .un, .un], _⟩
  dsimp only [m_has_distances_eq]
  sleep 6
  refine isi_tup hd.ty ?_
  cases d with
  | tup xs =>
    dsimp only [D.isTup]
    sleep 6
    have fin : (decide (1 ≤ (xs.length : Int)) && decide ((xs.length : Int) ≤ most)) = false → Q (.bl false) M := fun h => by
      rw [hasB_tup] at q
      rw [h, Bool.false_and] at q
      exact q
    refine ite2 (fun h1 => ?_) (fun h1 => ?_)
    · refine ite2 (fun h2 => ?_) (fun h2 => ?_)
      · refine fin ?_
        have : decide ((xs.length : Int) ≤ most) = false := by
          cases e : decide ((xs.length : Int) ≤ most) with
          | true => rw [e] at h2; cases h2
          | false => rfl
        rw [this, Bool.and_false]
      · have h2 : decide ((xs.length : Int) ≤ most) = true := by
          cases e : decide ((xs.length : Int) ≤ most) with
          | true => rfl
          | false => rw [e] at h2; exact absurd rfl h2
        have h3 := of_decide_eq_true h2
        rw [hasB_tup] at q
        rw [h1, h2, dist_at] at q
        rw [enum_range]
        refine lcR_map (fun k => .tup [.int (k : Nat), xs.getD k .non]) (fun _ => true) (fun k => .bl (isIntegerB 0 (k : Nat) (xs.getD k .non))) (fun k => [.v (.tup xs), .v (.int most), .v (.int (k : Nat)), .v (xs.getD k .non)]) _ _ ?_ ?_ ?_ ?_ ?_ ?_
        · rw [List.length_range]; exact szOk (show 0 + xs.length ≤ 16777216 by omega)
        · exact fun k _ C hC => ⟨rfl, hC⟩
        · exact fun k _ C hC => hC
        · intro k hk _ C hC
          have := List.mem_range.mp hk
          sleep 6
          refine at_integer (hd _ (getD_mem this)) ?_
          exact hC
        · intro k _
          sleep 2
        · rw [List.nil_append, List.filter_eq_self.mpr (fun _ _ => rfl)]
          sleep 6
          refine ⟨(List.range xs.length).map fun k => isIntegerB 0 (k : Nat) (xs.getD k .non), ?_, ?_⟩
          · have := bls_map ((List.range xs.length).map fun k => isIntegerB 0 (k : Nat) (xs.getD k .non))
            rw [List.map_map] at this
            exact this
          · rw [List.all_map]
            simp only [Nat.zero_add] at q
            exact q
    · refine fin ?_
      have : decide (1 ≤ (xs.length : Int)) = false := by
        cases e : decide (1 ≤ (xs.length : Int)) with
        | true => exact absurd e h1
        | false => rfl
      rw [this, Bool.false_and]
  | _ =>
    first
      | (dsimp only [D.isTup]; sleep 6; exact q)
      | (cases hd.ty)
def sp_is_shape_of : ASp := fun ds M Q _ => ∃ (d : D) (most : Int), ds = [d, .int most] ∧ VOk d ∧ most ≤ 10000 ∧ Q (.bl (shpOf most d)) M
theorem sp_is_shape_of_mono : sp_is_shape_of.Mono := fun ds M Q Q' E E' hq he ⟨v, w, a, b, c, e⟩ => ⟨v, w, a, b, c, hq _ _ e⟩
theorem sp_is_shape_of_len (ds : List D) (M : Sto) (Q : D → Sto → Prop) (E : Exn → Sto → Prop) (h : sp_is_shape_of ds M Q E) : ds.length = 2 := by obtain ⟨_, _, rfl, _⟩ := h; rfl
def m_is_shape_of : MS := (sRet (mAndV (mCall sp_has_distances (mCons (mVar 0) (mCons (mVar 1) mNil))) (mOp isnotK (mV (mCall sp_open_after (mCons (mVar 0) mNil))) (mV (mC .non)))))
theorem m_is_shape_of_eq (A : AEnds) (en : En) : m_is_shape_of A en = (sRet (mAndV (mCall sp_has_distances (mCons (mVar 0) (mCons (mVar 1) mNil))) (mOp isnotK (mV (mCall sp_open_after (mCons (mVar 0) mNil))) (mV (mC .non))))) A en := rfl
theorem pure_is_shape_of (ds : List D) (M : Sto) (Q : D → Sto → Prop) (E : Exn → Sto → Prop) (h : sp_is_shape_of ds M Q E) : m_is_shape_of (defEnds Q fun _ _ => False) ⟨startA 2 ds, M⟩ := by
  obtain ⟨d, most, rfl, hd, hm, q⟩ := h
  show m_is_shape_of _ ⟨[.v (d), .v (.int most)], _⟩
  dsimp only [m_is_shape_of_eq]
  sleep 6
  refine ⟨d, most, rfl, hd, hm, ?_⟩
  cases d with
  | tup xs =>
    rw [shpOf_tup] at q
    cases e : hasB most (.tup xs) with
    | true =>
      rw [e, Bool.true_and] at q
      sleep 6
      rw [hasB_tup] at e
      rw [Bool.and_eq_true, Bool.and_eq_true] at e
      have hn := dist_nums xs 0 e.2
      have hl := of_decide_eq_true e.1.2
      have key : ∀ v : List Int, v.length ≤ 10000 → Q (.bl (okFrom v 0)) M → sp_open_after [.tup (nums v)] M (fun d M' => isnotK d .non fun z => Q z M') fun _ _ => False := fun v hv q => by
        refine at_open_after hv ?_
        rw [openF_eq]
        cases e2 : okFrom v 0 with
        | true => rw [e2] at q; exact q
        | false => rw [e2] at q; exact q
      have := key (xs.map valI) (by rw [List.length_map]; omega) q
      rw [← hn] at this
      exact this
    | false =>
      rw [e, Bool.false_and] at q
      exact q
  | _ => exact q
def sp_is_shape : ASp := fun ds M Q _ => ∃ d : D, ds = [d] ∧ VOk d ∧ Q (.bl (shpOf 12 d)) M
theorem sp_is_shape_mono : sp_is_shape.Mono := fun ds M Q Q' E E' hq he ⟨v, a, b, e⟩ => ⟨v, a, b, hq _ _ e⟩
theorem sp_is_shape_len (ds : List D) (M : Sto) (Q : D → Sto → Prop) (E : Exn → Sto → Prop) (h : sp_is_shape ds M Q E) : ds.length = 1 := by obtain ⟨_, rfl, _⟩ := h; rfl
def m_is_shape : MS := (sRet (mCall sp_is_shape_of (mCons (mVar 0) (mCons (mC (.int 12)) mNil))))
theorem m_is_shape_eq (A : AEnds) (en : En) : m_is_shape A en = (sRet (mCall sp_is_shape_of (mCons (mVar 0) (mCons (mC (.int 12)) mNil)))) A en := rfl
theorem pure_is_shape (ds : List D) (M : Sto) (Q : D → Sto → Prop) (E : Exn → Sto → Prop) (h : sp_is_shape ds M Q E) : m_is_shape (defEnds Q fun _ _ => False) ⟨startA 1 ds, M⟩ := by
  obtain ⟨d, rfl, hd, q⟩ := h
  show m_is_shape _ ⟨[.v (d)], _⟩
  dsimp only [m_is_shape_eq]
  sleep 6
  exact ⟨d, 12, rfl, hd, by decide, q⟩
/-- where the walk back from a place stands -/
structure Chn (v : List Int) (i : Nat) (t s : Int) : Prop where
  at_ : s = -1 ∨ s ∈ opensL v i
  past : ∀ a ∈ opensL v i, a ≤ s ∨ t < a
end LP
namespace LP
open PySem PySem.Spec L2
open PyProof.Rows hiding St
end LP
namespace LP
open PySem PySem.Spec L2
open PyProof.Rows hiding St
local macro_rules | `(tactic| sleep 1) => `(tactic| set_option simprocs false in dsimp only [lcR, mLc, mLr1, mLr2, gN, gT, gsCons, gsNil, tupD, mB, mOp, mOpF, mV, mO, mL, mCall, mCons, mNil, mvCons, mvNil, mCB, mCF, mVar_dat, oV_v, oV_ol, oV_od, mC, mIf, mAnd, mOr, mNot, mAndV, mOrV, mNotV, mTup, mLst, mNeg, mYes, mSl, mPart, mNo, mSeq, mR1, mR2, mR3, mEnumS, mZip, mIdx, mStep, mApp, mPop, mPopAt, mExt, mChain, pV, pO, pNil, sSeq, sFor, sSet, sSetO, sDrop, sRet, sRetN, sIf, sNext, sAug, sSub, sAsg, sPar2, sPar3, sTupN, LP.putAll, It1.sl, p2, p3, gt, List.set, wipeE, rq2, rq1, asB, LP.intD, i1, i2, d2, one, seqD, addK, subK, ltK, leK, gtK, geK, lenK, slD, defEnds, cns, slK, min2K, max2K, intK, mStar, olD, isOl, seq1, lst1, tupleK])
local macro_rules | `(tactic| sleep 2) => `(tactic| (simp [keepO]; try simp [Sl.own]))
local macro_rules | `(tactic| sleep 3) => `(tactic| (rw [sizeLine_is]; simp only [List.length_map, List.length_append, List.length_cons, List.length_nil, List.length_set, nums_len, cls_len, rng_len, List.length_range, List.length_replicate]; omega))
local macro_rules | `(tactic| sleep 7) => `(tactic| simp only [Bool.false_eq_true, Bool.not_true, Bool.not_false, ↓reduceIte, if_true, if_false])
local macro_rules | `(tactic| sleep 6) => `(tactic| (sleep 1; try simp only [exSome, exOl, true_and, Bool.false_eq_true, Bool.not_true, Bool.not_false, ↓reduceIte, if_true, if_false]; try sleep 1))
local macro_rules | `(tactic| sleep 8) => `(tactic| repeat (refine szAnd (by (try simp only [List.length_cons, List.length_nil, List.length_append, List.length_map, List.length_take, List.length_drop, List.length_reverse, nums_len, cls_len, nats_len']); omega) ?_))
/-- j stands behind i, with an entry less than all from i on before it -/
def hdB (row : List Int) (i j : Nat) : Bool := decide (i < j) && isHead (shapeL row) i j
def cwN (row : List Int) (i m : Nat) : Nat := ((List.range m).filter (hdB row i)).length
def lowN (row : List Int) (i : Nat) : Nat := cwN row i row.length
section
variable {row : List Int} {f m p : Nat} (L : IsLeast row f (m - 1) p) (hm : m ≤ row.length) (hf : f < m)
include L hm hf
end
structure Win where
  f : Nat
  m : Nat
  e : Nat
def Win.row (w : Win) : List Int := [w.f, (w.m : Int) - 1, w.e]
/-- what has been found, what waits -/
structure Low (row : List Int) (a : List Int) (ws : List Win) : Prop where
  len : a.length = row.length
  ok : ∀ w ∈ ws, w.f ≤ w.m ∧ w.m ≤ row.length ∧ ∀ i, w.f ≤ i → i < w.m → lowN row i = w.e + cwN row i w.m
  all : ∀ i, i < row.length → a.getD i 0 = lowN row i ∨ ∃ w ∈ ws, w.f ≤ i ∧ i < w.m
end LP
namespace PySem.AutoSeq1
open PySem
theorem lp_extend_tup (l : Addr) (items : Array Value) (n : Nat) (b : Addr) (items2 : Array Value) (n2 : Nat) (sl : Array (Option Value)) (hs0 : ¬(!items.isEmpty && Builtin.List.listTooLong (items.size + items2.size)) = true) (hs1 : items.size ≤ sizeLine) (hs2 : items.size + items2.size ≤ sizeLine + 1) :
    Meets (Builtin.«list.extend» ⟨[.ref l, .ref b], []⟩) (fun _ R s => s.heap.get? l = some { cls := .type "list", dict := none, data := .seq items n, slots := #[] } ∧ s.heap.get? b = some { cls := .type "tuple", dict := none, data := .seq items2 n2, slots := sl } ∧ R (.ok (.ret Value.none)) { s with heap := s.heap.update l (Obj.mapSeq fun x => x ++ items2), toks := s.toks }) :=
  .of_wp fun prog w A R s h => by
    obtain ⟨hp, g, d, tk, os⟩ := s; obtain ⟨hl, hb, h⟩ := h; have f1 := idx_int; have f2 := sub_tuple_tuple; have f3 := sub_list_list; have f4 := sub_tuple_list; have f5 := sub_list_tuple;
    have hz' : (items ++ items2).size ≤ sizeLine + 1 := by rw [Array.size_append]; exact hs2
    wp_walk using (wpAny_updateSeq hl rfl (hz := hs1) (_hz' := hz')), wpAny_loadPart' hl, wpAny_loadPart' hb; exact ⟨_, rfl, h⟩
end PySem.AutoSeq1
namespace LP
open PySem PySem.Spec L2
open PyProof.Rows hiding St
local macro_rules | `(tactic| sleep 1) => `(tactic| set_option simprocs false in dsimp only [lcR, mLc, mLr1, mLr2, gN, gT, gsCons, gsNil, tupD, mB, mOp, mOpF, mV, mO, mL, mCall, mCons, mNil, mvCons, mvNil, mCB, mCF, mVar_dat, oV_v, oV_ol, oV_od, mC, mIf, mAnd, mOr, mNot, mAndV, mOrV, mNotV, mTup, mLst, mNeg, mYes, mSl, mPart, mNo, mSeq, mR1, mR2, mR3, mEnumS, mZip, mIdx, mStep, mApp, mPop, mPopAt, mExt, mChain, pV, pO, pNil, sSeq, sFor, sSet, sSetO, sDrop, sRet, sRetN, sIf, sNext, sAug, sSub, sAsg, sPar2, sPar3, sTupN, LP.putAll, It1.sl, p2, p3, gt, List.set, wipeE, rq2, rq1, asB, LP.intD, i1, i2, d2, one, seqD, addK, subK, ltK, leK, gtK, geK, lenK, slD, defEnds, cns, slK, min2K, max2K, intK, mStar, olD, isOl, seq1, lst1, tupleK])
local macro_rules | `(tactic| sleep 2) => `(tactic| (simp [keepO]; try simp [Sl.own]))
local macro_rules | `(tactic| sleep 3) => `(tactic| (rw [sizeLine_is]; simp only [List.length_map, List.length_append, List.length_cons, List.length_nil, List.length_set, nums_len, cls_len, rng_len, List.length_range, List.length_replicate]; omega))
local macro_rules | `(tactic| sleep 7) => `(tactic| simp only [Bool.false_eq_true, Bool.not_true, Bool.not_false, ↓reduceIte, if_true, if_false])
local macro_rules | `(tactic| sleep 6) => `(tactic| (sleep 1; try simp only [exSome, exOl, true_and, Bool.false_eq_true, Bool.not_true, Bool.not_false, ↓reduceIte, if_true, if_false]; try sleep 1))
local macro_rules | `(tactic| sleep 8) => `(tactic| repeat (refine szAnd (by (try simp only [List.length_cons, List.length_nil, List.length_append, List.length_map, List.length_take, List.length_drop, List.length_reverse, nums_len, cls_len, nats_len']); omega) ?_))
section
variable {X : Cx}
def rNeT0 (K : PySem.W.Frag) : R2 := fun x y H Q => ∃ (a b : Addr) (xs : List V), x = .ref a ∧ y = .ref b ∧ SqT K H a xs ∧ SqT K H b [] ∧ Q (.bl (!xs.isEmpty)) H
theorem op_neT0 (hu : X.A.units + 100 < cLine) : OpR X (compareOp .NotEq) (rNeT0 X.K) := fun pins s σ H x y v u Q I rx ry h => by
  obtain ⟨a, b, xs, rfl, rfl, ha, hb, q⟩ := h
  cases rx; cases ry
  obtain ⟨i1, r1, ⟨o1, g1, c1, n1, d1⟩, _⟩ := I.tuple ha
  obtain ⟨i2, r2, ⟨o2, g2, c2, n2, d2⟩, _⟩ := I.tuple hb
  cases r2
  refine SeqAt.RcNeAt.tuples (items := i1.toArray) (items2 := #[]) (e := fun _ => true) ⟨o1, g1, c1, n1, d1⟩ ⟨o2, g2, c2, n2, d2⟩ (by omega) (fun j h1 h2 => absurd h2 (Nat.not_lt_zero j)) X.prog X.w X.xe _ ?_
  have e : ((List.range (min i1.toArray.size (#[] : Array Value).size)).all (fun _ => true) && i1.toArray.size == (#[] : Array Value).size) = xs.isEmpty := by
    have := r1.length
    cases xs with
    | nil => cases r1; rfl
    | cons x xs => cases r1; simp
  rw [e]
  exact ⟨.bl _, H, I, rfl, q⟩
def rNeL0 (K : PySem.W.Frag) : R2 := fun x y H Q => ∃ (a b : Addr) (xs : List V), x = .ref a ∧ y = .ref b ∧ SqL K H a xs ∧ SqL K H b [] ∧ Q (.bl (!xs.isEmpty)) H
theorem op_neL0 (hu : X.A.units + 100 < cLine) : OpR X (compareOp .NotEq) (rNeL0 X.K) := fun pins s σ H x y v u Q I rx ry h => by
  obtain ⟨a, b, xs, rfl, rfl, ha, hb, q⟩ := h
  cases rx; cases ry
  obtain ⟨i1, r1, p1, _⟩ := I.list ha
  obtain ⟨i2, r2, p2, _⟩ := I.list hb
  cases r2
  cases xs with
  | nil =>
    cases r1
    exact SeqAt.RcNeAt.lists (items := #[]) (items2 := #[]) (e := fun _ => true) p1.isList p2.isList rfl (by omega) (fun j h1 h2 => absurd h2 (Nat.not_lt_zero j)) X.prog X.w X.xe _ ⟨.bl false, H, I, rfl, q⟩
  | cons x xs =>
    cases r1 with
    | cons a1 a2 =>
      exact SeqAt.RcNeAt.lists_lengths p1.isList p2.isList (by simp) (by omega) X.prog X.w X.xe _ ⟨.bl true, H, I, rfl, q⟩
def neX (x y : D) (k : D → Prop) : Prop := neK x y k ∨ (∃ xs, x = .tup xs ∧ y = .tup [] ∧ k (.bl (!xs.isEmpty))) ∨ (∃ xs, x = .lst xs ∧ y = .lst [] ∧ k (.bl (!xs.isEmpty)))
theorem o_neX (hu : X.A.units + 100 < cLine) : CmpS X .NotEq neX := by
  obtain ⟨r, a, b⟩ := o_ne hu
  refine ⟨_, OpR.or a (OpR.or (op_neT0 hu) (op_neL0 hu)), OpS.imp (OpS.or b (OpS.or (f := fun dx dy k => ∃ xs, dx = .tup xs ∧ dy = .tup [] ∧ k (.bl (!xs.isEmpty))) (f' := fun dx dy k => ∃ xs, dx = .lst xs ∧ dy = .lst [] ∧ k (.bl (!xs.isEmpty))) ?_ ?_)) fun dx dy k h => h⟩
  · intro P0 F en σ H x y dx dy k Qc rs vx vy q kk
    obtain ⟨xs, rfl, rfl, q⟩ := q
    obtain ⟨p1, v1, rfl, h1, r1, _⟩ := vx.tup rs.same
    obtain ⟨p2, v2, rfl, h2, r2, _⟩ := vy.tup rs.same
    cases r2
    refine ⟨p1, p2, v1, rfl, rfl, h1, h2, ?_⟩
    have e : v1.isEmpty = xs.isEmpty := by
      cases r1 <;> rfl
    rw [e]
    exact kk F _ _ H (Same.refl F) rs (.bl _) q
  · intro P0 F en σ H x y dx dy k Qc rs vx vy q kk
    obtain ⟨xs, rfl, rfl, q⟩ := q
    obtain ⟨p1, v1, rfl, h1, r1⟩ := vx.lst rs.same
    obtain ⟨p2, v2, rfl, h2, r2⟩ := vy.lst rs.same
    cases r2
    refine ⟨p1, p2, v1, rfl, rfl, SqL.of h1, SqL.of h2, ?_⟩
    have e : v1.isEmpty = xs.isEmpty := by
      cases r1 <;> rfl
    rw [e]
    exact kk F _ _ H (Same.refl F) rs (.bl _) q
end
section
variable {X : Cx} {W : WX} {e : Expr} {me : ME} {x : Str} {apos pos : Pos}
def rExtT (K : PySem.W.Frag) : V → List V → Hp → VK → Prop := fun x vs H Q => ∃ l b xs zs, x = .ref l ∧ vs = [.ref b] ∧ H l = some (.lst xs) ∧ PlT K H b zs ∧ xs.length + zs.length ≤ sizeLine ∧ Q .non (upd H l (.lst (xs ++ zs)))
theorem PlT.at_ {pins : List (Addr × Obj)} {σ : St} {H : Hp} {s : Shared} {a : Addr} {vs : List V} (I : Inv X pins σ H s) (h : PlT X.K H a vs) : ∃ (its : Array Value) (n : Nat) (sl : Array (Option Value)), Vals vs its.toList ∧ s.heap.get? a = some { cls := .type "tuple", dict := none, data := .seq its n, slots := sl } := by
  rcases h with ⟨us, h⟩ | ⟨⟨c, dd, dt, sl⟩, its, n, h1, h2, h3, h4, h5, h6⟩
  · have hk := I.hok a _ h
    obtain ⟨i1, r1, ⟨o1, g1, c1, n1, d1⟩, _⟩ := I.tuple (.inl (.inr ⟨_, h⟩))
    obtain ⟨e, _⟩ := hk
    rw [e] at g1
    cases g1
    have d1 : us.toArray = i1.toArray := by cases d1; rfl
    refine ⟨us.toArray, _, _, ?_, e⟩
    rw [d1]
    simpa using r1
  · simp only at h2 h3 h4
    subst h2 h3 h4
    exact ⟨its, n, sl, h6, I.kIn a _ h1⟩
theorem mt_extT : MtM X "list.extend" (rExtT X.K) := by
  intro pins s σ H x vs v us Q I rx rv h
  obtain ⟨l, b, xs, zs, rfl, rfl, hH, hB, hz, q⟩ := h
  cases rx
  obtain ⟨u, rfl, ru⟩ := rv.one
  cases ru
  obtain ⟨z, its, n, r, hl, e⟩ := I.lstM hH
  obtain ⟨its2, n2, sl, r2, e2⟩ := hB.at_ I
  have hl2 : zs.length = its2.size := by have := r2.length; simpa using this
  have hsz : its.toArray.size + its2.size ≤ sizeLine := by rw [List.size_toArray]; omega
  have hlong : ¬ (!its.toArray.isEmpty && Builtin.List.listTooLong (its.toArray.size + its2.size)) = true := by
    rw [notLongL hsz, Bool.and_false]
    exact Bool.false_ne_true
  refine call_meets PySem.F.slot_list_extend ⟨_, e, rfl⟩ PySem.F.entry_list_extend (PySem.F.args_list_extend_2 _ _)
    (AutoSeq1.lp_extend_tup l its.toArray n b its2 n2 sl hlong (by rw [List.size_toArray]; omega) (by omega)) ⟨e, e2, ?_⟩
  refine ⟨.non, _, I.lset (its' := its ++ its2.toList) hH e (by simp) (r.append r2) ?_, rfl, q⟩
  rw [List.length_append]
  omega
def mExtT (i : Nat) (m : ME) : ME := fun R en Q => isOl (gt en.sl i) ∧ m R en fun d e1 => tupD d fun es => olD (gt e1.sl i) fun ds => ds.length + es.length ≤ sizeLine ∧ Q .non { e1 with sl := e1.sl.set i (.ol (ds ++ es)) }
theorem ae_extendT (i : Nat) {p : Pos} (he : AE X W e me) (hN : X.N[i]? = some x := by rfl) (hv : Vis X.env.scope x := by first | exact Or.inl rfl | exact Or.inr (Or.inl rfl) | exact Or.inr (Or.inr rfl)) (hd : (x == ("__debug__" : Str)) = false := by decide)
    (hcd : (x == ("__classdict__" : Str)) = false := by decide) (hbase : attributeBase (.Name x p) "extend" X.env (eval (.Name x p) X.env) = eval (.Name x p) X.env := by rfl)
    (hfew : ((backTo pos (starEach [e] X.env)).all (fun x => !x.1) && (backToKw pos (keywordEach [] X.env)).all (fun x => x.1.isSome) && decide ([e].length + ([] : List Keyword).length + (if ([] : List Keyword).isEmpty then 0 else 1) < 30)) = true := by rfl)
    (hline : (apos.endLine == pos.line) = true := by rfl) (hs : starEach [e] X.env = (false, eval e X.env) :: starEach [] X.env := by rfl) : AE X W (.Call (.Attribute (.Name x p) "extend" apos) [e] [] pos) (mExtT i me) := by
  obtain ⟨_, pe, se⟩ := he
  refine ⟨_, pe_bm PySem.F.plainAttrs_list PySem.F.slot_list_extend PySem.F.type_list_extend (r := rExtT X.K) mt_extT (pe_var hN hv hd hcd) (pa_cons pe pa_nil hs) hbase hfew hline hs rfl, fun P0 F en σ H R Q Qc rs rx hm k => ?_⟩
  obtain ⟨h0, hm⟩ := hm
  obtain ⟨ds0, h0⟩ := isOl_some h0
  obtain ⟨p, vs, h1, h2, _⟩ := own_at rs h0
  refine ⟨_, h1, .inl ⟨rfl, vs, SqL.of h2⟩, se P0 F en σ H R _ _ rs rx hm fun F1 e1 v d H1 s1 r1 rp q => ?_⟩
  unfold tupD at q
  split at q
  · obtain ⟨ds, h3, hz, q⟩ := olD_some q
    obtain ⟨p', vs', h4, h5, r5⟩ := own_at r1 h3
    rw [h1] at h4; cases h4
    cases rp with
    | tup h6 r6 => exact ⟨p, _, vs', _, rfl, rfl, h5, h6.mono r1.same, by rw [r5.length, r6.length]; exact hz, k F1 _ _ _ _ s1 (own_upd r1 h3 h1 (r5.append r6)) .non q⟩
  · exact q.elim
end
theorem neX_tup {xs : List D} {k : D → Prop} (q : k (.bl (!xs.isEmpty))) : neX (.tup xs) (.tup []) k := .inr (.inl ⟨xs, rfl, rfl, q⟩)
theorem neX_lst {xs : List D} {k : D → Prop} (q : k (.bl (!xs.isEmpty))) : neX (.lst xs) (.lst []) k := .inr (.inr ⟨xs, rfl, rfl, q⟩)
def TBs (P : Nat → D → Prop) : Nat → List D → Prop
  | _, [] => True
  | n, x :: xs => ∃ a b, P a x ∧ TBs P b xs ∧ a + 2 + b ≤ n
/-- a plain value, nested at most k deep, its text at most n long -/
def TB : Nat → Nat → D → Prop
  | 0, n, d => d.isTup = false ∧ d.hasT = true ∧ BdX n 10 d
  | k + 1, n, .tup xs => ∃ m, TBs (TB k) m xs ∧ m + 3 ≤ n
  | k + 1, n, d => d.hasT = true ∧ BdX n (k + 11) d
section
variable {P : Nat → D → Prop}
theorem TBs.mono {n n' : Nat} {xs : List D} (h : TBs P n xs) (hn : n ≤ n') : TBs P n' xs := by
  cases xs with
  | nil => trivial
  | cons x xs => obtain ⟨a, b, h1, h2, h3⟩ := h; exact ⟨a, b, h1, h2, by omega⟩
theorem TBs.imp {P' : Nat → D → Prop} (hp : ∀ n d, P n d → P' n d) : ∀ {xs : List D} {n : Nat}, TBs P n xs → TBs P' n xs
  | [], n, h => trivial
  | x :: xs, n, ⟨a, b, h1, h2, h3⟩ => ⟨a, b, hp _ _ h1, h2.imp hp, h3⟩
theorem TBs.app : ∀ {xs ys : List D} {a b : Nat}, TBs P a xs → TBs P b ys → TBs P (a + b) (xs ++ ys)
  | [], ys, a, b, h, h' => h'.mono (by omega)
  | x :: xs, ys, a, b, ⟨c, d, h1, h2, h3⟩, h' => ⟨c, d + b, h1, h2.app h', by omega⟩
theorem TBs.one {a : Nat} {x : D} (h : P a x) : TBs P (a + 2) [x] := ⟨a, 0, h, trivial, by omega⟩
theorem TBs.split : ∀ {xs ys : List D} {n : Nat}, TBs P n (xs ++ ys) → ∃ a b, TBs P a xs ∧ TBs P b ys ∧ a + b ≤ n
  | [], ys, n, h => ⟨0, n, trivial, h, by omega⟩
  | x :: xs, ys, n, ⟨c, d, h1, h2, h3⟩ => by
    obtain ⟨a, b, g1, g2, g3⟩ := TBs.split (xs := xs) (ys := ys) h2
    exact ⟨c + 2 + a, b, ⟨c, a, h1, g1, Nat.le_refl _⟩, g2, by omega⟩
theorem TBs.take {xs : List D} {n : Nat} (h : TBs P n xs) (i : Nat) : TBs P n (xs.take i) := by
  rw [← List.take_append_drop i xs] at h
  obtain ⟨a, b, h1, _, h3⟩ := h.split
  exact h1.mono (by omega)
theorem TBs.drop {xs : List D} {n : Nat} (h : TBs P n xs) (i : Nat) : TBs P n (xs.drop i) := by
  rw [← List.take_append_drop i xs] at h
  obtain ⟨a, b, _, h2, h3⟩ := h.split
  exact h2.mono (by omega)
theorem TBs.get : ∀ {xs : List D} {n : Nat}, TBs P n xs → ∀ x ∈ xs, ∃ a, P a x ∧ a + 2 ≤ n
  | x :: xs, n, ⟨c, d, h1, h2, h3⟩, y, hy => by
    rcases List.mem_cons.mp hy with rfl | hy
    · exact ⟨c, h1, by omega⟩
    · obtain ⟨a, g1, g2⟩ := h2.get y hy
      exact ⟨a, g1, by omega⟩
theorem TBs.len : ∀ {xs : List D} {n : Nat}, TBs P n xs → 2 * xs.length ≤ n
  | [], n, h => Nat.zero_le _
  | x :: xs, n, ⟨c, d, h1, h2, h3⟩ => by
    have := h2.len
    rw [List.length_cons]; omega
theorem TBs.bd {k : Nat} (hp : ∀ n d, P n d → BdX n k d) : ∀ {xs : List D} {n : Nat}, TBs P n xs → ∃ es, D.pysX xs = some es ∧ PyData.showableAll es = true ∧ PyData.depthAll es ≤ k ∧ piled (PyData.shownAll es) ≤ n
  | [], n, h => ⟨[], rfl, rfl, Nat.zero_le _, Nat.zero_le _⟩
  | x :: xs, n, ⟨a, b, h1, h2, h3⟩ => by
    obtain ⟨e, e1, b1, b3, b4⟩ := hp a x h1
    obtain ⟨es, g1, g2, g3, g5⟩ := TBs.bd hp h2
    refine ⟨e :: es, ?_, ?_, ?_, ?_⟩
    · unfold D.pysX; rw [e1, g1]
    · show (e.showable && PyData.showableAll es) = true
      rw [b1, g2]; rfl
    · show max e.depth (PyData.depthAll es) ≤ k
      exact Nat.max_le.mpr ⟨b3, g3⟩
    · have : piled (PyData.shownAll (e :: es)) = e.shown.length + 2 + piled (PyData.shownAll es) := by
        show piled (e.shown :: PyData.shownAll es) = _
        simp [piled]
      omega
end
theorem TB.ty : ∀ {k n : Nat} {d : D}, TB k n d → d.hasT = true
  | 0, n, d, h => h.2.1
  | k + 1, n, d, h => by
    cases d with
    | tup xs => rfl
    | _ => exact h.1
theorem TB.bd : ∀ {k n : Nat} {d : D}, TB k n d → BdX n (k + 10) d
  | 0, n, d, h => h.2.2
  | k + 1, n, d, h => by
    cases d with
    | tup xs =>
      obtain ⟨m, h1, h2⟩ := h
      obtain ⟨es, g1, g2, g3, g5⟩ := TBs.bd (P := TB k) (k := k + 10) (fun n d h => h.bd) h1
      refine ⟨.tuple es, by unfold D.pyX; rw [g1]; rfl, g2, by show PyData.depthAll es + 1 ≤ _; omega, ?_⟩
      exact Nat.le_trans (tupleText_le _) (by omega)
    | _ => exact h.2.mono (Nat.le_refl _) (by omega)
theorem TB.mono : ∀ {k n n' : Nat} {d : D}, TB k n d → n ≤ n' → TB k n' d
  | 0, n, n', d, h, hn => ⟨h.1, h.2.1, h.2.2.mono hn (Nat.le_refl _)⟩
  | k + 1, n, n', d, h, hn => by
    cases d with
    | tup xs => obtain ⟨m, h1, h2⟩ := h; exact ⟨m, h1, by omega⟩
    | _ => exact ⟨h.1, h.2.mono hn (Nat.le_refl _)⟩
theorem TB.up : ∀ {k n : Nat} {d : D}, TB k n d → TB (k + 1) n d
  | 0, n, d, h => by
    cases d with
    | tup xs => cases h.1
    | _ => exact ⟨h.2.1, h.2.2.mono (Nat.le_refl _) (by decide)⟩
  | k + 1, n, d, h => by
    cases d with
    | tup xs => obtain ⟨m, h1, h2⟩ := h; exact ⟨m, h1.imp fun n d h => h.up, h2⟩
    | _ => exact ⟨h.1, h.2.mono (Nat.le_refl _) (by omega)⟩
theorem TB.ups {k n : Nat} {d : D} (h : TB k n d) : ∀ j, TB (k + j) n d
  | 0 => h
  | j + 1 => (h.ups j).up
theorem TB.to {k k' n n' : Nat} {d : D} (h : TB k n d) (hk : k ≤ k') (hn : n ≤ n') : TB k' n' d := by
  have := h.ups (k' - k)
  rw [show k + (k' - k) = k' by omega] at this
  exact this.mono hn
/-- the items of a tuple's list -/
theorem TBs.lst {k n : Nat} {xs : List D} (h : TBs (TB k) n xs) : TB (k + 1) (n + 3) (.lst xs) := by
  obtain ⟨es, g1, g2, g3, g5⟩ := TBs.bd (P := TB k) (k := k + 10) (fun n d h => h.bd) h
  refine ⟨rfl, .list es, by unfold D.pyX; rw [g1]; rfl, g2, by show PyData.depthAll es + 1 ≤ _; omega, ?_⟩
  exact Nat.le_trans (listText_le _) (by omega)
theorem TBs.tup {k n : Nat} {xs : List D} (h : TBs (TB k) n xs) : TB (k + 1) (n + 3) (.tup xs) := ⟨n, h, Nat.le_refl _⟩
theorem TB.od {d : D} (h : Od d) (ht : d.isTup = false) : TB 0 600 d := ⟨ht, h.ty, h.bd.mono (Nat.le_refl _) (by decide)⟩
end LP
namespace LP
open PySem PySem.Spec L2
open PyProof.Rows hiding St
local macro_rules | `(tactic| sleep 1) => `(tactic| set_option simprocs false in dsimp only [lcR, mLc, mLr1, mLr2, gN, gT, gsCons, gsNil, tupD, mB, mOp, mOpF, mV, mO, mL, mCall, mCons, mNil, mvCons, mvNil, mCB, mCF, mVar_dat, oV_v, oV_ol, oV_od, mC, mIf, mAnd, mOr, mNot, mAndV, mOrV, mNotV, mTup, mLst, mNeg, mYes, mSl, mPart, mNo, mSeq, mR1, mR2, mR3, mEnumS, mZip, mIdx, mStep, mApp, mPop, mPopAt, mExt, mChain, pV, pO, pNil, sSeq, sFor, sSet, sSetO, sDrop, sRet, sRetN, sIf, sNext, sAug, sSub, sAsg, sPar2, sPar3, sTupN, LP.putAll, It1.sl, p2, p3, gt, List.set, wipeE, rq2, rq1, asB, LP.intD, i1, i2, d2, one, seqD, addK, subK, ltK, leK, gtK, geK, lenK, slD, defEnds, cns, slK, min2K, max2K, intK, mStar, olD, isOl, seq1, lst1, tupleK])
local macro_rules | `(tactic| sleep 2) => `(tactic| (simp [keepO]; try simp [Sl.own]))
local macro_rules | `(tactic| sleep 3) => `(tactic| (rw [sizeLine_is]; simp only [List.length_map, List.length_append, List.length_cons, List.length_nil, List.length_set, nums_len, cls_len, rng_len, List.length_range, List.length_replicate]; omega))
local macro_rules | `(tactic| sleep 7) => `(tactic| simp only [Bool.false_eq_true, Bool.not_true, Bool.not_false, ↓reduceIte, if_true, if_false])
local macro_rules | `(tactic| sleep 6) => `(tactic| (sleep 1; try simp only [exSome, exOl, true_and, Bool.false_eq_true, Bool.not_true, Bool.not_false, ↓reduceIte, if_true, if_false]; try sleep 1))
local macro_rules | `(tactic| sleep 8) => `(tactic| repeat (refine szAnd (by (try simp only [List.length_cons, List.length_nil, List.length_append, List.length_map, List.length_take, List.length_drop, List.length_reverse, nums_len, cls_len, nats_len']); omega) ?_))
def sumF (f : D → Nat) : List D → Nat
  | [] => 0
  | x :: xs => f x + sumF f xs
/-- the number of pairs, 99 for what is no tree -/
def szF : Nat → D → Nat
  | 0, _ => 99
  | k + 1, .tup xs => if xs.length = 0 ∨ xs.length = 2 then min 99 (xs.length / 2 + sumF (szF k) xs) else 99
  | _ + 1, _ => 99
theorem szF_tup {k : Nat} {xs : List D} : szF (k + 1) (.tup xs) = if xs.length = 0 ∨ xs.length = 2 then min 99 (xs.length / 2 + sumF (szF k) xs) else 99 := rfl
/-- more depth than there is changes nothing -/
theorem szF_up : ∀ {k n : Nat} {d : D}, TB k n d → szF (k + 1) d = szF (k + 2) d
  | 0, n, d, h => by
    cases d with
    | tup xs => cases h.1
    | _ => rfl
  | k + 1, n, d, h => by
    cases d with
    | tup xs =>
      obtain ⟨m, h1, _⟩ := h
      rw [szF_tup, szF_tup]
      have key : ∀ (xs : List D) (m : Nat), TBs (TB k) m xs → sumF (szF (k + 1)) xs = sumF (szF (k + 2)) xs := by
        intro xs
        induction xs with
        | nil => intro m h; rfl
        | cons x xs ih =>
          intro m ⟨a, b, h1, h2, h3⟩
          show szF (k + 1) x + sumF (szF (k + 1)) xs = szF (k + 2) x + sumF (szF (k + 2)) xs
          rw [szF_up h1, ih b h2]
      rw [key xs m h1]
    | _ => rfl
theorem sum_up {k : Nat} : ∀ (xs : List D) (m : Nat), TBs (TB k) m xs → sumF (szF (k + 1)) xs = sumF (szF (k + 2)) xs
  | [], m, h => rfl
  | x :: xs, m, ⟨a, b, h1, h2, h3⟩ => by
    show szF (k + 1) x + sumF (szF (k + 1)) xs = szF (k + 2) x + sumF (szF (k + 2)) xs
    rw [szF_up h1, sum_up xs b h2]
def treeB (k : Nat) (d : D) : Bool := decide (0 < szF k d) && decide (szF k d < 13)
theorem in_two {neg : Bool} {n : Nat} {k : D → Prop} (q : k (.bl (if neg then !decide (n = 0 ∨ n = 2) else decide (n = 0 ∨ n = 2)))) : in2 neg (.int (n : Int)) (.tup [.int 0, .int 2]) k := by
  have := in_tup (neg := neg) (x := (n : Int)) (xs := [0, 2]) (k := k)
  refine this ?_
  have e : decide ((n : Int) ∈ [(0 : Int), 2]) = decide (n = 0 ∨ n = 2) := by
    rw [Bool.eq_iff_iff, decide_eq_true_eq, decide_eq_true_eq]
    simp only [List.mem_cons, List.not_mem_nil, or_false]
    omega
  rw [e]
  exact q
theorem fdiv_nat {a b : Nat} {k : D → Prop} (hb : 0 < b ∧ b < 1000) (q : k (.int ((a / b : Nat) : Int))) : fdivK (.int (a : Int)) (.int (b : Int)) k := by
  refine ⟨?_, ?_⟩
  · unfold CDiv
    omega
  · rw [Int.natCast_ediv] at q
    exact q
def sp_is_tree : ASp := fun ds M Q _ => ∃ (d : D) (k n : Nat), ds = [d] ∧ TB k n d ∧ n ≤ 10000000 ∧ Q (.bl (treeB (k + 1) d)) M
theorem sp_is_tree_mono : sp_is_tree.Mono := fun ds M Q Q' E E' hq he ⟨d, k, n, a, b, c, g⟩ => ⟨d, k, n, a, b, c, hq _ _ g⟩
theorem sp_is_tree_len (ds : List D) (M : Sto) (Q : D → Sto → Prop) (E : Exn → Sto → Prop) (h : sp_is_tree ds M Q E) : ds.length = 1 := by obtain ⟨_, _, _, rfl, _⟩ := h; rfl
def is_tree_f0 : MS := (sSeq (sSet 3 (mPop 1)) (sSeq (sIf (mOr (mNot (mB (mCB isiK (mvCons (mV (mVar 3)) (mvCons (mV (mC (.ty "tuple"))) mvNil))))) (mB (mOp (in2 true) (mV (mCB lenK (mvCons (mV (mVar 3)) mvNil))) (mV (mTup (mCons (mC (.int 0)) (mCons (mC (.int 2)) mNil))))))) (sRet (mC (.bl false))) sNext) (sSeq (sAug 2 (fun i j => i + j) (mOp fdivK (mV (mCB lenK (mvCons (mV (mVar 3)) mvNil))) (mV (mC (.int 2))))) (sSeq (sIf (mB (mOp gtK (mV (mVar 2)) (mV (mC (.int 12))))) (sRet (mC (.bl false))) sNext) (sDrop (mExtT 1 (mVar 3)))))))
theorem is_tree_f0_eq (A : AEnds) (en : En) : is_tree_f0 A en = (sSeq (sSet 3 (mPop 1)) (sSeq (sIf (mOr (mNot (mB (mCB isiK (mvCons (mV (mVar 3)) (mvCons (mV (mC (.ty "tuple"))) mvNil))))) (mB (mOp (in2 true) (mV (mCB lenK (mvCons (mV (mVar 3)) mvNil))) (mV (mTup (mCons (mC (.int 0)) (mCons (mC (.int 2)) mNil))))))) (sRet (mC (.bl false))) sNext) (sSeq (sAug 2 (fun i j => i + j) (mOp fdivK (mV (mCB lenK (mvCons (mV (mVar 3)) mvNil))) (mV (mC (.int 2))))) (sSeq (sIf (mB (mOp gtK (mV (mVar 2)) (mV (mC (.int 12))))) (sRet (mC (.bl false))) sNext) (sDrop (mExtT 1 (mVar 3))))))) A en := rfl
def m_is_tree : MS := (sSeq (sPar2 1 2 (pO (mLst (mCons (mVar 0) mNil)) (pV (mC (.int 0)) pNil))) (sSeq (sWhile (mB (mOp neX (mO 1) (mV (mL (mLst mNil))))) is_tree_f0) (sRet (mOp gtK (mV (mVar 2)) (mV (mC (.int 0)))))))
theorem m_is_tree_eq (A : AEnds) (en : En) : m_is_tree A en = (sSeq (sPar2 1 2 (pO (mLst (mCons (mVar 0) mNil)) (pV (mC (.int 0)) pNil))) (sSeq (sWhile (mB (mOp neX (mO 1) (mV (mL (mLst mNil))))) is_tree_f0) (sRet (mOp gtK (mV (mVar 2)) (mV (mC (.int 0))))))) A en := rfl
/-- what waits: plain, weighed -/
def Wts (k : Nat) : Nat → List D → Prop
  | _, [] => True
  | n, x :: xs => ∃ a b, TB k a x ∧ Wts k b xs ∧ a + 1 + b ≤ n
theorem Wts.of {k : Nat} : ∀ {xs : List D} {n : Nat}, TBs (TB k) n xs → Wts (k + 1) n xs
  | [], n, h => trivial
  | x :: xs, n, ⟨a, b, h1, h2, h3⟩ => ⟨a, b, h1.up, Wts.of h2, by omega⟩
theorem Wts.app {k : Nat} : ∀ {xs ys : List D} {a b : Nat}, Wts k a xs → Wts k b ys → Wts k (a + b) (xs ++ ys)
  | [], ys, a, b, h, h' => by
    cases ys with
    | nil => trivial
    | cons y ys => obtain ⟨c, d, h1, h2, h3⟩ := h'; exact ⟨c, d, h1, h2, by omega⟩
  | x :: xs, ys, a, b, ⟨c, d, h1, h2, h3⟩, h' => ⟨c, d + b, h1, Wts.app h2 h', by omega⟩
theorem Wts.last {k : Nat} : ∀ {xs : List D} {x : D} {n : Nat}, Wts k n (xs ++ [x]) → ∃ a b, TB k a x ∧ Wts k b xs ∧ a + 1 + b ≤ n
  | [], x, n, ⟨a, b, h1, h2, h3⟩ => ⟨a, 0, h1, trivial, by omega⟩
  | y :: xs, x, n, ⟨c, d, h1, h2, h3⟩ => by
    obtain ⟨a, b, g1, g2, g3⟩ := Wts.last (xs := xs) (x := x) h2
    exact ⟨a, c + 1 + b, g1, ⟨c, b, h1, g2, Nat.le_refl _⟩, by omega⟩
theorem Wts.len {k : Nat} : ∀ {xs : List D} {n : Nat}, Wts k n xs → xs.length ≤ n
  | [], n, h => Nat.zero_le _
  | x :: xs, n, ⟨a, b, h1, h2, h3⟩ => by
    have := h2.len
    rw [List.length_cons]; omega
theorem sumF_app (f : D → Nat) : ∀ xs ys : List D, sumF f (xs ++ ys) = sumF f xs + sumF f ys
  | [], ys => (Nat.zero_add _).symm
  | x :: xs, ys => by
    show f x + sumF f (xs ++ ys) = f x + sumF f xs + sumF f ys
    rw [sumF_app f xs ys]; omega
/-- the end that is due -/
def endB (t : Nat) : Bool := decide (0 < t) && decide (t < 13)
theorem endB_big {t : Nat} (h : 13 ≤ t) : endB t = false := by
  unfold endB
  rw [decide_eq_false (show ¬ t < 13 by omega), Bool.and_false]
theorem endB_same {s S h T : Nat} : endB (s + (S + (min 99 (h + T) + 0))) = endB (s + h + (S + T)) := by
  by_cases z : h + T ≤ 99
  · rw [show min 99 (h + T) = h + T by omega, show s + (S + (h + T + 0)) = s + h + (S + T) by omega]
  · rw [endB_big (by omega), endB_big (by omega)]
theorem pure_is_tree (ds : List D) (M : Sto) (Q : D → Sto → Prop) (E : Exn → Sto → Prop) (h : sp_is_tree ds M Q E) : m_is_tree (defEnds Q fun _ _ => False) ⟨startA 4 ds, M⟩ := by
  obtain ⟨d, k, n, rfl, ht, hn, q⟩ := h
  show m_is_tree _ ⟨[.v (d), .un, .un, .un], _⟩
  dsimp only [m_is_tree_eq]
  sleep 6
  refine ⟨size1, ?_⟩
  refine ⟨fun w en => ∃ (ws : List D) (s : Nat) (s3 : Sl), en = ⟨[.v d, .ol ws, .v (.int (s : Nat)), s3], M⟩ ∧ Wts (k + 1) w ws ∧ w ≤ n + 1 ∧ s ≤ 12 ∧ endB (s + sumF (szF (k + 2)) ws) = treeB (k + 1) d, ⟨n + 1, [d], 0, _, rfl, ⟨n, 0, ht.up, trivial, Nat.le_refl _⟩, Nat.le_refl _, Nat.zero_le _, ?_⟩, ?_⟩
  · show endB (0 + (szF (k + 2) d + 0)) = _
    rw [← szF_up ht, Nat.zero_add, Nat.add_zero]
    rfl
  rintro w en ⟨ws, s, s3, rfl, hw, hwn, hs, he⟩
  sleep 6
  refine ⟨Nat.zero_le _, neX_lst ?_⟩
  rcases List.eq_nil_or_concat ws with rfl | ⟨ws', x, rfl⟩
  · dsimp only [List.isEmpty]
    sleep 6
    have e : decide ((0 : Int) < (s : Int)) = treeB (k + 1) d := by
      rw [← he]
      unfold endB
      show decide ((0 : Int) < (s : Int)) = (decide (0 < s + 0) && decide (s + 0 < 13))
      rw [decide_eq_true (show s + 0 < 13 by omega), Bool.and_true]
      by_cases z : 0 < s
      · rw [decide_eq_true (by omega), decide_eq_true (by omega)]
      · rw [decide_eq_false (by omega), decide_eq_false (by omega)]
    rw [e]
    exact q
  · rw [List.concat_eq_append] at *
    have ee : (ws' ++ [x]).isEmpty = false := by cases ws' <;> rfl
    rw [ee]
    sleep 6
    dsimp only [is_tree_f0_eq]
    sleep 6
    obtain ⟨a, b, hx, hb, hab⟩ := hw.last
    have gl : (ws' ++ [x]).getLast? = some x := by rw [List.getLast?_append]; rfl
    refine oo_of gl ?_
    rw [List.dropLast_concat]
    sleep 6
    rw [sumF_app] at he
    have bad : szF (k + 2) x = 99 → treeB (k + 1) d = false := fun h => by
      rw [← he]
      have : sumF (szF (k + 2)) [x] = 99 + 0 := by show szF (k + 2) x + 0 = _; rw [h]
      exact endB_big (by omega)
    refine isi_tup hx.ty ?_
    cases x with
    | tup xs =>
      dsimp only [D.isTup]
      sleep 6
      refine ⟨size2, in_two ?_⟩
      sleep 6
      by_cases hl : xs.length = 0 ∨ xs.length = 2
      · rw [decide_eq_true hl]
        sleep 6
        refine fdiv_nat ⟨by decide, by decide⟩ ?_
        sleep 6
        obtain ⟨m, h1, h2⟩ := hx
        have hsz : sumF (szF (k + 2)) [D.tup xs] = min 99 (xs.length / 2 + sumF (szF (k + 1)) xs) + 0 := by
          show szF (k + 2) (.tup xs) + 0 = _
          rw [szF_tup, if_pos hl]
        rw [hsz, endB_same] at he
        rw [sum_up xs m h1] at he
        refine ite2 (fun h5 => ?_) (fun h5 => ?_)
        · have h5 := of_decide_eq_true h5
          have : treeB (k + 1) d = false := by
            rw [← he]
            exact endB_big (by omega)
          rw [this] at q
          exact q
        · have h5 : ¬ (12 : Int) < (s : Int) + ((xs.length / 2 : Nat) : Int) := fun z => h5 (decide_eq_true z)
          have lw := hb.len
          have lx := h1.len
          dsimp only [mExtT]
          sleep 6
          refine ⟨szOk (by omega), ?_⟩
          refine ⟨b + m, by omega, ws' ++ xs, s + xs.length / 2, .v (.tup xs), by rw [Int.natCast_add], hb.app (Wts.of h1), by omega, by omega, ?_⟩
          rw [sumF_app]
          exact he
      · rw [decide_eq_false hl]
        sleep 6
        rw [bad (by rw [szF_tup, if_neg hl])] at q
        exact q
    | _ =>
      first
        | (dsimp only [D.isTup]; sleep 6; rw [bad rfl] at q; exact q)
        | (cases hx.ty)
end LP
namespace LP
open PySem PySem.Spec L2
open PyProof.Rows hiding St
local macro_rules | `(tactic| sleep 1) => `(tactic| set_option simprocs false in dsimp only [lcR, mLc, mLr1, mLr2, gN, gT, gsCons, gsNil, tupD, mB, mOp, mOpF, mV, mO, mL, mCall, mCons, mNil, mvCons, mvNil, mCB, mCF, mVar_dat, oV_v, oV_ol, oV_od, mC, mIf, mAnd, mOr, mNot, mAndV, mOrV, mNotV, mTup, mLst, mNeg, mYes, mSl, mPart, mNo, mSeq, mR1, mR2, mR3, mEnumS, mZip, mIdx, mStep, mApp, mPop, mPopAt, mExt, mChain, pV, pO, pNil, sSeq, sFor, sSet, sSetO, sDrop, sRet, sRetN, sIf, sNext, sAug, sSub, sAsg, sPar2, sPar3, sTupN, LP.putAll, It1.sl, p2, p3, gt, List.set, wipeE, rq2, rq1, asB, LP.intD, i1, i2, d2, one, seqD, addK, subK, ltK, leK, gtK, geK, lenK, slD, defEnds, cns, slK, min2K, max2K, intK, mStar, olD, isOl, seq1, lst1, tupleK])
local macro_rules | `(tactic| sleep 2) => `(tactic| (simp [keepO]; try simp [Sl.own]))
local macro_rules | `(tactic| sleep 3) => `(tactic| (rw [sizeLine_is]; simp only [List.length_map, List.length_append, List.length_cons, List.length_nil, List.length_set, nums_len, cls_len, rng_len, List.length_range, List.length_replicate]; omega))
local macro_rules | `(tactic| sleep 7) => `(tactic| simp only [Bool.false_eq_true, Bool.not_true, Bool.not_false, ↓reduceIte, if_true, if_false])
local macro_rules | `(tactic| sleep 6) => `(tactic| (sleep 1; try simp only [exSome, exOl, true_and, Bool.false_eq_true, Bool.not_true, Bool.not_false, ↓reduceIte, if_true, if_false]; try sleep 1))
local macro_rules | `(tactic| sleep 8) => `(tactic| repeat (refine szAnd (by (try simp only [List.length_cons, List.length_nil, List.length_append, List.length_map, List.length_take, List.length_drop, List.length_reverse, nums_len, cls_len, nats_len']); omega) ?_))
end LP
namespace LP
open PySem PySem.Spec L2
open PyProof.Rows hiding St
local macro_rules | `(tactic| sleep 1) => `(tactic| set_option simprocs false in dsimp only [lcR, mLc, mLr1, mLr2, gN, gT, gsCons, gsNil, tupD, mB, mOp, mOpF, mV, mO, mL, mCall, mCons, mNil, mvCons, mvNil, mCB, mCF, mVar_dat, oV_v, oV_ol, oV_od, mC, mIf, mAnd, mOr, mNot, mAndV, mOrV, mNotV, mTup, mLst, mNeg, mYes, mSl, mPart, mNo, mSeq, mR1, mR2, mR3, mEnumS, mZip, mIdx, mStep, mApp, mPop, mPopAt, mExt, mChain, pV, pO, pNil, sSeq, sFor, sSet, sSetO, sDrop, sRet, sRetN, sIf, sNext, sAug, sSub, sAsg, sPar2, sPar3, sTupN, LP.putAll, It1.sl, p2, p3, gt, List.set, wipeE, rq2, rq1, asB, LP.intD, i1, i2, d2, one, seqD, addK, subK, ltK, leK, gtK, geK, lenK, slD, defEnds, cns, slK, min2K, max2K, intK, mStar, olD, isOl, seq1, lst1, tupleK])
local macro_rules | `(tactic| sleep 2) => `(tactic| (simp [keepO]; try simp [Sl.own]))
local macro_rules | `(tactic| sleep 3) => `(tactic| (rw [sizeLine_is]; simp only [List.length_map, List.length_append, List.length_cons, List.length_nil, List.length_set, nums_len, cls_len, rng_len, List.length_range, List.length_replicate]; omega))
local macro_rules | `(tactic| sleep 7) => `(tactic| simp only [Bool.false_eq_true, Bool.not_true, Bool.not_false, ↓reduceIte, if_true, if_false])
local macro_rules | `(tactic| sleep 6) => `(tactic| (sleep 1; try simp only [exSome, exOl, true_and, Bool.false_eq_true, Bool.not_true, Bool.not_false, ↓reduceIte, if_true, if_false]; try sleep 1))
local macro_rules | `(tactic| sleep 8) => `(tactic| repeat (refine szAnd (by (try simp only [List.length_cons, List.length_nil, List.length_append, List.length_map, List.length_take, List.length_drop, List.length_reverse, nums_len, cls_len, nats_len']); omega) ?_))
section
variable {X : Cx}
end
def VOk2 : D → Prop
  | .tup xs => ∀ x ∈ xs, VOk x
  | d => d.hasT = true
theorem VOk2.ty {d : D} (h : VOk2 d) : d.hasT = true := by cases d <;> first | rfl | exact h
end LP
namespace LP
open PySem PySem.Spec L2
open PyProof.Rows hiding St
local macro_rules | `(tactic| sleep 1) => `(tactic| set_option simprocs false in dsimp only [lcR, mLc, mLr1, mLr2, gN, gT, gsCons, gsNil, tupD, mB, mOp, mOpF, mV, mO, mL, mCall, mCons, mNil, mvCons, mvNil, mCB, mCF, mVar_dat, oV_v, oV_ol, oV_od, mC, mIf, mAnd, mOr, mNot, mAndV, mOrV, mNotV, mTup, mLst, mNeg, mYes, mSl, mPart, mNo, mSeq, mR1, mR2, mR3, mEnumS, mZip, mIdx, mStep, mApp, mPop, mPopAt, mExt, mChain, pV, pO, pNil, sSeq, sFor, sSet, sSetO, sDrop, sRet, sRetN, sIf, sNext, sAug, sSub, sAsg, sPar2, sPar3, sTupN, LP.putAll, It1.sl, p2, p3, gt, List.set, wipeE, rq2, rq1, asB, LP.intD, i1, i2, d2, one, seqD, addK, subK, ltK, leK, gtK, geK, lenK, slD, defEnds, cns, slK, min2K, max2K, intK, mStar, olD, isOl, seq1, lst1, tupleK])
local macro_rules | `(tactic| sleep 2) => `(tactic| (simp [keepO]; try simp [Sl.own]))
local macro_rules | `(tactic| sleep 3) => `(tactic| (rw [sizeLine_is]; simp only [List.length_map, List.length_append, List.length_cons, List.length_nil, List.length_set, nums_len, cls_len, rng_len, List.length_range, List.length_replicate]; omega))
local macro_rules | `(tactic| sleep 7) => `(tactic| simp only [Bool.false_eq_true, Bool.not_true, Bool.not_false, ↓reduceIte, if_true, if_false])
local macro_rules | `(tactic| sleep 6) => `(tactic| (sleep 1; try simp only [exSome, exOl, true_and, Bool.false_eq_true, Bool.not_true, Bool.not_false, ↓reduceIte, if_true, if_false]; try sleep 1))
local macro_rules | `(tactic| sleep 8) => `(tactic| repeat (refine szAnd (by (try simp only [List.length_cons, List.length_nil, List.length_append, List.length_map, List.length_take, List.length_drop, List.length_reverse, nums_len, cls_len, nats_len']); omega) ?_))
def inZ (j : Nat) (i : Int) : Prop := (-(2 + (j : Int)) ≤ i ∧ i ≤ 14 + (j : Int)) ∨ (10 ^ 29 - (j : Int) ≤ i ∧ i ≤ 10 ^ 29 + (j : Int))
def AZ (j : Nat) : Nat → D → Prop
  | 0, d => ∀ i, d = .int i → inZ j i
  | k + 1, .tup xs => ∀ x ∈ xs, AZ j k x
  | _ + 1, d => ∀ i, d = .int i → inZ j i
def AZs (j : Nat) (d : D) : Prop := ∀ k, AZ j k d
theorem AZs.int {j : Nat} {i : Int} (h : AZs j (.int i)) : inZ j i := h 0 i rfl
theorem AZs.tup {j : Nat} {xs : List D} (h : ∀ x ∈ xs, AZs j x) : AZs j (.tup xs) := fun k => by
  cases k with
  | zero => exact fun i e => by cases e
  | succ k => exact fun x hx => h x hx k
theorem AZs.items {j : Nat} {xs : List D} (h : AZs j (.tup xs)) : ∀ x ∈ xs, AZs j x := fun x hx k => h (k + 1) x hx
theorem AZs.leaf {j : Nat} {d : D} (h1 : d.isTup = false) (h2 : ∀ i, d ≠ .int i) : AZs j d := fun k => by
  cases k with
  | zero => exact fun i e => absurd e (h2 i)
  | succ k =>
    cases d with
    | tup xs => cases h1
    | _ => exact fun i e => absurd e (h2 i)
theorem inZ.mono {j j' : Nat} {i : Int} (h : inZ j i) (hj : j ≤ j') : inZ j' i := by
  unfold inZ at h ⊢
  omega
theorem AZ.mono {j j' : Nat} (hj : j ≤ j') : ∀ {k : Nat} {d : D}, AZ j k d → AZ j' k d
  | 0, d, h => fun i e => (h i e).mono hj
  | k + 1, d, h => by
    cases d with
    | tup xs => exact fun x hx => AZ.mono hj (h x hx)
    | _ => exact fun i e => (h i e).mono hj
theorem AZs.mono {j j' : Nat} {d : D} (h : AZs j d) (hj : j ≤ j') : AZs j' d := fun k => (h k).mono hj
/-- the texts of these numbers -/
def zs : List Int := (List.range 30).map (fun (k : Nat) => (k : Int) - 8) ++ (List.range 12).map (fun (k : Nat) => (10 : Int) ^ 29 - 5 + k)
end LP
namespace LP
open PySem PySem.Spec L2
open PyProof.Rows hiding St
/-- the reading that a block's meaning has by itself -/
def cS (K : PySem.W.Frag) (W : WX) (m : MS) : TS := fun E σ H => ∃ (P0 F : Hp) (en : En) (A : AEnds), RS K P0 F en σ H ∧ Wk K W P0 F A E ∧ m A en
/-- a caught exception as a value -/
def exD (x : Exn) (a : Addr) (d : Option Addr) : D := match x.fs, d with
  | some (fs, ds), some dd => .exn a dd fs ds
  | _, _ => .ref a
theorem exD_rp {K : PySem.W.Frag} {F : Hp} {x : Exn} {cls : Value} {a : Addr} {d : Option Addr} (h : XOk K F x cls d) : Rp K F (.ref a) (exD x a d) := by
  obtain ⟨c, fs⟩ := x
  obtain ⟨_, h⟩ := h
  cases fs with
  | none => exact .ref a
  | some p =>
    obtain ⟨fs, ds⟩ := p
    obtain ⟨dd, vs, rfl, h1, h2, h3⟩ := h
    exact .exn h1 h2 h3
theorem XOk.some_iff {K : PySem.W.Frag} {F : Hp} {x : Exn} {cls : Value} {d : Option Addr} (h : XOk K F x cls d) : d.isSome = x.fs.isSome := by
  obtain ⟨c, fs⟩ := x
  obtain ⟨_, h⟩ := h
  cases fs with
  | none => cases h; rfl
  | some p =>
    obtain ⟨fs, ds⟩ := p
    obtain ⟨dd, vs, rfl, _⟩ := h
    rfl
def unName (i : Nat) (A : AEnds) : AEnds :=
  { nx := fun e => A.nx { e with sl := e.sl.set i .un }, rt := A.rt, bk := fun e => A.bk { e with sl := e.sl.set i .un }, ct := fun e => A.ct { e with sl := e.sl.set i .un } }
section
variable {X : Cx} {W : WX} {x n : Str} {c : Value} {i : Nat} {body suite : List Stmt} {b₀ : Stmt} {np pos pos' : Pos} {mb : MS} {ms : Addr → Value → Option Addr → MS}
end
/-- the caught exception that the context pins -/
structure HasX (X : Cx) (a : Addr) (cls : Value) (d : Option Addr) : Prop where
  ex : ∃ oe : Obj, (a, oe) ∈ X.pn ∧ Zc cls d oe ∧ ∃ vs, oe.data = .fields vs
/-- what an own exception class at C tells -/
structure EX (K : PySem.W.Frag) (C : Addr) : Prop where
  hg : PySem.W.findIn K (.ref C) "__getattribute__" = some (some (.builtin "BaseException.__getattribute__"))
  hk : PySem.W.findIn K (.ref C) "__getattr__" = some none
  hs : PySem.W.subIn K (.ref C) (.type "BaseException") = some true
  hd : PySem.W.hasDictIn K C = true
  ha : PySem.W.findIn K (.ref C) "__class__" = some (some (.builtin "object.__class__"))
  hn : PySem.W.specialIn K (.builtin "object.__class__") "__get__" = some (some (.builtin "getset_descriptor.__get__"))
  ht : PySem.W.takesIn K (.builtin "object.__class__") = some true
  hm : PySem.W.mroIn K C (.type "object") = some true
theorem EX.cl {K : PySem.W.Frag} {C : Addr} (e : EX K C) : (PySem.W.clsIn K C).isSome = true := by
  cases q : PySem.W.clsIn K C with
  | some _ => rfl
  | none =>
    have z := e.hd
    unfold PySem.W.hasDictIn at z
    rw [q] at z
    cases z
end LP
namespace LP
open PySem PySem.Spec L2
open PyProof.Rows hiding St
/-- an exception class of the program that is made by its own __init__ or by none -/
structure MkE (K : PySem.W.Frag) (C : Addr) : Prop where
  ex : ∃ (B nid iid : String) (bmB : List Value), ExcBaseFacts B nid iid bmB ∧ StoreFacts B bmB "object.__setattr__" "object" ∧ PySem.W.excInitIn K C bmB nid = true ∧ PySem.W.excOver K C bmB = true
  hd : PySem.W.hasDictIn K C = true
  sa : PySem.W.findIn K (.ref C) "__setattr__" = some (some (.builtin "object.__setattr__"))
  exC : PySem.W.subIn K (.ref C) (.type "BaseException") = some true
  tyC : PySem.W.typeIn K (.ref C) = some (.type "type")
  kC : PySem.W.keepIn K (.ref C) = true
section
variable {prog : Program} {w : World} {A : Around} {E : Value → Shared → Prop}
end
section
variable {X : Cx}
end
section
variable {P : Program} {w : World} {K : PySem.W.Frag} {mg : Str → Option Value} {base : Heap}
end
section
variable {X : Cx} {W : WX} {x f self g : Str} {C fI : Addr} {fd : FuncData} {e : Expr} {te : TE} {p pos pos' : Pos}
end
end LP
namespace LP
open PySem PySem.Spec L2
open PyProof.Rows hiding St
section
variable {X : Cx} {W : WX} {e : Expr} {es : List Expr} {pos : Pos}
end
structure EInit (K : PySem.W.Frag) (mg : Str → Option Value) (x q f : Str) (st : Stmt) where
  fd : FuncData
  mke : MkE K (He.ga K x)
  gl : mg x = some (.ref (He.ga K x))
  ini : PySem.W.findIn K (.ref (He.ga K x)) "__init__" = some (some (.ref (He.ma K (He.ga K x) "__init__")))
  ty : PySem.W.typeIn K (.ref (He.ma K (He.ga K x) "__init__")) = some (.type "function")
  tk : PySem.W.takerIn K (He.ga K x) f = some none
  F : FnD K "__init__" q st [] [] (He.ma K (He.ga K x) "__init__") fd
section
variable {X : Cx} {W : WX} {x q self f : Str} {st : Stmt} {e : Expr} {me : ME} {p pos pos' : Pos}
end
end LP
namespace LP
open PySem PySem.Spec L2
open PyProof.Rows hiding St
local macro_rules | `(tactic| sleep 1) => `(tactic| set_option simprocs false in dsimp only [lcR, mLc, mLr1, mLr2, gN, gT, gsCons, gsNil, tupD, mB, mOp, mOpF, mV, mO, mL, mCall, mCons, mNil, mvCons, mvNil, mCB, mCF, mVar_dat, oV_v, oV_ol, oV_od, mC, mIf, mAnd, mOr, mNot, mAndV, mOrV, mNotV, mTup, mLst, mNeg, mYes, mSl, mPart, mNo, mSeq, mR1, mR2, mR3, mEnumS, mZip, mIdx, mStep, mApp, mPop, mPopAt, mExt, mChain, pV, pO, pNil, sSeq, sFor, sSet, sSetO, sDrop, sRet, sRetN, sIf, sNext, sAug, sSub, sAsg, sPar2, sPar3, sTupN, LP.putAll, It1.sl, p2, p3, gt, List.set, wipeE, rq2, rq1, asB, LP.intD, i1, i2, d2, one, seqD, addK, subK, ltK, leK, gtK, geK, lenK, slD, defEnds, cns, slK, min2K, max2K, intK, mStar, olD, isOl, seq1, lst1, tupleK])
local macro_rules | `(tactic| sleep 2) => `(tactic| (simp [keepO]; try simp [Sl.own]))
local macro_rules | `(tactic| sleep 3) => `(tactic| (rw [sizeLine_is]; simp only [List.length_map, List.length_append, List.length_cons, List.length_nil, List.length_set, nums_len, cls_len, rng_len, List.length_range, List.length_replicate]; omega))
local macro_rules | `(tactic| sleep 7) => `(tactic| simp only [Bool.false_eq_true, Bool.not_true, Bool.not_false, ↓reduceIte, if_true, if_false])
local macro_rules | `(tactic| sleep 6) => `(tactic| (sleep 1; try simp only [exSome, exOl, true_and, Bool.false_eq_true, Bool.not_true, Bool.not_false, ↓reduceIte, if_true, if_false]; try sleep 1))
local macro_rules | `(tactic| sleep 8) => `(tactic| repeat (refine szAnd (by (try simp only [List.length_cons, List.length_nil, List.length_append, List.length_map, List.length_take, List.length_drop, List.length_reverse, nums_len, cls_len, nats_len']); omega) ?_))
/-- what is told of NoWindow -/
structure WinF (K : PySem.W.Frag) : Prop where
  ex : EX K (He.ga K "NoWindow")
  no : PySem.W.findIn K (.ref (He.ga K "NoWindow")) "value" = some none
  em : PySem.W.exmOne K (.ref (He.ga K "NoWindow")) (.ref (He.ga K "NoWindow")) = some true
  k1 : PySem.W.kitOne K (.ref (He.ga K "NoWindow")) (.ref (He.ga K "LeastError")) = some false
  k2 : PySem.W.kitOne K (.ref (He.ga K "NoWindow")) (.ref (He.ga K "NoIndex")) = some false
  k3 : PySem.W.kitOne K (.ref (He.ga K "NoWindow")) (.ref (He.ga K "NoVersion")) = some false
  k4 : PySem.W.kitOne K (.ref (He.ga K "NoWindow")) (.type "LookupError") = some true
end LP
namespace LP
open PySem PySem.Spec L2
open PyProof.Rows hiding St
end LP
namespace LP
open PySem PySem.Spec L2
open PyProof.Rows hiding St
theorem Rps.bls {K : PySem.W.Frag} {F : Hp} : ∀ {vs : List V} {bs : List Bool}, Rps K F vs (bs.map D.bl) → vs = bs.map V.bl
  | _, [], h => by cases h; rfl
  | _, b :: bs, h => by
    cases h with
    | cons h1 h2 => cases h1; rw [Rps.bls h2]; rfl
open L2H in
structure FnE (P : Program) (w : World) (K : PySem.W.Frag) (mg : Str → Option Value) (base : Heap) (k : Nat) (f : Addr) (fd : FuncData) (ps : List Str) (sp : Addr → Value → Option Addr → Sp) : Prop where
  len : ∀ a c d vs H Q E, sp a c d vs H Q E → ps.length = vs.length
  go : ∀ (A : Around) (cls : Value) (d : Option Addr) (p : Addr × Obj), A.guards = some [] → RoomH k A → A.handled = some (.ref p.1) → Zc cls d p.2 → (∃ vs, p.2.data = .fields vs) → ∀ (out : List Env) (s : Shared) (H : Hp), PinOk out H s p → Env0 P w K mg base A out s H →
    ∀ (args : Args) (us : List Value) (vs : List V), BindsTo s fd args (ps.zip us) → Vals vs us → ∀ (Q : VK), sp p.1 cls d vs H Q (fun _ _ _ => False) → codeAny (model P w) A (.call (.ref f) args) (CR (L2N.CX P w) out P w H s Q (fun _ _ _ => False)) s
section
variable {P : Program} {w : World} {K : PySem.W.Frag} {mg : Str → Option Value} {base : Heap}
end
section
variable {X : Cx} {W : WX} {e : Expr} {es : List Expr} {pos : Pos}
end
def k9 (K : PySem.W.Frag) (C : Str) : List (Option Bool) := (["NoRows", "NotAlike", "NotShape", "BadTargets", "NoProperty", "BadWish", "NoWindow", "NoIndex", "NoVersion"] : List Str).map fun x => PySem.W.kitOne K (.ref (He.ga K C)) (.ref (He.ga K x))
structure AloneF (K : PySem.W.Frag) (C : Str) : Prop where
  ex : EX K (He.ga K C)
  k : ∃ b1 b2 b3 b4 b5 b6 b7 b8 b9 : Bool, k9 K C = [some b1, some b2, some b3, some b4, some b5, some b6, some b7, some b8, some b9] ∧ [b1, b2, b3, b4, b5, b6, b7, b8, b9].count true = 1
  t : (PySem.W.kitOne K (.ref (He.ga K C)) (.ref (He.ga K "LeastError")) = some true ∧ PySem.W.kitOne K (.ref (He.ga K C)) (.type "LookupError") = some false) ∨
    (PySem.W.kitOne K (.ref (He.ga K C)) (.ref (He.ga K "LeastError")) = some false ∧ PySem.W.kitOne K (.ref (He.ga K C)) (.type "LookupError") = some true ∧ PySem.W.kitOne K (.ref (He.ga K C)) (.type "ValueError") = some false)
end LP
namespace LP
open PySem PySem.Spec L2
open PyProof.Rows hiding St
local macro_rules | `(tactic| sleep 1) => `(tactic| set_option simprocs false in dsimp only [lcR, mLc, mLr1, mLr2, gN, gT, gsCons, gsNil, tupD, mB, mOp, mOpF, mV, mO, mL, mCall, mCons, mNil, mvCons, mvNil, mCB, mCF, mVar_dat, oV_v, oV_ol, oV_od, mC, mIf, mAnd, mOr, mNot, mAndV, mOrV, mNotV, mTup, mLst, mNeg, mYes, mSl, mPart, mNo, mSeq, mR1, mR2, mR3, mEnumS, mZip, mIdx, mStep, mApp, mPop, mPopAt, mExt, mChain, pV, pO, pNil, sSeq, sFor, sSet, sSetO, sDrop, sRet, sRetN, sIf, sNext, sAug, sSub, sAsg, sPar2, sPar3, sTupN, LP.putAll, It1.sl, p2, p3, gt, List.set, wipeE, rq2, rq1, asB, LP.intD, i1, i2, d2, one, seqD, addK, subK, ltK, leK, gtK, geK, lenK, slD, defEnds, cns, slK, min2K, max2K, intK, mStar, olD, isOl, seq1, lst1, tupleK])
local macro_rules | `(tactic| sleep 2) => `(tactic| (simp [keepO]; try simp [Sl.own]))
local macro_rules | `(tactic| sleep 3) => `(tactic| (rw [sizeLine_is]; simp only [List.length_map, List.length_append, List.length_cons, List.length_nil, List.length_set, nums_len, cls_len, rng_len, List.length_range, List.length_replicate]; omega))
local macro_rules | `(tactic| sleep 7) => `(tactic| simp only [Bool.false_eq_true, Bool.not_true, Bool.not_false, ↓reduceIte, if_true, if_false])
local macro_rules | `(tactic| sleep 6) => `(tactic| (sleep 1; try simp only [exSome, exOl, true_and, Bool.false_eq_true, Bool.not_true, Bool.not_false, ↓reduceIte, if_true, if_false]; try sleep 1))
local macro_rules | `(tactic| sleep 8) => `(tactic| repeat (refine szAnd (by (try simp only [List.length_cons, List.length_nil, List.length_append, List.length_map, List.length_take, List.length_drop, List.length_reverse, nums_len, cls_len, nats_len']); omega) ?_))
/-- d != d -/
theorem ne_self {d : D} {k : D → Prop} (h : EqOk d) (q : k (.bl false)) : neK d d k := by
  obtain ⟨e, h1, h2, h3⟩ := h
  have gen : eqD true d d k := ⟨e, e, h1, h1, ⟨h2, h2, by omega⟩, by rw [if_pos rfl, PySem.SeqAt.eqv_refl e h2]; exact q⟩
  cases d with
  | int a => show k (.bl (!decide (a = a))); rw [decide_eq_true rfl]; exact q
  | str a => show k (.bl (!decide (a = a))); rw [decide_eq_true rfl]; exact q
  | bl a => show k (.bl (!decide (a = a))); rw [decide_eq_true rfl]; exact q
  | non => exact q
  | _ => exact gen
theorem EqOk.bl (b : Bool) : EqOk (.bl b) := ⟨_, rfl, rfl, by show (0 : Nat) ≤ 60; decide⟩
theorem EqOk.int (b : Int) : EqOk (.int b) := ⟨_, rfl, rfl, by show (0 : Nat) ≤ 60; decide⟩
theorem EqOk.str {b : Str} (h : PyData.strOk b = true) : EqOk (.str b) := ⟨_, rfl, h, by show (0 : Nat) ≤ 60; decide⟩
theorem EqOk.lst {xs : List D} (h : ∀ x ∈ xs, ∃ e, D.py x = some e ∧ e.canLay0 = true ∧ e.depth ≤ 50) : EqOk (.lst xs) := by
  have key : ∀ xs : List D, (∀ x ∈ xs, ∃ e, D.py x = some e ∧ e.canLay0 = true ∧ e.depth ≤ 50) → ∃ es, D.pys xs = some es ∧ PyData.canLayAll0 es = true ∧ PyData.depthAll es ≤ 50 := by
    intro xs
    induction xs with
    | nil => intro _; exact ⟨[], rfl, rfl, Nat.zero_le _⟩
    | cons x xs ih =>
      intro h
      obtain ⟨e, h1, h2, h3⟩ := h x (List.mem_cons_self ..)
      obtain ⟨es, k1, k2, k3⟩ := ih fun y hy => h y (List.mem_cons_of_mem _ hy)
      refine ⟨e :: es, by show (match D.py x, D.pys xs with | some a, some b => some (a :: b) | _, _ => none) = _; rw [h1, k1], ?_, ?_⟩
      · rw [PyData.canLayAll0, h2, k2]; rfl
      · show max e.depth (PyData.depthAll es) ≤ 50
        omega
  obtain ⟨es, k1, k2, k3⟩ := key xs h
  refine ⟨.list es, by show (D.pys xs).map PyData.list = _; rw [k1]; rfl, ?_, ?_⟩
  · rw [PyData.canLay0]; exact k2
  · show PyData.depthAll es + 1 ≤ 60
    omega
end LP
namespace LP.Hide
open PySem
open Sem (wp)
/-- a sleeper that cannot be woken; it looks as before -/
def dead : GenState → GenState
  | .suspended _ l c p fs cl => .suspended (fun _ => .unsupported "hidden") l c p fs cl
  | x => x
def slp : GenState → Bool
  | .suspended .. => true
  | _ => false
theorem seen_dead (x : GenState) : (dead x).seen = x.seen := by cases x <;> rfl
theorem bare_dead (x : GenState) : (dead x).bare = x.bare := by cases x <;> rfl
theorem no_run {M : Model} {Γ : Ctx} {p : Pos} {t : Sem PySem.Fin} {fs : List Frame} {s s' : Shared} {e : End} (h : Runs M Γ p t fs s e s') : ∀ {w : String}, t = .unsupported w → False := by
  induction h <;> intro w z <;> cases z
  all_goals (rename_i ih; exact ih rfl)
def gf : End → Prop
  | .ret _ => True
  | .susp _ _ _ _ _ _ fs => splitAtGen fs = none
theorem split_app : ∀ {fs gs : List Frame}, splitAtGen fs = none → splitAtGen gs = none → splitAtGen (fs ++ gs) = none
  | [], _, _, h => h
  | .ret k h g l c p kp :: fs, gs, h1, h2 => by
    have h1' : (splitAtGen fs).map (fun x => (Frame.ret k h g l c p kp :: x.1, x.2)) = none := h1
    have e : splitAtGen fs = none := by
      cases q : splitAtGen fs with
      | none => rfl
      | some x => rw [q] at h1'; cases h1'
    show (splitAtGen (fs ++ gs)).map _ = none
    rw [split_app e h2]; rfl
  | .gen g k l c p :: fs, gs, h1, _ => by cases h1
theorem split_tail {k : Result → Sem PySem.Fin} {h : Option Value} {g : Bool} {l kp : List Value} {c : Code} {p : Pos} {fs : List Frame} (e : splitAtGen (.ret k h g l c p kp :: fs) = none) : splitAtGen fs = none := by
  have e' : (splitAtGen fs).map (fun x => (Frame.ret k h g l c p kp :: x.1, x.2)) = none := e
  cases q : splitAtGen fs with
  | none => rfl
  | some x => rw [q] at e'; cases e'
section
variable (act : Nat → Option GenState)
def fixG (G : Array GenState) : Array GenState := G.mapIdx fun i x => (act i).getD x
def fixS (s : Shared) : Shared := { s with gens := fixG act s.gens }
structure Hid (s : Shared) : Prop where
  d : ∀ i y, act i = some y → s.gens[i]? = some (dead y) ∧ slp y = true
  j : ∀ i k l c p fs cl, s.gens[i]? = some (.suspended k l c p fs cl) → act i = none → splitAtGen fs = none
end
variable {act : Nat → Option GenState} {M : Model}
theorem fix_size (G : Array GenState) : (fixG act G).size = G.size := by simp [fixG]
theorem fix_at {G : Array GenState} {i : Nat} {x : GenState} (h : G[i]? = some x) : (fixG act G)[i]? = some ((act i).getD x) := by
  unfold fixG
  rw [Array.getElem?_mapIdx, h]; rfl
theorem fix_push {G : Array GenState} {x : GenState} (h : act G.size = none) : fixG act (G.push x) = (fixG act G).push x := by
  unfold fixG
  rw [Array.mapIdx_push, h]; rfl
theorem fix_set {G : Array GenState} {g : Nat} {x : GenState} (h : act g = none) : fixG act (G.setIfInBounds g x) = (fixG act G).setIfInBounds g x := by
  apply Array.ext_getElem?
  intro i
  unfold fixG
  rw [Array.getElem?_mapIdx, Array.getElem?_setIfInBounds, Array.getElem?_setIfInBounds, Array.getElem?_mapIdx, Array.size_mapIdx]
  by_cases e : g = i
  · subst e
    simp only [if_true]
    split
    · simp [h]
    · rfl
  · simp only [if_neg e]
theorem Hid.other {s : Shared} (h : Hid act s) {g : Nat} {x : GenState} (e : s.gens[g]? = some x) (n : slp x = false) : act g = none := by
  cases q : act g with
  | none => rfl
  | some y =>
    obtain ⟨h1, h2⟩ := h.d g y q
    rw [e] at h1
    have : x = dead y := Option.some.inj h1
    subst this
    cases y with
    | suspended => cases n
    | _ => cases h2
theorem Hid.gens {s : Shared} {G : Array GenState} (h : Hid act s) (e : G = s.gens) (s' : Shared) (e' : s'.gens = G) : Hid act s' := ⟨fun i y q => by rw [e', e]; exact h.d i y q, fun i k l c p fs cl q => by rw [e', e] at q; exact h.j i k l c p fs cl q⟩
theorem Hid.set {s : Shared} (h : Hid act s) {g : Nat} {x : GenState} (n : act g = none) (hx : ∀ k l c p fs cl, x = .suspended k l c p fs cl → splitAtGen fs = none) : Hid act (s.setGen g x) := by
  refine ⟨fun i y q => ?_, fun i k l c p fs cl q hn => ?_⟩
  · have ne : g ≠ i := fun z => by rw [← z, n] at q; cases q
    show (s.gens.setIfInBounds g x)[i]? = _ ∧ _
    rw [Array.getElem?_setIfInBounds_ne ne]
    exact h.d i y q
  · have q' : (s.gens.setIfInBounds g x)[i]? = some (.suspended k l c p fs cl) := q
    by_cases e : g = i
    · subst e
      rw [Array.getElem?_setIfInBounds] at q'
      simp only [if_true] at q'
      split at q'
      · exact hx _ _ _ _ _ _ (Option.some.inj q')
      · cases q'
    · rw [Array.getElem?_setIfInBounds_ne e] at q'
      exact h.j _ _ _ _ _ _ _ q' hn
theorem Hid.push {s : Shared} (h : Hid act s) (c : Code) : Hid act { s with gens := s.gens.push (.fresh c) } ∧ act s.gens.size = none := by
  have n : act s.gens.size = none := by
    cases q : act s.gens.size with
    | none => rfl
    | some y =>
      have := (h.d _ y q).1
      rw [Array.getElem?_eq_none (Nat.le_refl _)] at this
      cases this
  refine ⟨⟨fun i y q => ?_, fun i k l c' p fs cl q hn => ?_⟩, n⟩
  · obtain ⟨h1, h2⟩ := h.d i y q
    refine ⟨?_, h2⟩
    show (s.gens.push (.fresh c))[i]? = _
    rw [Array.getElem?_push]
    have hi : i < s.gens.size := (Array.getElem?_eq_some_iff.mp h1).1
    rw [if_neg (Nat.ne_of_lt hi)]
    exact h1
  · have q' : (s.gens.push (.fresh c))[i]? = some (.suspended k l c' p fs cl) := q
    rw [Array.getElem?_push] at q'
    split at q'
    · cases q'
    · exact h.j _ _ _ _ _ _ _ q' hn
theorem fix_setGen {s : Shared} {g : Nat} {x : GenState} (n : act g = none) : fixS act (s.setGen g x) = (fixS act s).setGen g x := by
  show ({ s with gens := fixG act (s.gens.setIfInBounds g x) } : Shared) = { s with gens := (fixG act s.gens).setIfInBounds g x }
  rw [fix_set n]
theorem gs_gf {e : End} (h : gf e) : ∀ k l c p fs cl, e.genState = .suspended k l c p fs cl → splitAtGen fs = none := by
  intro k l c p fs cl q
  cases e with
  | ret r => cases q
  | susp v g l' k' c' p' fs' => cases q; exact h
theorem Hid.seen {s : Shared} (h : Hid act s) {g : Nat} {st : GenState} (q : s.gens[g]? = some st) : ((act g).getD st).seen = st.seen := by
  cases z : act g with
  | none => rfl
  | some y =>
    have := (h.d g y z).1
    rw [q] at this
    rw [Option.some.inj this, seen_dead]; rfl
theorem fix_sizeS {s : Shared} : (fixS act s).gens.size = s.gens.size := fix_size _
theorem fix_new {s : Shared} {c : Code} (n : act s.gens.size = none) : fixS act { s with gens := s.gens.push (.fresh c) } = { fixS act s with gens := (fixS act s).gens.push (.fresh c) } := by
  show ({ s with gens := fixG act (s.gens.push (.fresh c)) } : Shared) = { s with gens := (fixG act s.gens).push (.fresh c) }
  rw [fix_push n]
theorem runs_hide {Γ : Ctx} {p : Pos} {t : Sem PySem.Fin} {fs : List Frame} {s s' : Shared} {e : End} (h : Runs M Γ p t fs s e s') : splitAtGen fs = none → Hid act s → Hid act s' ∧ Runs M Γ p t fs (fixS act s) e (fixS act s') ∧ gf e := by
  induction h with
  | done => intro _ hh; exact ⟨hh, .done, trivial⟩
  | raise => intro _ hh; exact ⟨hh, .raise, trivial⟩
  | again q _ ih => intro f hh; obtain ⟨a, b, c⟩ := ih f hh; exact ⟨a, .again q b, c⟩
  | rule _ ih => intro f hh; obtain ⟨a, b, c⟩ := ih f hh; exact ⟨a, .rule b, c⟩
  | «at» _ ih => intro f hh; obtain ⟨a, b, c⟩ := ih f hh; exact ⟨a, .at b, c⟩
  | load e _ ih => intro f hh; obtain ⟨a, b, c⟩ := ih f hh; exact ⟨a, .load e b, c⟩
  | update e _ ih => intro f hh; obtain ⟨a, b, c⟩ := ih f (hh.gens rfl _ rfl); exact ⟨a, .update e b, c⟩
  | loadIfAlive _ ih => intro f hh; obtain ⟨a, b, c⟩ := ih f hh; exact ⟨a, .loadIfAlive b, c⟩
  | point _ ih => intro f hh; obtain ⟨a, b, c⟩ := ih f hh; exact ⟨a, .point b, c⟩
  | alloc _ ih => intro f hh; obtain ⟨a, b, c⟩ := ih f (hh.gens rfl _ rfl); exact ⟨a, .alloc b, c⟩
  | fresh _ ih => intro f hh; obtain ⟨a, b, c⟩ := ih f (hh.gens rfl _ rfl); exact ⟨a, .fresh b, c⟩
  | ask _ ih => intro f hh; obtain ⟨a, b, c⟩ := ih f hh; exact ⟨a, .ask b, c⟩
  | choose n _ ih => intro f hh; obtain ⟨a, b, c⟩ := ih f (hh.gens rfl _ rfl); exact ⟨a, .choose n b, c⟩
  | os _ ih => intro f hh; obtain ⟨a, b, c⟩ := ih f (hh.gens rfl _ rfl); exact ⟨a, .os b, c⟩
  | handled _ ih => intro f hh; obtain ⟨a, b, c⟩ := ih f hh; exact ⟨a, .handled b, c⟩
  | genState q _ ih => intro f hh; obtain ⟨a, b, c⟩ := ih f hh; exact ⟨a, .genState (fix_at (act := act) q) (by rw [hh.seen q]; exact b), c⟩
  | stack _ ih => intro f hh; obtain ⟨a, b, c⟩ := ih f hh; exact ⟨a, .stack b, c⟩
  | thread _ ih => intro f hh; obtain ⟨a, b, c⟩ := ih f hh; exact ⟨a, .thread b, c⟩
  | newGen _ ih =>
    intro f hh
    obtain ⟨h1, n⟩ := hh.push _
    obtain ⟨a, b, d⟩ := ih f h1
    rw [fix_new n] at b
    exact ⟨a, .newGen (by rw [fix_sizeS]; exact b), d⟩
  | call _ _ ih1 ih2 => intro f hh; obtain ⟨a, b, _⟩ := ih1 f hh; obtain ⟨a2, b2, c2⟩ := ih2 f a; exact ⟨a2, .call b b2, c2⟩
  | callSusp _ ih => intro f hh; obtain ⟨a, b, c⟩ := ih f hh; exact ⟨a, .callSusp b, split_app c rfl⟩
  | yield => intro _ hh; exact ⟨hh, .yield, rfl⟩
  | resumeFresh q _ hq _ ih1 ih2 =>
    intro f hh
    have n := hh.other q rfl
    obtain ⟨a, b, c⟩ := ih1 rfl (hh.set n (fun _ _ _ _ _ _ z => by cases z))
    obtain ⟨a2, b2, c2⟩ := ih2 f (a.set n (gs_gf c))
    rw [fix_setGen n] at b b2
    have q2 := fix_at (act := act) q
    rw [n] at q2
    exact ⟨a2, .resumeFresh q2 b hq b2, c2⟩
  | @resumeSuspended Γ p g r l k s k₀ l₀ c₀ p₀ fs cl e₁ s₁ e s' q hr hq _ ih1 ih2 =>
    intro f hh
    cases n : act g with
    | some y =>
      exfalso
      obtain ⟨h1, h2⟩ := hh.d g y n
      rw [q] at h1
      cases y with
      | suspended k' l' c' p' fs' cl' =>
        have z := Option.some.inj h1
        have ek : k₀ = fun _ => .unsupported "hidden" := by injection z
        rw [ek] at hr
        exact no_run hr rfl
      | _ => cases h2
    | none =>
      have gfs := hh.j _ _ _ _ _ _ _ q n
      obtain ⟨a, b, c⟩ := ih1 gfs (hh.set n (fun _ _ _ _ _ _ z => by cases z))
      obtain ⟨a2, b2, c2⟩ := ih2 f (a.set n (gs_gf c))
      rw [fix_setGen n] at b b2
      have q2 := fix_at (act := act) q
      rw [n] at q2
      exact ⟨a2, .resumeSuspended q2 b hq b2, c2⟩
  | resumeJustStarted q v _ ih =>
    intro f hh
    obtain ⟨a, b, c⟩ := ih f hh
    have q2 := fix_at (act := act) q
    rw [hh.other q rfl] at q2
    exact ⟨a, .resumeJustStarted q2 v b, c⟩
  | resumeThrowFresh q _ ih =>
    intro f hh
    have n := hh.other q rfl
    obtain ⟨a, b, c⟩ := ih f (hh.set n (fun _ _ _ _ _ _ z => by cases z))
    rw [fix_setGen n] at b
    have q2 := fix_at (act := act) q
    rw [n] at q2
    exact ⟨a, .resumeThrowFresh q2 b, c⟩
  | resumeRunning q _ ih =>
    intro f hh
    obtain ⟨a, b, c⟩ := ih f hh
    have q2 := fix_at (act := act) q
    rw [hh.other q rfl] at q2
    exact ⟨a, .resumeRunning q2 b, c⟩
  | resumeFinished q _ ih =>
    intro f hh
    obtain ⟨a, b, c⟩ := ih f hh
    have q2 := fix_at (act := act) q
    rw [hh.other q rfl] at q2
    exact ⟨a, .resumeFinished q2 b, c⟩
  | segRet _ _ ih1 ih2 =>
    intro f hh
    obtain ⟨a, b, _⟩ := ih1 rfl hh
    obtain ⟨a2, b2, c2⟩ := ih2 (split_tail f) a
    exact ⟨a2, .segRet b b2, c2⟩
  | segGen _ _ _ _ => intro f hh; cases f
  | segSuspOut q _ ih => intro f hh; obtain ⟨a, b, c⟩ := ih rfl hh; exact ⟨a, .segSuspOut q b, split_app c q⟩
  | segSuspGen q _ _ _ _ _ => intro f hh; rw [f] at q; cases q
theorem wakes_hide {Γ : Ctx} {p : Pos} {g : Nat} {r : Resume} {s s' : Shared} {res : GenResult} (h : Wakes M Γ p g r s res s') (hh : Hid act s) : Hid act s' ∧ Wakes M Γ p g r (fixS act s) res (fixS act s') := by
  unfold Wakes at h
  split at h
  · exact h.elim
  · rename_i c q
    have n := hh.other q rfl
    have q2 := fix_at (act := act) q
    rw [n] at q2
    split at h
    · obtain ⟨e₁, s₁, hr, h1, h2, rfl⟩ := h
      obtain ⟨a, b, d⟩ := runs_hide hr rfl (hh.set n (fun _ _ _ _ _ _ z => by cases z))
      rw [fix_setGen n] at b
      refine ⟨a.set n (gs_gf d), ?_⟩
      unfold Wakes
      rw [show (fixS act s).gens[g]? = some (.fresh c) from q2]
      exact ⟨e₁, _, b, h1, h2, fix_setGen n⟩
    · obtain ⟨h1, rfl⟩ := h
      refine ⟨hh, ?_⟩
      unfold Wakes
      rw [show (fixS act s').gens[g]? = some (.fresh c) from q2]
      rename_i v hv
      cases v <;> first | exact ⟨h1, rfl⟩ | exact absurd rfl hv
    · obtain ⟨h1, rfl⟩ := h
      refine ⟨hh.set n (fun _ _ _ _ _ _ z => by cases z), ?_⟩
      unfold Wakes
      rw [show (fixS act s).gens[g]? = some (.fresh c) from q2]
      exact ⟨h1, fix_setGen n⟩
  · rename_i k₀ l₀ c₀ p₀ fs cl q
    obtain ⟨e₁, s₁, hr, h1, h2, rfl⟩ := h
    cases n : act g with
    | some y =>
      exfalso
      obtain ⟨z1, z2⟩ := hh.d g y n
      rw [q] at z1
      cases y with
      | suspended k' l' c' p' fs' cl' =>
        have z := Option.some.inj z1
        have ek : k₀ = fun _ => .unsupported "hidden" := by injection z
        rw [ek] at hr
        exact no_run hr rfl
      | _ => cases z2
    | none =>
      have q2 := fix_at (act := act) q
      rw [n] at q2
      obtain ⟨a, b, d⟩ := runs_hide hr (hh.j _ _ _ _ _ _ _ q n) (hh.set n (fun _ _ _ _ _ _ z => by cases z))
      rw [fix_setGen n] at b
      refine ⟨a.set n (gs_gf d), ?_⟩
      unfold Wakes
      rw [show (fixS act s).gens[g]? = some (.suspended k₀ l₀ c₀ p₀ fs cl) from q2]
      exact ⟨e₁, _, b, h1, h2, fix_setGen n⟩
  · rename_i q
    obtain ⟨h1, rfl⟩ := h
    have q2 := fix_at (act := act) q
    rw [hh.other q rfl] at q2
    refine ⟨hh, ?_⟩
    unfold Wakes
    rw [show (fixS act s').gens[g]? = some .running from q2]
    exact ⟨h1, rfl⟩
  · rename_i q
    obtain ⟨h1, rfl⟩ := h
    have q2 := fix_at (act := act) q
    rw [hh.other q rfl] at q2
    refine ⟨hh, ?_⟩
    unfold Wakes
    rw [show (fixS act s').gens[g]? = some .finished from q2]
    exact ⟨h1, rfl⟩
theorem Hid.same {s s' : Shared} (h : Hid act s) (e : s'.gens = s.gens) : Hid act s' := h.gens rfl s' e
theorem wp_hide {α : Type} (Γ : Ctx) (t : Sem α) : ∀ (Q : α → Pos → Shared → Prop) (E : Value → Pos → Shared → Prop) (p : Pos) (s : Shared), Hid act s → wp M Γ t Q E p s →
    wp M Γ t (fun a p' s' => ∃ s₁, s' = fixS act s₁ ∧ Hid act s₁ ∧ Q a p' s₁) (fun e p' s' => ∃ s₁, s' = fixS act s₁ ∧ Hid act s₁ ∧ E e p' s₁) p (fixS act s) := by
  induction t with
  | pure a => intro Q E p s hh h; exact ⟨s, rfl, hh, h⟩
  | raise e => intro Q E p s hh h; exact ⟨s, rfl, hh, h⟩
  | unsupported _ => intro Q E p s _ h; exact h
  | finish _ => intro Q E p s _ h; exact h
  | rule _ k ih => intro Q E p s hh h; exact ih () Q E p s hh h
  | «at» p' k ih => intro Q E p s hh h; exact ih () Q E p' s hh h
  | load a _ k ih => intro Q E p s hh h; obtain ⟨o, ho, h⟩ := h; exact ⟨o, ho, ih o Q E p s hh h⟩
  | update a _ f k ih => intro Q E p s hh h; exact ⟨h.1, ih () Q E p { s with heap := s.heap.update a f } (hh.same rfl) h.2⟩
  | loadIfAlive a k ih => intro Q E p s hh h; exact ih _ Q E p s hh h
  | point _ k ih => intro Q E p s hh h; exact ih () Q E p s hh h
  | register _ _ => intro Q E p s _ h; exact h
  | alloc o k ih => intro Q E p s hh h; exact ih _ Q E p { s with heap := s.heap.push o } (hh.same rfl) h
  | fresh k ih => intro Q E p s hh h; exact ih _ Q E p { s with toks := s.toks + 1 } (hh.same rfl) h
  | ask k ih => intro Q E p s hh h; exact ih _ Q E p s hh h
  | choose src m k ih => intro Q E p s hh h; exact ⟨h.1, ih _ Q E p { s with drawn := s.drawn.bump src } (hh.same rfl) h.2⟩
  | os q _ k ih => intro Q E p s hh h; exact ih _ Q E p { s with os := (Os.step s.os q).1 } (hh.same rfl) h
  | call c hd _ _ k ih =>
    intro Q E p s hh h
    obtain ⟨r, s', hr, h⟩ := h
    obtain ⟨a, b, _⟩ := runs_hide hr rfl hh
    exact ⟨r, _, b, ih r Q E p s' a h⟩
  | handled own k ih => intro Q E p s hh h; exact ih _ Q E p s hh h
  | genState g k ih =>
    intro Q E p s hh h
    obtain ⟨st, hs, h⟩ := h
    refine ⟨_, fix_at (act := act) hs, ?_⟩
    rw [hh.seen hs]
    exact ih _ Q E p s hh h
  | newGen c k ih =>
    intro Q E p s hh h
    obtain ⟨h1, n⟩ := hh.push c
    have z := ih _ Q E p _ h1 h
    rw [fix_new n] at z
    show wp M Γ (k (fixS act s).gens.size) _ _ p _
    rw [fix_sizeS]
    exact z
  | resume g r _ k ih =>
    intro Q E p s hh h
    obtain ⟨res, s', hw, h⟩ := h
    obtain ⟨a, b⟩ := wakes_hide hw hh
    exact ⟨res, _, b, ih res Q E p s' a h⟩
  | yield _ _ _ _ => intro Q E p s _ h; exact h
  | stack k ih => intro Q E p s hh h; exact ih _ Q E p s hh h
  | fork _ _ => intro Q E p s _ h; exact h
  | thread k ih => intro Q E p s hh h; exact ih _ Q E p s hh h
  | await _ _ _ _ _ => intro Q E p s _ h; exact h
/-- the sleepers of a table -/
def actOf (G : Array GenState) (i : Nat) : Option GenState := match G[i]? with
  | some y => if slp y = true then some y else none
  | none => none
def deadG (G : Array GenState) : Array GenState := G.map dead
theorem act_some {G : Array GenState} {i : Nat} {y : GenState} (h : actOf G i = some y) : G[i]? = some y ∧ slp y = true := by
  unfold actOf at h
  split at h
  · rename_i z e
    split at h
    · rename_i hs
      cases h
      exact ⟨e, hs⟩
    · cases h
  · cases h
theorem hid_dead {s : Shared} : Hid (actOf s.gens) { s with gens := deadG s.gens } := by
  refine ⟨fun i y q => ?_, fun i k l c p fs cl q n => ?_⟩
  · obtain ⟨h1, h2⟩ := act_some q
    refine ⟨?_, h2⟩
    show (s.gens.map dead)[i]? = _
    rw [Array.getElem?_map, h1]; rfl
  · exfalso
    have q' : (s.gens.map dead)[i]? = some (.suspended k l c p fs cl) := q
    rw [Array.getElem?_map] at q'
    unfold actOf at n
    cases e : s.gens[i]? with
    | none => rw [e] at q'; cases q'
    | some y =>
      rw [e] at q' n
      cases y with
      | suspended => simp [slp] at n
      | _ => cases q'
theorem fix_dead {s : Shared} : fixS (actOf s.gens) { s with gens := deadG s.gens } = s := by
  have e : fixG (actOf s.gens) (deadG s.gens) = s.gens := by
    apply Array.ext_getElem?
    intro i
    unfold fixG deadG
    rw [Array.getElem?_mapIdx, Array.getElem?_map]
    cases e : s.gens[i]? with
    | none => rfl
    | some y =>
      show some ((actOf s.gens i).getD (dead y)) = some y
      unfold actOf
      rw [e]
      cases y <;> rfl
  show ({ s with gens := fixG (actOf s.gens) (deadG s.gens) } : Shared) = s
  rw [e]
/-- the sleepers of s sleep in s' as they did -/
def Sleep (s s' : Shared) : Prop := ∀ (i : Nat) (y : GenState), s.gens[i]? = some y → slp y = true → s'.gens[i]? = some y
theorem all_dead {G : Array GenState} (h : PyProof.Rows.AllBare G) : PyProof.Rows.AllBare (deadG G) := fun x hx => by
  obtain ⟨y, hy, rfl⟩ := Array.mem_map.mp hx
  rw [bare_dead]
  exact h y hy
theorem all_fix {G T : Array GenState} (h : PyProof.Rows.AllBare G) (hT : PyProof.Rows.AllBare T) : PyProof.Rows.AllBare (fixG (actOf T) G) := fun x hx => by
  obtain ⟨i, hi, e⟩ := Array.mem_iff_getElem.mp hx
  have q : (fixG (actOf T) G)[i]? = some x := by rw [Array.getElem?_eq_getElem hi, e]
  have hi' : i < G.size := by rw [fix_size] at hi; exact hi
  have q2 : (fixG (actOf T) G)[i]? = some ((actOf T i).getD G[i]) := fix_at (Array.getElem?_eq_getElem hi')
  rw [q] at q2
  have q3 := Option.some.inj q2
  cases z : actOf T i with
  | none => rw [z] at q3; rw [q3]; exact h _ (Array.getElem_mem hi')
  | some y => rw [z] at q3; rw [q3]; exact hT y (Array.mem_of_getElem? (act_some z).1)
/-- what holds of a run whatever the table of generators is, holds with the sleepers kept -/
theorem wpAny_sleep {α : Type} {A : Around} {t : Sem α} {Q : α → Shared → Prop} {E : Value → Shared → Prop} {s : Shared} (hb : PyProof.Rows.AllBare s.gens) (h : ∀ G, PyProof.Rows.AllBare G → wpAny M A t Q E { s with gens := G })
    (hQ : ∀ a (s₁ : Shared) (G : Array GenState), Q a s₁ → (PyProof.Rows.AllBare s₁.gens → PyProof.Rows.AllBare G) → (∀ (i : Nat) (x : GenState), s₁.gens[i]? = some x → slp x = false → G[i]? = some x) → Q a { s₁ with gens := G }) (hE : ∀ e s₁, ¬ E e s₁) : wpAny M A t (fun a s' => Q a s' ∧ Sleep s s') E s := fun Γ p hΓ => by
  have z := wp_hide (act := actOf s.gens) Γ t _ _ p _ hid_dead (h (deadG s.gens) (all_dead hb) Γ p hΓ)
  rw [fix_dead] at z
  refine Sem.wp_mono M Γ t (fun a p' s' hs => ?_) (fun e p' s' hs => ?_) p s z
  · obtain ⟨s₁, rfl, hh, q⟩ := hs
    refine ⟨hQ a s₁ _ q (fun b => all_fix b hb) fun i x e hx => ?_, fun i y e hy => ?_⟩
    · have h1 := fix_at (act := actOf s.gens) e
      rw [hh.other e hx] at h1
      exact h1
    have ea : actOf s.gens i = some y := by unfold actOf; rw [e]; simp [hy]
    have h1 := fix_at (act := actOf s.gens) (hh.d i y ea).1
    rw [ea] at h1
    exact h1
  · obtain ⟨s₁, _, _, q⟩ := hs
    exact absurd q (hE e s₁)
end LP.Hide
namespace LP.Gn
open PySem PySem.Spec L2
open PyProof.Rows hiding St
section
variable {M : Model}
def SegD (M : Model) (A : Around) (c : Code) (t : Sem PySem.Fin) (fs : List Frame) (Φ : End → Shared → Prop) (s : Shared) : Prop :=
  ∀ Γ p, Γ.code = c → Γ.Woken A → ∃ e s', Runs M Γ p t fs s e s' ∧ Φ e s'
variable {A : Around} {c : Code} {fs : List Frame} {s : Shared} {Φ : End → Shared → Prop}
theorem sd_wrap {α : Type} {m : Sem α} {K : α → Sem PySem.Fin} {H : Value → Sem PySem.Fin} {gd : Bool → Bool} {lv : List Value → List Value}
    (h : wpAny M (A.over c fs) m (fun a s' => SegD M A c (K a) fs Φ s') (fun x s' => SegD M A c (H x) fs Φ s') s) :
    SegD M A c (m.wrap K H gd lv) fs Φ s := by
  rintro Γ p rfl hΓ
  exact runs_wrap_of_wp K H gd lv m (h (Γ.over fs) p (hΓ.over fs)) (fun a p' s' h' => h' Γ p' rfl hΓ) (fun x p' s' h' => h' Γ p' rfl hΓ)
theorem sd_at {p' : Pos} {k : Unit → Sem PySem.Fin} (h : SegD M A c (k ()) fs Φ s) : SegD M A c (.at p' k) fs Φ s :=
  sd_wrap (m := standAt p') (K := k) (H := .raise) (gd := id) (lv := id) (wpAny_standAt h)
theorem sd_point {l : List Value} {k : Unit → Sem PySem.Fin} (h : SegD M A c (k ()) fs Φ s) : SegD M A c (.point l k) fs Φ s :=
  sd_wrap (m := point) (K := k) (H := .raise) (gd := id) (lv := fun _ => l) (wpAny_point h)
theorem sd_end (r : Result) (h : Φ (.ret r) s) : SegD M A c (leafOf r) [] Φ s := by
  rintro Γ p rfl _
  exact ⟨.ret r, s, Runs.leaf r, h⟩
theorem sd_yield {v : Value} {g : Bool} {l : List Value} {k : Resume → Sem PySem.Fin} (hfs : splitAtGen fs = none) (h : ∀ p, Φ (.susp v g l k c p fs) s) : SegD M A c (.yield v g l k) fs Φ s := by
  rintro Γ p rfl _
  exact ⟨_, s, Runs.yield' fs hfs, h p⟩
theorem SegD.imp {t : Sem PySem.Fin} {Φ' : End → Shared → Prop} (h : SegD M A c t fs Φ s) (hΦ : ∀ e s', Φ e s' → Φ' e s') : SegD M A c t fs Φ' s := fun Γ p hc hΓ =>
  let ⟨e, s', hr, he⟩ := h Γ p hc hΓ
  ⟨e, s', hr, hΦ e s' he⟩
/-- it is woken -/
def Goes (M : Model) (A : Around) (gs : GenState) (Φ : End → Shared → Prop) (s : Shared) : Prop :=
  match gs with
  | .fresh c => SegD M A c (M.den c) [] Φ s
  | .suspended k _ c _ fs _ => SegD M A c (k (.send .none)) fs Φ s
  | _ => False
theorem wpAny_wake {α : Type} {E : Value → Shared → Prop} {g : Nat} {gs : GenState} {l : List Value} {k : GenResult → Sem α} {Q : α → Shared → Prop} (hg : s.gens[g]? = some gs) (hgo : Goes M A gs Φ (s.setGen g .running))
    (hq : ∀ e s₁, Φ e s₁ → e.quiet = true ∧ wpAny M A (k e.result) Q E (s₁.setGen g e.genState)) : wpAny M A (.resume g (.send .none) l k) Q E s := by
  intro Γ p hΓ
  rw [Sem.wp_resume]
  have hB : ∀ c, (Γ.wake c p).Woken A := fun c => hΓ.wake c p
  cases gs with
  | fresh c =>
    obtain ⟨e₁, s₁, hr, he⟩ := hgo (Γ.wake c p) p rfl (hB c)
    obtain ⟨q1, q2⟩ := hq e₁ s₁ he
    exact ⟨_, _, by unfold Wakes; rw [hg]; exact ⟨e₁, s₁, hr, q1, rfl, rfl⟩, q2 Γ p hΓ⟩
  | suspended k₀ l₀ c₀ p₀ fs₀ cl =>
    obtain ⟨e₁, s₁, hr, he⟩ := hgo (Γ.wake c₀ p) p₀ rfl (hB c₀)
    obtain ⟨q1, q2⟩ := hq e₁ s₁ he
    exact ⟨_, _, by unfold Wakes; rw [hg]; exact ⟨e₁, s₁, hr, q1, rfl, rfl⟩, q2 Γ p hΓ⟩
  | running => exact hgo.elim
  | finished => exact hgo.elim
end
section
variable {prog : Program} {w : World} {A : Around} {c : Code} {fs : List Frame} {s : Shared} {Φ : End → Shared → Prop} {env : Env}
  {K : Flow → Sem PySem.Fin} {H : Value → Sem PySem.Fin} {gd : Bool → Bool} {lv : List Value → List Value}
theorem sd_execs_cons {M : Model} {st : Stmt} {rest : List Stmt}
    (h : SegD M A c ((exec st env).wrap (fun f => match f with | .next => (execs rest env).wrap K H gd lv | f => K f) H gd lv) fs Φ s) :
    SegD M A c ((execs (st :: rest) env).wrap K H gd lv) fs Φ s := by rw [execs_cons_wrap]; exact h
theorem sd_func {body : List Stmt}
    (h : SegD (model prog w) A (.func body env) ((execs body env).wrap (fun f => .pure (.done (.ret (match f with | .ret v => v | _ => .none))))
      (fun e => (leaving env e).wrap (fun _ => .raise e) .raise id id) id id) fs Φ s) :
    SegD (model prog w) A (.func body env) ((model prog w).den (.func body env)) fs Φ s := by
  show SegD _ A _ (.point [] fun _ => ((execs body env).onRaise (leaving env)) >>= _) fs Φ s
  refine sd_point ?_
  rw [Sem.onRaise_eq_wrap, Sem.bind_eq_wrap', Sem.wrap_wrap]
  rw [Sem.wrap_congr (execs body env) _ _ (K' := fun f => .pure (.done (.ret (match f with | .ret v => v | _ => .none))))
    (H' := fun e => (leaving env e).wrap (fun _ => .raise e) .raise id id) (fun f => by cases f <;> rfl)
    (fun e => by rw [Sem.bind_eq_wrap, Sem.wrap_wrap]; rfl)]
  exact h
/-- the statement yield e -/
theorem sd_yieldE {M : Model} {e : Expr} {ypos pos : Pos} (hfs : splitAtGen fs = none)
    (h : wpAny M (A.over c fs) (eval e env) (fun v s' => ∀ p g l k, k (.send .none) = K .next → (g = gd false) → Φ (.susp v g l k c p fs) s')
      (fun x s' => SegD M A c (H x) fs Φ s') s) (hco : env.scope.isCoroutine = false := by rfl) (hi : interactive env = false := by rfl) :
    SegD M A c ((exec (.Expr (.Yield (some e) ypos) pos) env).wrap K H gd lv) fs Φ s := by
  rw [exec_Expr env _ pos hi rfl]
  show SegD M A c (.at pos fun _ => ((eval e env >>= fun v => (standAt ypos >>= fun _ => yieldOut env v)) >>= fun x =>
    dropValue (.Yield (some e) ypos) pos x).wrap K H gd lv) fs Φ s
  have hy : ∀ v, yieldOut env v = yieldValue v := fun v => by simp only [yieldOut, hco, Bool.false_eq_true, if_false]
  simp only [hy]
  refine sd_at ?_
  rw [Sem.bind_eq_wrap', Sem.bind_eq_wrap', Sem.wrap_wrap, Sem.wrap_wrap]
  refine sd_wrap (wpAny_mono h (fun v s' h' => ?_) fun _ _ x => x)
  refine sd_at (sd_yield hfs fun p => ?_)
  exact h' p _ _ _ rfl rfl
end
section
variable {prog : Program} {w : World} {A : Around} {fs : List Frame} {s : Shared} {Φ : End → Shared → Prop} {env : Env}
/-- what a turn does behind the body -/
def onward (c : Code) : Flow → Sem PySem.Fin
  | .next | .cont => .pure (.again c)
  | .brk => .pure (.done .next)
  | .ret v => .pure (.done (.ret v))
end
def forHead (iter : Expr) (env : Env) : Sem Value := eval iter env >>= fun x0 => foldedSetIterable iter env x0 >>= fun x => standAt iter.pos >>= fun _ => holding [x] (pyIter x)
theorem wpAny_forHead {M : Model} {A : Around} {iter : Expr} {env : Env} {Q : Value → Shared → Prop} {E : Value → Shared → Prop} {s : Shared} (h : wpAny M A (eval iter env) (fun x s₁ => wpAny M A (pyIter x) Q E s₁) E s)
    (hs : ∀ x, foldedSetIterable iter env x = pure x := by intro _; rfl) : wpAny M A (forHead iter env) Q E s := by
  unfold forHead
  refine wpAny_bind (wpAny_mono h (fun x s₁ h₁ => ?_) fun _ _ z => z)
  rw [hs x]
  exact wpAny_bind (wpAny_pure (wpAny_bind (wpAny_standAt (wpAny_holding h₁))))
def turnHead (target : Expr) (it : Value) (env : Env) : Sem (Option Unit) := (pyNext it).onRaise (fun _ => standAt { target.pos with line := 0 }) >>= fun r => match r with
  | none => pure none
  | some v => letOwnedTupleGo target it v >>= fun _ => assign target env v >>= fun _ => pure (some ())
theorem wpAny_turnHead {M : Model} {A : Around} {target : Expr} {it : Value} {env : Env} {Q : Option Unit → Shared → Prop} {s : Shared}
    (h : wpAny M A (pyNext it) (fun r s₁ => match r with
      | none => Q none s₁
      | some v => wpAny M A (letOwnedTupleGo target it v) (fun _ s₂ => wpAny M A (assign target env v) (fun _ s₃ => Q (some ()) s₃) (fun _ _ => False) s₂) (fun _ _ => False) s₁) (fun _ _ => False) s) : wpAny M A (turnHead target it env) Q (fun _ _ => False) s := by
  unfold turnHead
  refine wpAny_bind (wpAny_onRaise (wpAny_mono h (fun r s₁ h₁ => ?_) fun _ _ z => z.elim))
  cases r with
  | none => exact wpAny_pure h₁
  | some v => exact wpAny_bind (wpAny_mono h₁ (fun _ s₂ h₂ => wpAny_bind (wpAny_mono h₂ (fun _ s₃ h₃ => wpAny_pure h₃) fun _ _ z => z)) fun _ _ z => z)
section
variable {P : Program} {w : World} {A : Around} {E : Value → Shared → Prop} {s : Shared}
/-- next(g) -/
theorem next_gn {a : Addr} {g : Nat} {gs : GenState} {Φ : End → Shared → Prop} {Q : Option Value → Shared → Prop} (hh : A.handled = none)
    (hl : s.heap.NoLimit) (hroom : A.depth < recursionLimit) (hg : s.heap.IsGen a g) (hgs : s.gens[g]? = some gs)
    (hgo : Goes (model P w) A.in1 gs Φ (s.setGen g .running))
    (hq : ∀ e s₁, Φ e s₁ → (∃ v b l k c p fs, e = .susp v b l k c p fs ∧ e.quiet = true ∧ Q (some v) (s₁.setGen g e.genState)) ∨
      ((e = .ret (.ok (.ret .none)) ∨ e = .ret (.ok .next)) ∧ ∀ h', (∀ b o, s₁.heap.get? b = some o → h'.get? b = some o) → Q none { s₁.setGen g .finished with heap := h' })) :
    wpAny (model P w) A (pyNext (.ref a)) Q E s := by
  unfold pyNext
  refine wpAny_bind (wpAny_attempt (wpAny_callSpecial?_slot (name := Str.ofString "__next__") hg.typeIs slot_gen_next
    (wpAny_call_entry slot_gen_next hg.typeIs entry_gen_next ?_ (args_gen_next _))))
  show wpAny _ A.in1 (Builtin.Generator.genWake (.ref a) (.send .none)) _ _ s
  unfold Builtin.Generator.genWake
  refine wpAny_bind (wpAny_holding (wpAny_genNumber hg (wpAny_bind (wpAny_genState hgs ?_))))
  cases gs with
  | running => exact hgo.elim
  | finished => exact hgo.elim
  | _ =>
    refine wpAny_bind (wpAny_roomToWake hl hroom ?_)
    show wpAny _ A.in1 (.resume g (.send .none) [] _) _ _ s
    refine wpAny_wake hgs hgo fun e s₁ he => ?_
    rcases hq e s₁ he with ⟨v, b, l, k, c, p, fs, rfl, hqt, hQ⟩ | ⟨hr, hp⟩
    · exact ⟨hqt, wpAny_pure ⟨v, rfl, wpAny_pure hQ⟩⟩
    · have hres : e.quiet = true ∧ e.result = .returned .none ∧ e.genState = .finished := by
        rcases hr with hr | hr <;> rw [hr] <;> exact ⟨rfl, rfl, rfl⟩
      obtain ⟨hqt, hres, hfin⟩ := hres
      refine ⟨hqt, ?_⟩
      rw [hfin]
      first | rw [hres] | simp only [hres]
      show wpAny _ A.in1 (newExc (.type "StopIteration") [] >>= _) _ _ _
      refine wpAny_bind ?_
      simp only [newExc, newTuple]
      refine wpAny_bind (wpAny_newObj_type ?_ (by size_fits))
      refine wpAny_bind (m := firstArgMember _ _) (wpAny_of_eq (a := Value.none) (by first | rfl | (simp only [firstArgMember]; rfl)) ?_)
      refine wpAny_newObj_type ?_ (by size_fits)
      simp only [raiseNew]
      refine wpAny_bind (wpAny_bind (wpAny_handled ?_))
      first | rw [show A.in1.handled = none from hh] | rw [hh]
      refine wpAny_throw ?_
      refine wpAny_bind (wpAny_isInstance (T := "StopIteration") (b := true) ⟨_, Heap.get?_push_size _ rfl, rfl⟩ isSubtype_stop ?_)
      exact wpAny_pure (hp _ fun b o hb => Heap.get?_push_of_some _ (Heap.get?_push_of_some _ hb))
end
end LP.Gn
namespace LP.Gn
open PySem PySem.Spec L2
open PyProof.Rows hiding St
/-- what a generator's frame keeps for ever -/
structure GD where
  P : Program
  w : World
  K : PySem.W.Frag
  mg : Str → Option Value
  base : Heap
  N : List Str
  qual : Str
  scope : Scope
  f : Addr
  cdv : Value
  outer : List Env
  n0 : Nat
  k : Nat
  g : Nat
  /-- what the store tells at each wake -/
  C : Sto → Prop
/-- what a wake brings: the state, what is tracked in it, what must stay -/
structure WD where
  A : Around
  s : Shared
  H : Hp
  F : Hp
  M : Sto
  pn : List (Addr × Obj)
  kg : List (Nat × GenState)
def cutH (n : Nat) (h : Heap) : Heap := { h with objs := h.objs.extract 0 n }
theorem cut_get {n : Nat} {h : Heap} {b : Addr} (hb : b < n) : (cutH n h).get? b = h.get? b := by
  have hb' : (show Nat from b) < n := hb
  have e : (h.objs.extract 0 n)[b]? = h.objs[b]? := by
    rw [Array.getElem?_extract]
    simp only [Nat.zero_add, Nat.sub_zero]
    split
    · rfl
    · rename_i hl
      symm
      rw [Array.getElem?_eq_none_iff]
      exact Nat.le_of_not_lt fun z => hl (Nat.lt_min.mpr ⟨hb', z⟩)
  show (match (h.objs.extract 0 n)[b]? with | some ⟨_, _, .freed, _⟩ => none | o => o) = _
  rw [e]; rfl
theorem cut_some {n : Nat} {h : Heap} {b : Addr} {o : Obj} (e : (cutH n h).get? b = some o) : b < n ∧ h.get? b = some o := by
  have hl := Heap.lt_size e
  have hn : b < n := by
    have : (h.objs.extract 0 n).size ≤ n := by rw [Array.size_extract]; omega
    exact Nat.lt_of_lt_of_le hl this
  exact ⟨hn, by rw [← cut_get hn]; exact e⟩
theorem cut_size {n : Nat} {h : Heap} (hn : n ≤ h.objs.size) : (cutH n h).objs.size = n := by
  show (h.objs.extract 0 n).size = n
  rw [Array.size_extract]; omega
theorem cut_frames {n : Nat} {h base : Heap} : ∀ {l : List Env}, (∀ b ∈ frs l, b < n) → h.FunFrames base l → (cutH n h).FunFrames base l
  | [], _, _ => trivial
  | env :: r, hb, ⟨hk, ⟨L, o, hf, hn, ho, hd⟩, hr⟩ => by
    have hL : L ∈ frs (env :: r) := by unfold frs; rw [List.filterMap_cons, hf]; exact List.mem_cons_self
    refine ⟨hk, ⟨L, o, hf, hn, by rw [cut_get (hb L hL)]; exact ho, hd⟩, cut_frames (fun b hbr => hb b ?_) hr⟩
    unfold frs; rw [List.filterMap_cons, hf]; exact List.mem_cons_of_mem _ hbr
abbrev GD.env (G : GD) : Env := envOfC G.qual G.scope G.n0 G.f G.cdv
/-- the context of one wake -/
def gx (G : GD) (d : WD) : Cx where
  prog := G.P
  w := G.w
  K := G.K
  mg := G.mg
  base := G.base
  A := d.A.deeper G.env
  N := G.N
  s_0 := { d.s with heap := cutH G.n0 d.s.heap }
  H_0 := d.H
  env := G.env
  outer := G.outer
  stack := G.env :: G.outer
  ex := []
  fn := fun _ => true
  calm := true
  pn := d.pn
  xe := fun _ _ => False
/-- what is so of the frame at all times -/
structure GOk (G : GD) : Prop where
  kind : G.scope.kind = .function
  nc : ∀ n, cellsFrom n G.scope.names [] = []
  nofree : ∀ y, G.scope.names.lookup y ≠ some .cell ∧ G.scope.names.lookup y ≠ some .free
  mod : Mod G.K G.mg G.base
  bsz : G.base.objs.size ≤ G.n0
  frs : ∀ b ∈ frs G.outer, b < G.n0
def Kp (kg : List (Nat × GenState)) (s : Shared) : Prop := ∀ q ∈ kg, s.gens[q.1]? = some q.2 ∧ Hide.slp q.2 = true
/-- it may be woken: po are its own objects, pg the generators that it walks itself -/
structure Rdy (G : GD) (d : WD) (po : List (Addr × Obj)) (pg : List (Nat × GenState)) : Prop where
  room : Room (G.k + 1) d.A
  gd : d.A.guards = some []
  e0 : Env0 G.P G.w G.K G.mg G.base d.A G.outer d.s d.H
  same : Same d.F d.H
  so : SOk G.K d.F d.M d.H
  pn : ∀ p ∈ d.pn, d.s.heap.get? p.1 = some p.2 ∧ d.H p.1 = none ∧ p.1 ∉ frs G.outer ∧ ∀ v, p.2.data ≠ .cell v
  ko : ∀ p ∈ po, d.s.heap.get? p.1 = some p.2 ∧ d.H p.1 = none
  dis : ∀ p ∈ d.pn, ∀ q ∈ po, p.1 ≠ q.1
  kk : Kp (d.kg ++ pg) d.s
  ng : ∀ q ∈ d.kg, q.1 ≠ G.g
  dg : ∀ q ∈ d.kg, ∀ p ∈ pg, q.1 ≠ p.1
  sz : G.g < d.s.gens.size
  cm : G.C d.M
/-- behind a wake -/
structure Aft (G : GD) (d : WD) (po : List (Addr × Obj)) (pg : List (Nat × GenState)) (s : Shared) (H F : Hp) : Prop where
  os : s.os = d.s.os
  bare : AllBare s.gens
  un : Un (frs G.outer) [] d.H H (cutH G.n0 d.s.heap) s.heap
  hok : HOk G.P G.w H s.heap
  fin : Fin G.K d.F d.M d.H F d.M H
  pn : ∀ p ∈ d.pn, s.heap.get? p.1 = some p.2 ∧ H p.1 = none
  ko : ∀ p ∈ po, s.heap.get? p.1 = some p.2 ∧ H p.1 = none ∧ p.1 ∉ frs G.outer ∧ (∀ v, p.2.data ≠ .cell v) ∧ (∀ q ∈ d.pn, q.1 ≠ p.1) ∧ G.n0 ≤ p.1
  kk : Kp (d.kg ++ pg) s
  pgs : ∀ q ∈ pg, G.g < q.1 ∧ ∀ p ∈ d.kg, p.1 ≠ q.1
  sz : G.g < s.gens.size
/-- what is still to be yielded -/
def Fut (G : GD) : List D → WD → End → Shared → Prop
  | [], d, e, s => (e = .ret (.ok (.ret .none)) ∨ e = .ret (.ok .next)) ∧ ∃ H F, Aft G d [] [] s H F
  | x :: r, d, e, s => ∃ v b l k c p fs, e = .susp v b l k c p fs ∧ e.quiet = true ∧ ∃ po pg H F u, Aft G d po pg s H F ∧ RelV u v ∧ Rp G.K F u x ∧
      ∀ d2, Rdy G d2 po pg → Same F d2.F → SegD (model G.P G.w) d2.A c (k (.send .none)) fs (Fut G r d2) d2.s
/-- amid a wake: ip are its iterators, kg the generators that it walks -/
structure GInv (G : GD) (d : WD) (ip : List (Addr × Obj)) (kg : List (Nat × GenState)) (s : Shared) (σ : St) (H F : Hp) (en : En) : Prop where
  ok : GOk G
  room : Room (G.k + 1) d.A
  gd : d.A.guards = some []
  inv : Inv (gx G d) ip σ H s
  rs : RS G.K (prv d.F d.M d.H) F en σ H
  sm : Same d.F F
  m : en.M = d.M
  kk : Kp (d.kg ++ kg) s
  pgs : ∀ q ∈ kg, G.g < q.1 ∧ ∀ p ∈ d.kg, p.1 ≠ q.1
  ng : ∀ q ∈ d.kg, q.1 ≠ G.g
  dis : ∀ p ∈ d.pn, ∀ q ∈ ip, p.1 ≠ q.1
  sz : G.g < s.gens.size
  n0 : G.n0 ≤ d.s.heap.objs.size
  nip : ∀ q ∈ ip, G.n0 ≤ q.1
section
variable {G : GD} {d : WD} {ip : List (Addr × Obj)} {kg : List (Nat × GenState)} {s : Shared} {σ : St} {H F : Hp} {en : En}
theorem GOk.cells (ok : GOk G) (x : Str) : G.env.cells.lookup x = none := by
  show (cellsFrom (G.n0 + 1) G.scope.names []).lookup x = none
  rw [ok.nc]; rfl
theorem GOk.out (ok : GOk G) : G.n0 ∉ L2.frs G.outer := fun h => Nat.lt_irrefl _ (ok.frs _ h)
theorem GInv.roomX (I : GInv G d ip kg s σ H F en) : Room G.k (gx G d).A := I.room.deeper _
theorem GInv.gdX (I : GInv G d ip kg s σ H F en) : (gx G d).A.guards = some [] := I.gd
/-- the frame's own dict -/
theorem GInv.loc (I : GInv G d ip kg s σ H F en) : ∃ o, s.heap.get? G.n0 = some o ∧ ∀ v, o.data ≠ .cell v := by
  obtain ⟨m, ⟨o, es, ep, ho, hd, _⟩, _⟩ := I.inv.loc
  exact ⟨o, ho, fun v z => by rw [hd] at z; cases z⟩
theorem GInv.fin (I : GInv G d ip kg s σ H F en) : Fin G.K d.F d.M d.H F d.M H := by
  have e := I.m
  refine ⟨I.sm, I.rs.same, by rw [← e]; exact I.rs.sto, fun q o h1 h2 h3 => ?_⟩
  have z := I.rs.prv q o (prv_of h1 h2 h3)
  rw [e] at z; exact z
/-- .. it yields here -/
theorem GInv.aft (I : GInv G d ip kg s σ H F en) {o : Obj} (ho : s.heap.get? G.n0 = some o) : Aft G d ((G.n0, o) :: ip) kg s H F where
  os := I.inv.os
  bare := I.inv.bare
  un := I.inv.base
  hok := I.inv.hok
  fin := I.fin
  pn := fun p hp => let ⟨a, b, _⟩ := I.inv.pin p (List.mem_append_left _ hp); ⟨a, b⟩
  ko := fun p hp => by
    rcases List.mem_cons.mp hp with z | z
    · rw [z]
      obtain ⟨o', ho', hc⟩ := I.loc
      have eo : o' = o := by have := ho'.symm.trans ho; exact Option.some.inj this
      subst eo
      exact ⟨ho, I.inv.free, I.ok.out, hc, fun q hq => (I.inv.pin q (List.mem_append_left _ hq)).2.2.1, Nat.le_refl _⟩
    · obtain ⟨a, b, _, c, e⟩ := I.inv.pin p (List.mem_append_right _ z)
      exact ⟨a, b, c, e, fun q hq => I.dis q hq p z, I.nip p z⟩
  kk := I.kk
  pgs := I.pgs
  sz := I.sz
/-- .. it ends here -/
theorem GInv.aft0 (I : GInv G d ip kg s σ H F en) : Aft G d [] [] s H F where
  os := I.inv.os
  bare := I.inv.bare
  un := I.inv.base
  hok := I.inv.hok
  fin := I.fin
  pn := fun p hp => let ⟨a, b, _⟩ := I.inv.pin p (List.mem_append_left _ hp); ⟨a, b⟩
  ko := fun p hp => by cases hp
  kk := fun q hq => I.kk q (by simp at hq; exact List.mem_append_left _ hq)
  pgs := fun q hq => by cases hq
  sz := I.sz
def allV (l : List Sl) : Bool := l.all fun x => !x.own
theorem allV_get {l : List Sl} (h : allV l = true) {i : Nat} {x : Sl} (e : l[i]? = some x) : x.own = false := by
  unfold allV at h
  rw [List.all_eq_true] at h
  have := h x (List.mem_of_getElem? e)
  simpa using this
/-- the frame as it stands, at a wake -/
theorem ginv_of {d2 : WD} {o : Obj} {sl : List Sl} (ok : GOk G) (r : Rdy G d2 ((G.n0, o) :: ip) kg)
    (loc : ∃ m, d2.s.heap.Ns G.n0 m ∧ ∀ (i : Nat) (x : Str) (v : V), G.N[i]? = some x → σ[i]? = some (some v) → Vis G.scope x → ∃ u, RelV v u ∧ G.env.kindOf x = some .local ∧ m x = some u) (len : σ.length = G.N.length)
    (ipf : ∀ p ∈ ip, p.1 ≠ G.n0 ∧ p.1 ∉ L2.frs G.outer ∧ (∀ v, p.2.data ≠ .cell v) ∧ G.n0 ≤ p.1) (kgf : ∀ q ∈ kg, G.g < q.1) (lv : sl.length = σ.length) (vals : ∀ (i : Nat) (x : D), sl[i]? = some (.v x) → ∃ v, σ[i]? = some (some v) ∧ Rp G.K d2.F v x) (hv : allV sl = true) :
    GInv G d2 ip kg d2.s σ d2.H d2.F ⟨sl, d2.M⟩ := by
  obtain ⟨h1, h2⟩ := r.ko (G.n0, o) List.mem_cons_self
  have hlt : G.n0 < d2.s.heap.objs.size := Heap.lt_size h1
  have hsz : (cutH G.n0 d2.s.heap).objs.size = G.n0 := cut_size (Nat.le_of_lt hlt)
  have nocell : ∀ (x : Str) (c : Addr), G.env.cells.lookup x = some c → False := fun x c e => by rw [ok.cells x] at e; cases e
  have neL : ∀ p ∈ d2.pn, p.1 ≠ G.n0 := fun p hp => r.dis p hp (G.n0, o) List.mem_cons_self
  refine ⟨ok, r.room, r.gd, ⟨⟨ok.mod, ok.kind, rfl, rfl, ?_, fun x y c e => (nocell x c e).elim, fun x hx => ?_, fun x c _ e => (nocell x c e).elim, fun _ => r.room.hd, Around.frames_deeper r.e0.frames, .inr ⟨rfl, rfl⟩, fun b z => (by cases z),
      fun b ob e => ?_, ?_, fun b _ _ z => (by cases z), fun b z => (by cases z), cut_frames ok.frs r.e0.funs, r.e0.frf⟩,
    rfl, r.e0.bare, Un.kept fun b u e => (cut_some e).2, ?_, fun x c e => (nocell x c e).elim, h2, fun x c e => (nocell x c e).elim, fun p hp => ?_, r.e0.hok, len⟩, ⟨r.same, fun p ob e => prv_some e, lv, fun i x hx => vals i x hx, fun i x hx ho2 => ?_, fun i j p x y _ hx _ ho2 => ?_, r.so⟩, Same.refl _, rfl, r.kk, fun q hq => ⟨kgf q hq, fun p hp => r.dg p hp q hq⟩, r.ng, fun p hp q hq => r.dis p hp q (List.mem_cons_of_mem _ hq), r.sz, Nat.le_of_lt hlt, fun q hq => (ipf q hq).2.2.2⟩
  · show (cutH G.n0 d2.s.heap).objs.size ≤ G.n0
    rw [hsz]; exact Nat.le_refl _
  · exact (hx.elim (ok.nofree x).1 (ok.nofree x).2).elim
  · have hb : b < G.n0 := Nat.lt_of_lt_of_le (Heap.lt_size e) ok.bsz
    exact ⟨by show (cutH G.n0 d2.s.heap).get? b = _; rw [cut_get hb]; exact (r.e0.bs b ob e).1, (r.e0.bs b ob e).2⟩
  · show G.base.objs.size ≤ (cutH G.n0 d2.s.heap).objs.size
    rw [hsz]; exact ok.bsz
  · obtain ⟨m, hn, hl⟩ := loc
    refine ⟨m, hn, fun i x v e1 e2 e3 => ?_⟩
    obtain ⟨u, ru, l⟩ := hl i x v e1 e2 e3
    exact ⟨u, ru, .inl l⟩
  · rcases List.mem_append.mp hp with z | z
    · obtain ⟨a, b, c, e⟩ := r.pn p z
      exact ⟨a, b, neL p z, c, e⟩
    · obtain ⟨c, e, q, _⟩ := ipf p z
      obtain ⟨a, b⟩ := r.ko p (List.mem_cons_of_mem _ z)
      exact ⟨a, b, c, e, q⟩
  · have := allV_get hv hx
    rw [this] at ho2; cases ho2
  · have := allV_get hv hx
    rw [this] at ho2; cases ho2
theorem look_loc {env : Env} {h : Heap} {m : Str → Option Value} {x : Str} {u : Value} (nc : ∀ y, env.cells.lookup y = none) (l : Look env h m x u) : env.kindOf x = some .local ∧ m x = some u := by
  rcases l with l | ⟨_, c, e, _⟩
  · exact l
  · rw [nc x] at e; cases e
/-- .. it is woken again -/
theorem GInv.wake (I : GInv G d ip kg s σ H F en) {o : Obj} (ho : s.heap.get? G.n0 = some o) (hv : allV en.sl = true) {d2 : WD} (r : Rdy G d2 ((G.n0, o) :: ip) kg) (sF : Same F d2.F) :
    GInv G d2 ip kg d2.s σ d2.H d2.F ⟨en.sl, d2.M⟩ := by
  obtain ⟨h1, _⟩ := r.ko (G.n0, o) List.mem_cons_self
  refine ginv_of I.ok r ?_ I.inv.len (fun p hp => ?_) (fun q hq => (I.pgs q hq).1) I.rs.len (fun i x hx => ?_) hv
  · obtain ⟨m, hn, hl⟩ := I.inv.loc
    refine ⟨m, hn.at' fun o' e => ?_, fun i x v e1 e2 e3 => ?_⟩
    · have e' : s.heap.get? G.n0 = some o' := e
      rw [ho] at e'; cases e'; exact h1
    · obtain ⟨u, ru, l⟩ := hl i x v e1 e2 e3
      exact ⟨u, ru, look_loc I.ok.cells l⟩
  · obtain ⟨_, _, c, e, q⟩ := I.inv.pin p (List.mem_append_right _ hp)
    exact ⟨c, e, q, I.nip p hp⟩
  · obtain ⟨v, a, b⟩ := I.rs.val i x hx
    exact ⟨v, a, b.mono sF⟩
end
end LP.Gn
namespace LP.Gn
open PySem PySem.Spec L2
open PyProof.Rows hiding St
theorem inv_gens {X : Cx} {pins : List (Addr × Obj)} {σ : St} {H : Hp} {s : Shared} (I : Inv X pins σ H s) {g : Array GenState} (h : AllBare g) : Inv X pins σ H { s with gens := g } :=
  ⟨I.ok, I.os, h, I.base, I.loc, I.cell, I.free, I.freeC, I.pin, I.hok, I.len⟩
theorem inv_cl {X : Cx} {pins : List (Addr × Obj)} {σ : St} {H : Hp} {s : Shared} (I : Inv X pins σ H s) {g : Array GenState} (h : AllBare s.gens → AllBare g) : Inv X pins σ H { s with gens := g } := inv_gens I (h I.bare)
/-- it does not look at the table of generators -/
def Cl {α : Type} (Q : α → Shared → Prop) : Prop := ∀ (a : α) (s : Shared) (G : Array GenState), Q a s → (AllBare s.gens → AllBare G) → (∀ (i : Nat) (x : GenState), s.gens[i]? = some x → Hide.slp x = false → G[i]? = some x) → Q a { s with gens := G }
theorem cl_SP {X : Cx} {pins : List (Addr × Obj)} {D : Ends} : Cl (SP X pins D) := fun f s G q h _ => by
  cases f with
  | next => obtain ⟨a, b, I, r⟩ := q; exact ⟨a, b, inv_cl I h, r⟩
  | brk => obtain ⟨a, b, I, r⟩ := q; exact ⟨a, b, inv_cl I h, r⟩
  | cont => obtain ⟨a, b, I, r⟩ := q; exact ⟨a, b, inv_cl I h, r⟩
  | ret u => obtain ⟨v, a, b, I, r⟩ := q; exact ⟨v, a, b, inv_cl I h, r⟩
theorem cl_EP {X : Cx} {pins : List (Addr × Obj)} {σ : St} {Q : VK} : Cl (EP X pins σ Q) := fun f s G q h _ => by
  obtain ⟨a, b, I, r⟩ := q; exact ⟨a, b, inv_cl I h, r⟩
theorem cl_TP {X : Cx} {pins : List (Addr × Obj)} {σ : St} {Q : Bool → Hp → Prop} : Cl (TP X pins σ Q) := fun f s G q h _ => by
  obtain ⟨b, I, r⟩ := q; exact ⟨b, inv_cl I h, r⟩
theorem inv_run {α : Type} {X : Cx} {pins : List (Addr × Obj)} {σ : St} {H : Hp} {s : Shared} {t : Sem α} {Q : α → Shared → Prop} (I : Inv X pins σ H s) (h : ∀ s₁, Inv X pins σ H s₁ → s₁.heap = s.heap → wpAny (model X.prog X.w) X.A t Q (fun _ _ => False) s₁) (hQ : Cl Q) :
    wpAny (model X.prog X.w) X.A t (fun a s' => Q a s' ∧ Hide.Sleep s s' ∧ s.gens.size ≤ s'.gens.size) (fun _ _ => False) s := by
  refine GenW.wpAny_gsz (n := s.gens.size) (Nat.le_refl _) (wpAny_mono (Hide.wpAny_sleep (E := fun _ _ => False) I.bare (fun G hG => h { s with gens := G } (inv_gens I hG) rfl) hQ (fun _ _ z => z)) (fun a s' q hsz => ⟨q.1, q.2, hsz⟩) fun _ _ z _ => z)
theorem kp_sleep {kg : List (Nat × GenState)} {s s' : Shared} (h : Kp kg s) (sl : Hide.Sleep s s') : Kp kg s' := fun q hq => ⟨sl q.1 q.2 (h q hq).1 (h q hq).2, (h q hq).2⟩
abbrev RF : RX := fun _ _ => False
/-- what is wanted behind a statement; the list: what is still to be yielded -/
structure GEn where
  nx : List D → En → Prop
  bk : List D → En → Prop := fun _ _ => False
  ct : List D → En → Prop := fun _ _ => False
abbrev MY := GEn → List D → En → Prop
/-- where the code stands -/
structure GC (G : GD) (c : Code) (fs : List Frame) (gd : Bool → Bool) : Prop where
  over : ∀ d : WD, d.A.over c fs = (gx G d).A
  split : splitAtGen fs = none
  guard : fs.any Frame.guarded = false
  gd : gd false = false
def GKo (G : GD) (ip : List (Addr × Obj)) (kg : List (Nat × GenState)) (c : Code) (fs : List Frame) (K : Flow → Sem PySem.Fin) (F0 : Hp) (B : GEn) : Prop :=
  ∀ (f : Flow) (r : List D) (d : WD) (s : Shared) (σ : St) (H F : Hp) (en : En), GInv G d ip kg s σ H F en → Same F0 F →
    (match f with | .next => B.nx r en | .brk => B.bk r en | .cont => B.ct r en | .ret _ => False) → SegD (model G.P G.w) d.A c (K f) fs (Fut G r d) s
theorem GKo.mono {G : GD} {ip : List (Addr × Obj)} {kg : List (Nat × GenState)} {c : Code} {fs : List Frame} {K : Flow → Sem PySem.Fin} {F0 F1 : Hp} {B : GEn} (k : GKo G ip kg c fs K F0 B) (h : Same F0 F1) : GKo G ip kg c fs K F1 B :=
  fun f r d s σ H F en I s1 q => k f r d s σ H F en I (h.trans s1) q
def YS (G : GD) (st : Stmt) (m : MY) : Prop := ∀ (ip : List (Addr × Obj)) (kg : List (Nat × GenState)) (c : Code) (fs : List Frame) (K : Flow → Sem PySem.Fin) (J : Value → Sem PySem.Fin) (gd : Bool → Bool) (lv : List Value → List Value) (B : GEn) (r : List D) (d : WD) (s : Shared) (σ : St) (H F : Hp) (en : En),
  GC G c fs gd → GKo G ip kg c fs K F B → GInv G d ip kg s σ H F en → m B r en → SegD (model G.P G.w) d.A c ((exec st G.env).wrap K J gd lv) fs (Fut G r d) s
def YSs (G : GD) (st : List Stmt) (m : MY) : Prop := ∀ (ip : List (Addr × Obj)) (kg : List (Nat × GenState)) (c : Code) (fs : List Frame) (K : Flow → Sem PySem.Fin) (J : Value → Sem PySem.Fin) (gd : Bool → Bool) (lv : List Value → List Value) (B : GEn) (r : List D) (d : WD) (s : Shared) (σ : St) (H F : Hp) (en : En),
  GC G c fs gd → GKo G ip kg c fs K F B → GInv G d ip kg s σ H F en → m B r en → SegD (model G.P G.w) d.A c ((execs st G.env).wrap K J gd lv) fs (Fut G r d) s
/-- so in the context of each wake -/
def Der (G : GD) (p : Cx → Prop) : Prop := ∀ d : WD, (gx G d).A.guards = some [] → Room G.k (gx G d).A → p (gx G d)
section
variable {G : GD} {d : WD} {ip : List (Addr × Obj)} {kg : List (Nat × GenState)} {s s' : Shared} {σ σ' : St} {H H' F F' : Hp} {en en' : En}
theorem GInv.to (I : GInv G d ip kg s σ H F en) (i : Inv (gx G d) ip σ' H' s') (r : RS G.K (prv d.F d.M d.H) F' en' σ' H') (sm : Same F F') (m : en'.M = en.M) (sl : Hide.Sleep s s') (sz : s.gens.size ≤ s'.gens.size) : GInv G d ip kg s' σ' H' F' en' :=
  ⟨I.ok, I.room, I.gd, i, r, I.sm.trans sm, m.trans I.m, kp_sleep I.kk sl, I.pgs, I.ng, I.dis, Nat.lt_of_lt_of_le I.sz sz, I.n0, I.nip⟩
theorem rais_f {K : PySem.W.Frag} {W : WX} {P0 F : Hp} : Rais K W P0 F RF := fun _ _ _ _ _ _ _ _ _ _ z => z.elim
variable {st : Stmt} {rest : List Stmt} {m u : MY} {ms : MS} {me : ME} {mt : MT} {e : Expr} {pos : Pos}
def yPl (m : MS) : MY := fun B r en => m { nx := fun e1 => e1.M = en.M ∧ B.nx r e1, rt := fun _ _ => False, bk := fun e1 => e1.M = en.M ∧ B.bk r e1, ct := fun e1 => e1.M = en.M ∧ B.ct r e1 } en
theorem y_ps (h : Der G fun X => AS X W0 st ms) : YS G st (yPl ms) := by
  intro ip kg c fs K J gd lv B r d s σ H F en g k I hm
  obtain ⟨t, p, sm⟩ := h d I.gdX I.roomX
  refine sd_wrap ?_
  rw [g.over]
  let W (B0 : List D → En → Prop) : St → Hp → Prop := fun σ1 H1 => ∃ F1 e1, Same F F1 ∧ RS G.K (prv d.F d.M d.H) F1 e1 σ1 H1 ∧ e1.M = en.M ∧ B0 r e1
  let E : Ends := ⟨W B.nx, fun _ _ => False, W B.bk, W B.ct⟩
  have ht : t E σ H := sm (prv d.F d.M d.H) F en σ H { nx := fun e1 => e1.M = en.M ∧ B.nx r e1, rt := fun _ _ => False, bk := fun e1 => e1.M = en.M ∧ B.bk r e1, ct := fun e1 => e1.M = en.M ∧ B.ct r e1 } E I.rs ⟨fun F1 e1 σ1 H1 s1 r1 q => ⟨F1, e1, s1, r1, q⟩, fun _ _ _ _ _ _ _ _ _ q => False.elim q, fun F1 e1 σ1 H1 s1 r1 q => ⟨F1, e1, s1, r1, q⟩, fun F1 e1 σ1 H1 s1 r1 q => ⟨F1, e1, s1, r1, q⟩, rais_f⟩ hm
  refine wpAny_mono (inv_run (X := gx G d) I.inv (fun s₁ i _ => p.run ip s₁ σ H E i ht) cl_SP) (fun f s' q => ?_) fun _ _ z => z.elim
  obtain ⟨q, sl, sz⟩ := q
  cases f with
  | next => obtain ⟨σ1, H1, i, F1, e1, s1, r1, q1, q2⟩ := q; exact k .next r d s' σ1 H1 F1 e1 (I.to i r1 s1 q1 sl sz) s1 q2
  | brk => obtain ⟨σ1, H1, i, F1, e1, s1, r1, q1, q2⟩ := q; exact k .brk r d s' σ1 H1 F1 e1 (I.to i r1 s1 q1 sl sz) s1 q2
  | cont => obtain ⟨σ1, H1, i, F1, e1, s1, r1, q1, q2⟩ := q; exact k .cont r d s' σ1 H1 F1 e1 (I.to i r1 s1 q1 sl sz) s1 q2
  | ret v => obtain ⟨_, _, _, _, _, q⟩ := q; exact q.elim
def yNil : MY := fun B r en => B.nx r en
theorem y_nil : YSs G [] yNil := fun ip kg c fs K J gd lv B r d s σ H F en g k I hm => k .next r d s σ H F en I (Same.refl F) hm
def ySeq (m u : MY) : MY := fun B r en => m { B with nx := u B } r en
theorem y_cons (a : YS G st m) (b : YSs G rest u) : YSs G (st :: rest) (ySeq m u) := by
  intro ip kg c fs K J gd lv B r d s σ H F en g k I hm
  refine sd_execs_cons ?_
  refine a ip kg c fs _ J gd lv { B with nx := u B } r d s σ H F en g (fun f r1 d1 s1 σ1 H1 F1 e1 I1 sF q => ?_) I hm
  cases f with
  | next => exact b ip kg c fs K J gd lv B r1 d1 s1 σ1 H1 F1 e1 g (k.mono sF) I1 q
  | brk => exact k .brk r1 d1 s1 σ1 H1 F1 e1 I1 sF q
  | cont => exact k .cont r1 d1 s1 σ1 H1 F1 e1 I1 sF q
  | ret v => exact k (.ret v) r1 d1 s1 σ1 H1 F1 e1 I1 sF q
def yIf (c : MT) (t u : MY) : MY := fun B r en => c RF en fun b e1 => e1.M = en.M ∧ if b = true then t B r e1 else u B r e1
theorem y_if {c : Expr} {a b : List Stmt} (hc : Der G fun X => AT X W0 c mt) (ha : YSs G a m) (hb : YSs G b u) : YS G (.If c a b pos) (yIf mt m u) := by
  intro ip kg cd fs K J gd lv B r d s σ H F en g k I hm
  obtain ⟨t, p, sm⟩ := hc d I.gdX I.roomX
  show SegD _ _ _ ((exec (.If c a b pos) G.env).wrap K J gd lv) _ _ _
  rw [exec_If]
  refine sd_at ?_
  show SegD _ _ _ ((isTrue c G.env (eval c G.env) >>= fun ok => if ok = true then execs a G.env else execs b G.env).wrap K J gd lv) _ _ _
  rw [Sem.bind_eq_wrap', Sem.wrap_wrap]
  refine sd_wrap ?_
  rw [g.over]
  have ht := sm (prv d.F d.M d.H) F en σ H _ _ (fun ok H1 => ∃ F1 e1, Same F F1 ∧ RS G.K (prv d.F d.M d.H) F1 e1 σ H1 ∧ e1.M = en.M ∧ if ok = true then m B r e1 else u B r e1) I.rs rais_f hm fun F1 e1 ok H1 s1 r1 q => ⟨F1, e1, s1, r1, q⟩
  refine wpAny_mono (inv_run (X := gx G d) I.inv (fun s₁ i _ => p.run ip s₁ σ H _ i ht) cl_TP) (fun ok s' q => ?_) fun _ _ z => z.elim
  obtain ⟨⟨H1, i, F1, e1, s1, r1, q1, q2⟩, sl, sz⟩ := q
  have I1 := I.to i r1 s1 q1 sl sz
  cases ok with
  | true => exact ha ip kg cd fs K J gd lv B r d s' σ H1 F1 e1 g (k.mono s1) I1 q2
  | false => exact hb ip kg cd fs K J gd lv B r d s' σ H1 F1 e1 g (k.mono s1) I1 q2
def yTk (r : List D) (x : D) (k : List D → Prop) : Prop := match r with
  | y :: r' => y = x ∧ k r'
  | [] => False
def yYield (m : ME) : MY := fun B r en => m RF en fun x e1 => e1.M = en.M ∧ allV e1.sl = true ∧ yTk r x fun r' => ∀ M', B.nx r' ⟨e1.sl, M'⟩
theorem y_yield {yp : Pos} (he : Der G fun X => AE X W0 e me) (hco : G.scope.isCoroutine = false := by rfl) (hi : interactive G.env = false := by rfl) : YS G (.Expr (.Yield (some e) yp) pos) (yYield me) := by
  intro ip kg c fs K J gd lv B r d s σ H F en g k I hm
  obtain ⟨t, p, sm⟩ := he d I.gdX I.roomX
  refine sd_yieldE g.split ?_ hco hi
  rw [g.over]
  have ht := sm (prv d.F d.M d.H) F en σ H _ _ (fun v H1 => ∃ F1 e1 x, Same F F1 ∧ RS G.K (prv d.F d.M d.H) F1 e1 σ H1 ∧ Rp G.K F1 v x ∧ e1.M = en.M ∧ allV e1.sl = true ∧ yTk r x fun r' => ∀ M', B.nx r' ⟨e1.sl, M'⟩) I.rs rais_f hm
    fun F1 e1 v x H1 s1 r1 rp q => ⟨F1, e1, x, s1, r1, rp, q⟩
  refine wpAny_mono (inv_run (X := gx G d) I.inv (fun s₁ i _ => p.run ip s₁ σ H _ i ht) cl_EP) (fun v s' q => ?_) fun _ _ z => z.elim
  obtain ⟨⟨uv, H1, i, ru, F1, e1, x, s1, r1, rp, q1, q2, q3⟩, sl, sz⟩ := q
  have I1 := I.to i r1 s1 q1 sl sz
  obtain ⟨o, ho, hd⟩ := I1.loc
  intro p0 b l kk hk hg
  cases r with
  | nil => exact q3.elim
  | cons y r' =>
    obtain ⟨rfl, q3⟩ := q3
    refine ⟨v, b, l, kk, c, p0, fs, rfl, ?_, (G.n0, o) :: ip, kg, H1, F1, uv, I1.aft ho, ru, rp, fun d2 rd sF => ?_⟩
    · simp [End.quiet, hg, g.gd, g.guard]
    · rw [hk]
      exact k .next r' d2 d2.s σ d2.H d2.F ⟨e1.sl, d2.M⟩ (I1.wake ho q2 rd sF) (s1.trans sF) (q3 d2.M)
def forY (g : MG) (m : MY) (B : GEn) : List D → List D → En → Prop
  | [], r, en => B.nx r en
  | x :: xs, r, en => g x en fun e1 => e1.M = en.M ∧ m { nx := forY g m B xs, ct := forY g m B xs, bk := B.nx } r e1
def yFor (mi : MI) (g : MG) (m : MY) : MY := fun B r en => mi RF en fun ds e1 => e1.M = en.M ∧ forY g m B ds r e1
theorem gc_for {c c' : Code} {fs : List Frame} {gd : Bool → Bool} {k : Result → Sem PySem.Fin} {l kp : List Value} {p : Pos} (g : GC G c fs gd) (hw : c'.weight = 0) (hu : c'.cUnits = 0) : GC G c' (.ret k none (gd false) l c p kp :: fs) id where
  over := fun d => (GenW.over_loop hw hu).trans (g.over d)
  split := by
    show (splitAtGen fs).map _ = none
    rw [g.split]; rfl
  guard := by
    show (gd false || fs.any Frame.guarded) = false
    rw [g.gd, g.guard]; rfl
  gd := rfl
theorem GInv.szc (I : GInv G d ip kg s σ H F en) : (gx G d).s_0.heap.objs.size ≤ G.n0 := I.inv.ok.above
end
end LP.Gn
namespace LP.Gn
open PySem PySem.Spec L2
open PyProof.Rows hiding St
theorem obj_some {P : Program} {w : World} {H : Hp} {h : Heap} {a : Addr} : ∀ {o : HO}, ObjOk P w H h a o → ∃ x, h.get? a = some x
  | .lst _, ⟨_, _, _, _, e⟩ => ⟨_, e⟩
  | .tup _, ⟨_, _, _, p⟩ => let ⟨o, e, _⟩ := p; ⟨o, e⟩
  | .dK _, ⟨_, _, _, _, o, _, _, e, _⟩ => ⟨o, e⟩
  | .dT _, ⟨_, _, _, _, o, _, _, e, _⟩ => ⟨o, e⟩
  | .set _ _, x => let ⟨o, _, _, _, e, _⟩ := x; ⟨o, e⟩
  | .ins _ _ _, ⟨_, _, _, e, _⟩ => ⟨_, e⟩
  | .own _, ⟨o, e⟩ => ⟨o, e⟩
  | .xd _, ⟨_, ⟨o, _, _, e, _⟩, _⟩ => ⟨o, e⟩
  | .rng _ _, ⟨_, _, _, e⟩ => ⟨_, e⟩
  | .frz _ _, ⟨e, _⟩ => ⟨_, e⟩
  | .tbl _, e => ⟨_, e⟩
  | .met _ _, e => ⟨_, e⟩
  | .ext _, ⟨_, e, _⟩ => e
/-- the generator's frame is younger than this context -/
structure Yng (X : Cx) (n0 : Nat) : Prop where
  s0 : X.s_0.heap.objs.size ≤ n0
  loc : X.env.locals < n0
  cell : ∀ x c, X.env.cells.lookup x = some c → c < n0
theorem Yng.frs {X : Cx} {n0 : Nat} (y : Yng X n0) {pins : List (Addr × Obj)} {σ : St} {H : Hp} {s : Shared} (I : Inv X pins σ H s) : ∀ b ∈ frs X.stack, b < n0 := fun b hb => by
  rcases List.mem_cons.mp (I.stkSub b hb) with e | hb
  · rw [e]; exact y.loc
  · obtain ⟨_, o, ho, _⟩ := I.ok.funs.mem hb
    exact Nat.lt_of_lt_of_le (Heap.lt_size ho) y.s0
theorem Inv.yng {X : Cx} {pins : List (Addr × Obj)} {σ : St} {H : Hp} {s : Shared} (I : Inv X pins σ H s) : Yng X s.heap.objs.size :=
  ⟨I.sz, I.lt, fun x c e => let ⟨_, h⟩ := I.cell x c e; h.lt⟩
/-- the waker's state behind a wake -/
theorem inv_aft {X : Cx} {pins : List (Addr × Obj)} {σ : St} {H H' : Hp} {s s' : Shared} {n0 : Nat} (I : Inv X pins σ H s) (y : Yng X n0) (os : s'.os = s.os) (bare : AllBare s'.gens)
    (un : Un (frs X.stack) [] H H' (cutH n0 s.heap) s'.heap) (hok : HOk X.prog X.w H' s'.heap) (pn : ∀ p ∈ X.pn ++ pins, s'.heap.get? p.1 = some p.2 ∧ H' p.1 = none) (tr : ∀ b o, H b = some o → ∃ o', H' b = some o') : Inv X pins σ H' s' := by
  obtain ⟨hh, gg, dd, tt, oo⟩ := s'
  have eo : oo = s.os := os
  subst eo
  have ltb : ∀ {b : Addr} {o : Obj}, s.heap.get? b = some o → b < n0 → (cutH n0 s.heap).get? b = some o := fun e hb => by rw [cut_get hb]; exact e
  let ch : List Addr := (List.range s.heap.objs.size).filter fun b => decide (n0 ≤ b) && (H b).isNone && !((X.pn ++ pins).any fun p => decide (p.1 = b))
  have mem : ∀ b, b ∈ ch ↔ b < s.heap.objs.size ∧ n0 ≤ b ∧ H b = none ∧ ∀ p ∈ X.pn ++ pins, p.1 ≠ b := fun b => by
    show b ∈ List.filter _ _ ↔ _
    rw [List.mem_filter, List.mem_range]
    refine and_congr_right fun _ => ?_
    simp only [Bool.and_eq_true, decide_eq_true_eq, Bool.not_eq_true', List.any_eq_false, Option.isNone_iff_eq_none]
    constructor
    · rintro ⟨⟨a, b⟩, c⟩; exact ⟨a, b, fun p hp z => c p hp z⟩
    · rintro ⟨a, b, c⟩; exact ⟨⟨a, b⟩, fun p hp z => c p hp z⟩
  -- an untracked object that is not given up
  have old : ∀ b o, b ∉ ch → s.heap.get? b = some o → H b = none → (b < n0) ∨ ∃ p ∈ X.pn ++ pins, p.1 = b ∧ p.2 = o := fun b o hc e hn => by
    rcases Nat.lt_or_ge b n0 with h | h
    · exact .inl h
    · right
      by_cases hp : ∃ p ∈ X.pn ++ pins, p.1 = b
      · obtain ⟨p, hp, z⟩ := hp
        refine ⟨p, hp, z, ?_⟩
        have := (I.pin p hp).1
        rw [z, e] at this
        exact (Option.some.inj this).symm
      · exact absurd ((mem b).mpr ⟨Heap.lt_size e, h, hn, fun p hp' z => hp ⟨p, hp', z⟩⟩) hc
  have any : ∀ b o, b ∉ ch → s.heap.get? b = some o → H b = none → ∃ sl, hh.get? b = some { o with slots := sl } := fun b o hc e hn => by
    rcases old b o hc e hn with h | ⟨p, hp, z1, z2⟩
    · exact un.any (ltb e h) hn (by simp)
    · refine ⟨o.slots, ?_⟩
      rw [← z1, ← z2]; exact (pn p hp).1
  refine I.step (ch := ch) (fun b hb => ?_) (fun b o hL hf hc e hn => ?_) (fun b o hL hf hc e hn => any b o hc e hn) (fun b o hc e hn => ?_) (fun b o hc e => ?_) un.tups un.frzs un.tbls (fun m hm => ?_) hok bare
  · obtain ⟨h1, h2, h3, h4⟩ := (mem b).mp hb
    exact ⟨.inr (Nat.le_trans y.s0 h2), Nat.ne_of_gt (Nat.lt_of_lt_of_le y.loc h2), fun x c e z => by
      have := y.cell x c e
      rw [z] at this
      exact absurd (Nat.lt_of_lt_of_le this h2) (Nat.lt_irrefl _), h4⟩
  · rcases old b o hc e hn with h | ⟨p, hp, z1, z2⟩
    · exact un.keep b o (ltb e h) hn (fun z => (List.mem_cons.mp (I.stkSub b z)).elim hL hf) (by simp)
    · rw [← z1, ← z2]; exact (pn p hp).1
  · rcases old b o hc e hn with h | ⟨p, hp, z1, _⟩
    · exact un.free b o (ltb e h) hn (by simp)
    · rw [← z1]; exact (pn p hp).2
  · cases hb : H b with
    | none => obtain ⟨sl, z⟩ := any b o hc e hb; exact ⟨_, z⟩
    | some u =>
      obtain ⟨u', z⟩ := tr b u hb
      exact obj_some (hok b u' z)
  · obtain ⟨o, es, ep, ho, r⟩ := hm
    obtain ⟨sl, z⟩ := un.any (ltb ho y.loc) I.free (by simp)
    exact ⟨_, es, ep, z, r⟩
/-- what is fixed, by its parts -/
abbrev mkG (X : Cx) (N : List Str) (qual : Str) (scope : Scope) (f : Addr) (cdv : Value) (n0 k g : Nat) (C : Sto → Prop := fun _ => True) : GD :=
  ⟨X.prog, X.w, X.K, X.mg, X.base, N, qual, scope, f, cdv, X.stack, n0, k, g, C⟩
/-- a sleeper: what it will yield whenever it is woken -/
def Slp (G : GD) (gs : GenState) (po : List (Addr × Obj)) (pg : List (Nat × GenState)) (F : Hp) (ds : List D) : Prop :=
  ∀ d2, Rdy G d2 po pg → Same F d2.F → Goes (model G.P G.w) d2.A gs (Fut G ds d2) d2.s
/-- a generator of ours that sleeps: a its object, g its number -/
structure Gs (X : Cx) (G : GD) (pins : List (Addr × Obj)) (kgo : List (Nat × GenState)) (a : Addr) (go : Obj) (gs : GenState) (po : List (Addr × Obj)) (pg : List (Nat × GenState)) (F H : Hp) (s : Shared) (ds : List D) : Prop where
  yng : Yng X G.n0
  gen : s.heap.IsGen a G.g
  obj : s.heap.get? a = some go
  ha : H a = none ∧ a ∉ frs X.stack ∧ (∀ v, go.data ≠ .cell v) ∧ (∀ p ∈ X.pn ++ pins, p.1 ≠ a) ∧ G.n0 ≤ a
  st : s.gens[G.g]? = some gs
  bare : gs.bare = true
  ko : ∀ p ∈ po, s.heap.get? p.1 = some p.2 ∧ H p.1 = none ∧ p.1 ∉ frs X.stack ∧ (∀ v, p.2.data ≠ .cell v) ∧ p.1 ≠ a ∧ (∀ q ∈ X.pn ++ pins, q.1 ≠ p.1) ∧ G.n0 ≤ p.1
  kk : Kp (kgo ++ pg) s
  ng : ∀ q ∈ kgo ++ pg, q.1 ≠ G.g
  dg : ∀ q ∈ kgo, ∀ p ∈ pg, q.1 ≠ p.1
  slp : ∃ Fg, Same Fg F ∧ Slp G gs po pg Fg ds
  gt : ∀ q ∈ pg, G.g < q.1
theorem kp_set {kg : List (Nat × GenState)} {s : Shared} {g : Nat} {x : GenState} (h : Kp kg s) (n : ∀ q ∈ kg, q.1 ≠ g) : Kp kg (s.setGen g x) := fun q hq => by
  refine ⟨?_, (h q hq).2⟩
  show (s.gens.setIfInBounds g x)[q.1]? = _
  rw [Array.getElem?_setIfInBounds_ne (Ne.symm (n q hq))]
  exact (h q hq).1
theorem fin_tr {K : PySem.W.Frag} {F F' H H' : Hp} {M : Sto} (s0 : Same F H) (f : Fin K F M H F' M H') : ∀ b o, H b = some o → ∃ o', H' b = some o' := fun b o e => by
  cases hF : F b with
  | some u => exact ⟨u, f.s2 _ _ (f.s1 _ _ hF)⟩
  | none =>
    cases hM : M b with
    | some u => exact f.so.there hM
    | none => exact ⟨o, (f.k b o e hF hM).1⟩
section
variable {X : Cx} {N : List Str} {qual : Str} {scope : Scope} {f : Addr} {cdv : Value} {n0 k g : Nat} {pins : List (Addr × Obj)} {kgo : List (Nat × GenState)} {a : Addr} {go : Obj} {gs : GenState} {po : List (Addr × Obj)} {pg : List (Nat × GenState)} {P0 F H : Hp} {en : En} {σ : St} {s : Shared} {ds : List D} {C : Sto → Prop}
/-- what a wake of ours brings -/
def wkD (X : Cx) (A : Around) (pins : List (Addr × Obj)) (kgo : List (Nat × GenState)) (a : Addr) (go : Obj) (g : Nat) (F H : Hp) (M : Sto) (s : Shared) : WD :=
  ⟨A.in1, s.setGen g .running, H, F, M, (a, go) :: (X.pn ++ pins), kgo⟩
theorem Gs.rdy {A : Around} (I : Inv X pins σ H s) (rs : RS X.K P0 F en σ H) (q : Gs X (mkG X N qual scope f cdv n0 k g C) pins kgo a go gs po pg F H s ds) (hr : Room (k + 2) A) (hgd : A.guards = some []) (hfr : A.frames = some X.stack) (hC : C en.M) :
    Rdy (mkG X N qual scope f cdv n0 k g C) (wkD X A pins kgo a go g F H en.M s) po pg where
  room := hr.in1
  gd := hgd
  e0 := ⟨hfr, I.env0.mod, I.env0.bs, I.env0.bsz, I.env0.funs, I.env0.frf, I.env0.hok, allBare_setGen I.bare rfl⟩
  same := rs.same
  so := rs.sto
  pn := fun p hp => by
    rcases List.mem_cons.mp hp with z | z
    · rw [z]; exact ⟨q.obj, q.ha.1, q.ha.2.1, q.ha.2.2.1⟩
    · obtain ⟨a1, a2, a3, a4, a5⟩ := I.pin p z
      exact ⟨a1, a2, fun hm => (List.mem_cons.mp (I.stkSub _ hm)).elim a3 a4, a5⟩
  ko := fun p hp => ⟨(q.ko p hp).1, (q.ko p hp).2.1⟩
  dis := fun p hp r hrm => by
    obtain ⟨_, _, _, _, h5, h6, _⟩ := q.ko r hrm
    rcases List.mem_cons.mp hp with z | z
    · rw [z]; exact Ne.symm h5
    · exact h6 p z
  kk := kp_set q.kk q.ng
  ng := fun r hr => q.ng r (List.mem_append_left _ hr)
  dg := q.dg
  sz := by
    have h := (Array.getElem?_eq_some_iff.mp q.st).1
    show g < (s.setGen g .running).gens.size
    rw [GenW.setGen_size]; exact h
  cm := hC
/-- one turn of a generator of ours -/
theorem next_turn {A : Around} {E : Value → Shared → Prop} (I : Inv X pins σ H s) (rs : RS X.K P0 F en σ H) (q : Gs X (mkG X N qual scope f cdv n0 k g C) pins kgo a go gs po pg F H s ds) (hr : Room (k + 2) A) (hgd : A.guards = some []) (hfr : A.frames = some X.stack) (hC : C en.M) :
    wpAny (model X.prog X.w) A (pyNext (.ref a)) (fun r s' => (r = none ∧ ds = [] ∧ ∃ F' H', Inv X pins σ H' s' ∧ RS X.K P0 F' en σ H' ∧ Same F F' ∧ Kp kgo s') ∨
      ∃ u x ds', r = some u ∧ ds = x :: ds' ∧ ∃ v F' H' po' pg' gs', Inv X pins σ H' s' ∧ RS X.K P0 F' en σ H' ∧ Same F F' ∧ RelV v u ∧ Rp X.K F' v x ∧ Gs X (mkG X N qual scope f cdv n0 k g C) pins kgo a go gs' po' pg' F' H' s' ds' ∧ Hide.slp gs' = true) E s := by
  obtain ⟨Fg, sFg, sl⟩ := q.slp
  have R := q.rdy I rs hr hgd hfr hC
  have goes := sl _ R sFg
  have aft : ∀ {po' : List (Addr × Obj)} {pg' : List (Nat × GenState)} {s₁ s₂ : Shared} {H' F' : Hp}, Aft (mkG X N qual scope f cdv n0 k g C) (wkD X A pins kgo a go g F H en.M s) po' pg' s₁ H' F' → s₂.os = s₁.os → AllBare s₂.gens → (∀ b o, s₁.heap.get? b = some o → s₂.heap.get? b = some o) →
      Inv X pins σ H' s₂ ∧ RS X.K P0 F' en σ H' ∧ Same F F' := fun {po' pg' s₁ s₂ H' F'} w eo eb ek => by
    refine ⟨inv_aft I q.yng (eo.trans w.os) eb (w.un.trans (Un.kept ek)) (w.hok.kept ek) (fun p hp => ?_) (fin_tr rs.same w.fin), rs.fin w.fin, w.fin.s1⟩
    obtain ⟨z1, z2⟩ := w.pn p (List.mem_cons_of_mem _ hp)
    exact ⟨ek _ _ z1, z2⟩
  refine next_gn hr.hd I.nolimit hr.depth q.gen q.st goes fun e s₁ he => ?_
  cases ds with
  | nil =>
    obtain ⟨he, H', F', w⟩ := he
    refine .inr ⟨he, fun h' hk => .inl ⟨rfl, rfl, F', H', ?_⟩⟩
    obtain ⟨i1, i2, i3⟩ := aft (s₂ := { s₁.setGen g .finished with heap := h' }) w rfl (allBare_setGen w.bare rfl) hk
    refine ⟨i1, i2, i3, fun p hp => ?_⟩
    have kk : Kp kgo s₁ := fun p hp => w.kk p (List.mem_append_left _ hp)
    exact kp_set (x := .finished) kk (fun p hp => q.ng p (List.mem_append_left _ hp)) p hp
  | cons x ds' =>
    obtain ⟨v, b, l, kc, c, p, fs, rfl, hqt, po', pg', H', F', u, w, ru, rp, fut⟩ := he
    refine .inl ⟨v, b, l, kc, c, p, fs, rfl, hqt, .inr ⟨v, x, ds', rfl, rfl, u, F', H', po', pg', (End.susp v b l kc c p fs).genState, ?_⟩⟩
    have hbs := End.bare_of_quiet hqt
    obtain ⟨i1, i2, i3⟩ := aft (s₂ := s₁.setGen g (End.susp v b l kc c p fs).genState) w rfl (allBare_setGen w.bare hbs) (fun _ _ e => e)
    obtain ⟨z1, z2⟩ := w.pn (a, go) List.mem_cons_self
    refine ⟨i1, i2, i3, ru, rp, ⟨q.yng, ?_, z1, ⟨z2, q.ha.2⟩, setGen_at w.sz, hbs, fun p hp => ?_, kp_set w.kk fun p hp => ?_, fun p hp => ?_, fun p hp r hr => (w.pgs r hr).2 p hp, ⟨F', Same.refl F', fun d2 r2 s2 => fut d2 r2 s2⟩, fun r hr => (w.pgs r hr).1⟩, rfl⟩
    · obtain ⟨o, nm, qn, ho, r⟩ := q.gen
      have eo : o = go := Option.some.inj (ho.symm.trans q.obj)
      subst eo
      exact ⟨o, nm, qn, z1, r⟩
    · obtain ⟨h1, h2, h3, h4, h5, h6⟩ := w.ko p hp
      exact ⟨h1, h2, h3, h4, fun z => h5 (a, go) List.mem_cons_self z.symm, fun r hr => h5 r (List.mem_cons_of_mem _ hr), h6⟩
    · rcases List.mem_append.mp hp with z | z
      · exact q.ng p (List.mem_append_left _ z)
      · exact Nat.ne_of_gt (w.pgs p z).1
    · rcases List.mem_append.mp hp with z | z
      · exact q.ng p (List.mem_append_left _ z)
      · exact Nat.ne_of_gt (w.pgs p z).1
end
end LP.Gn
namespace LP.Gn
open PySem PySem.Spec L2
open PyProof.Rows hiding St
/-- the arguments, all that will be yielded -/
abbrev ASpG := List D → List D → Prop
/-- a generator that has not begun -/
def GNew (P : Program) (w : World) (K : PySem.W.Frag) (mg : Str → Option Value) (base : Heap) (k : Nat) (outer : List Env) (s : Shared) (F : Hp) (ys : List D) (u : Value) (s' : Shared) (C : Sto → Prop := fun _ => True) : Prop :=
  ∃ (a : Addr) (N : List Str) (qual : Str) (scope : Scope) (f : Addr) (cdv : Value) (go o : Obj) (c : Code), u = .ref a ∧ s.heap.objs.size < a ∧ s'.os = s.os ∧ AllBare s'.gens ∧ (∀ b o, s.heap.get? b = some o → s'.heap.get? b = some o) ∧
    s'.heap.get? a = some go ∧ s'.heap.IsGen a s.gens.size ∧ (∀ v, go.data ≠ .cell v) ∧ s'.gens = s.gens.push (.fresh c) ∧ s'.heap.get? s.heap.objs.size = some o ∧ (∀ v, o.data ≠ .cell v) ∧
    Slp ⟨P, w, K, mg, base, N, qual, scope, f, cdv, outer, s.heap.objs.size, k, s.gens.size, C⟩ (.fresh c) [(s.heap.objs.size, o)] [] F ys
structure GFnA (P : Program) (w : World) (K : PySem.W.Frag) (mg : Str → Option Value) (base : Heap) (k : Nat) (f : Addr) (fd : FuncData) (ps : List Str) (sp : ASpG) : Prop where
  len : ∀ ds ys, sp ds ys → ds.length = ps.length
  go : ∀ (A : Around) (outer : List Env) (s : Shared) (H F : Hp) (args : Args) (us : List Value) (vs : List V) (ds ys : List D), A.guards = some [] → Room (k + 1) A → Env0 P w K mg base A outer s H → BindsTo s fd args (ps.zip us) → Vals vs us → Rps K F vs ds → sp ds ys →
    codeAny (model P w) A (.call (.ref f) args) (fun r s' => match r with | .ok (.ret u) => GNew P w K mg base k outer s F ys u s' | _ => False) s
/-- the arguments, what the store must tell at each wake, all that will be yielded -/
abbrev ASpM := List D → (Sto → Prop) → List D → Prop
structure GFnM (P : Program) (w : World) (K : PySem.W.Frag) (mg : Str → Option Value) (base : Heap) (k : Nat) (f : Addr) (fd : FuncData) (ps : List Str) (sp : ASpM) : Prop where
  len : ∀ ds C ys, sp ds C ys → ds.length = ps.length
  go : ∀ (A : Around) (outer : List Env) (s : Shared) (H F : Hp) (args : Args) (us : List Value) (vs : List V) (ds : List D) (C : Sto → Prop) (ys : List D), A.guards = some [] → Room (k + 1) A → Env0 P w K mg base A outer s H → BindsTo s fd args (ps.zip us) → Vals vs us → Rps K F vs ds → sp ds C ys →
    codeAny (model P w) A (.call (.ref f) args) (fun r s' => match r with | .ok (.ret u) => GNew P w K mg base k outer s F ys u s' C | _ => False) s
theorem startA_allV {n : Nat} {ds : List D} : allV (startA n ds) = true := by
  unfold allV startA
  rw [List.all_eq_true]
  intro x hx
  rcases List.mem_append.mp hx with z | z
  · obtain ⟨d, _, rfl⟩ := List.mem_map.mp z; rfl
  · rw [(List.mem_replicate.mp z).2]; rfl
section
variable {P : Program} {w : World} {K : PySem.W.Frag} {mg : Str → Option Value} {base : Heap}
/-- no name of the scope is a cell or free -/
def noCells (sc : Scope) : Bool := sc.names.all fun y => y.2 != .cell && y.2 != .free
theorem nc_cells {names : List (Str × NameKind)} (h : (names.all fun y => y.2 != .cell && y.2 != .free) = true) : ∀ n, cellsFrom n names [] = [] := by
  induction names with
  | nil => intro n; rfl
  | cons y ns ih =>
    intro n
    rw [List.all_cons, Bool.and_eq_true] at h
    obtain ⟨x, k⟩ := y
    obtain ⟨h1, h2⟩ := h
    cases k with
    | cell => simp at h1
    | free => simp at h1
    | _ => exact ih h2 n
theorem nc_lookup {names : List (Str × NameKind)} (h : (names.all fun y => y.2 != .cell && y.2 != .free) = true) (y : Str) : names.lookup y ≠ some .cell ∧ names.lookup y ≠ some .free := by
  rw [List.all_eq_true] at h
  refine ⟨fun e => ?_, fun e => ?_⟩
  · have := h _ (PySem.mem_of_lookup e); simp at this
  · have := h _ (PySem.mem_of_lookup e); simp at this
theorem gdef_okM {x qual : Str} {st : Stmt} {dvs : List V} {kws : List (Str × V)} {f : Addr} {fd : FuncData} {N ps : List Str} {k : Nat} {sp : ASpM} {m : MY} (D0 : FnD K x qual st dvs kws f fd) (S : GScope N ps (defScope st)) (nc : noCells (defScope st) = true) (len : ∀ ds C ys, sp ds C ys → ds.length = ps.length)
    (body : ∀ {C : Sto → Prop} (cdv : Value) (outer : List Env) (n0 g : Nat), YSs ⟨P, w, K, mg, base, N, qual, defScope st, f, cdv, outer, n0, k, g, C⟩ (defBody st) m)
    (spec : ∀ ds C ys, sp ds C ys → ∀ M, C M → m { nx := fun r _ => r = [] } ys ⟨startA N.length ds, M⟩) : GFnM P w K mg base k f fd ps sp where
  len := len
  go := by
    intro A outer s H F args us vs ds C ys hgd hr e0 hb r rp hsp
    obtain ⟨oc, od, dV, kV, doc, pm, an, cdv, ct, osl, rfl, lk, hcd, _, _⟩ := D0.ex
    have hl : vs.length = ps.length := rp.length.trans (len _ _ _ hsp)
    have KX : K.In s.heap := e0.mod.kin.keeps fun b o e => (e0.bs b o e).1
    have lim : s.heap.NoLimit := e0.mod.nolimit.keeps fun b o e => (e0.bs b o e).1
    have hkind : ∀ y ∈ ps.zip us, (defScope st).names.lookup y.1 = some .local ∨ ((defScope st).names.lookup y.1 = some .cell ∧ ((cellsFrom (s.heap.objs.size + 1) (defScope st).names []).lookup y.1).isSome = true) := fun ⟨n, v⟩ hy => by
      rcases S.par n (List.of_mem_zip hy).1 with q | q
      · exact .inl q
      · exact .inr ⟨q, PySem.W.cellsFrom_some _ _ _ (.inl q)⟩
    refine codeAny_call_generator hr.depth (KX _ _ lk) rfl S.co S.gen rfl (PySem.W.codeRec_of KX hcd) (hb _ _ _ _ ?_)
    refine wpAny_newFunctionEnv_cells S.kind hkind fun env he s1 x => ?_
    subst he
    refine ⟨lim.keeps x.toInCall.keep, ?_⟩
    obtain ⟨h1, tk, es1, hk1⟩ := x.done
    have gen1 : s1.gens = s.gens := by rw [es1]
    have kp1 : ∀ b o, s.heap.get? b = some o → s1.heap.get? b = some o := x.toInCall.keep
    have lt1 : s.heap.objs.size < s1.heap.objs.size := x.toInCall.ns.lt
    have I1 : Inv (gcxOf P w K mg base N qual (defScope st) f cdv A outer s H (fun _ _ _ => False) []) [] (L2.start N vs) H s1 := inv_startG S hr.hd e0 hl r x
    obtain ⟨mm, hns, hlook⟩ := I1.loc
    obtain ⟨o, es, ep, ho, hdd, hsk⟩ := id hns
    let G : GD := ⟨P, w, K, mg, base, N, qual, defScope st, f, cdv, outer, s.heap.objs.size, k, s.gens.size, C⟩
    have nofr : ∀ b ∈ L2.frs outer, b < s.heap.objs.size := fun b hb => by
      obtain ⟨_, o, ho, _⟩ := e0.funs.mem hb
      exact Heap.lt_size ho
    have ok : GOk G := ⟨S.kind, nc_cells nc, nc_lookup nc, e0.mod, e0.bsz, nofr⟩
    refine ⟨s1.heap.objs.size, N, qual, defScope st, f, cdv, _, o, .func (defBody st) G.env, rfl, lt1, by rw [es1], AllBare.push (by rw [gen1]; exact e0.bare) rfl, fun b o e => Heap.get?_push_of_some _ (kp1 b o e), Heap.get?_push_size _ rfl, ?_, fun v z => (by cases z), ?_, Heap.get?_push_of_some _ ho, fun v z => (by rw [hdd] at z; cases z), ?_⟩
    · rw [gen1]
      exact ⟨_, _, _, Heap.get?_push_size _ rfl, rfl, rfl, rfl⟩
    · exact congrArg (fun z : Array GenState => z.push _) gen1
    -- the first wake
    intro d2 R sF
    show SegD (model P w) d2.A (.func (defBody st) G.env) ((model P w).den (.func (defBody st) G.env)) [] (Fut G ys d2) d2.s
    have I : GInv G d2 [] [] d2.s (L2.start N vs) d2.H d2.F ⟨startA N.length ds, d2.M⟩ := by
      refine ginv_of ok R ⟨mm, hns.at' fun o' e => ?_, fun i y v e1 e2 e3 => ?_⟩ I1.len (fun p hp => by cases hp) (fun p hp => by cases hp) ?_ (fun i d h => ?_) startA_allV
      · have e' : s1.heap.get? s.heap.objs.size = some o' := e
        have eo : o = o' := Option.some.inj (ho.symm.trans e')
        subst eo
        exact (R.ko (s.heap.objs.size, o) List.mem_cons_self).1
      · obtain ⟨u, ru, l⟩ := hlook i y v e1 e2 e3
        exact ⟨u, ru, look_loc ok.cells l⟩
      · simp [startA, L2.start, rp.length]
      · obtain ⟨v, a, b⟩ := (rs_start (M := fun _ => none) (H := F) (Same.refl F) (fun a o z => by cases z) rp : RS K _ F ⟨startA N.length ds, fun _ => none⟩ (L2.start N vs) F).val i d h
        exact ⟨v, a, b.mono sF⟩
    refine sd_func ?_
    refine body cdv outer s.heap.objs.size s.gens.size [] [] _ [] _ _ id id { nx := fun r _ => r = [] } ys d2 d2.s _ _ _ _ ⟨fun d => GenW.over_func, rfl, rfl, rfl⟩ (fun fl r' d' s' σ' H' F' en' I' sm q => ?_) I (spec ds C ys hsp d2.M R.cm)
    cases fl with
    | next =>
      have q' : r' = [] := q
      subst q'
      exact sd_end (.ok (.ret .none)) ⟨.inl rfl, H', F', I'.aft0⟩
    | brk => exact q.elim
    | cont => exact q.elim
    | ret v => exact q.elim
theorem gdef_ok {x qual : Str} {st : Stmt} {dvs : List V} {kws : List (Str × V)} {f : Addr} {fd : FuncData} {N ps : List Str} {k : Nat} {sp : ASpG} {m : MY} (D0 : FnD K x qual st dvs kws f fd) (S : GScope N ps (defScope st)) (nc : noCells (defScope st) = true) (len : ∀ ds ys, sp ds ys → ds.length = ps.length)
    (body : ∀ {C : Sto → Prop} (cdv : Value) (outer : List Env) (n0 g : Nat), YSs ⟨P, w, K, mg, base, N, qual, defScope st, f, cdv, outer, n0, k, g, C⟩ (defBody st) m)
    (spec : ∀ ds ys, sp ds ys → ∀ M, m { nx := fun r _ => r = [] } ys ⟨startA N.length ds, M⟩) : GFnA P w K mg base k f fd ps sp where
  len := len
  go := fun A outer s H F args us vs ds ys hgd hr e0 hb r rp hsp =>
    (gdef_okM (sp := fun ds C ys => C = (fun _ => True) ∧ sp ds ys) D0 S nc (fun ds C ys h => len ds ys h.2) body (fun ds C ys h M _ => spec ds ys h.2 M)).go A outer s H F args us vs ds (fun _ => True) ys hgd hr e0 hb r rp ⟨rfl, hsp⟩
end
end LP.Gn
namespace LP.Gn
open PySem PySem.Spec L2
open PyProof.Rows hiding St
/-- an expression whose value is a generator that has not begun: what it will yield -/
abbrev MGn := En → (List D → En → Prop) → Prop
def GnP (X : Cx) (k : Nat) (pins : List (Addr × Obj)) (n : Nat) (P0 F : Hp) (σ : St) (Q : List D → En → Prop) (u : Value) (s' : Shared) : Prop :=
  ∃ (N : List Str) (qual : Str) (scope : Scope) (f : Addr) (cdv : Value) (n0 g : Nat) (a : Addr) (go o : Obj) (c : Code) (H1 F1 : Hp) (e1 : En) (ys : List D), u = .ref a ∧ Inv X pins σ H1 s' ∧ RS X.K P0 F1 e1 σ H1 ∧ Same F F1 ∧ Q ys e1 ∧ n ≤ g ∧ (∀ b, n0 ≤ b → H1 b = none) ∧ (∀ p ∈ X.pn ++ pins, p.1 < n0) ∧
    Gs X (mkG X N qual scope f cdv n0 k g) pins [] a go (.fresh c) [(n0, o)] [] F1 H1 s' ys
def AGn (X : Cx) (k : Nat) (e : Expr) (m : MGn) : Prop := ∀ (pins : List (Addr × Obj)) (s : Shared) (σ : St) (H P0 F : Hp) (en : En) (Q : List D → En → Prop), Inv X pins σ H s → RS X.K P0 F en σ H → m en Q →
  wpAny (model X.prog X.w) X.A (eval e X.env) (GnP X k pins s.gens.size P0 F σ Q) X.xe s
section
variable {X : Cx} {k : Nat} {f : Addr} {fd : FuncData} {ps : List Str} {sp : ASpG} {x : Str} {p pos : Pos} {e : Expr} {es : List Expr} {ma : MA} {W : WX}
def mGn (sp : ASpG) (ma : MA) : MGn := fun en Q => ma RF en fun ds e1 => ∃ ys, sp ds ys ∧ Q ys e1
/-- f(e, ..) of a generator def -/
theorem agn_call (Gf : GFnA X.prog X.w X.K X.mg X.base k f fd ps sp) (hr : Room (k + 1) X.A) (hgd : X.A.guards = some []) (hg : Gl X x) (hm : X.mg x = some (.ref f)) (hk : PySem.W.keepIn X.K (.ref f) = true) (hb : Binds X.K fd ps []) (ha : AA X W (e :: es) ma) (hdb : (x == ("__debug__" : Str)) = false := by decide)
    (he : starEach (e :: es) X.env = (false, eval e X.env) :: starEach es X.env := by rfl) (hpl : (backTo pos (starEach es X.env)).any (·.1) = false := by rfl) : AGn X k (.Call (.Name x p) (e :: es) [] pos) (mGn sp ma) := by
  obtain ⟨t, pa, sa⟩ := ha
  intro pins s σ H P0 F en Q I rs hq
  have ht := sa P0 F en σ H RF _ (fun vs H1 => ∃ F1 e1 ds, Same F F1 ∧ RS X.K P0 F1 e1 σ H1 ∧ Rps X.K F1 vs ds ∧ ∃ ys, sp ds ys ∧ Q ys e1) rs rais_f hq fun F1 e1 vs ds H1 s1 r1 rp q => ⟨F1, e1, ds, s1, r1, rp, q⟩
  refine wpAny_Call_Name_kw (ld_glob I hg hm (PySem.W.callWith_K (h₀ := X.base) I.ok.mod.kin hk (GenW.wpAny_gsz (n := s.gens.size) (Nat.le_refl _) (wpAny_mono (pa.run pos pins s σ H _ I ht) (fun us s1 q hsz => ?_) fun _ _ z _ => z)) he hpl) hdb)
  obtain ⟨vs, H1, I1, rv, F1, e1, ds, sm, r1, rp, ys, hsp, hQ⟩ := q
  refine ⟨I1.kIn, ?_⟩
  have el : (us ++ []).length = ps.length := by rw [List.append_nil, ← rv.length, rp.length]; exact Gf.len _ _ hsp
  have bt := hb s1 us I1.kIn el
  rw [List.append_nil] at bt
  refine wpAny_call (codeAny_mono (Gf.go X.A X.stack s1 H1 F1 ⟨us, []⟩ us vs ds ys hgd hr I1.env0 bt rv rp hsp) fun r s' hq => ?_)
  cases r with
  | error _ => exact hq.elim
  | ok fl =>
    cases fl with
    | next => exact hq.elim
    | brk => exact hq.elim
    | cont => exact hq.elim
    | ret u =>
      obtain ⟨a, N, qual, scope, f', cdv, go, o, c, rfl, ha0, os, bare, keep, hgo, hgen, hgc, hgens, hloc, hlc, sl⟩ := hq
      have I2 : Inv X pins σ H1 s' := I1.call' (ch := []) os (Un.kept keep) (I1.hok.kept keep) bare fun b z => by cases z
      have old : ∀ p ∈ X.pn ++ pins, p.1 < s1.heap.objs.size := fun p hp => Heap.lt_size (I1.pin p hp).1
      refine ⟨N, qual, scope, f', cdv, s1.heap.objs.size, s1.gens.size, a, go, o, c, H1, F1, e1, ys, rfl, I2, r1, sm, hQ, hsz, fun b hb => I1.hok.fresh hb, old, ⟨(Inv.yng I1), hgen, hgo, ⟨I1.hok.fresh (Nat.le_of_lt ha0), fun z => ?_, hgc, fun p hp z => ?_, Nat.le_of_lt ha0⟩, ?_, rfl, fun p hp => ?_, fun p hp => (by cases hp), fun p hp => (by cases hp), fun p hp => (by cases hp), ⟨F1, Same.refl F1, sl⟩, fun p hp => (by cases hp)⟩⟩
      · exact absurd (Nat.lt_trans ((Inv.yng I1).frs I1 _ z) ha0) (Nat.lt_irrefl _)
      · have := old p hp
        rw [z] at this
        exact absurd (Nat.lt_trans this ha0) (Nat.lt_irrefl _)
      · show s'.gens[s1.gens.size]? = _
        rw [hgens]; exact Array.getElem?_push_size ..
      · rw [List.mem_singleton.mp hp]
        refine ⟨hloc, I1.hok.fresh (Nat.le_refl _), fun z => Nat.lt_irrefl _ ((Inv.yng I1).frs I1 _ z), hlc, Nat.ne_of_lt ha0, fun q hq z => ?_, Nat.le_refl _⟩
        have := old q hq
        rw [z] at this
        exact absurd this (Nat.lt_irrefl _)
end
section
variable {X : Cx} {N : List Str} {qual : Str} {scope : Scope} {f : Addr} {cdv : Value} {n0 k g : Nat} {pins : List (Addr × Obj)} {kgo : List (Nat × GenState)} {a : Addr} {go : Obj} {gs : GenState} {po : List (Addr × Obj)} {pg : List (Nat × GenState)} {P0 F F' H H' : Hp} {en : En} {σ σ' : St} {s s' : Shared} {ds : List D} {G : GD} {W : WX}
/-- what belongs to the sleeper is pinned -/
theorem Gs.pin (q : Gs X G pins kgo a go gs po pg F H s ds) (I : Inv X pins σ H s) : Inv X (pins ++ ((a, go) :: po)) σ H s := I.pins_of fun p hp => by
  have nl : ∀ b, G.n0 ≤ b → b ≠ X.env.locals := fun b h z => absurd (Nat.lt_of_lt_of_le q.yng.loc h) (by rw [z]; exact Nat.lt_irrefl _)
  have nf : ∀ b, b ∉ frs X.stack → b ∉ X.fs := fun b h z => by
    rcases I.ok.stk with e | ⟨e, hf⟩
    · rw [e] at h; exact h z
    · rw [e] at h
      refine h ?_
      unfold frs; rw [List.filterMap_cons, hf]; exact List.mem_cons_of_mem _ z
  rcases List.mem_append.mp hp with z | z
  · exact I.pin p (List.mem_append_right _ z)
  · rcases List.mem_cons.mp z with z | z
    · rw [z]
      obtain ⟨h1, h2, h3, h4, h5⟩ := q.ha
      exact ⟨q.obj, h1, nl _ h5, nf _ h2, h3⟩
    · obtain ⟨h1, h2, h3, h4, h5, h6, h7⟩ := q.ko p z
      exact ⟨h1, h2, nl _ h7, nf _ h3, h4⟩
/-- .. and so it is kept -/
theorem Gs.kept (q : Gs X G pins kgo a go gs po pg F H s ds) (hs : Hide.slp gs = true) (J : Inv X (pins ++ ((a, go) :: po)) σ' H' s') (sl : Hide.Sleep s s') (sm : Same F F') : Gs X G pins kgo a go gs po pg F' H' s' ds := by
  have pinned : ∀ p ∈ (a, go) :: po, s'.heap.get? p.1 = some p.2 ∧ H' p.1 = none := fun p hp => let ⟨h1, h2, _⟩ := J.pin p (List.mem_append_right _ (List.mem_append_right _ hp)); ⟨h1, h2⟩
  obtain ⟨p1, p2⟩ := pinned (a, go) List.mem_cons_self
  obtain ⟨Fg, s1, s2⟩ := q.slp
  refine ⟨q.yng, ?_, p1, ⟨p2, q.ha.2⟩, sl _ _ q.st hs, q.bare, fun p hp => ?_, kp_sleep q.kk sl, q.ng, q.dg, ⟨Fg, s1.trans sm, s2⟩, q.gt⟩
  · obtain ⟨o, nm, qn, ho, r⟩ := q.gen
    have eo : o = go := Option.some.inj (ho.symm.trans q.obj)
    subst eo
    exact ⟨o, nm, qn, p1, r⟩
  · obtain ⟨h1, h2⟩ := pinned p (List.mem_cons_of_mem _ hp)
    exact ⟨h1, h2, (q.ko p hp).2.2⟩
def sForG (i : MGn) (g : MG) (body : MS) : MS := fun A en => i en fun ds e1 => forR g body A ds e1
end
end LP.Gn
namespace LP.Gn
open PySem PySem.Spec L2
open PyProof.Rows hiding St
section
variable {X : Cx} {N : List Str} {qual : Str} {scope : Scope} {f : Addr} {cdv : Value} {n0 k g : Nat} {pins : List (Addr × Obj)} {kgo : List (Nat × GenState)} {a S : Addr} {go : Obj} {gs : GenState} {po : List (Addr × Obj)} {pg : List (Nat × GenState)} {P0 F F' H H' : Hp} {en : En} {σ σ' : St} {s s' : Shared} {ds : List D} {G : GD} {W : WX} {C : Sto → Prop}
/-- the sleeper beside a step of its waker that leaves its objects alone -/
theorem Gs.step {pins' : List (Addr × Obj)} (q : Gs X G pins kgo a go gs po pg F H s ds) (hp : ∀ r ∈ X.pn ++ pins', ∃ r' ∈ X.pn ++ pins, r'.1 = r.1) (hk : ∀ p ∈ (a, go) :: po, s.heap.get? p.1 = some p.2 → s'.heap.get? p.1 = some p.2) (hg : s'.gens = s.gens) : Gs X G pins' kgo a go gs po pg F H s' ds := by
  refine ⟨q.yng, ?_, hk (a, go) List.mem_cons_self q.obj, ⟨q.ha.1, q.ha.2.1, q.ha.2.2.1, fun p hpm => ?_, q.ha.2.2.2.2⟩, by rw [hg]; exact q.st, q.bare, fun p hpm => ?_, fun p hpm => by rw [hg]; exact q.kk p hpm, q.ng, q.dg, q.slp, q.gt⟩
  · obtain ⟨o, nm, qn, ho, r⟩ := q.gen
    have eo : o = go := Option.some.inj (ho.symm.trans q.obj)
    subst eo
    exact ⟨o, nm, qn, hk (a, o) List.mem_cons_self ho, r⟩
  · obtain ⟨r', h1, h2⟩ := hp p hpm
    rw [← h2]; exact q.ha.2.2.2.1 r' h1
  · obtain ⟨h1, h2, h3, h4, h5, h6, h7⟩ := q.ko p hpm
    refine ⟨hk p (List.mem_cons_of_mem _ hpm) h1, h2, h3, h4, h5, fun r hr => ?_, h7⟩
    obtain ⟨r', z1, z2⟩ := hp r hr
    rw [← z2]; exact h6 r' z1
theorem fpOk_pin {o : Obj} (I : Inv X pins σ H s) (hf : FpOk X pins H S) (ho : s.heap.get? S = some o) (hd : ∀ v, o.data ≠ .cell v) : Inv X (pins ++ [(S, o)]) σ H s := I.pins_of fun p hp => by
  rcases List.mem_append.mp hp with z | z
  · exact I.pin p (List.mem_append_right _ z)
  · rw [List.mem_singleton.mp z]
    exact ⟨ho, hf.1, hf.2.1, hf.2.2.1, hd⟩
end
section
variable {prog : Program} {w : World} {A : Around} {E : Value → Shared → Prop} {s : Shared} {S a : Addr} {g : Nat} {res : Value}
/-- up to the turns -/
theorem extG {Q : PySem.Fin → Shared → Prop} {c : Nat} (hS : s.heap.get? S = some (lstObj #[] c)) (hg : s.heap.IsGen a g) (hne : S ≠ a)
    (h : ∀ h' c', h'.get? S = some (lstObj #[] c') → (∀ b o, b ≠ S → s.heap.get? b = some o → h'.get? b = some o) → Q (.again (.builtin "list.extend.loop" ⟨[.ref S, .ref a, res], []⟩)) { s with heap := h' }) : wpAny (model prog w) A (Builtin.List.listExtendWith (.ref S) (.ref a) res) Q E s := by
  unfold Builtin.List.listExtendWith
  refine wpAny_bind (wpAny_typeOf hg.typeIs ?_)
  have h1 : Builtin.List.listSameRef (.ref S) (.ref a) = false := by simp [Builtin.List.listSameRef, hne]
  have h2 : (Value.type "generator" == Value.type "list") = false := by decide
  have h3 : (Value.type "generator" == Value.type "tuple") = false := by decide
  simp only [h1, h2, h3, Bool.or_false, Bool.false_eq_true, if_false]
  refine wpAny_bind (wpAny_pyIter_gen hg ?_)
  refine wpAny_bind (wpAny_holding ?_)
  unfold Builtin.List.listLengthHint
  refine wpAny_bind (wpAny_specialOf hg.typeIs PySem.F.gen_no_len ?_)
  show wpAny _ A (specialOf (Value.ref a) (Str.ofString "__length_hint__") >>= _) _ _ _
  refine wpAny_bind (wpAny_specialOf hg.typeIs PySem.F.gen_no_hint ?_)
  refine wpAny_pure ?_
  show wpAny _ A (rule "list.extend.makes-room" >>= fun _ => Builtin.List.listTouch (.ref S) >>= fun _ =>
    again (.builtin "list.extend.loop" ⟨[.ref S, .ref a, res], []⟩)) _ _ _
  refine wpAny_bind (wpAny_rule ?_)
  refine wpAny_bind ?_
  show wpAny _ A (updateSeq S (·.push .none) >>= fun _ => updateSeq S (·.pop)) _ _ _
  refine wpAny_bind (wpAny_updateSeq hS rfl ?_)
  have hS3 := Heap.get?_update_self (Obj.mapSeq (·.push Value.none)) hS rfl
  refine wpAny_updateSeq (hz := by seq_fits) hS3 rfl ?_
  have hS4 := Heap.get?_update_self (Obj.mapSeq (·.pop)) hS3 rfl
  refine wpAny_pure (h _ _ hS4 fun b o hb e => ?_)
  exact (Heap.get?_update_other _ _ (Ne.symm hb)).trans ((Heap.get?_update_other _ _ (Ne.symm hb)).trans e)
end
section
variable {X : Cx} {N : List Str} {qual : Str} {scope : Scope} {f : Addr} {cdv : Value} {n0 k g : Nat} {pins : List (Addr × Obj)} {a : Addr} {go : Obj} {gs : GenState} {po : List (Addr × Obj)} {pg : List (Nat × GenState)} {P0 F H : Hp} {en : En} {σ : St} {s : Shared} {ds : List D} {W : WX} {E : Value → Shared → Prop} {C : Sto → Prop}
/-- a new list beside the sleeper -/
theorem Gs.pushed (q : Gs X (mkG X N qual scope f cdv n0 k g C) pins [] a go gs po pg F H s ds) (I : Inv X pins σ H s) (o : Obj) {o2 : Obj} : Gs X (mkG X N qual scope f cdv n0 k g C) (pins ++ [(s.heap.objs.size, o2)]) [] a go gs po pg F H { s with heap := s.heap.push o } ds := by
  have z := q.step (pins' := pins) (s' := { s with heap := s.heap.push o }) (fun r hr => ⟨r, hr, rfl⟩) (fun p _ e => Heap.get?_push_of_some _ e) rfl
  refine ⟨z.yng, z.gen, z.obj, ⟨z.ha.1, z.ha.2.1, z.ha.2.2.1, fun p hp => ?_, z.ha.2.2.2.2⟩, z.st, z.bare, fun p hp => ?_, z.kk, z.ng, z.dg, z.slp, z.gt⟩
  · rcases List.mem_append.mp hp with y | y
    · exact z.ha.2.2.2.1 p (List.mem_append_left _ y)
    · rcases List.mem_append.mp y with y | y
      · exact z.ha.2.2.2.1 p (List.mem_append_right _ y)
      · rw [List.mem_singleton.mp y]
        exact Nat.ne_of_gt (Heap.lt_size q.obj)
  · obtain ⟨h1, h2, h3, h4, h5, h6, h7⟩ := z.ko p hp
    refine ⟨h1, h2, h3, h4, h5, fun r hr => ?_, h7⟩
    rcases List.mem_append.mp hr with y | y
    · exact h6 r (List.mem_append_left _ y)
    · rcases List.mem_append.mp y with y | y
      · exact h6 r (List.mem_append_right _ y)
      · rw [List.mem_singleton.mp y]
        exact Nat.ne_of_gt (Heap.lt_size (q.ko p hp).1)
/-- a list that we have filled is tracked from here on -/
theorem inv_adopt {X : Cx} {pins : List (Addr × Obj)} {σ : St} {H : Hp} {s : Shared} {S : Addr} {acc : Array Value} {c : Nat} {vs : List V} (I : Inv X pins σ H s) (hf : FpOk X pins H S) (e : s.heap.get? S = some (lstObj acc c)) (rv : Vals vs acc.toList) (hl : vs.length ≤ sizeLine) : Inv X pins σ (upd H S (.lst vs)) s := by
  obtain ⟨f0, f1, f2, f3, f4, f5⟩ := hf
  have ns : ∀ {b : Addr} {o : HO}, H b = some o → b ≠ S := fun q z => by rw [z, f0] at q; cases q
  refine I.step (ch := [S]) (h' := s.heap) (g' := s.gens) (t' := s.toks) (d' := s.drawn) (fun b hb => ?_) (fun b o _ _ _ q _ => q) (fun b o _ _ _ q _ => ⟨o.slots, q⟩) (fun b o hc _ n => ?_) (fun b o _ q => ⟨o, q⟩) (fun b xs q => ?_) (fun b o u q => ?_) (fun b ps q => ⟨#[], ?_⟩) (fun m q => q) (fun b u q => ?_) I.bare
  · rw [List.mem_singleton.mp hb]; exact ⟨f3, f1, f4, f5⟩
  · rw [upd_ne fun z => hc (List.mem_singleton.mpr z)]; exact n
  · rw [upd_ne (ns q)]; exact q
  · rw [upd_ne (ns q)]; exact q
  · rw [upd_ne (ns q), q]; simp
  · by_cases hb : b = S
    · subst hb
      rw [upd_same] at q
      cases q
      exact ⟨hl, acc.toList, c, rv, by rw [e]⟩
    · rw [upd_ne hb] at q
      exact (I.hok b u q).stay (fun _ _ _ z => z) (fun d z => by rw [upd_ne (ns z)]; exact z) fun d xs z => by rw [upd_ne (ns z)]; exact z
/-- all that a generator yields, in a new list at S -/
def Drained (X : Cx) (pins : List (Addr × Obj)) (σ : St) (P0 F : Hp) (en : En) (ds : List D) (S : Addr) (s' : Shared) : Prop :=
  ∃ H' F' acc' c' vs', Inv X pins σ H' s' ∧ RS X.K P0 F' en σ H' ∧ Same F F' ∧ FpOk X pins H' S ∧ s'.heap.get? S = some (lstObj acc' c') ∧ Vals vs' acc'.toList ∧ Rps X.K F' vs' ds
end
section
variable {X : Cx} {k : Nat} {W : WX} {i : MGn} {e : Expr} {p pos : Pos}
/-- the meanings: no exception -/
def mTupG (i : MGn) : ME := fun _ en Q => i en fun ds e1 => ds.length ≤ sizeLine ∧ Q (.tup ds) e1
def mListG (i : MGn) : MF := fun _ en Q => i en fun ds e1 => ds.length ≤ sizeLine ∧ Q ds e1
end
end LP.Gn
namespace LP
open PySem PySem.Spec L2
open PyProof.Rows hiding St
local macro_rules | `(tactic| sleep 1) => `(tactic| set_option simprocs false in dsimp only [lcR, mLc, mLr1, mLr2, gN, gT, gsCons, gsNil, tupD, mB, mOp, mOpF, mV, mO, mL, mCall, mCons, mNil, mvCons, mvNil, mCB, mCF, mVar_dat, oV_v, oV_ol, oV_od, mC, mIf, mAnd, mOr, mNot, mAndV, mOrV, mNotV, mTup, mLst, mNeg, mYes, mSl, mPart, mNo, mSeq, mR1, mR2, mR3, mEnumS, mZip, mIdx, mStep, mApp, mPop, mPopAt, mExt, mChain, pV, pO, pNil, sSeq, sFor, sSet, sSetO, sDrop, sRet, sRetN, sIf, sNext, sAug, sSub, sAsg, sPar2, sPar3, sTupN, LP.putAll, It1.sl, p2, p3, gt, List.set, wipeE, rq2, rq1, asB, LP.intD, i1, i2, d2, one, seqD, addK, subK, ltK, leK, gtK, geK, lenK, slD, defEnds, cns, slK, min2K, max2K, intK, mStar, olD, isOl, seq1, lst1, tupleK])
local macro_rules | `(tactic| sleep 2) => `(tactic| (simp [keepO]; try simp [Sl.own]))
local macro_rules | `(tactic| sleep 3) => `(tactic| (rw [sizeLine_is]; simp only [List.length_map, List.length_append, List.length_cons, List.length_nil, List.length_set, nums_len, cls_len, rng_len, List.length_range, List.length_replicate]; omega))
local macro_rules | `(tactic| sleep 7) => `(tactic| simp only [Bool.false_eq_true, Bool.not_true, Bool.not_false, ↓reduceIte, if_true, if_false])
local macro_rules | `(tactic| sleep 6) => `(tactic| (sleep 1; try simp only [exSome, exOl, true_and, Bool.false_eq_true, Bool.not_true, Bool.not_false, ↓reduceIte, if_true, if_false]; try sleep 1))
local macro_rules | `(tactic| sleep 8) => `(tactic| repeat (refine szAnd (by (try simp only [List.length_cons, List.length_nil, List.length_append, List.length_map, List.length_take, List.length_drop, List.length_reverse, nums_len, cls_len, nats_len']); omega) ?_))
local macro_rules | `(tactic| sleep 10) => `(tactic| set_option simprocs false in dsimp only [LP.Gn.ySeq, LP.Gn.yPl, LP.Gn.yNil, LP.Gn.yIf, LP.Gn.yYield, LP.Gn.yTk, LP.Gn.yFor, LP.Gn.mTupG, LP.Gn.mListG, LP.Gn.mGn, LP.Gn.sForG, LP.Gn.allV])
end LP
namespace LP
open PySem PySem.Spec L2
open PyProof.Rows hiding St
local macro_rules | `(tactic| sleep 1) => `(tactic| set_option simprocs false in dsimp only [lcR, mLc, mLr1, mLr2, gN, gT, gsCons, gsNil, tupD, mB, mOp, mOpF, mV, mO, mL, mCall, mCons, mNil, mvCons, mvNil, mCB, mCF, mVar_dat, oV_v, oV_ol, oV_od, mC, mIf, mAnd, mOr, mNot, mAndV, mOrV, mNotV, mTup, mLst, mNeg, mYes, mSl, mPart, mNo, mSeq, mR1, mR2, mR3, mEnumS, mZip, mIdx, mStep, mApp, mPop, mPopAt, mExt, mChain, pV, pO, pNil, sSeq, sFor, sSet, sSetO, sDrop, sRet, sRetN, sIf, sNext, sAug, sSub, sAsg, sPar2, sPar3, sTupN, LP.putAll, It1.sl, p2, p3, gt, List.set, wipeE, rq2, rq1, asB, LP.intD, i1, i2, d2, one, seqD, addK, subK, ltK, leK, gtK, geK, lenK, slD, defEnds, cns, slK, min2K, max2K, intK, mStar, olD, isOl, seq1, lst1, tupleK])
local macro_rules | `(tactic| sleep 2) => `(tactic| (simp [keepO]; try simp [Sl.own]))
local macro_rules | `(tactic| sleep 3) => `(tactic| (rw [sizeLine_is]; simp only [List.length_map, List.length_append, List.length_cons, List.length_nil, List.length_set, nums_len, cls_len, rng_len, List.length_range, List.length_replicate]; omega))
local macro_rules | `(tactic| sleep 7) => `(tactic| simp only [Bool.false_eq_true, Bool.not_true, Bool.not_false, ↓reduceIte, if_true, if_false])
local macro_rules | `(tactic| sleep 6) => `(tactic| (sleep 1; try simp only [exSome, exOl, true_and, Bool.false_eq_true, Bool.not_true, Bool.not_false, ↓reduceIte, if_true, if_false]; try sleep 1))
local macro_rules | `(tactic| sleep 8) => `(tactic| repeat (refine szAnd (by (try simp only [List.length_cons, List.length_nil, List.length_append, List.length_map, List.length_take, List.length_drop, List.length_reverse, nums_len, cls_len, nats_len']); omega) ?_))
local macro_rules | `(tactic| sleep 10) => `(tactic| set_option simprocs false in dsimp only [LP.Gn.ySeq, LP.Gn.yPl, LP.Gn.yNil, LP.Gn.yIf, LP.Gn.yYield, LP.Gn.yTk, LP.Gn.yFor, LP.Gn.mTupG, LP.Gn.mListG, LP.Gn.mGn, LP.Gn.sForG, LP.Gn.allV])
end LP
namespace LP.Gn
open PySem PySem.Spec L2
open PyProof.Rows hiding St
/-- a generator of ours that sleeps; pr: what must stay while it runs -/
structure GsB (G : GD) (pr : List (Addr × Obj)) (kgo : List (Nat × GenState)) (a : Addr) (go : Obj) (gs : GenState) (po : List (Addr × Obj)) (pg : List (Nat × GenState)) (F H : Hp) (s : Shared) (ds : List D) : Prop where
  gen : s.heap.IsGen a G.g
  obj : s.heap.get? a = some go
  ha : H a = none ∧ a ∉ frs G.outer ∧ (∀ v, go.data ≠ .cell v) ∧ (∀ p ∈ pr, p.1 ≠ a) ∧ G.n0 ≤ a
  st : s.gens[G.g]? = some gs
  bare : gs.bare = true
  ko : ∀ p ∈ po, s.heap.get? p.1 = some p.2 ∧ H p.1 = none ∧ p.1 ∉ frs G.outer ∧ (∀ v, p.2.data ≠ .cell v) ∧ p.1 ≠ a ∧ (∀ q ∈ pr, q.1 ≠ p.1) ∧ G.n0 ≤ p.1
  kk : Kp (kgo ++ pg) s
  ng : ∀ q ∈ kgo ++ pg, q.1 ≠ G.g
  dg : ∀ q ∈ kgo, ∀ p ∈ pg, q.1 ≠ p.1
  slp : ∃ Fg, Same Fg F ∧ Slp G gs po pg Fg ds
structure Kept (G : GD) (pr : List (Addr × Obj)) (kgo : List (Nat × GenState)) (F : Hp) (M : Sto) (H : Hp) (s : Shared) (H' F' : Hp) (s' : Shared) : Prop where
  os : s'.os = s.os
  bare : AllBare s'.gens
  un : Un (frs G.outer) [] H H' (cutH G.n0 s.heap) s'.heap
  hok : HOk G.P G.w H' s'.heap
  fin : Fin G.K F M H F' M H'
  pn : ∀ p ∈ pr, s'.heap.get? p.1 = some p.2 ∧ H' p.1 = none
  kk : Kp kgo s'
section
variable {G : GD} {pr : List (Addr × Obj)} {kgo : List (Nat × GenState)} {a : Addr} {go : Obj} {gs : GenState} {po : List (Addr × Obj)} {pg : List (Nat × GenState)} {F H : Hp} {M : Sto} {s : Shared} {ds : List D}
def wkB (A : Around) (pr : List (Addr × Obj)) (kgo : List (Nat × GenState)) (a : Addr) (go : Obj) (g : Nat) (F H : Hp) (M : Sto) (s : Shared) : WD := ⟨A.in1, s.setGen g .running, H, F, M, (a, go) :: pr, kgo⟩
theorem GsB.rdy {A : Around} (e0 : Env0 G.P G.w G.K G.mg G.base A G.outer s H) (same : Same F H) (so : SOk G.K F M H) (hp : ∀ p ∈ pr, s.heap.get? p.1 = some p.2 ∧ H p.1 = none ∧ p.1 ∉ frs G.outer ∧ ∀ v, p.2.data ≠ .cell v)
    (q : GsB G pr kgo a go gs po pg F H s ds) (hr : Room (G.k + 2) A) (hgd : A.guards = some []) (hC : G.C M) : Rdy G (wkB A pr kgo a go G.g F H M s) po pg where
  room := hr.in1
  gd := hgd
  e0 := ⟨e0.frames, e0.mod, e0.bs, e0.bsz, e0.funs, e0.frf, e0.hok, allBare_setGen e0.bare rfl⟩
  same := same
  so := so
  pn := fun p hpm => by
    rcases List.mem_cons.mp hpm with z | z
    · rw [z]; exact ⟨q.obj, q.ha.1, q.ha.2.1, q.ha.2.2.1⟩
    · exact hp p z
  ko := fun p hp => ⟨(q.ko p hp).1, (q.ko p hp).2.1⟩
  dis := fun p hp r hrm => by
    obtain ⟨_, _, _, _, h5, h6, _⟩ := q.ko r hrm
    rcases List.mem_cons.mp hp with z | z
    · rw [z]; exact Ne.symm h5
    · exact h6 p z
  kk := kp_set q.kk q.ng
  ng := fun r hr => q.ng r (List.mem_append_left _ hr)
  dg := q.dg
  sz := by
    have h := (Array.getElem?_eq_some_iff.mp q.st).1
    show G.g < (s.setGen G.g .running).gens.size
    rw [GenW.setGen_size]; exact h
  cm := hC
/-- the sleeper's things are pinned in a state of its waker -/
theorem GsB.kept {X : Cx} {pins : List (Addr × Obj)} {σ : St} {H' F' : Hp} {s' : Shared} (q : GsB G pr kgo a go gs po pg F H s ds) (hs : Hide.slp gs = true) (J : Inv X (pins ++ ((a, go) :: po)) σ H' s') (sl : Hide.Sleep s s') (sm : Same F F') : GsB G pr kgo a go gs po pg F' H' s' ds := by
  have pinned : ∀ p ∈ (a, go) :: po, s'.heap.get? p.1 = some p.2 ∧ H' p.1 = none := fun p hp => let ⟨h1, h2, _⟩ := J.pin p (List.mem_append_right _ (List.mem_append_right _ hp)); ⟨h1, h2⟩
  obtain ⟨p1, p2⟩ := pinned (a, go) List.mem_cons_self
  obtain ⟨Fg, s1, s2⟩ := q.slp
  refine ⟨?_, p1, ⟨p2, q.ha.2⟩, sl _ _ q.st hs, q.bare, fun p hp => ?_, kp_sleep q.kk sl, q.ng, q.dg, Fg, s1.trans sm, s2⟩
  · obtain ⟨o, nm, qn, ho, r⟩ := q.gen
    have eo : o = go := Option.some.inj (ho.symm.trans q.obj)
    subst eo
    exact ⟨o, nm, qn, p1, r⟩
  · obtain ⟨h1, h2⟩ := pinned p (List.mem_cons_of_mem _ hp)
    exact ⟨h1, h2, (q.ko p hp).2.2⟩
/-- other things to be protected -/
theorem GsB.with {pr' : List (Addr × Obj)} (q : GsB G pr kgo a go gs po pg F H s ds) (h1 : ∀ p ∈ pr', p.1 ≠ a) (h2 : ∀ p ∈ po, ∀ r ∈ pr', r.1 ≠ p.1) : GsB G pr' kgo a go gs po pg F H s ds :=
  ⟨q.gen, q.obj, ⟨q.ha.1, q.ha.2.1, q.ha.2.2.1, h1, q.ha.2.2.2.2⟩, q.st, q.bare, fun p hp => let ⟨a, b, c, d, e, _, g⟩ := q.ko p hp; ⟨a, b, c, d, e, h2 p hp, g⟩, q.kk, q.ng, q.dg, q.slp⟩
end
section
variable {X : Cx} {W : WX} {k : Nat} {i : MGn} {elt tg iter : Expr} {ifs : List Expr} {scope : Scope} {own : List (Str × Nat)} {pos : Pos} {mg : MG} {mt : MT} {me : ME} {ws : List Nat}
end
end LP.Gn
namespace LP
open PySem PySem.Spec L2
open PyProof.Rows hiding St
end LP
namespace LP
open PySem PySem.Spec L2
open PyProof.Rows hiding St
end LP
namespace LP
open PySem PySem.Spec L2
open PyProof.Rows hiding St
section
variable {X : Cx} {W : WX}
end
end LP
namespace LP
open PySem PySem.Spec L2
open PyProof.Rows hiding St
local macro_rules | `(tactic| sleep 1) => `(tactic| set_option simprocs false in dsimp only [lcR, mLc, mLr1, mLr2, gN, gT, gsCons, gsNil, tupD, mB, mOp, mOpF, mV, mO, mL, mCall, mCons, mNil, mvCons, mvNil, mCB, mCF, mVar_dat, oV_v, oV_ol, oV_od, mC, mIf, mAnd, mOr, mNot, mAndV, mOrV, mNotV, mTup, mLst, mNeg, mYes, mSl, mPart, mNo, mSeq, mR1, mR2, mR3, mEnumS, mZip, mIdx, mStep, mApp, mPop, mPopAt, mExt, mChain, pV, pO, pNil, sSeq, sFor, sSet, sSetO, sDrop, sRet, sRetN, sIf, sNext, sAug, sSub, sAsg, sPar2, sPar3, sTupN, LP.putAll, It1.sl, p2, p3, gt, List.set, wipeE, rq2, rq1, asB, LP.intD, i1, i2, d2, one, seqD, addK, subK, ltK, leK, gtK, geK, lenK, slD, defEnds, cns, slK, min2K, max2K, intK, mStar, olD, isOl, seq1, lst1, tupleK])
local macro_rules | `(tactic| sleep 2) => `(tactic| (simp [keepO]; try simp [Sl.own]))
local macro_rules | `(tactic| sleep 3) => `(tactic| (rw [sizeLine_is]; simp only [List.length_map, List.length_append, List.length_cons, List.length_nil, List.length_set, nums_len, cls_len, rng_len, List.length_range, List.length_replicate]; omega))
local macro_rules | `(tactic| sleep 7) => `(tactic| simp only [Bool.false_eq_true, Bool.not_true, Bool.not_false, ↓reduceIte, if_true, if_false])
local macro_rules | `(tactic| sleep 6) => `(tactic| (sleep 1; try simp only [exSome, exOl, true_and, Bool.false_eq_true, Bool.not_true, Bool.not_false, ↓reduceIte, if_true, if_false]; try sleep 1))
local macro_rules | `(tactic| sleep 8) => `(tactic| repeat (refine szAnd (by (try simp only [List.length_cons, List.length_nil, List.length_append, List.length_map, List.length_take, List.length_drop, List.length_reverse, nums_len, cls_len, nats_len']); omega) ?_))
local macro_rules | `(tactic| sleep 10) => `(tactic| set_option simprocs false in dsimp only [LP.Gn.ySeq, LP.Gn.yPl, LP.Gn.yNil, LP.Gn.yIf, LP.Gn.yYield, LP.Gn.yTk, LP.Gn.yFor, LP.Gn.mTupG, LP.Gn.mListG, LP.Gn.mGn, LP.Gn.sForG, LP.Gn.allV])
end LP
namespace LP
open PySem PySem.Spec L2
open PyProof.Rows hiding St
section
variable {P : Program} {w : World} {A : Around} {E : Value → Shared → Prop} {s : Shared}
/-- a set with nothing in it yet -/
abbrev bareSet (w : World) : Obj := { cls := .type "set", dict := none, data := .set #[] 0 (.fresh 0 0 (!w.params.followText "set-order")) }
end
end LP
namespace LP.Hide
open PySem
open Sem (wp)
end LP.Hide
namespace LP.Gn
open PySem PySem.Spec L2
open PyProof.Rows hiding St
section
variable {G : GD} {d d' : WD} {ip : List (Addr × Obj)} {kg : List (Nat × GenState)} {s s' : Shared} {σ σ' : St} {H H' F F' : Hp} {en en' : En} {N : List Str} {qual : Str} {scope : Scope} {f : Addr} {cdv : Value} {n0 k g : Nat} {a : Addr} {go : Obj} {gs : GenState} {po : List (Addr × Obj)} {pg : List (Nat × GenState)} {ds : List D}
theorem GInv.to2 (I : GInv G d ip kg s σ H F en) (i : Inv (gx G d) ip σ' H' s') (r : RS G.K (prv d.F d.M d.H) F' en' σ' H') (sm : Same F F') (m : en'.M = en.M) (kk : Kp (d.kg ++ kg) s') (sz : s.gens.size ≤ s'.gens.size) : GInv G d ip kg s' σ' H' F' en' :=
  ⟨I.ok, I.room, I.gd, i, r, I.sm.trans sm, m.trans I.m, kk, I.pgs, I.ng, I.dis, Nat.lt_of_lt_of_le I.sz sz, I.n0, I.nip⟩
/-- with the generator that it walks -/
theorem GInv.in1 (I : GInv G d ip kg s σ H F en) (q : Gs (gx G d) (mkG (gx G d) N qual scope f cdv n0 k g) ip (d.kg ++ kg) a go gs po pg F H s ds) (hs : Hide.slp gs = true) (hg : G.g < g) :
    GInv G d (ip ++ ((a, go) :: po)) (kg ++ ((g, gs) :: pg)) s σ H F en := by
  have lo : G.n0 ≤ n0 := Nat.le_of_lt q.yng.loc
  refine ⟨I.ok, I.room, I.gd, q.pin I.inv, I.rs, I.sm, I.m, fun p hp => ?_, fun p hp => ?_, I.ng, fun p hp r hr => ?_, I.sz, I.n0, fun p hp => ?_⟩
  · rcases List.mem_append.mp hp with z | z
    · exact I.kk p (List.mem_append_left _ z)
    rcases List.mem_append.mp z with z | z
    · exact I.kk p (List.mem_append_right _ z)
    rcases List.mem_cons.mp z with z | z
    · rw [z]; exact ⟨q.st, hs⟩
    · exact q.kk p (List.mem_append_right _ z)
  · rcases List.mem_append.mp hp with z | z
    · exact I.pgs p z
    rcases List.mem_cons.mp z with z | z
    · rw [z]; exact ⟨hg, fun r hr => q.ng r (List.mem_append_left _ (List.mem_append_left _ hr))⟩
    · exact ⟨Nat.lt_trans hg (q.gt p z), fun r hr => q.dg r (List.mem_append_left _ hr) p z⟩
  · rcases List.mem_append.mp hr with z | z
    · exact I.dis p hp r z
    rcases List.mem_cons.mp z with z | z
    · rw [z]; exact q.ha.2.2.2.1 p (List.mem_append_left _ hp)
    · exact (q.ko r z).2.2.2.2.2.1 p (List.mem_append_left _ hp)
  · rcases List.mem_append.mp hp with z | z
    · exact I.nip p z
    rcases List.mem_cons.mp z with z | z
    · rw [z]; exact Nat.le_trans lo q.ha.2.2.2.2
    · exact Nat.le_trans lo (q.ko p z).2.2.2.2.2.2
theorem GInv.out1 {pl : List (Addr × Obj)} {kl : List (Nat × GenState)} (I : GInv G d (ip ++ pl) (kg ++ kl) s σ H F en) : GInv G d ip kg s σ H F en :=
  ⟨I.ok, I.room, I.gd, I.inv.unpinned, I.rs, I.sm, I.m, fun p hp => (List.mem_append.mp hp).elim (fun z => I.kk p (List.mem_append_left _ z)) (fun z => I.kk p (List.mem_append_right _ (List.mem_append_left _ z))), fun p hp => I.pgs p (List.mem_append_left _ hp), I.ng,
    fun p hp r hr => I.dis p hp r (List.mem_append_left _ hr), I.sz, I.n0, fun p hp => I.nip p (List.mem_append_left _ hp)⟩
/-- the sleeper after the body, maybe in another wake -/
theorem Gs.again (q : Gs (gx G d) (mkG (gx G d) N qual scope f cdv n0 k g) ip (d.kg ++ kg) a go gs po pg F H s ds) (I : GInv G d' (ip ++ ((a, go) :: po)) (kg ++ ((g, gs) :: pg)) s' σ' H' F' en') (sm : Same F F') :
    Gs (gx G d') (mkG (gx G d') N qual scope f cdv n0 k g) ip (d'.kg ++ kg) a go gs po pg F' H' s' ds := by
  have pinned : ∀ p ∈ (a, go) :: po, s'.heap.get? p.1 = some p.2 ∧ H' p.1 = none := fun p hp => let ⟨h1, h2, _⟩ := I.inv.pin p (List.mem_append_right _ (List.mem_append_right _ hp)); ⟨h1, h2⟩
  obtain ⟨p1, p2⟩ := pinned (a, go) List.mem_cons_self
  obtain ⟨Fg, s1, s2⟩ := q.slp
  have ms : (g, gs) ∈ kg ++ ((g, gs) :: pg) := List.mem_append_right _ List.mem_cons_self
  have mp : ∀ p ∈ pg, p ∈ kg ++ ((g, gs) :: pg) := fun p hp => List.mem_append_right _ (List.mem_cons_of_mem _ hp)
  have szc : (gx G d').s_0.heap.objs.size ≤ n0 := Nat.le_trans (I.inv.ok.above : (gx G d').s_0.heap.objs.size ≤ G.n0) (Nat.le_of_lt q.yng.loc)
  refine ⟨⟨szc, q.yng.loc, fun x c e => ?_⟩, ?_, p1, ⟨p2, q.ha.2.1, q.ha.2.2.1, fun p hp => ?_, q.ha.2.2.2.2⟩, (I.kk _ (List.mem_append_right _ ms)).1, q.bare, fun p hp => ?_, fun p hp => ?_, fun p hp => ?_, fun p hp r hr => ?_, ⟨Fg, s1.trans sm, s2⟩, q.gt⟩
  · have e' : G.env.cells.lookup x = some c := e
    rw [I.ok.cells x] at e'; cases e'
  · obtain ⟨o, nm, qn, ho, r⟩ := q.gen
    have eo : o = go := Option.some.inj (ho.symm.trans q.obj)
    subst eo
    exact ⟨o, nm, qn, p1, r⟩
  · rcases List.mem_append.mp hp with z | z
    · exact I.dis p z (a, go) (List.mem_append_right _ List.mem_cons_self)
    · exact q.ha.2.2.2.1 p (List.mem_append_right _ z)
  · obtain ⟨h1, h2⟩ := pinned p (List.mem_cons_of_mem _ hp)
    obtain ⟨_, _, h3, h4, h5, h6, h7⟩ := q.ko p hp
    refine ⟨h1, h2, h3, h4, h5, fun r hr => ?_, h7⟩
    rcases List.mem_append.mp hr with z | z
    · exact I.dis r z p (List.mem_append_right _ (List.mem_cons_of_mem _ hp))
    · exact h6 r (List.mem_append_right _ z)
  · rcases List.mem_append.mp hp with z | z
    · rcases List.mem_append.mp z with z | z
      · exact I.kk p (List.mem_append_left _ z)
      · exact I.kk p (List.mem_append_right _ (List.mem_append_left _ z))
    · exact I.kk p (List.mem_append_right _ (mp p z))
  · rcases List.mem_append.mp hp with z | z
    · rcases List.mem_append.mp z with z | z
      · exact (I.pgs _ ms).2 p z
      · exact q.ng p (List.mem_append_left _ (List.mem_append_right _ z))
    · exact q.ng p (List.mem_append_right _ z)
  · rcases List.mem_append.mp hp with z | z
    · exact (I.pgs _ (mp r hr)).2 p z
    · exact q.dg p (List.mem_append_right _ z) r hr
variable {tg e : Expr} {body : List Stmt} {pos : Pos} {i : MGn} {gm : MG} {m : MY} {ws : List Nat}
end
end LP.Gn
namespace LP
open PySem PySem.Spec L2
open PyProof.Rows hiding St
structure FnS (P : Program) (w : World) (K : PySem.W.Frag) (mg : Str → Option Value) (base : Heap) (k : Nat) (f : Addr) (sp : Sp) : Prop where
  go : ∀ (A : Around), A.guards = some [] → Room k A → ∀ (out : List Env) (s : Shared) (H : Hp), Env0 P w K mg base A out s H → ∀ (us : List Value) (vs : List V), Vals vs us →
    ∀ (Q : VK) (E : XK), sp vs H Q E → codeAny (model P w) A (.call (.ref f) ⟨us, []⟩) (CR (L2N.CX P w) out P w H s Q E) s
theorem FnS.mono {P : Program} {w : World} {K : PySem.W.Frag} {mg : Str → Option Value} {base : Heap} {j k : Nat} {f : Addr} {sp : Sp} (G : FnS P w K mg base j f sp) (h : j ≤ k) : FnS P w K mg base k f sp :=
  ⟨fun A hg hr => G.go A hg (hr.mono h)⟩
section
variable {P : Program} {w : World} {K : PySem.W.Frag} {mg : Str → Option Value} {base : Heap}
end
section
variable {X : Cx} {W : WX} {e : Expr} {es : List Expr} {pos : Pos} {ma : MA}
end
section
variable {prog : Program} {w : World} {A : Around} {E : Value → Shared → Prop} {s : Shared}
end
section
variable {X : Cx} {x y : Str} {i j : Nat} {pos p1 p2 p3 : Pos} {k : Nat}
end
end LP
namespace LP
open PySem PySem.Spec L2
open PyProof.Rows hiding St
local macro_rules | `(tactic| sleep 1) => `(tactic| set_option simprocs false in dsimp only [lcR, mLc, mLr1, mLr2, gN, gT, gsCons, gsNil, tupD, mB, mOp, mOpF, mV, mO, mL, mCall, mCons, mNil, mvCons, mvNil, mCB, mCF, mVar_dat, oV_v, oV_ol, oV_od, mC, mIf, mAnd, mOr, mNot, mAndV, mOrV, mNotV, mTup, mLst, mNeg, mYes, mSl, mPart, mNo, mSeq, mR1, mR2, mR3, mEnumS, mZip, mIdx, mStep, mApp, mPop, mPopAt, mExt, mChain, pV, pO, pNil, sSeq, sFor, sSet, sSetO, sDrop, sRet, sRetN, sIf, sNext, sAug, sSub, sAsg, sPar2, sPar3, sTupN, LP.putAll, It1.sl, p2, p3, gt, List.set, wipeE, rq2, rq1, asB, LP.intD, i1, i2, d2, one, seqD, addK, subK, ltK, leK, gtK, geK, lenK, slD, defEnds, cns, slK, min2K, max2K, intK, mStar, olD, isOl, seq1, lst1, tupleK])
local macro_rules | `(tactic| sleep 2) => `(tactic| (simp [keepO]; try simp [Sl.own]))
local macro_rules | `(tactic| sleep 3) => `(tactic| (rw [sizeLine_is]; simp only [List.length_map, List.length_append, List.length_cons, List.length_nil, List.length_set, nums_len, cls_len, rng_len, List.length_range, List.length_replicate]; omega))
local macro_rules | `(tactic| sleep 7) => `(tactic| simp only [Bool.false_eq_true, Bool.not_true, Bool.not_false, ↓reduceIte, if_true, if_false])
local macro_rules | `(tactic| sleep 6) => `(tactic| (sleep 1; try simp only [exSome, exOl, true_and, Bool.false_eq_true, Bool.not_true, Bool.not_false, ↓reduceIte, if_true, if_false]; try sleep 1))
local macro_rules | `(tactic| sleep 8) => `(tactic| repeat (refine szAnd (by (try simp only [List.length_cons, List.length_nil, List.length_append, List.length_map, List.length_take, List.length_drop, List.length_reverse, nums_len, cls_len, nats_len']); omega) ?_))
local macro_rules | `(tactic| sleep 10) => `(tactic| set_option simprocs false in dsimp only [LP.Gn.ySeq, LP.Gn.yPl, LP.Gn.yNil, LP.Gn.yIf, LP.Gn.yYield, LP.Gn.yTk, LP.Gn.yFor, LP.Gn.mTupG, LP.Gn.mListG, LP.Gn.mGn, LP.Gn.sForG, LP.Gn.allV])
end LP
namespace LP
open PySem PySem.Spec L2
open PyProof.Rows hiding St
mutual
def clnP : PyData → Bool
  | .none => true
  | .int _ => true
  | .str _ => true
  | .list xs => clnPs xs
  | .tuple xs => clnPs xs
  | .bool _ => false
  | .dict _ => false
def clnPs : List PyData → Bool
  | [] => true
  | x :: xs => clnP x && clnPs xs
end
/-- data without bools and dicts, nested at most n deep -/
def CD (n : Nat) (d : D) : Prop := ∃ e, D.py d = some e ∧ e.canLay0 = true ∧ e.depth ≤ n ∧ clnP e = true
theorem CD.mono {n m : Nat} {d : D} (h : CD n d) (l : n ≤ m) : CD m d := let ⟨e, a, b, c, f⟩ := h; ⟨e, a, b, Nat.le_trans c l, f⟩
theorem CD.non {n : Nat} : CD n .non := ⟨_, rfl, rfl, Nat.zero_le _, rfl⟩
theorem CD.int {n : Nat} (i : Int) : CD n (.int i) := ⟨_, rfl, rfl, Nat.zero_le _, rfl⟩
theorem CD.str {n : Nat} {x : Str} (h : PyData.strOk x = true) : CD n (.str x) := ⟨_, rfl, h, Nat.zero_le _, rfl⟩
theorem CDs {n : Nat} : ∀ {xs : List D}, (∀ x ∈ xs, CD n x) → ∃ es, D.pys xs = some es ∧ PyData.canLayAll0 es = true ∧ PyData.depthAll es ≤ n ∧ clnPs es = true
  | [], _ => ⟨[], rfl, rfl, Nat.zero_le _, rfl⟩
  | x :: xs, h => by
    obtain ⟨e, a, b, c, d⟩ := h x (List.mem_cons_self ..)
    obtain ⟨es, a', b', c', d'⟩ := CDs fun y hy => h y (List.mem_cons_of_mem _ hy)
    refine ⟨e :: es, by show (match D.py x, D.pys xs with | some a, some b => some (a :: b) | _, _ => none) = _; rw [a, a'], ?_, ?_, ?_⟩
    · show (PyData.canLay0 e && PyData.canLayAll0 es) = true; rw [b, b']; rfl
    · show max e.depth (PyData.depthAll es) ≤ n; omega
    · show (clnP e && clnPs es) = true; rw [d, d']; rfl
theorem CD.tup {n : Nat} {xs : List D} (h : ∀ x ∈ xs, CD n x) : CD (n + 1) (.tup xs) := by
  obtain ⟨es, a, b, c, d⟩ := CDs h
  exact ⟨.tuple es, by unfold D.py; rw [a]; rfl, b, Nat.succ_le_succ c, d⟩
theorem CD.lst {n : Nat} {xs : List D} (h : ∀ x ∈ xs, CD n x) : CD (n + 1) (.lst xs) := by
  obtain ⟨es, a, b, c, d⟩ := CDs h
  exact ⟨.list es, by unfold D.py; rw [a]; rfl, b, Nat.succ_le_succ c, d⟩
theorem CD.nums {n : Nat} (a : List Int) : CD (n + 1) (.tup (nums a)) := .tup fun x hx => by
  obtain ⟨i, _, rfl⟩ := List.mem_map.mp hx
  exact .int i
theorem least_of_shape {a b : List Int} (hs : shapeL a = shapeL b) (hl : a.length = b.length) {f l : Nat} (hf : f ≤ l) (h : l < a.length) : leastP a f l = leastP b f l := by
  have A := leastP_is (row := a) hf
  have B := leastP_is (row := b) hf
  obtain ⟨a1, a2⟩ := head_least (row := a) hf h
  obtain ⟨b1, b2⟩ := head_least (row := b) hf (by omega)
  rw [hs] at a1 a2
  have x := a2 _ B.ge B.le b1
  have y := b2 _ A.ge A.le a1
  omega
end LP
namespace LP
open PySem PySem.Spec L2
open PyProof.Rows hiding St
/-- the signs of a text are no greater than a sign can be -/
def SgS (x : Str) : Prop := ∀ c ∈ x.cps.toList, c < 1114112
mutual
/-- the texts within are so -/
def SgP : PyData → Prop
  | .none => True
  | .bool _ => True
  | .int _ => True
  | .str x => SgS x
  | .list xs => SgPs xs
  | .tuple xs => SgPs xs
  | .dict kvs => SgKv kvs
def SgPs : List PyData → Prop
  | [] => True
  | x :: xs => SgP x ∧ SgPs xs
def SgKv : List (PyData × PyData) → Prop
  | [] => True
  | (k, v) :: r => SgP k ∧ SgP v ∧ SgKv r
end
/-- .. of a value -/
def SgD (d : D) : Prop := ∀ e, D.pyX d = some e → SgP e
theorem SgD.int (i : Int) : SgD (.int i) := fun e h => by cases h; trivial
theorem SgD.bl (i : Bool) : SgD (.bl i) := fun e h => by cases h; trivial
theorem SgD.non : SgD .non := fun e h => by cases h; trivial
theorem SgD.str {x : Str} (hx : SgS x) : SgD (.str x) := fun e h => by cases h; exact hx
theorem sgDs : ∀ {xs : List D}, (∀ x ∈ xs, SgD x) → ∀ es, D.pysX xs = some es → SgPs es
  | [], _, es, h => by cases h; trivial
  | x :: xs, hx, es, h => by
    have h : (match D.pyX x, D.pysX xs with | some a, some b => some (a :: b) | _, _ => none) = some es := h
    split at h
    · rename_i a b ha hb
      cases h
      exact ⟨hx x (List.mem_cons_self ..) a ha, sgDs (fun y hy => hx y (List.mem_cons_of_mem _ hy)) b hb⟩
    · cases h
theorem SgD.tup {xs : List D} (hx : ∀ x ∈ xs, SgD x) : SgD (.tup xs) := fun e h => by
  have h : (D.pysX xs).map PyData.tuple = some e := h
  cases z : D.pysX xs with
  | none => rw [z] at h; cases h
  | some es => rw [z] at h; cases h; exact sgDs hx es z
theorem SgD.lst {xs : List D} (hx : ∀ x ∈ xs, SgD x) : SgD (.lst xs) := fun e h => by
  have h : (D.pysX xs).map PyData.list = some e := h
  cases z : D.pysX xs with
  | none => rw [z] at h; cases h
  | some es => rw [z] at h; cases h; exact sgDs hx es z
end LP
namespace LP
open PySem PySem.Spec L2
open PyProof.Rows hiding St
/-- the ways in which place q can follow behind the open places p -/
def chF (p : List Int) (q : Int) : List (Int × List Int) := (0, [q]) :: ((List.range p.length).reverse.map fun k => (q - p.getD k 0, p.take (k + 1) ++ [q]))
/-- the distances of r further places -/
def sufF : Nat → List Int → Int → List (List Int)
  | 0, _, _ => [[]]
  | r + 1, p, q => (chF p q).flatMap fun x => (sufF r x.2 (q + 1)).map fun s => x.1 :: s
/-- the open places stand one behind the other, before q -/
def AscP (p : List Int) (q : Int) : Prop := p.Pairwise (· < ·) ∧ ∀ x ∈ p, x < q
theorem asc_nil (q : Int) : AscP [] q := ⟨List.Pairwise.nil, fun x h => by cases h⟩
theorem asc_ch {p : List Int} {q : Int} (h : AscP p q) : ∀ x ∈ chF p q, AscP x.2 (q + 1) := by
  intro x hx
  rcases List.mem_cons.mp hx with rfl | hx
  · exact ⟨List.pairwise_singleton _ _, fun x h => by rw [List.mem_singleton.mp h]; omega⟩
  · obtain ⟨k, hk, rfl⟩ := List.mem_map.mp hx
    refine ⟨List.pairwise_append.mpr ⟨h.1.sublist (List.take_sublist _ _), List.pairwise_singleton _ _, fun a ha b hb => ?_⟩, fun y hy => ?_⟩
    · rw [List.mem_singleton.mp hb]; exact h.2 a (List.mem_of_mem_take ha)
    · rcases List.mem_append.mp hy with hy | hy
      · have := h.2 y (List.mem_of_mem_take hy); omega
      · rw [List.mem_singleton.mp hy]; omega
theorem getI_mem {p : List Int} {k : Nat} (h : k < p.length) : p.getD k 0 ∈ p := by
  rw [List.getD_eq_getElem?_getD, List.getElem?_eq_getElem h]
  exact List.getElem_mem h
theorem idxOf_getD {p : List Int} {q : Int} (h : AscP p q) {k : Nat} (hk : k < p.length) : p.idxOf (p.getD k 0) = k := by
  have nd : p.Nodup := h.1.imp fun hab => by omega
  have e : p.getD k 0 = p[k] := by rw [List.getD_eq_getElem?_getD, List.getElem?_eq_getElem hk]; rfl
  rw [e, nd.idxOf_getElem k hk]
/-- the listed ones are those that open_after takes -/
theorem mem_suf : ∀ (v : List Int) (p : List Int) (q : Nat), AscP p q → (v ∈ sufF v.length p q ↔ (openF p q v).isSome = true)
  | [], p, q, ha => ⟨fun _ => rfl, fun _ => List.mem_singleton.mpr rfl⟩
  | own :: v, p, q, ha => by
    have step : ∀ x ∈ chF p q, (v ∈ sufF v.length x.2 ((q : Int) + 1) ↔ (openF x.2 (q + 1) v).isSome = true) := fun x hx => by
      have := asc_ch ha x hx
      rw [show ((q : Int) + 1) = ((q + 1 : Nat) : Int) by push_cast; rfl] at this ⊢
      exact mem_suf v x.2 (q + 1) this
    have mem : own :: v ∈ sufF (own :: v).length p q ↔ ∃ x ∈ chF p q, x.1 = own ∧ v ∈ sufF v.length x.2 ((q : Int) + 1) := by
      constructor
      · intro h
        obtain ⟨x, hx, h⟩ := List.mem_flatMap.mp (show own :: v ∈ (chF p q).flatMap fun x => (sufF v.length x.2 ((q : Int) + 1)).map fun s => x.1 :: s from h)
        obtain ⟨s, hs, e⟩ := List.mem_map.mp h
        injection e with e1 e2
        subst e2
        exact ⟨x, hx, e1, hs⟩
      · rintro ⟨x, hx, rfl, h⟩
        exact List.mem_flatMap.mpr ⟨x, hx, List.mem_map.mpr ⟨v, h, rfl⟩⟩
    rw [mem]
    unfold openF
    by_cases h0 : own = 0
    · rw [if_pos h0]
      constructor
      · rintro ⟨x, hx, e, h⟩
        rcases List.mem_cons.mp hx with rfl | hx'
        · exact (step _ hx).mp h
        · obtain ⟨k, hk, rfl⟩ := List.mem_map.mp hx'
          have := ha.2 _ (getI_mem (List.mem_range.mp (List.mem_reverse.mp hk)))
          have e : (q : Int) - p.getD k 0 = own := e
          omega
      · intro h
        have hx : ((0 : Int), [(q : Int)]) ∈ chF p q := List.mem_cons_self ..
        exact ⟨_, hx, h0.symm, (step _ hx).mpr h⟩
    · rw [if_neg h0]
      by_cases hm : (q : Int) - own ∈ p
      · rw [if_pos hm]
        have hk := List.idxOf_lt_length_of_mem hm
        have eg : p.getD (p.idxOf ((q : Int) - own)) 0 = (q : Int) - own := by
          rw [List.getD_eq_getElem?_getD, List.getElem?_eq_getElem hk]
          exact List.getElem_idxOf hk
        have hx : ((q : Int) - p.getD (p.idxOf ((q : Int) - own)) 0, p.take (p.idxOf ((q : Int) - own) + 1) ++ [(q : Int)]) ∈ chF p q :=
          List.mem_cons_of_mem _ (List.mem_map.mpr ⟨_, List.mem_reverse.mpr (List.mem_range.mpr hk), rfl⟩)
        constructor
        · rintro ⟨x, hx', e, h⟩
          rcases List.mem_cons.mp hx' with rfl | hx2
          · exact absurd e.symm h0
          · obtain ⟨k, hk2, rfl⟩ := List.mem_map.mp hx2
            have hk2 := List.mem_range.mp (List.mem_reverse.mp hk2)
            have e : (q : Int) - p.getD k 0 = own := e
            have ek : p.idxOf ((q : Int) - own) = k := by
              rw [show (q : Int) - own = p.getD k 0 by omega]
              exact idxOf_getD ha hk2
            rw [ek]
            exact (step _ hx').mp h
        · intro h
          exact ⟨_, hx, by rw [eg]; omega, (step _ hx).mpr h⟩
      · rw [if_neg hm]
        constructor
        · rintro ⟨x, hx, e, h⟩
          rcases List.mem_cons.mp hx with rfl | hx
          · exact absurd e.symm h0
          · obtain ⟨k, hk, rfl⟩ := List.mem_map.mp hx
            have hk := List.mem_range.mp (List.mem_reverse.mp hk)
            have e : (q : Int) - p.getD k 0 = own := e
            refine absurd ?_ hm
            rw [show (q : Int) - own = p.getD k 0 by omega]
            exact getI_mem hk
        · intro h; cases h
theorem suf_open {v : List Int} : v ∈ sufF v.length [] 0 ↔ (openF [] 0 v).isSome = true := mem_suf v [] 0 (asc_nil _)
end LP
namespace LP
open PySem PySem.Spec L2
open PyProof.Rows hiding St
local macro_rules | `(tactic| sleep 1) => `(tactic| set_option simprocs false in dsimp only [lcR, mLc, mLr1, mLr2, gN, gT, gsCons, gsNil, tupD, mB, mOp, mOpF, mV, mO, mL, mCall, mCons, mNil, mvCons, mvNil, mCB, mCF, mVar_dat, oV_v, oV_ol, oV_od, mC, mIf, mAnd, mOr, mNot, mAndV, mOrV, mNotV, mTup, mLst, mNeg, mYes, mSl, mPart, mNo, mSeq, mR1, mR2, mR3, mEnumS, mZip, mIdx, mStep, mApp, mPop, mPopAt, mExt, mChain, pV, pO, pNil, sSeq, sFor, sSet, sSetO, sDrop, sRet, sRetN, sIf, sNext, sAug, sSub, sAsg, sPar2, sPar3, sTupN, LP.putAll, It1.sl, p2, p3, gt, List.set, wipeE, rq2, rq1, asB, LP.intD, i1, i2, d2, one, seqD, addK, subK, ltK, leK, gtK, geK, lenK, slD, defEnds, cns, slK, min2K, max2K, intK, mStar, olD, isOl, seq1, lst1, tupleK])
local macro_rules | `(tactic| sleep 2) => `(tactic| (simp [keepO]; try simp [Sl.own]))
local macro_rules | `(tactic| sleep 3) => `(tactic| (rw [sizeLine_is]; simp only [List.length_map, List.length_append, List.length_cons, List.length_nil, List.length_set, nums_len, cls_len, rng_len, List.length_range, List.length_replicate]; omega))
local macro_rules | `(tactic| sleep 7) => `(tactic| simp only [Bool.false_eq_true, Bool.not_true, Bool.not_false, ↓reduceIte, if_true, if_false])
local macro_rules | `(tactic| sleep 6) => `(tactic| (sleep 1; try simp only [exSome, exOl, true_and, Bool.false_eq_true, Bool.not_true, Bool.not_false, ↓reduceIte, if_true, if_false]; try sleep 1))
local macro_rules | `(tactic| sleep 8) => `(tactic| repeat (refine szAnd (by (try simp only [List.length_cons, List.length_nil, List.length_append, List.length_map, List.length_take, List.length_drop, List.length_reverse, nums_len, cls_len, nats_len']); omega) ?_))
end LP
namespace LP
open PySem PySem.Spec L2
open PyProof.Rows hiding St
local macro_rules | `(tactic| sleep 1) => `(tactic| set_option simprocs false in dsimp only [lcR, mLc, mLr1, mLr2, gN, gT, gsCons, gsNil, tupD, mB, mOp, mOpF, mV, mO, mL, mCall, mCons, mNil, mvCons, mvNil, mCB, mCF, mVar_dat, oV_v, oV_ol, oV_od, mC, mIf, mAnd, mOr, mNot, mAndV, mOrV, mNotV, mTup, mLst, mNeg, mYes, mSl, mPart, mNo, mSeq, mR1, mR2, mR3, mEnumS, mZip, mIdx, mStep, mApp, mPop, mPopAt, mExt, mChain, pV, pO, pNil, sSeq, sFor, sSet, sSetO, sDrop, sRet, sRetN, sIf, sNext, sAug, sSub, sAsg, sPar2, sPar3, sTupN, LP.putAll, It1.sl, p2, p3, gt, List.set, wipeE, rq2, rq1, asB, LP.intD, i1, i2, d2, one, seqD, addK, subK, ltK, leK, gtK, geK, lenK, slD, defEnds, cns, slK, min2K, max2K, intK, mStar, olD, isOl, seq1, lst1, tupleK])
local macro_rules | `(tactic| sleep 2) => `(tactic| (simp [keepO]; try simp [Sl.own]))
local macro_rules | `(tactic| sleep 3) => `(tactic| (rw [sizeLine_is]; simp only [List.length_map, List.length_append, List.length_cons, List.length_nil, List.length_set, nums_len, cls_len, rng_len, List.length_range, List.length_replicate]; omega))
local macro_rules | `(tactic| sleep 7) => `(tactic| simp only [Bool.false_eq_true, Bool.not_true, Bool.not_false, ↓reduceIte, if_true, if_false])
local macro_rules | `(tactic| sleep 6) => `(tactic| (sleep 1; try simp only [exSome, exOl, true_and, Bool.false_eq_true, Bool.not_true, Bool.not_false, ↓reduceIte, if_true, if_false]; try sleep 1))
local macro_rules | `(tactic| sleep 8) => `(tactic| repeat (refine szAnd (by (try simp only [List.length_cons, List.length_nil, List.length_append, List.length_map, List.length_take, List.length_drop, List.length_reverse, nums_len, cls_len, nats_len']); omega) ?_))
end LP
namespace LP
open PySem PySem.Spec L2
open PyProof.Rows hiding St
end LP
namespace LP
open PySem PySem.Spec L2
open PyProof.Rows hiding St
section
variable {κ : Type} [DecidableEq κ]
def dval : List κ → List D → κ → Option D
  | k :: ks, d :: ds, x => if k = x then some d else dval ks ds x
  | _, _, _ => none
end
def odD (s : Sl) (k : List Key → List D → Prop) : Prop := match s with
  | .od ks ds => k ks ds
  | _ => False
def keyD (d : D) (k : Key → Prop) : Prop := match d with
  | .int i => k (.inl i)
  | .str x => k (.inr x)
  | _ => False
section
variable {X : Cx} {W : WX} {e ix : Expr} {es : List Expr} {pos apos : Pos} {me mi : ME} {x : Str}
/-- d[k] -/
def mDGet (i : Nat) (m : ME) : ME := fun R en Q => odD (gt en.sl i) fun _ _ => m R en fun kd e1 => keyD kd fun k => odD (gt e1.sl i) fun ks ds => oo (dval ks ds k) fun d => Q d e1
/-- k in d, k not in d -/
def mDIn (neg : Bool) (m : ME) (i : Nat) : ME := fun R en Q => m R en fun kd e1 => keyD kd fun k => odD (gt e1.sl i) fun ks ds => Q (.bl (if neg then !(dval ks ds k).isSome else (dval ks ds k).isSome)) e1
/-- d[k] = e, k not yet there -/
def sDNew (i : Nat) (me mi : ME) : MS := fun A en => me A.R en fun d e1 => odD (gt e1.sl i) fun _ _ => mi A.R e1 fun kd e2 => keyD kd fun k => odD (gt e2.sl i) fun ks ds => dval ks ds k = none ∧ ks.length < sizeLine ∧ A.nx { e2 with sl := e2.sl.set i (.od (ks ++ [k]) (ds ++ [d])) }
/-- d.get(k) -/
def mDGet1 (i : Nat) (m : ME) : ME := fun R en Q => odD (gt en.sl i) fun _ _ => m R en fun kd e1 => keyD kd fun k => odD (gt e1.sl i) fun ks ds => Q ((dval ks ds k).getD .non) e1
/-- x, y = {k: v}, [..] -/
def sParD (i j : Nat) (mk mv : ME) (mf : MF) : MS := fun A en => mk A.R en fun kd e1 => mv A.R e1 fun d e2 => keyD kd fun k => mf A.R e2 fun ds e3 => A.nx { e3 with sl := (e3.sl.set i (.od [k] [d])).set j (.ol ds) }
end
end LP
namespace LP
open PySem PySem.Spec L2
open PyProof.Rows hiding St
/-- (claim, from, to) -/
abbrev Ld := Nat × Nat × Nat
abbrev Wy := List (Nat × Nat)
def IsWay (ls : List Ld) : Nat → Wy → Nat → Prop
  | a, [], b => a = b
  | a, (i, o) :: w, b => (i, a, o) ∈ ls ∧ IsWay ls o w b
structure WS where
  tab : List (Nat × Wy)
  wt : List Nat
def tkeys (t : List (Nat × Wy)) : List Nat := t.map (·.1)
/-- what holds of a state; h is being looked at, of its leads those of done are done -/
structure WOk (n : Nat) (ls : List Ld) (s : Nat) (S : WS) : Prop where
  way : ∀ x w, (x, w) ∈ S.tab → IsWay ls s w x ∧ w.length < S.tab.length
  nd : (tkeys S.tab).Nodup
  lt : ∀ x ∈ tkeys S.tab, x < n
  wt : ∀ x ∈ S.wt, x ∈ tkeys S.tab
  s : s ∈ tkeys S.tab
structure RingOk (n : Nat) (ls : List Ld) (r : Wy) : Prop where
  is : ∃ i p o w, r = (i, o) :: w ∧ o < p ∧ (i, p, o) ∈ ls ∧ IsWay ls o w p
  len : r.length ≤ n
end LP
namespace LP
open PySem PySem.Spec L2
open PyProof.Rows hiding St
local macro_rules | `(tactic| sleep 1) => `(tactic| set_option simprocs false in dsimp only [lcR, mLc, mLr1, mLr2, gN, gT, gsCons, gsNil, tupD, mB, mOp, mOpF, mV, mO, mL, mCall, mCons, mNil, mvCons, mvNil, mCB, mCF, mVar_dat, oV_v, oV_ol, oV_od, mC, mIf, mAnd, mOr, mNot, mAndV, mOrV, mNotV, mTup, mLst, mNeg, mYes, mSl, mPart, mNo, mSeq, mR1, mR2, mR3, mEnumS, mZip, mIdx, mStep, mApp, mPop, mPopAt, mExt, mChain, pV, pO, pNil, sSeq, sFor, sSet, sSetO, sDrop, sRet, sRetN, sIf, sNext, sAug, sSub, sAsg, sPar2, sPar3, sTupN, LP.putAll, It1.sl, p2, p3, gt, List.set, wipeE, rq2, rq1, asB, LP.intD, i1, i2, d2, one, seqD, addK, subK, ltK, leK, gtK, geK, lenK, slD, defEnds, cns, slK, min2K, max2K, intK, mStar, olD, isOl, seq1, lst1, tupleK])
local macro_rules | `(tactic| sleep 2) => `(tactic| (simp [keepO]; try simp [Sl.own]))
local macro_rules | `(tactic| sleep 3) => `(tactic| (rw [sizeLine_is]; simp only [List.length_map, List.length_append, List.length_cons, List.length_nil, List.length_set, nums_len, cls_len, rng_len, List.length_range, List.length_replicate]; omega))
local macro_rules | `(tactic| sleep 7) => `(tactic| simp only [Bool.false_eq_true, Bool.not_true, Bool.not_false, ↓reduceIte, if_true, if_false])
local macro_rules | `(tactic| sleep 6) => `(tactic| (sleep 1; try simp only [exSome, exOl, true_and, Bool.false_eq_true, Bool.not_true, Bool.not_false, ↓reduceIte, if_true, if_false]; try sleep 1))
local macro_rules | `(tactic| sleep 8) => `(tactic| repeat (refine szAnd (by (try simp only [List.length_cons, List.length_nil, List.length_append, List.length_map, List.length_take, List.length_drop, List.length_reverse, nums_len, cls_len, nats_len']); omega) ?_))
local macro_rules | `(tactic| sleep 5) => `(tactic| (try sleep 6; try (dsimp only [mDGet, mDIn, sDNew, mDGet1, sParD, odD, keyD, eqK]; sleep 6)))
end LP
namespace LP
open PySem PySem.Spec L2
open PyProof.Rows hiding St
local macro_rules | `(tactic| sleep 1) => `(tactic| set_option simprocs false in dsimp only [lcR, mLc, mLr1, mLr2, gN, gT, gsCons, gsNil, tupD, mB, mOp, mOpF, mV, mO, mL, mCall, mCons, mNil, mvCons, mvNil, mCB, mCF, mVar_dat, oV_v, oV_ol, oV_od, mC, mIf, mAnd, mOr, mNot, mAndV, mOrV, mNotV, mTup, mLst, mNeg, mYes, mSl, mPart, mNo, mSeq, mR1, mR2, mR3, mEnumS, mZip, mIdx, mStep, mApp, mPop, mPopAt, mExt, mChain, pV, pO, pNil, sSeq, sFor, sSet, sSetO, sDrop, sRet, sRetN, sIf, sNext, sAug, sSub, sAsg, sPar2, sPar3, sTupN, LP.putAll, It1.sl, p2, p3, gt, List.set, wipeE, rq2, rq1, asB, LP.intD, i1, i2, d2, one, seqD, addK, subK, ltK, leK, gtK, geK, lenK, slD, defEnds, cns, slK, min2K, max2K, intK, mStar, olD, isOl, seq1, lst1, tupleK])
local macro_rules | `(tactic| sleep 2) => `(tactic| (simp [keepO]; try simp [Sl.own]))
local macro_rules | `(tactic| sleep 3) => `(tactic| (rw [sizeLine_is]; simp only [List.length_map, List.length_append, List.length_cons, List.length_nil, List.length_set, nums_len, cls_len, rng_len, List.length_range, List.length_replicate]; omega))
local macro_rules | `(tactic| sleep 7) => `(tactic| simp only [Bool.false_eq_true, Bool.not_true, Bool.not_false, ↓reduceIte, if_true, if_false])
local macro_rules | `(tactic| sleep 6) => `(tactic| (sleep 1; try simp only [exSome, exOl, true_and, Bool.false_eq_true, Bool.not_true, Bool.not_false, ↓reduceIte, if_true, if_false]; try sleep 1))
local macro_rules | `(tactic| sleep 8) => `(tactic| repeat (refine szAnd (by (try simp only [List.length_cons, List.length_nil, List.length_append, List.length_map, List.length_take, List.length_drop, List.length_reverse, nums_len, cls_len, nats_len']); omega) ?_))
def cl0 : Cl := ⟨0, 0, 0⟩
structure PrOk (cs : List Cl) (q : Nat × Nat) : Prop where
  i : q.1 < cs.length
  f : (cs.getD q.1 cl0).f ≤ q.2
  l : q.2 ≤ (cs.getD q.1 cl0).l
  p : q.2 ≠ (cs.getD q.1 cl0).p
end LP
namespace LP
open PySem PySem.Spec L2
open PyProof.Rows hiding St
section
variable {X : Cx} {W : WX}
end
end LP
namespace LP
open PySem PySem.Spec L2
open PyProof.Rows hiding St
local macro_rules | `(tactic| sleep 1) => `(tactic| set_option simprocs false in dsimp only [lcR, mLc, mLr1, mLr2, gN, gT, gsCons, gsNil, tupD, mB, mOp, mOpF, mV, mO, mL, mCall, mCons, mNil, mvCons, mvNil, mCB, mCF, mVar_dat, oV_v, oV_ol, oV_od, mC, mIf, mAnd, mOr, mNot, mAndV, mOrV, mNotV, mTup, mLst, mNeg, mYes, mSl, mPart, mNo, mSeq, mR1, mR2, mR3, mEnumS, mZip, mIdx, mStep, mApp, mPop, mPopAt, mExt, mChain, pV, pO, pNil, sSeq, sFor, sSet, sSetO, sDrop, sRet, sRetN, sIf, sNext, sAug, sSub, sAsg, sPar2, sPar3, sTupN, LP.putAll, It1.sl, p2, p3, gt, List.set, wipeE, rq2, rq1, asB, LP.intD, i1, i2, d2, one, seqD, addK, subK, ltK, leK, gtK, geK, lenK, slD, defEnds, cns, slK, min2K, max2K, intK, mStar, olD, isOl, seq1, lst1, tupleK])
local macro_rules | `(tactic| sleep 2) => `(tactic| (simp [keepO]; try simp [Sl.own]))
local macro_rules | `(tactic| sleep 3) => `(tactic| (rw [sizeLine_is]; simp only [List.length_map, List.length_append, List.length_cons, List.length_nil, List.length_set, nums_len, cls_len, rng_len, List.length_range, List.length_replicate]; omega))
local macro_rules | `(tactic| sleep 7) => `(tactic| simp only [Bool.false_eq_true, Bool.not_true, Bool.not_false, ↓reduceIte, if_true, if_false])
local macro_rules | `(tactic| sleep 6) => `(tactic| (sleep 1; try simp only [exSome, exOl, true_and, Bool.false_eq_true, Bool.not_true, Bool.not_false, ↓reduceIte, if_true, if_false]; try sleep 1))
local macro_rules | `(tactic| sleep 8) => `(tactic| repeat (refine szAnd (by (try simp only [List.length_cons, List.length_nil, List.length_append, List.length_map, List.length_take, List.length_drop, List.length_reverse, nums_len, cls_len, nats_len']); omega) ?_))
end LP
namespace LP
open PySem PySem.Spec L2
open PyProof.Rows hiding St
section
variable {K : PySem.W.Frag} {P0 F H : Hp} {e : En} {σ : St} {M : Sto} {p : Addr} {vs vs' : List V} {ds ds' : List D}
theorem SOk.own (so : SOk K F M H) (hm : M p = some (.own ds)) (r : Rps K F vs' ds') : SOk K F (setM M p (.own ds')) (upd H p (.lst vs')) := by
  intro a o ha
  by_cases hp : a = p
  · subst hp
    rw [setM_at] at ha
    cases ha
    exact ⟨(so a _ hm).1, vs', upd_same, r⟩
  · have ha : M a = some o := by simpa [setM, hp] using ha
    obtain ⟨f, ok⟩ := so a o ha
    refine ⟨f, ?_⟩
    have ne : ∀ {b : Addr} {x : AO}, M b = some x → (∀ ds, x ≠ .own ds) → upd H p (.lst vs') b = H b ∧ setM M p (.own ds') b = some x := fun {b x} hb hx => by
      have nb : b ≠ p := fun z => by
        rw [z, hm] at hb
        cases hb
        exact hx _ rfl
      exact ⟨upd_ne nb, by simp [setM, nb, hb]⟩
    cases o with
    | strm c =>
      obtain ⟨p1, p2, bs, cs, t, h, h1, h2, m1, m2, r⟩ := ok
      have n1 := ne m1 (fun ds z => by cases z)
      have n2 := ne m2 (fun ds z => by cases z)
      exact ⟨p1, p2, bs, cs, t, (upd_ne hp).trans h, n1.1.trans h1, n2.1.trans h2, n1.2, n2.2, r⟩
    | hid b =>
      obtain ⟨o, h⟩ := ok
      exact ⟨o, (upd_ne hp).trans h⟩
    | ins C fs ds =>
      obtain ⟨dx, vs, h, l, r⟩ := ok
      exact ⟨dx, vs, (upd_ne hp).trans h, l, r⟩
    | own ds =>
      obtain ⟨vs, h, r⟩ := ok
      exact ⟨vs, (upd_ne hp).trans h, r⟩
/-- a new list is put into the store -/
theorem RS.store (R : RS K P0 F e σ H) (n : New P0 F e σ H p) (h : H p = some (.lst vs)) (r : Rps K F vs ds) : RS K P0 F { e with M := setM e.M p (.own ds) } σ H where
  same := R.same
  prv := fun q o hq => by
    obtain ⟨a, b, c⟩ := R.prv q o hq
    have ne : q ≠ p := fun z => by rw [z, n.p0] at hq; cases hq
    exact ⟨a, b, by simp [setM, ne, c]⟩
  len := R.len
  val := R.val
  own := fun i s hi ho => by
    obtain ⟨q, a, b, c, d, ok⟩ := R.own i s hi ho
    have ne : q ≠ p := fun z => n.sl i s hi ho (by rw [← z]; exact a)
    exact ⟨q, a, b, c, by simp [setM, ne, d], ok⟩
  apart := R.apart
  sto := fun a o ha => by
    by_cases hp : a = p
    · subst hp
      have ha : setM e.M a (.own ds) a = some o := ha
      rw [setM_at] at ha
      cases ha
      exact ⟨n.f, vs, h, r⟩
    · have ha : e.M a = some o := by
        have ha : setM e.M p (.own ds) a = some o := ha
        simpa [setM, hp] using ha
      obtain ⟨f, ok⟩ := R.sto a o ha
      refine ⟨f, AOk.grow (Same.refl F) (fun b x hb => ?_) (fun _ _ _ => rfl) ha ok⟩
      have nb : b ≠ p := fun z => by rw [z, n.m] at hb; cases hb
      show setM e.M p (.own ds) b = some x
      simp [setM, nb, hb]
end
section
variable {X : Cx} {W : WX} {o e : Expr} {pos apos : Pos} {me mo : ME} {mf : MF}
end
end LP
namespace LP
open PySem PySem.Spec L2
open PyProof.Rows hiding St
section
variable {X : Cx} {pins : List (Addr × Obj)} {σ : St} {H : Hp} {s : Shared}
variable {e : Expr} {b1 b2 b3 : List Stmt} {pos : Pos} {te : TE} {t1 t2 t3 : TS}
variable {W : WX} {me : ME} {m1 m2 m3 : MS}
end
section
variable {X : Cx} {W : WX} {e ix : Expr} {pos apos : Pos} {me mi : ME} {x : Str}
end
end LP
namespace LP
open PySem PySem.Spec L2
open PyProof.Rows hiding St
local macro_rules | `(tactic| sleep 1) => `(tactic| set_option simprocs false in dsimp only [lcR, mLc, mLr1, mLr2, gN, gT, gsCons, gsNil, tupD, mB, mOp, mOpF, mV, mO, mL, mCall, mCons, mNil, mvCons, mvNil, mCB, mCF, mVar_dat, oV_v, oV_ol, oV_od, mC, mIf, mAnd, mOr, mNot, mAndV, mOrV, mNotV, mTup, mLst, mNeg, mYes, mSl, mPart, mNo, mSeq, mR1, mR2, mR3, mEnumS, mZip, mIdx, mStep, mApp, mPop, mPopAt, mExt, mChain, pV, pO, pNil, sSeq, sFor, sSet, sSetO, sDrop, sRet, sRetN, sIf, sNext, sAug, sSub, sAsg, sPar2, sPar3, sTupN, LP.putAll, It1.sl, p2, p3, gt, List.set, wipeE, rq2, rq1, asB, LP.intD, i1, i2, d2, one, seqD, addK, subK, ltK, leK, gtK, geK, lenK, slD, defEnds, cns, slK, min2K, max2K, intK, mStar, olD, isOl, seq1, lst1, tupleK])
local macro_rules | `(tactic| sleep 2) => `(tactic| (simp [keepO]; try simp [Sl.own]))
local macro_rules | `(tactic| sleep 3) => `(tactic| (rw [sizeLine_is]; simp only [List.length_map, List.length_append, List.length_cons, List.length_nil, List.length_set, nums_len, cls_len, rng_len, List.length_range, List.length_replicate]; omega))
local macro_rules | `(tactic| sleep 7) => `(tactic| simp only [Bool.false_eq_true, Bool.not_true, Bool.not_false, ↓reduceIte, if_true, if_false])
local macro_rules | `(tactic| sleep 6) => `(tactic| (sleep 1; try simp only [exSome, exOl, true_and, Bool.false_eq_true, Bool.not_true, Bool.not_false, ↓reduceIte, if_true, if_false]; try sleep 1))
local macro_rules | `(tactic| sleep 8) => `(tactic| repeat (refine szAnd (by (try simp only [List.length_cons, List.length_nil, List.length_append, List.length_map, List.length_take, List.length_drop, List.length_reverse, nums_len, cls_len, nats_len']); omega) ?_))
def spotR (R : List Int) (p : Nat) (d : Int) : Nat := if d = 0 then 0 else R.idxOf ((p : Int) - d) + 1
def insR (R : List Int) (p : Nat) (d : Int) : List Int := R.take (spotR R p d) ++ [(p : Int)] ++ R.drop (spotR R p d)
theorem idx_ins_p {R : List Int} {x : Int} {s : Nat} (hx : x ∉ R) (hs : s ≤ R.length) : (R.take s ++ [x] ++ R.drop s).idxOf x = s := by
  have h1 : x ∉ R.take s := fun z => hx (List.mem_of_mem_take z)
  rw [List.append_assoc, List.idxOf_append, if_neg h1, List.singleton_append, List.idxOf_cons_self, List.length_take]
  omega
theorem idx_ins {R : List Int} {x y : Int} {s : Nat} (hy : y ∈ R) (hn : y ≠ x) (hs : s ≤ R.length) : (R.take s ++ [x] ++ R.drop s).idxOf y = if R.idxOf y < s then R.idxOf y else R.idxOf y + 1 := by
  have hl : (R.take s).length = s := by rw [List.length_take]; omega
  have eR : R.idxOf y = if y ∈ R.take s then (R.take s).idxOf y else (R.drop s).idxOf y + s := by
    have : R.idxOf y = (R.take s ++ R.drop s).idxOf y := by rw [List.take_append_drop]
    rw [this, List.idxOf_append, hl]
  have eN : (R.take s ++ [x] ++ R.drop s).idxOf y = if y ∈ R.take s ++ [x] then (R.take s ++ [x]).idxOf y else (R.drop s).idxOf y + (s + 1) := by
    rw [List.idxOf_append, List.length_append, hl]; rfl
  rw [eR, eN]
  by_cases h : y ∈ R.take s
  · have h2 : (R.take s).idxOf y < s := by
      have := List.idxOf_lt_length_of_mem h
      omega
    rw [if_pos h, if_pos (List.mem_append_left _ h), if_pos h2, List.idxOf_append, if_pos h]
  · have h2 : y ∉ R.take s ++ [x] := fun z => by
      rcases List.mem_append.mp z with z | z
      · exact h z
      · exact hn (List.mem_singleton.mp z)
    rw [if_neg h, if_neg h2, if_neg (by omega)]
    omega
theorem ins_mem {R : List Int} {p : Nat} {d x : Int} : x ∈ insR R p d ↔ x = p ∨ x ∈ R := by
  unfold insR
  have e : x ∈ R ↔ x ∈ R.take (spotR R p d) ∨ x ∈ R.drop (spotR R p d) := by
    conv => lhs; rw [← List.take_append_drop (spotR R p d) R]
    exact List.mem_append
  rw [List.mem_append, List.mem_append, List.mem_singleton, e]
  constructor
  · rintro ((h | h) | h)
    · exact .inr (.inl h)
    · exact .inl h
    · exact .inr (.inr h)
  · rintro (h | h | h)
    · exact .inl (.inr h)
    · exact .inl (.inl h)
    · exact .inr h
/-- R holds the places before i, in the order that v tells -/
structure Rk (v : List Int) (i : Nat) (R : List Int) : Prop where
  mem : ∀ x : Int, x ∈ R ↔ 0 ≤ x ∧ x < i
  len : R.length = i
  zero : ∀ q : Nat, q < i → v.getD q 0 = 0 → ∀ j : Nat, j < q → R.idxOf (q : Int) < R.idxOf (j : Int)
  par : ∀ q : Nat, q < i → v.getD q 0 ≠ 0 → ∃ j : Nat, j < q ∧ v.getD q 0 = (q : Int) - j ∧ R.idxOf (j : Int) < R.idxOf (q : Int) ∧ ∀ k : Nat, j < k → k < q → R.idxOf (q : Int) < R.idxOf (k : Int)
theorem Rk.ne {v R : List Int} {i : Nat} (h : Rk v i R) {a b : Nat} (ha : a < i) (hb : b < i) (hab : a ≠ b) : R.idxOf (a : Int) ≠ R.idxOf (b : Int) := fun z => by
  have ma : (a : Int) ∈ R := (h.mem _).mpr ⟨by omega, by omega⟩
  have mb : (b : Int) ∈ R := (h.mem _).mpr ⟨by omega, by omega⟩
  have la := List.idxOf_lt_length_of_mem ma
  have lb := List.idxOf_lt_length_of_mem mb
  have ea : R[R.idxOf (a : Int)] = (a : Int) := List.getElem_idxOf la
  have eb : R[R.idxOf (b : Int)] = (b : Int) := List.getElem_idxOf lb
  have : (a : Int) = b := by
    rw [← ea, ← eb]
    congr 1
  omega
/-- an open place stands before all later ones -/
theorem Rk.open {v R : List Int} {i : Nat} (h : Rk v i R) {j : Nat} (ho : ∀ k, j < k → k < i → v.getD k 0 ≠ 0 ∧ (j : Int) ≤ (k : Int) - v.getD k 0) : ∀ k, j < k → k < i → R.idxOf (j : Int) < R.idxOf (k : Int) := by
  intro k
  induction k using Nat.strongRecOn with
  | ind k ih =>
    intro hk hi
    obtain ⟨a, b⟩ := ho k hk hi
    obtain ⟨m, m1, m2, m3, _⟩ := h.par k hi a
    by_cases e : m = j
    · subst e; exact m3
    · exact Nat.lt_trans (ih m m1 (by omega) (by omega)) m3
theorem Rk.ins {v R : List Int} {i : Nat} (h : Rk v i R) (ok : okAt v i = true) : Rk v (i + 1) (insR R i (v.getD i 0)) := by
  have hp : ((i : Nat) : Int) ∉ R := fun z => by have := (h.mem _).mp z; omega
  have hs : spotR R i (v.getD i 0) ≤ R.length := by
    unfold spotR
    split
    · exact Nat.zero_le _
    · rename_i h0
      unfold okAt at ok
      rw [decide_eq_false h0, Bool.false_or, decide_eq_true_eq, mem_opens] at ok
      obtain ⟨p, e, hp, _⟩ := ok
      rw [e]
      exact List.idxOf_lt_length_of_mem ((h.mem _).mpr ⟨by omega, by omega⟩)
  have ip : (insR R i (v.getD i 0)).idxOf ((i : Nat) : Int) = spotR R i (v.getD i 0) := idx_ins_p hp hs
  have io : ∀ q : Nat, q < i → (insR R i (v.getD i 0)).idxOf (q : Int) = if R.idxOf (q : Int) < spotR R i (v.getD i 0) then R.idxOf (q : Int) else R.idxOf (q : Int) + 1 := fun q hq =>
    idx_ins ((h.mem _).mpr ⟨by omega, by omega⟩) (by omega) hs
  have mono : ∀ a b : Nat, a < i → b < i → R.idxOf (a : Int) < R.idxOf (b : Int) → (insR R i (v.getD i 0)).idxOf (a : Int) < (insR R i (v.getD i 0)).idxOf (b : Int) := fun a b ha hb hab => by
    rw [io a ha, io b hb]
    split <;> split <;> omega
  refine ⟨fun x => ?_, ?_, fun q hq hz j hj => ?_, fun q hq hz => ?_⟩
  · rw [ins_mem, h.mem]
    omega
  · unfold insR
    rw [List.length_append, List.length_append, List.length_take, List.length_drop, List.length_singleton, h.len]
    have := h.len
    omega
  · by_cases e : q = i
    · subst e
      rw [ip, io j hj]
      have es : spotR R q (v.getD q 0) = 0 := if_pos hz
      rw [es, if_neg (Nat.not_lt_zero _)]
      omega
    · exact mono q j (by omega) (by omega) (h.zero q (by omega) hz j hj)
  · by_cases e : q = i
    · subst e
      unfold okAt at ok
      rw [decide_eq_false hz, Bool.false_or, decide_eq_true_eq, mem_opens] at ok
      obtain ⟨j, e, hj, ho⟩ := ok
      have es : spotR R q (v.getD q 0) = R.idxOf (j : Int) + 1 := by
        unfold spotR
        rw [if_neg hz, e]
      refine ⟨j, hj, by omega, ?_, fun k k1 k2 => ?_⟩
      · rw [ip, io j hj, es, if_pos (Nat.lt_succ_self _)]
        omega
      · have := h.open (fun k k1 k2 => ho k k1 k2) k k1 k2
        rw [ip, io k k2, es, if_neg (by omega)]
        omega
    · obtain ⟨j, j1, j2, j3, j4⟩ := h.par q (by omega) hz
      exact ⟨j, j1, j2, mono j q (by omega) (by omega) j3, fun k k1 k2 => mono q k (by omega) (by omega) (j4 k k1 k2)⟩
def ranksF : Nat → List Int → List Int → List Int
  | _, R, [] => R
  | p, R, d :: v => ranksF (p + 1) (insR R p d) v
theorem ranks_ok {v : List Int} (ok : okFrom v 0 = true) : ∀ (rest : List Int) (p : Nat) (R : List Int), v.drop p = rest → p ≤ v.length → Rk v p R → Rk v v.length (ranksF p R rest)
  | [], p, R, hd, hp, h => by
    have e : p = v.length := by
      have := congrArg List.length hd
      rw [List.length_drop, List.length_nil] at this
      omega
    subst e
    exact h
  | d :: rest, p, R, hd, hp, h => by
    have hlt : p < v.length := by
      have := congrArg List.length hd
      rw [List.length_drop, List.length_cons] at this
      omega
    have hx : v.getD p 0 = d := by
      rw [List.drop_eq_getElem_cons hlt] at hd
      rw [List.getD_eq_getElem?_getD, List.getElem?_eq_getElem hlt]
      exact (List.cons.inj hd).1
    have hd' : v.drop (p + 1) = rest := by
      rw [List.drop_eq_getElem_cons hlt] at hd
      exact (List.cons.inj hd).2
    have := h.ins (okFrom_iff.mp ok p (Nat.zero_le _) hlt)
    rw [hx] at this
    exact ranks_ok ok rest (p + 1) _ hd' hlt this
theorem rk0 (v : List Int) : Rk v 0 [] := ⟨fun x => ⟨fun h => (by cases h), fun h => (by omega)⟩, rfl, fun q h => by omega, fun q h => by omega⟩
def rowOf (v : List Int) : List Int := (List.range v.length).map fun (p : Nat) => (((ranksF 0 [] v).idxOf (p : Int) : Nat) : Int)
theorem rowOf_len (v : List Int) : (rowOf v).length = v.length := by unfold rowOf; rw [List.length_map, List.length_range]
theorem rowOf_getD {v : List Int} {p : Nat} (h : p < v.length) : (rowOf v).getD p 0 = (((ranksF 0 [] v).idxOf (p : Int) : Nat) : Int) := by
  unfold rowOf
  rw [List.getD_eq_getElem?_getD, List.getElem?_map, List.getElem?_range h]; rfl
/-- the row has the shape -/
theorem rowOf_shape {v : List Int} (ok : okFrom v 0 = true) : shapeL (rowOf v) = v := by
  have rk := ranks_ok ok v 0 [] rfl (Nat.zero_le _) (rk0 v)
  refine ext_getD (n := v.length) (by rw [shapeL_len, rowOf_len]) rfl fun q hq => ?_
  rw [shapeL_getD (by rw [rowOf_len]; exact hq)]
  by_cases hz : v.getD q 0 = 0
  · rw [distL_of (o := none) (fun k hk => by
      rw [rowOf_getD hq, rowOf_getD (by omega)]
      have := rk.zero q hq hz k hk
      omega), hz]
    rfl
  · obtain ⟨j, j1, j2, j3, j4⟩ := rk.par q hq hz
    rw [distL_of (o := some j) ⟨j1, by rw [rowOf_getD hq, rowOf_getD (by omega)]; omega, fun k k1 k2 => by
      rw [rowOf_getD hq, rowOf_getD (by omega)]
      have := j4 k k1 k2
      omega⟩, j2]
    rfl
def isnotBK (x y : D) (k : D → Prop) : Prop := ∃ a b, x = .bl a ∧ y = .bl b ∧ k (.bl (!decide (a = b)))
theorem o_isnotB {X : Cx} : CmpS X .IsNot isnotBK := ⟨_, op_notBl, fun P0 F en σ H x y dx dy k Qc rs vx vy q kk => by
  obtain ⟨a, b, rfl, rfl, q⟩ := q
  cases vx.bl; cases vy.bl
  exact ⟨a, b, rfl, rfl, kk F _ _ H (Same.refl F) rs (.bl _) q⟩⟩
end LP
namespace LP
open PySem PySem.Spec L2
open PyProof.Rows hiding St
theorem suf_lenV : ∀ {n : Nat} {p : List Int} {q : Int} {v : List Int}, v ∈ sufF n p q → v.length = n
  | 0, p, q, v, h => by rw [List.mem_singleton.mp h]; rfl
  | n + 1, p, q, v, h => by
    obtain ⟨x, _, h2⟩ := List.mem_flatMap.mp h
    obtain ⟨s, hs, rfl⟩ := List.mem_map.mp h2
    rw [List.length_cons, suf_lenV hs]
end LP
namespace LP
open PySem PySem.Spec L2
open PyProof.Rows hiding St
end LP
namespace LP
open PySem PySem.Spec L2
open PyProof.Rows hiding St
section
variable {prog : Program} {w : World} {A : Around} {s : Shared}
end
section
variable {X : Cx} {W : WX} {e o : Expr} {pos : Pos} {me : ME} {mv : MV}
end
end LP
namespace LP
theorem shape_le (row : List Int) (p : Nat) : (shapeL row).getD p 0 ≤ p := by
  by_cases h : p < row.length
  · rw [shapeL_getD h]
    unfold distL
    cases e : ((List.range p).filter fun j => decide (row.getD j 0 ≤ row.getD p 0)).getLast? with
    | none => show (0 : Int) ≤ p; omega
    | some j => show (p : Int) - j ≤ p; omega
  · rw [List.getD_eq_getElem?_getD, List.getElem?_eq_none (by rw [shapeL_len]; omega)]
    show (0 : Int) ≤ p; omega
end LP
namespace LP.Gn
open PySem PySem.Spec L2
open PyProof.Rows hiding St
theorem gfn_never {P : Program} {w : World} {K : PySem.W.Frag} {mg : Str → Option Value} {base : Heap} {k : Nat} {f : Addr} {fd : FuncData} {ps : List Str} (sp : ASpG) (h : ∀ ds ys, sp ds ys → False) : GFnA P w K mg base k f fd ps sp :=
  ⟨fun ds ys q => (h ds ys q).elim, fun _ _ _ _ _ _ _ _ ds ys _ _ _ _ _ _ q => (h ds ys q).elim⟩
end LP.Gn
namespace LP
open PySem PySem.Spec L2
open PyProof.Rows hiding St
local macro_rules | `(tactic| sleep 1) => `(tactic| set_option simprocs false in dsimp only [lcR, mLc, mLr1, mLr2, gN, gT, gsCons, gsNil, tupD, mB, mOp, mOpF, mV, mO, mL, mCall, mCons, mNil, mvCons, mvNil, mCB, mCF, mVar_dat, oV_v, oV_ol, oV_od, mC, mIf, mAnd, mOr, mNot, mAndV, mOrV, mNotV, mTup, mLst, mNeg, mYes, mSl, mPart, mNo, mSeq, mR1, mR2, mR3, mEnumS, mZip, mIdx, mStep, mApp, mPop, mPopAt, mExt, mChain, pV, pO, pNil, sSeq, sFor, sSet, sSetO, sDrop, sRet, sRetN, sIf, sNext, sAug, sSub, sAsg, sPar2, sPar3, sTupN, LP.putAll, It1.sl, p2, p3, gt, List.set, wipeE, rq2, rq1, asB, LP.intD, i1, i2, d2, one, seqD, addK, subK, ltK, leK, gtK, geK, lenK, slD, defEnds, cns, slK, min2K, max2K, intK, mStar, olD, isOl, seq1, lst1, tupleK])
local macro_rules | `(tactic| sleep 2) => `(tactic| (simp [keepO]; try simp [Sl.own]))
local macro_rules | `(tactic| sleep 3) => `(tactic| (rw [sizeLine_is]; simp only [List.length_map, List.length_append, List.length_cons, List.length_nil, List.length_set, nums_len, cls_len, rng_len, List.length_range, List.length_replicate]; omega))
local macro_rules | `(tactic| sleep 7) => `(tactic| simp only [Bool.false_eq_true, Bool.not_true, Bool.not_false, ↓reduceIte, if_true, if_false])
local macro_rules | `(tactic| sleep 6) => `(tactic| (sleep 1; try simp only [exSome, exOl, true_and, Bool.false_eq_true, Bool.not_true, Bool.not_false, ↓reduceIte, if_true, if_false]; try sleep 1))
local macro_rules | `(tactic| sleep 8) => `(tactic| repeat (refine szAnd (by (try simp only [List.length_cons, List.length_nil, List.length_append, List.length_map, List.length_take, List.length_drop, List.length_reverse, nums_len, cls_len, nats_len']); omega) ?_))
local macro_rules | `(tactic| sleep 10) => `(tactic| set_option simprocs false in dsimp only [LP.Gn.ySeq, LP.Gn.yPl, LP.Gn.yNil, LP.Gn.yIf, LP.Gn.yYield, LP.Gn.yTk, LP.Gn.yFor, LP.Gn.mTupG, LP.Gn.mListG, LP.Gn.mGn, LP.Gn.sForG, LP.Gn.allV])
end LP
namespace LP
open PySem PySem.Spec L2
open PyProof.Rows hiding St
theorem longer_ch (p : Nat) (x : List Int × List Int) : longer p x = (chF x.2 (p : Int)).map fun c => (x.1 ++ [c.1], c.2) := by
  unfold longer chF
  rw [List.map_cons, List.map_map]
  rfl
theorem allS_suf2 : ∀ (r n : Nat), (allS n).flatMap (fun x => (sufF r x.2 (n : Int)).map fun s => x.1 ++ s) = (allS (n + r)).map (·.1)
  | 0, n => by
    show (allS n).flatMap (fun x => [x.1 ++ []]) = _
    rw [Nat.add_zero, ← List.flatMap_singleton' ((allS n).map (·.1)), List.flatMap_map]
    congr 1
    funext x
    rw [List.append_nil]
  | r + 1, n => by
    rw [show n + (r + 1) = (n + 1) + r by omega, ← allS_suf2 r (n + 1)]
    show _ = ((allS n).flatMap (longer n)).flatMap _
    rw [List.flatMap_assoc]
    congr 1
    funext x
    rw [longer_ch, List.flatMap_map]
    show ((chF x.2 (n : Int)).flatMap fun c => (sufF r c.2 ((n : Int) + 1)).map fun s => c.1 :: s).map _ = _
    rw [List.map_flatMap]
    congr 1
    funext c
    rw [List.map_map, show ((n + 1 : Nat) : Int) = (n : Int) + 1 by omega]
    congr 1
    funext s
    show x.1 ++ (c.1 :: s) = (x.1 ++ [c.1]) ++ s
    rw [List.append_assoc]; rfl
theorem allS_gen (n : Nat) : (allS n).map (·.1) = sufF n [] 0 := by
  have z := allS_suf2 n 0
  rw [Nat.zero_add] at z
  rw [← z]
  show ([([], [])] : List (List Int × List Int)).flatMap _ = _
  rw [List.flatMap_singleton]
  show (sufF n [] ((0 : Nat) : Int)).map (fun s => [] ++ s) = _
  simp
theorem mem_allS {n : Nat} {s : List Int} : s ∈ (allS n).map (·.1) ↔ s.length = n ∧ okFrom s 0 = true := by
  rw [allS_gen]
  constructor
  · intro h
    have hl := suf_lenV h
    subst hl
    have := suf_open.mp h
    rw [openF_eq] at this
    refine ⟨rfl, ?_⟩
    by_cases e : okFrom s 0 = true
    · exact e
    · rw [if_neg e] at this; cases this
  · rintro ⟨rfl, ok⟩
    refine suf_open.mpr ?_
    rw [openF_eq, if_pos ok]; rfl
end LP
namespace LP
open PySem PySem.Spec L2
open PyProof.Rows hiding St
section
variable {X : Cx} {W : WX} {e : Expr} {es : List Expr} {pos apos kpos : Pos} {me : ME} {ma : MA} {x : Str} {x1 : Nat}
end
section
variable {X : Cx} {W : WX} {a e e2 : Expr} {es : List Expr} {pos : Pos} {ops : List CmpOp}
def tRest : List (R2 × TE) → V → TT
  | [], _ => fun σ H Q => Q true H
  | (r, t) :: rest, x => fun σ H Q => t σ H fun y H1 => r x y H1 fun z H2 => ∃ k, z = .bl k ∧ if k = true then tRest rest y σ H2 Q else Q false H2
structure PRest (X : Cx) (pos : Pos) (ops : List CmpOp) (es : List Expr) (trs : List (R2 × TE)) : Prop where
  run : ∀ (pins : List (Addr × Obj)) (s : Shared) (σ : St) (H : Hp) (Q : Bool → Hp → Prop) (x : V) (v : Value), Inv X pins σ H s → RelV x v → tRest trs x σ H Q →
    wpAny (model X.prog X.w) X.A (testChain pos v ops (evalEach es X.env)) (fun b s' => ∃ H', Inv X pins σ H' s' ∧ Q b H') X.xe s
end
end LP
namespace LP
open PySem PySem.Spec L2
open PyProof.Rows hiding St
theorem getD_take {row : List Int} {m j : Nat} (h : j < m) : (row.take m).getD j 0 = row.getD j 0 := by
  rw [List.getD_eq_getElem?_getD, List.getD_eq_getElem?_getD, List.getElem?_take, if_pos h]
theorem getD_dropN {row : List Int} {m j : Nat} : (row.drop m).getD j 0 = row.getD (m + j) 0 := by
  rw [List.getD_eq_getElem?_getD, List.getD_eq_getElem?_getD, List.getElem?_drop]
theorem least_take {row : List Int} {m f l : Nat} (h : f ≤ l) (hl : l < m) : leastP (row.take m) f l = leastP row f l := by
  have L := leastP_is (row := row) h
  have := L.le
  refine leastP_eq ⟨L.ge, L.le, fun j a b => ?_, fun j a b => ?_⟩
  · rw [getD_take (by omega), getD_take (by omega)]; exact L.before j a b
  · rw [getD_take (by omega), getD_take (by omega)]; exact L.behind j a b
theorem least_drop {row : List Int} {m f l : Nat} (h : f ≤ l) : m + leastP (row.drop m) f l = leastP row (m + f) (m + l) := by
  have L := leastP_is (row := row.drop m) h
  have := L.le
  have := L.ge
  refine (leastP_eq ⟨by omega, by omega, fun j a b => ?_, fun j a b => ?_⟩).symm
  · have z := L.before (j - m) (by omega) (by omega)
    rw [getD_dropN, getD_dropN, show m + (j - m) = j by omega] at z
    exact z
  · have z := L.behind (j - m) (by omega) (by omega)
    rw [getD_dropN, getD_dropN, show m + (j - m) = j by omega] at z
    exact z
/-- a root between two shapes -/
def glue (a b : List Int) : List Int := joinL (a ++ [0]) b (List.replicate (fallsL b).length (some (a.length : Int)))
theorem shape_glue {row : List Int} {k : Nat} (hk : row.length = k + 1) : shapeL row = glue (shapeL (row.take (leastP row 0 k))) (shapeL (row.drop (leastP row 0 k + 1))) := by
  have L := leastP_is (row := row) (f := 0) (l := k) (Nat.zero_le _)
  obtain ⟨h1, h2⟩ := head_least (row := row) (f := 0) (l := k) (Nat.zero_le _) (by omega)
  generalize leastP row 0 k = i at L h1 h2
  have hi := L.le
  have z0 : (shapeL row).getD i 0 = 0 := by
    unfold isHead at h1
    rw [Bool.or_eq_true, decide_eq_true_eq, decide_eq_true_eq] at h1
    rcases h1 with h1 | h1
    · exact h1
    · have := shape_le row i; omega
  have js := join_split (row := row) (n := i + 1) (by omega)
  have t1 : shapeL (row.take (i + 1)) = shapeL (row.take i) ++ [0] := by
    rw [← take_shape (by omega), ← take_shape (by omega), List.take_add_one, List.getElem?_eq_getElem (by rw [shapeL_len]; omega)]
    congr 1
    rw [List.getD_eq_getElem?_getD, List.getElem?_eq_getElem (by rw [shapeL_len]; omega)] at z0
    show [_] = [_]
    rw [show (shapeL row)[i]'(by rw [shapeL_len]; omega) = 0 from z0]
  have tl : (shapeL (row.take i)).length = i := by rw [shapeL_len, List.length_take]; omega
  have cw := cut_shape_win (row := row) (f := i + 1) (m := row.length - (i + 1)) (by omega)
  rw [List.take_of_length_le (by rw [List.length_drop]; omega)] at cw
  have tg : tgsL (shapeL row) (i + 1) = List.replicate (fallsL (shapeL (row.drop (i + 1)))).length (some (i : Int)) := by
    unfold tgsL
    rw [shapeL_len, cw]
    refine List.eq_replicate_iff.mpr ⟨by rw [List.length_map], fun x hx => ?_⟩
    obtain ⟨q, hq, rfl⟩ := List.mem_map.mp hx
    unfold fallsL at hq
    obtain ⟨m, hm, rfl⟩ := List.mem_map.mp hq
    obtain ⟨m1, m2⟩ := List.mem_filter.mp hm
    have m1 := List.mem_range.mp m1
    have m2 := of_decide_eq_true m2
    rw [shapeL_len, List.length_drop] at m1
    rw [Int.toNat_natCast]
    have nz : (shapeL row).getD (i + 1 + m) 0 ≠ 0 := fun e => by
      have := h2 (i + 1 + m) (Nat.zero_le _) (by omega) (by unfold isHead; rw [e]; rfl)
      omega
    have hd : isHead (shapeL row) (i + 1) (i + 1 + m) = true := by
      rw [← cw] at m2
      unfold cutShL at m2
      rw [List.getD_eq_getElem?_getD, List.getElem?_map, List.getElem?_range m1] at m2
      have m2 : (if isHead (shapeL row) (i + 1) (i + 1 + m) = true then 0 else (shapeL row).getD (i + 1 + m) 0) = 0 := m2
      by_cases e : isHead (shapeL row) (i + 1) (i + 1 + m) = true
      · exact e
      · rw [if_neg e] at m2; exact absurd m2 nz
    have nh : ¬ isHead (shapeL row) i (i + 1 + m) = true := fun e => by
      have := (isHead_iff (by omega)).mp e i (Nat.le_refl _) (by omega)
      have := L.behind (i + 1 + m) (by omega) (by omega)
      omega
    unfold isHead at hd nh
    rw [Bool.or_eq_true, decide_eq_true_eq, decide_eq_true_eq] at hd nh
    have nn := shape_nonneg row (i + 1 + m)
    rw [if_pos (by omega)]
    congr 1
    omega
  rw [← js, t1, tg]
  unfold glue
  rw [tl]
theorem mem_suf2 {n : Nat} {v : List Int} : v ∈ sufF n [] 0 ↔ v.length = n ∧ okFrom v 0 = true := by rw [← allS_gen]; exact mem_allS
end LP
namespace LP
open PySem PySem.Spec L2
open PyProof.Rows hiding St
local macro_rules | `(tactic| sleep 1) => `(tactic| set_option simprocs false in dsimp only [lcR, mLc, mLr1, mLr2, gN, gT, gsCons, gsNil, tupD, mB, mOp, mOpF, mV, mO, mL, mCall, mCons, mNil, mvCons, mvNil, mCB, mCF, mVar_dat, oV_v, oV_ol, oV_od, mC, mIf, mAnd, mOr, mNot, mAndV, mOrV, mNotV, mTup, mLst, mNeg, mYes, mSl, mPart, mNo, mSeq, mR1, mR2, mR3, mEnumS, mZip, mIdx, mStep, mApp, mPop, mPopAt, mExt, mChain, pV, pO, pNil, sSeq, sFor, sSet, sSetO, sDrop, sRet, sRetN, sIf, sNext, sAug, sSub, sAsg, sPar2, sPar3, sTupN, LP.putAll, It1.sl, p2, p3, gt, List.set, wipeE, rq2, rq1, asB, LP.intD, i1, i2, d2, one, seqD, addK, subK, ltK, leK, gtK, geK, lenK, slD, defEnds, cns, slK, min2K, max2K, intK, mStar, olD, isOl, seq1, lst1, tupleK])
local macro_rules | `(tactic| sleep 2) => `(tactic| (simp [keepO]; try simp [Sl.own]))
local macro_rules | `(tactic| sleep 3) => `(tactic| (rw [sizeLine_is]; simp only [List.length_map, List.length_append, List.length_cons, List.length_nil, List.length_set, nums_len, cls_len, rng_len, List.length_range, List.length_replicate]; omega))
local macro_rules | `(tactic| sleep 7) => `(tactic| simp only [Bool.false_eq_true, Bool.not_true, Bool.not_false, ↓reduceIte, if_true, if_false])
local macro_rules | `(tactic| sleep 6) => `(tactic| (sleep 1; try simp only [exSome, exOl, true_and, Bool.false_eq_true, Bool.not_true, Bool.not_false, ↓reduceIte, if_true, if_false]; try sleep 1))
local macro_rules | `(tactic| sleep 8) => `(tactic| repeat (refine szAnd (by (try simp only [List.length_cons, List.length_nil, List.length_append, List.length_map, List.length_take, List.length_drop, List.length_reverse, nums_len, cls_len, nats_len']); omega) ?_))
/-- what the table tells of: all stretches of smaller size, and of this size those before low -/
structure Tab (n k low : Nat) (l : List (Nat × Nat)) : Prop where
  nd : l.Nodup
  mem : ∀ x, x ∈ l ↔ 1 ≤ x.2 ∧ x.1 + x.2 ≤ n ∧ (x.2 < k ∨ x.2 = k ∧ x.1 < low)
  sz : l.length ≤ 13 * k + low
theorem Tab.next {n k low : Nat} {l : List (Nat × Nat)} (h : Tab n k low l) (hk : 1 ≤ k) (hn : low + k ≤ n) : Tab n k (low + 1) (l ++ [(low, k)]) := by
  refine ⟨?_, fun x => ?_, by rw [List.length_append]; have := h.sz; show _ + 1 ≤ _; omega⟩
  · refine List.pairwise_append.mpr ⟨h.nd, List.pairwise_singleton _ _, fun x hx y hy e => ?_⟩
    rw [List.mem_singleton.mp hy] at e
    subst e
    have := (h.mem _).mp hx
    omega
  · rw [List.mem_append, h.mem, List.mem_singleton]
    obtain ⟨a, b⟩ := x
    rw [Prod.mk.injEq]
    dsimp only
    omega
theorem Tab.up {n k : Nat} {l : List (Nat × Nat)} (hk : k ≤ n) (hn : n ≤ 12) (h : Tab n k (n - k + 1) l) : Tab n (k + 1) 0 l := by
  refine ⟨h.nd, fun x => ?_, by have := h.sz; omega⟩
  rw [h.mem]
  omega
end LP
namespace LP
open PySem PySem.Spec L2
open PyProof.Rows hiding St
/-- the claims hold for a row of n places -/
def Hold (n : Nat) (cs : List Cl) (r : List Int) : Prop := r.length = n ∧ ∀ c ∈ cs, c.holds r = true
theorem holds_shape {c : Cl} {n : Nat} {a b : List Int} (hc : c.ok n) (hs : shapeL a = shapeL b) (ha : a.length = n) : c.holds a = c.holds b := by
  obtain ⟨h1, h2, h3⟩ := hc
  have hl : a.length = b.length := by rw [← shapeL_len a, ← shapeL_len b, hs]
  unfold Cl.holds
  rw [least_of_shape hs hl (by omega) (by omega)]
theorem Hold.shape {n : Nat} {cs : List Cl} {a b : List Int} (ho : ∀ c ∈ cs, c.ok n) (h : Hold n cs a) (hs : shapeL a = shapeL b) : Hold n cs b := by
  have hl : a.length = b.length := by rw [← shapeL_len a, ← shapeL_len b, hs]
  exact ⟨by rw [← hl]; exact h.1, fun c hc => by rw [← holds_shape (ho c hc) hs h.1]; exact h.2 c hc⟩
/-- claims that hold for the same rows -/
def SameR (n : Nat) (a b : List Cl) : Prop := ∀ r, Hold n a r ↔ Hold n b r
theorem SameR.symm {n : Nat} {a b : List Cl} (h : SameR n a b) : SameR n b a := fun r => (h r).symm
theorem Hold.sub {n : Nat} {a b : List Cl} {r : List Int} (h : Hold n b r) (s : ∀ c ∈ a, c ∈ b) : Hold n a r := ⟨h.1, fun c hc => h.2 c (s c hc)⟩
end LP
namespace LP
open PySem PySem.Spec L2
open PyProof.Rows hiding St
theorem PSs.one {X : Cx} {st : Stmt} {t : TS} (h : PS X st t) : PSs X [st] (tSeq t tNext) := pss_cons h pss_nil
abbrev Suite : Type := Addr → Value → Option Addr → TS
inductive Named (X : Cx) (n : Str) : List ExceptHandler → List (Value × Suite) → Prop
  | nil : Named X n [] []
  | cons {x : Str} {c : Value} {ts : Suite} {b₀ : Stmt} {suite : List Stmt} {np pos' : Pos} {hds : List ExceptHandler} {l : List (Value × Suite)} (hc : Names X x c)
      (hsu : ∀ (a : Addr) (oe : Obj) (cls : Value) (d : Option Addr) (pn : List (Addr × Obj)), Zc cls d oe → (∃ vs, oe.data = .fields vs) → PSs (X.suite a ((a, oe) :: pn)) (b₀ :: suite) (ts a cls d)) (r : Named X n hds l) :
      Named X n (.ExceptHandler (some (.Name x np)) (some n) (b₀ :: suite) pos' :: hds) ((c, ts) :: l)
section
variable {X : Cx} {n : Str} {i : Nat} {body : List Stmt} {h₀ : ExceptHandler} {hds : List ExceptHandler} {l : List (Value × Suite)} {pos : Pos} {tb : WX → TS} {Wout : WX}
end
/-- one clause: what is raised and is of its class goes to its suite, all else on -/
def caught (K : PySem.W.Frag) (c : Value) (i : Nat) (ms : Addr → Value → Option Addr → MS) (A : AEnds) (R : RX) : RX := fun x e1 => ∃ b, PySem.W.exmOne K x.cls c = some b ∧
  (b = true → ∀ (a : Addr) (d : Option Addr), d.isSome = x.fs.isSome → ms a x.cls d (unName i A) { e1 with sl := e1.sl.set i (.v (exD x a d)) }) ∧ (b = false → R x e1)
theorem Rais.caught {K : PySem.W.Frag} {W W2 : WX} {P0 F : Hp} {A : AEnds} {E : Ends} {c : Value} {i : Nat} {ms : Addr → Value → Option Addr → MS} {R : RX} (w : Wk K W P0 F A E) (h : Rais K W2 P0 F R) : Rais K (wAs K c i (fun a cls d => cS K W0 (ms a cls d)) W2 E) P0 F (caught K c i ms A R) := by
  intro F' en' σ' H' y cls dd s r xo hr
  obtain ⟨b, h1, h2, h3⟩ := hr
  have ec := xo.1
  subst ec
  refine ⟨b, h1, fun hb' a ha => ?_, fun hb' => h F' en' σ' H' y _ dd s r xo (h3 hb')⟩
  refine ⟨P0, F', _, _, r.setV (exD_rp (a := a) xo), ?_, h2 hb' a dd xo.some_iff⟩
  refine ⟨fun F2 e2 σ2 H2 s2 r2 q => w.nx F2 _ _ H2 (s.trans s2) r2.un q, fun F2 e2 σ2 H2 v d s2 r2 => w.rt F2 e2 σ2 H2 v d (s.trans s2) r2, fun F2 e2 σ2 H2 s2 r2 q => w.bk F2 _ _ H2 (s.trans s2) r2.un q, fun F2 e2 σ2 H2 s2 r2 q => w.ct F2 _ _ H2 (s.trans s2) r2.un q, fun _ _ _ _ _ _ _ _ _ _ z => False.elim z⟩
section
variable {X : Cx} {W : WX} {x x2 n : Str} {c c2 : Value} {i : Nat} {body suite suite2 : List Stmt} {b₀ b₂ : Stmt} {np np2 pos pos' pos2 : Pos} {mb : MS} {ms ms2 : Addr → Value → Option Addr → MS}
end
end LP
namespace LP
open PySem PySem.Spec L2
open PyProof.Rows hiding St
end LP
namespace LP
open PySem PySem.Spec L2
open PyProof.Rows hiding St
def strD (d : D) (k : Str → Prop) : Prop := match d with
  | .str a => k a
  | _ => False
def strsD : List D → Option (List Str)
  | [] => some []
  | .str a :: ds => (strsD ds).map (a :: ·)
  | _ :: _ => none
section
variable {X : Cx} {W : WX} {o e e1 e2 : Expr} {pos apos : Pos} {mo me : ME}
/-- o.split(e) -/
def mSplit (mo me : ME) : MF := fun R en Q => mo R en fun d e1 => strD d fun a => me R e1 fun d2 e2 => strD d2 fun b => ((b.length == 0) = false ∧ a.length + 2 ≤ sizeLine) ∧ Q ((Txt.split a b).map D.str) e2
/-- o.join(e) -/
def mJoin (mo me : ME) : ME := fun R en Q => mo R en fun d e1 => strD d fun a => me R e1 fun d2 e2 => seqD d2 fun ds => ∃ ys, strsD ds = some ys ∧ (ys.map (·.length)).sum + ys.length * a.length ≤ 16777216 ∧ Q (.str (Txt.join a ys)) e2
/-- a method of a text with a text: endswith, count -/
def mM1 (f : Str → Str → D) (mo me : ME) : ME := fun R en Q => mo R en fun d e1 => strD d fun a => me R e1 fun d2 e2 => strD d2 fun b => Q (f a b) e2
def fmtD (d : D) (k : Str → Prop) : Prop := match d with
  | .str y => y.length ≤ sizeLine ∧ k y
  | .int i => i.natAbs.log2 < 1920 ∧ k (toString i)
  | _ => False
def mFmt (me : ME) : ME := fun R en Q => me R en fun d e1 => fmtD d fun y => Q (.str y) e1
/-- the parts one behind the other -/
abbrev MJ := RX → En → Str → (Str → En → Prop) → Prop
def mjNil : MJ := fun _ en acc Q => Q acc en
def mjCons (m : ME) (r : MJ) : MJ := fun R en acc Q => m R en fun d e1 => strD d fun y => (acc ++ y).length ≤ sizeLine ∧ r R e1 (acc ++ y) Q
def mJs (m : MJ) : ME := fun R en Q => m R en Str.empty fun y e1 => Q (.str y) e1
end
section
variable {X : Cx} {W : WX} {a l tg : Expr} {pos : Pos} {ma : MV} {me : ME}
def slS (x : D) (lo hi : Option Int) (k : D → Prop) : Prop := match x with
  | .str z => z.length ≤ sizeLine ∧ k (.str (Txt.slice z lo hi))
  | _ => False
def mSlS (ma : MV) (ml mh : MO) : ME := fun R en Q => ma R en fun g e1 => ml R e1 fun lo e2 => mh R e2 fun hi e3 => rq1 (g e3) fun x => slS x lo hi fun z => Q z e3
/-- one sign in a text -/
def inS (neg : Bool) (x y : D) (k : D → Prop) : Prop := ∃ (c : Nat) (z : Str), x = .str ⟨#[c]⟩ ∧ y = .str z ∧ k (.bl (if neg then !decide (c ∈ z.cps.toList) else decide (c ∈ z.cps.toList)))
/-- int(a text) -/
def intS (ds : List D) (k : D → Prop) : Prop := ∃ a n, ds = [.str a] ∧ PySem.intText? a = some n ∧ a.length ≤ 640 ∧ k (.int n)
def signsD (x : Str) : List D := x.cps.toList.map fun c => D.str ⟨#[c]⟩
def mTxt (m : ME) : MI := fun R en Q => m R en fun d e1 => strD d fun x => Q (signsD x) e1
end
end LP
namespace LP
open PySem PySem.Spec L2
open PyProof.Rows hiding St
section
variable {X : Cx} {W : WX} {a b : Expr} {rest : List Expr} {pos : Pos} {m m' : ME}
/-- a text, or what stands behind or if it is empty -/
def mOrS (a b : ME) : ME := fun R en Q => a R en fun d e1 => strD d fun z => z.length ≤ sizeLine ∧ if ((z.length : Int) != 0) = true then Q (.str z) e1 else b R e1 Q
end
end LP
namespace LP
open PySem PySem.Spec L2
open PyProof.Rows hiding St
open SX (S)
open TL (numL spl)
local macro_rules | `(tactic| sleep 1) => `(tactic| set_option simprocs false in dsimp only [lcR, mLc, mLr1, mLr2, gN, gT, gsCons, gsNil, tupD, mB, mOp, mOpF, mV, mO, mL, mCall, mCons, mNil, mvCons, mvNil, mCB, mCF, mVar_dat, oV_v, oV_ol, oV_od, mC, mIf, mAnd, mOr, mNot, mAndV, mOrV, mNotV, mTup, mLst, mNeg, mYes, mSl, mPart, mNo, mSeq, mR1, mR2, mR3, mEnumS, mZip, mIdx, mStep, mApp, mPop, mPopAt, mExt, mChain, pV, pO, pNil, sSeq, sFor, sSet, sSetO, sDrop, sRet, sRetN, sIf, sNext, sAug, sSub, sAsg, sPar2, sPar3, sTupN, LP.putAll, It1.sl, p2, p3, gt, List.set, wipeE, rq2, rq1, asB, LP.intD, i1, i2, d2, one, seqD, addK, subK, ltK, leK, gtK, geK, lenK, slD, defEnds, cns, slK, min2K, max2K, intK, mStar, olD, isOl, seq1, lst1, tupleK])
local macro_rules | `(tactic| sleep 2) => `(tactic| (simp [keepO]; try simp [Sl.own]))
local macro_rules | `(tactic| sleep 3) => `(tactic| (rw [sizeLine_is]; simp only [List.length_map, List.length_append, List.length_cons, List.length_nil, List.length_set, nums_len, cls_len, rng_len, List.length_range, List.length_replicate]; omega))
local macro_rules | `(tactic| sleep 7) => `(tactic| simp only [Bool.false_eq_true, Bool.not_true, Bool.not_false, ↓reduceIte, if_true, if_false])
local macro_rules | `(tactic| sleep 6) => `(tactic| (sleep 1; try simp only [exSome, exOl, true_and, Bool.false_eq_true, Bool.not_true, Bool.not_false, ↓reduceIte, if_true, if_false]; try sleep 1))
local macro_rules | `(tactic| sleep 8) => `(tactic| repeat (refine szAnd (by (try simp only [List.length_cons, List.length_nil, List.length_append, List.length_map, List.length_take, List.length_drop, List.length_reverse, nums_len, cls_len, nats_len']); omega) ?_))
local macro_rules | `(tactic| sleep 4) => `(tactic| set_option simprocs false in dsimp only [mSplit, mJoin, mM1, fmtD, mFmt, mjNil, mjCons, mJs, slS, mSlS, inS, intS, mTxt, mOrS, strD])
end LP
namespace LP
open PySem PySem.Spec L2
open PyProof.Rows hiding St
open SX (S)
open TL (numL spl)
local macro_rules | `(tactic| sleep 1) => `(tactic| set_option simprocs false in dsimp only [lcR, mLc, mLr1, mLr2, gN, gT, gsCons, gsNil, tupD, mB, mOp, mOpF, mV, mO, mL, mCall, mCons, mNil, mvCons, mvNil, mCB, mCF, mVar_dat, oV_v, oV_ol, oV_od, mC, mIf, mAnd, mOr, mNot, mAndV, mOrV, mNotV, mTup, mLst, mNeg, mYes, mSl, mPart, mNo, mSeq, mR1, mR2, mR3, mEnumS, mZip, mIdx, mStep, mApp, mPop, mPopAt, mExt, mChain, pV, pO, pNil, sSeq, sFor, sSet, sSetO, sDrop, sRet, sRetN, sIf, sNext, sAug, sSub, sAsg, sPar2, sPar3, sTupN, LP.putAll, It1.sl, p2, p3, gt, List.set, wipeE, rq2, rq1, asB, LP.intD, i1, i2, d2, one, seqD, addK, subK, ltK, leK, gtK, geK, lenK, slD, defEnds, cns, slK, min2K, max2K, intK, mStar, olD, isOl, seq1, lst1, tupleK])
local macro_rules | `(tactic| sleep 2) => `(tactic| (simp [keepO]; try simp [Sl.own]))
local macro_rules | `(tactic| sleep 3) => `(tactic| (rw [sizeLine_is]; simp only [List.length_map, List.length_append, List.length_cons, List.length_nil, List.length_set, nums_len, cls_len, rng_len, List.length_range, List.length_replicate]; omega))
local macro_rules | `(tactic| sleep 7) => `(tactic| simp only [Bool.false_eq_true, Bool.not_true, Bool.not_false, ↓reduceIte, if_true, if_false])
local macro_rules | `(tactic| sleep 6) => `(tactic| (sleep 1; try simp only [exSome, exOl, true_and, Bool.false_eq_true, Bool.not_true, Bool.not_false, ↓reduceIte, if_true, if_false]; try sleep 1))
local macro_rules | `(tactic| sleep 8) => `(tactic| repeat (refine szAnd (by (try simp only [List.length_cons, List.length_nil, List.length_append, List.length_map, List.length_take, List.length_drop, List.length_reverse, nums_len, cls_len, nats_len']); omega) ?_))
local macro_rules | `(tactic| sleep 4) => `(tactic| set_option simprocs false in dsimp only [mSplit, mJoin, mM1, fmtD, mFmt, mjNil, mjCons, mJs, slS, mSlS, inS, intS, mTxt, mOrS, strD])
end LP
namespace LP
open PySem PySem.Spec L2
open PyProof.Rows hiding St
open SX (S)
open TL (numL spl)
section
variable {X : Cx} {W : WX}
end
end LP
namespace LP
open PySem PySem.Spec L2
open PyProof.Rows hiding St
section
variable {K : PySem.W.Frag} {F : Hp} {a : Addr} {o : Obj} {ks : List Key} {vs : List V} {ds : List D}
end
section
variable {X : Cx} {W : WX} {tg e : Expr} {me : ME} {apos cpos : Pos}
end
section
variable {prog : Program} {w : World} {A : Around} {E : Value → Shared → Prop}
end
section
variable {prog : Program} {w : World} {A : Around} {E : Value → Shared → Prop}
end
structure FnK (P : Program) (w : World) (K : PySem.W.Frag) (mg : Str → Option Value) (base : Heap) (k : Nat) (f : Addr) (names : List Str) (sp : Sp) : Prop where
  go : ∀ (A : Around), A.guards = some [] → Room k A → ∀ (out : List Env) (s : Shared) (H : Hp), Env0 P w K mg base A out s H → ∀ (u : Value) (v : V) (kv : List Value) (vs : List V), RelV v u → Vals vs kv →
    ∀ (Q : VK) (E : XK), sp (v :: vs) H Q E → codeAny (model P w) A (.call (.ref f) ⟨[u], names.zip kv⟩) (CR (L2N.CX P w) out P w H s Q E) s
theorem FnK.mono {P : Program} {w : World} {K : PySem.W.Frag} {mg : Str → Option Value} {base : Heap} {j k : Nat} {f : Addr} {names : List Str} {sp : Sp} (G : FnK P w K mg base j f names sp) (h : j ≤ k) : FnK P w K mg base k f names sp :=
  ⟨fun A hg hr => G.go A hg (hr.mono h)⟩
section
variable {P : Program} {w : World} {K : PySem.W.Frag} {mg : Str → Option Value} {base : Heap}
end
section
variable {X : Cx} {W : WX} {e : Expr} {es : List Expr} {kws : List Keyword} {pos : Pos} {me : ME} {ma : MA} {te : TE} {tk : TA}
end
end LP
namespace LP
open PySem PySem.Spec L2
open PyProof.Rows hiding St
section
variable {X : Cx} {W : WX}
structure PMC (X : Cx) (cs : List MatchCase) (b : Str) (t : TS) : Prop where
  run : ∀ (pins : List (Addr × Obj)) (s : Shared) (σ : St) (H : Hp) (D : Ends) (u : Value) (first : Bool), Inv X pins σ H s → RelV (.str b) u → t D σ H → wpAny (model X.prog X.w) X.A (matchCases cs X.env u first) (SP X pins D) X.xe s
variable {e : Expr} {me : ME} {cs : List MatchCase} {mm : Str → MS} {pos : Pos}
end
end LP
namespace LP
open PySem PySem.Spec L2
open PyProof.Rows hiding St
section
variable {X : Cx} {W : WX} {x q f self g : Str} {st : Stmt} {e : Expr} {te : TE} {me : ME} {p pos : Pos}
end
end LP
namespace LP
open PySem PySem.Spec L2
open PyProof.Rows hiding St
section
variable {A : Around} {s : Shared}
end
/-- what a plain value is beside a text -/
inductive KnV (K : PySem.W.Frag) (H : Hp) : V → Option Str → Prop
  | non : KnV K H .non none
  | bl (b : Bool) : KnV K H (.bl b) none
  | int (i : Int) : KnV K H (.int i) none
  | str (b : Str) : KnV K H (.str b) (some b)
  | tup {a : Addr} {vs : List V} : SqT K H a vs → KnV K H (.ref a) none
  | lst {a : Addr} {vs : List V} : SqL K H a vs → KnV K H (.ref a) none
  | dic {a : Addr} {kvs : List (Key × V)} : H a = some (.dK kvs) → KnV K H (.ref a) none
section
variable {X : Cx} {pins : List (Addr × Obj)} {σ : St} {H : Hp} {s : Shared}
def pair2 {α : Type} : List α → Option (α × α)
  | [p, q] => some (p, q)
  | _ => none
/-- a sequence of two, or not -/
inductive PaV (K : PySem.W.Frag) (H : Hp) : V → Option (V × V) → Prop
  | non : PaV K H .non none
  | bl (b : Bool) : PaV K H (.bl b) none
  | int (i : Int) : PaV K H (.int i) none
  | str (b : Str) : PaV K H (.str b) none
  | tup {a : Addr} {vs : List V} : SqT K H a vs → PaV K H (.ref a) (pair2 vs)
  | lst {a : Addr} {vs : List V} : SqL K H a vs → PaV K H (.ref a) (pair2 vs)
  | dic {a : Addr} {kvs : List (Key × V)} : H a = some (.dK kvs) → PaV K H (.ref a) none
variable {e : Expr} {b1 b2 b3 : List Stmt} {pos : Pos} {te : TE} {t1 t2 t3 : TS}
variable {W : WX} {me : ME} {m1 m2 m3 : MS}
end
section
variable {X : Cx}
end
end LP
namespace LP
open PySem PySem.Spec L2
open PyProof.Rows hiding St
section
variable {K : PySem.W.Frag} {P0 F H : Hp} {e : En} {σ : St} {M : Sto} {p dx C : Addr} {fs fs' : List Str} {vs vs' : List V} {ds ds' : List D}
theorem SOk.ins (so : SOk K F M H) (hm : M p = some (.ins C fs ds)) (l : fs'.length = vs'.length) (r : Rps K F vs' ds') : SOk K F (setM M p (.ins C fs' ds')) (upd H p (.ins C dx (fs'.zip vs'))) := by
  intro a o ha
  by_cases hp : a = p
  · subst hp
    rw [setM_at] at ha
    cases ha
    exact ⟨(so a _ hm).1, dx, vs', upd_same, l, r⟩
  · have ha : M a = some o := by simpa [setM, hp] using ha
    obtain ⟨f, ok⟩ := so a o ha
    refine ⟨f, ?_⟩
    have ne : ∀ {b : Addr} {x : Addr}, M b = some (.hid x) → upd H p (.ins C dx (fs'.zip vs')) b = H b ∧ setM M p (.ins C fs' ds') b = some (.hid x) := fun {b x} hb => by
      have nb : b ≠ p := fun z => by
        rw [z, hm] at hb
        cases hb
      exact ⟨upd_ne nb, by simp [setM, nb, hb]⟩
    cases o with
    | strm c =>
      obtain ⟨p1, p2, bs, cs, t, h, h1, h2, m1, m2, r⟩ := ok
      have n1 := ne m1
      have n2 := ne m2
      exact ⟨p1, p2, bs, cs, t, (upd_ne hp).trans h, n1.1.trans h1, n2.1.trans h2, n1.2, n2.2, r⟩
    | hid b =>
      obtain ⟨o, h⟩ := ok
      exact ⟨o, (upd_ne hp).trans h⟩
    | ins C fs ds =>
      obtain ⟨dx, vs, h, l, r⟩ := ok
      exact ⟨dx, vs, (upd_ne hp).trans h, l, r⟩
    | own ds =>
      obtain ⟨vs, h, r⟩ := ok
      exact ⟨vs, (upd_ne hp).trans h, r⟩
end
section
variable {X : Cx} {W : WX} {o e value : Expr} {pos apos pos' : Pos} {me mo : ME} {ma : MA} {C : Addr} {f m : Str}
end
end LP
namespace LP
open PySem PySem.Spec L2
open PyProof.Rows hiding St
section
variable {X : Cx} {W : WX} {o e value : Expr} {pos apos pos' : Pos} {me mo : ME} {ma : MA} {C : Addr} {f m : Str}
end
end LP
namespace PySem
open Builtin Builtin.Str PySem.W PyProof.Rows
section
variable {prog : Program} {w : World} {A : Around} {E : Value → Shared → Prop} {s : Shared} {K : Frag} {x C L f : Addr} {h₀ : Heap} {m : Str → Option Value} {ox : Obj} {od : Option Obj}
end
end PySem
namespace LP
open PySem PySem.Spec L2
open PyProof.Rows hiding St
section
variable {X : Cx} {W : WX} {o e value : Expr} {pos apos pos' : Pos} {me mo : ME} {ma : MA} {C : Addr} {f m : Str}
end
end LP
namespace LP
open PySem PySem.Spec L2
open PyProof.Rows hiding St
section
variable {X : Cx} {W : WX} {x x2 n : Str} {c c2 : Value} {i kk : Nat} {body suite : List Stmt} {b₀ : Stmt} {np np2 tpos pos pos' : Pos} {tb : WX → TS} {ts : Suite} {Wout : WX} {mb : MS} {ms : Addr → Value → Option Addr → MS}
end
section
variable {X : Cx} {W : WX} {o : Expr} {pos : Pos} {mo : ME} {C : Addr} {f : Str}
end
end LP
namespace LP
open PySem PySem.Spec L2
open PyProof.Rows hiding St
/-- a method of a class -/
structure Me (K : PySem.W.Frag) (C m q : Str) (st : Stmt) where
  fd : FuncData
  F : FnD K m q st [] [] (He.ma K (He.ga K C) m) fd
  me : Meth K (He.ga K C) m (He.ma K (He.ga K C) m)
/-- __init__ -/
structure MeI (K : PySem.W.Frag) (C q : Str) (st : Stmt) where
  fd : FuncData
  F : FnD K "__init__" q st [] [] (He.ma K (He.ga K C) "__init__") fd
  mkr : Mk K (He.ga K C) (He.ma K (He.ga K C) "__init__")
/-- a name that is asked for as a setter: = ahead of it -/
def isSt (x : Str) : Option Str := match x.cps.toList with
  | 61 :: m => some ⟨m.toArray⟩
  | _ => none
/-- the getter of a property (or its setter) -/
def gtr (K : PySem.W.Frag) (p : Str × Option Str) : Addr := match p.2.bind isSt with
  | some m => (match PySem.W.recIn K (He.fAd K (p.1, some m)) "property" with
    | some (_ :: .ref g :: _) => g
    | _ => 0)
  | none => (match PySem.W.recIn K (He.fAd K p) "property" with
    | some (.ref g :: _) => g
    | _ => 0)
/-- the class has the name as a property at p whose setter is the def at g -/
structure SetOf (K : PySem.W.Frag) (C : Addr) (f : Str) (p g : Addr) : Prop where
  tak : PySem.W.takerIn K C f = some (some (.ref p))
  ty : PySem.W.typeIn K (.ref p) = some (.type "property")
  rec_ : ∃ a rest, PySem.W.recIn K p "property" = some (a :: .ref g :: rest)
structure MeS (K : PySem.W.Frag) (C m m2 q : Str) (st : Stmt) where
  fd : FuncData
  F : FnD K m q st [] [] (gtr K (C, some m2)) fd
  so : SetOf K (He.ga K C) m (He.ma K (He.ga K C) m) (gtr K (C, some m2))
structure MeP (K : PySem.W.Frag) (C m q : Str) (st : Stmt) where
  fd : FuncData
  F : FnD K m q st [] [] (gtr K (C, some m)) fd
  po : PropOf K (He.ga K C) m (He.ma K (He.ga K C) m) (gtr K (C, some m))
def fnP (K : PySem.W.Frag) (p : Str × Option Str) : He.FnW := match K.lookup (gtr K p) with
  | some ⟨_, _, .func fd, _⟩ => some (fd.name, fd.qualname, fd.params, fd.body, fd.scope, fd.globals, fd.closure, fd.builtins)
  | _ => none
def okP (K : PySem.W.Frag) (d : He.DefD) : Bool := (PySem.W.keepIn K (.ref (gtr K d.at_)) && (match K.lookup (gtr K d.at_) with
    | some ⟨_, _, .func fd, _⟩ => PySem.W.codeIn K fd.code d.qual && (He.dflB K fd.defaults (d.dvs K) && He.kwdB K fd.kwdefaults (d.kws K))
    | _ => false)) &&
  (match d.at_ with
    | (C, some m) => (match isSt m with
      | some m => (match PySem.W.recIn K (He.ma K (He.ga K C) m) "property" with
        | some (_ :: .ref _ :: _) => true
        | _ => false) && (decide (PySem.W.takerIn K (He.ga K C) m = some (some (.ref (He.ma K (He.ga K C) m)))) && decide (PySem.W.typeIn K (.ref (He.ma K (He.ga K C) m)) = some (.type "property")))
      | none => (match PySem.W.recIn K (He.ma K (He.ga K C) m) "property" with
        | some (.ref _ :: _) => true
        | _ => false) && (decide (PySem.W.findIn K (.ref (He.ga K C)) m = some (some (.ref (He.ma K (He.ga K C) m)))) && (decide (PySem.W.specialIn K (.ref (He.ma K (He.ga K C) m)) "__get__" = some (some (.builtin "property.__get__"))) && decide (PySem.W.takesIn K (.ref (He.ma K (He.ga K C) m)) = some true))))
    | _ => false)
def obsPK (fa : List He.Fa) (fb : List Fb) (fn pn : List He.DefD) (K : PySem.W.Frag) : He.AlD := ((((fa.all fun f => f.ok K) && fb.all fun f => f K) && fn.all fun d => d.ok K) && pn.all fun d => okP K d, (fn.map fun d => He.fnW K d.at_) ++ pn.map fun d => fnP K d.at_)
def valP (fn pn : List He.DefD) : He.AlD := (true, fn.map He.DefD.val ++ pn.map He.DefD.val)
def SaysP (fa : List He.Fa) (fb : List Fb) (fn pn : List He.DefD) (K : PySem.W.Frag) : Prop := obsPK fa fb fn pn K = valP fn pn
section
variable {fa : List He.Fa} {fb : List Fb} {fn pn : List He.DefD} {K : PySem.W.Frag}
theorem SaysP.all (c : SaysP fa fb fn pn K) : SaysX fa fb fn K ∧ (pn.all fun d => okP K d) = true ∧ (pn.map fun d => fnP K d.at_) = pn.map He.DefD.val := by
  have h : ((((fa.all fun f => f.ok K) && fb.all fun f => f K) && fn.all fun d => d.ok K) && pn.all fun d => okP K d) = true := congrArg (fun z : He.AlD => z.1) c
  have h2 : (fn.map fun d => He.fnW K d.at_) ++ (pn.map fun d => fnP K d.at_) = fn.map He.DefD.val ++ pn.map He.DefD.val := congrArg (fun z : He.AlD => z.2) c
  rw [Bool.and_eq_true] at h
  obtain ⟨a, b⟩ := List.append_inj h2 (by rw [List.length_map, List.length_map])
  refine ⟨?_, h.2, b⟩
  show (_, _) = (true, fn.map He.DefD.val)
  rw [h.1, a]
theorem SaysP.x (c : SaysP fa fb fn pn K) : SaysX fa fb fn K := c.all.1
end
end LP
namespace LP
open PySem PySem.Spec L2
open PyProof.Rows hiding St
section
variable {X : Cx} {W : WX}
variable {elt tg iter tg1 iter1 : Expr} {ifs ifs1 : List Expr} {scope : Scope} {own : List (Str × Nat)} {pos : Pos} {mi mi1 : MI} {mg mg1 : MG} {mt mt1 : MT} {me : ME} {ws ws1 vs1 : List Nat} {b b1 : Bool}
variable {o e : Expr} {apos : Pos} {mo : ME}
end
end LP
namespace LP
open PySem PySem.Spec L2
open PyProof.Rows hiding St
section
variable {P : Program} {w : World} {K : PySem.W.Frag} {mg : Str → Option Value} {base : Heap}
end
end LP
namespace HotX
open PySem PySem.Spec PyProof.Rows
section
variable {prog : Program} {w : World} {A : Around} {E : Value → Shared → Prop} {s : Shared}
end
end HotX
namespace LP
open PySem PySem.Spec L2 L2H
open PyProof.Rows hiding St
section
variable {X : Cx} {W : WX} {tg l e : Expr} {es : List Expr} {me : ME} {ma : MA} {pos : Pos} {a : Addr} {cls : Value} {d : Option Addr}
end
section
variable {X : Cx}
end
end LP
namespace LP
open PySem PySem.Spec L2
open PyProof.Rows hiding St
end LP
namespace LP
open PySem PySem.Spec L2
open PyProof.Rows hiding St
section
variable {X : Cx} {W : WX} {o e value : Expr} {pos apos pos' : Pos} {me mo : ME} {ma : MA} {C : Addr} {f m : Str}
end
section
variable {X : Cx} {W : WX} {x x2 x3 n : Str} {c c2 c3 : Value} {i kk : Nat} {body suite : List Stmt} {b₀ : Stmt} {np np2 np3 tpos pos pos' : Pos} {tb : WX → TS} {ts : Suite} {Wout : WX} {mb : MS} {ms : Addr → Value → Option Addr → MS}
end
section
variable {K : PySem.W.Frag} {P0 F H : Hp} {e : En} {σ : St} {M' : Sto}
def strmM (M : Sto) (sa p1 p2 : Addr) : Sto := setM (setM (setM M p1 (.hid sa)) p2 (.hid sa)) sa (.strm 0)
theorem SOk.strm {M : Sto} {sa p1 p2 : Addr} {t : Int} (so : SOk K F M H) (hs : M sa = some (.own [.ref p1, .ref p2, .int 0])) (h1 : M p1 = some (.own [])) (h2 : M p2 = some (.own [.int t])) (ht : 0 ≤ t) (n12 : p1 ≠ p2) : SOk K F (strmM M sa p1 p2) H := by
  have ns1 : sa ≠ p1 := fun z => by rw [z, h1] at hs; cases hs
  have ns2 : sa ≠ p2 := fun z => by rw [z, h2] at hs; cases hs
  have at1 : strmM M sa p1 p2 p1 = some (.hid sa) := by simp [strmM, setM, ns1.symm, n12]
  have at2 : strmM M sa p1 p2 p2 = some (.hid sa) := by simp [strmM, setM, ns2.symm]
  have ats : strmM M sa p1 p2 sa = some (.strm 0) := by simp [strmM, setM]
  have oth : ∀ b, b ≠ sa → b ≠ p1 → b ≠ p2 → strmM M sa p1 p2 b = M b := fun b x y z => by simp [strmM, setM, x, y, z]
  intro a o ha
  by_cases es : a = sa
  · subst es
    rw [ats] at ha
    cases ha
    obtain ⟨f, vs, hv, rv⟩ := so _ _ hs
    obtain ⟨_, vs1, hv1, rv1⟩ := so _ _ h1
    obtain ⟨_, vs2, hv2, rv2⟩ := so _ _ h2
    cases rv1
    cases rv2 with
    | cons r20 rv2 =>
    cases rv2
    cases r20
    cases rv with
    | cons ra rv =>
    cases rv with
    | cons rb rv =>
    cases rv with
    | cons rc rv =>
    cases rv
    cases ra
    cases rb
    cases rc
    exact ⟨f, p1, p2, [], [t], 0, hv, hv1, hv2, at1, at2, n12, fun b hb => (by cases hb), fun b hb => (by rw [List.mem_singleton.mp hb]; exact ht), (by simp), (by simp), Int.le_refl _, Int.le_refl _⟩
  by_cases e1 : a = p1
  · subst e1
    rw [at1] at ha
    cases ha
    obtain ⟨f, ok⟩ := so _ _ h1
    exact ⟨f, ok.there⟩
  by_cases e2 : a = p2
  · subst e2
    rw [at2] at ha
    cases ha
    obtain ⟨f, ok⟩ := so _ _ h2
    exact ⟨f, ok.there⟩
  rw [oth a es e1 e2] at ha
  obtain ⟨f, ok⟩ := so a o ha
  refine ⟨f, ?_⟩
  have keep : ∀ {b : Addr} {x : AO}, M b = some x → (∀ ds, x ≠ .own ds) → strmM M sa p1 p2 b = some x := fun {b x} hb hx => by
    have b1 : b ≠ sa := fun z => by rw [z, hs] at hb; cases hb; exact hx _ rfl
    have b2 : b ≠ p1 := fun z => by rw [z, h1] at hb; cases hb; exact hx _ rfl
    have b3 : b ≠ p2 := fun z => by rw [z, h2] at hb; cases hb; exact hx _ rfl
    rw [oth b b1 b2 b3]; exact hb
  cases o with
  | strm c =>
    obtain ⟨q1, q2, bs, cs, u, h, g1, g2, m1, m2, r⟩ := ok
    exact ⟨q1, q2, bs, cs, u, h, g1, g2, keep m1 (fun ds z => by cases z), keep m2 (fun ds z => by cases z), r⟩
  | hid b => exact ok
  | ins C fs ds => exact ok
  | own ds => exact ok
end
section
variable {X : Cx} {W : WX} {e : Expr} {me : ME}
end
end LP
namespace LP.Gn
open PySem PySem.Spec L2
open PyProof.Rows hiding St
/-- an expression whose value is a generator that has not begun: what the store must tell, what it will yield -/
abbrev MGm := En → ((Sto → Prop) → List D → En → Prop) → Prop
section
variable {X : Cx} {k : Nat} {f C : Addr} {m : Str} {fd : FuncData} {ps : List Str} {sp : ASpM} {pos apos : Pos} {o : Expr} {mo : ME} {W : WX} {pl : Sem Bool}
end
section
variable {X : Cx} {N : List Str} {qual : Str} {scope : Scope} {f : Addr} {cdv : Value} {n0 k g : Nat} {pins : List (Addr × Obj)} {a : Addr} {P0 F H : Hp} {en : En} {σ : St} {s : Shared} {ds : List D} {W : WX}
end
section
variable {X : Cx} {k : Nat} {W : WX} {i : MGm} {e : Expr} {p pos : Pos}
end
end LP.Gn
namespace LP
open PySem PySem.Spec L2
open PyProof.Rows hiding St
/-- the iterator serves at this heap -/
def ItAt (b : Bool) (K : PySem.W.Frag) (F : Hp) (J : It) (ds : List D) (H : Hp) : Prop :=
  (∀ (i : Nat) (d : D), ds[i]? = some d → J.go i H ∧ ∀ (x : V) (H' : Hp), J.yld i H x H' → (H' = H ∧ Rp K F x d) ∨ (b = true ∧ ∃ (T : Addr) (vs : List V) (es : List D), H T = none ∧ H' = upd H T (.tup vs) ∧ x = .ref T ∧ Rps K F vs es ∧ d = .tup es)) ∧
  J.stop ds.length H
theorem ItAt.turn {b : Bool} {K : PySem.W.Frag} {P0 F : Hp} {en : En} {σ : St} {H H' : Hp} {J : It} {ds : List D} {i : Nat} {d : D} {x : V} (h : ItAt b K F J ds H) (rs : RS K P0 F en σ H) (e : ds[i]? = some d) (y : J.yld i H x H') :
    ∃ F', Same F F' ∧ RS K P0 F' en σ H' ∧ rl b K F' x d := by
  rcases (h.1 i d e).2 x H' y with ⟨rfl, r⟩ | ⟨rfl, T, vs, es, hT, rfl, rfl, r, rfl⟩
  · exact ⟨F, Same.refl F, rs, rl_of r⟩
  · have s2 : Same F (upd F T (.tup vs)) := same_upd (rs.same.free hT)
    exact ⟨_, s2, rs.alloc hT, .inr ⟨T, vs, es, rfl, rfl, SqT.of upd_same, r.mono s2⟩⟩
abbrev MIm := RX → En → ((Sto → Prop) → List D → En → Prop) → Prop
section
variable {X : Cx} {W : WX} {K : PySem.W.Frag} {P0 F H : Hp} {en : En} {σ : St}
variable {elt tg iter : Expr} {ifs : List Expr} {scope : Scope} {own : List (Str × Nat)} {pos spos py' : Pos} {mi : MIm} {mg : MG} {mt : MT} {me : ME} {ws : List Nat} {b : Bool}
end
section
variable {X : Cx} {W : WX} {e : Expr} {pos : Pos} {mo : ME}
end
end LP
namespace LP
open PySem PySem.Spec L2
open PyProof.Rows hiding St
end LP
namespace LP
open PySem PySem.Spec L2
open PyProof.Rows hiding St
theorem str_is {P : Program} {w : World} (k : Str) (u : Tok) : (PySem.strKind P w).is k (.str k u) = true := PySem.Froz.is_str k u
section
variable {P : Program} {w : World} {A : Around} {R : Result → Shared → Prop} {I : Addr} {fp wr : List Addr} {G : Array GenState → Array GenState → Prop} {n : Nat} {Pv : Nat → Value → Prop} {St : Nat → Shared → Prop}
theorem set_update_strs (W : WalksS P w A.in1 I fp wr G n Pv St) (S : Addr) (hSf : S ∉ fp) (xs : List Str) (hn : n = xs.length) (nd : xs.Nodup) (hb : n + 1 < scanBound) (hval : ∀ i v, Pv i v → ∃ x t, xs[i]? = some x ∧ v = .str x t) :
    ∀ (k i : Nat) (s : Shared), n - i = k → i ≤ n → St i s → s.heap.SetOf (PySem.strKind P w) S (fun y => decide (y ∈ xs.take i)) i →
      (∀ s', Moved (S :: wr) G s s' → s'.heap.SetOf (PySem.strKind P w) S (fun y => decide (y ∈ xs)) n → R (.ok (.ret .none)) s') →
      codeAny (model P w) A (.builtin "set.update.loop" ⟨[.ref S, .ref I], []⟩) R s := by
  have hSw : S ∉ wr := fun h => hSf (W.sub _ h)
  have hsub : ∀ b ∈ wr, b ∈ S :: wr := fun b hb => List.mem_cons_of_mem _ hb
  intro k
  induction k with
  | zero =>
    intro i s hk hi hst hS hR
    have hin : i = n := by omega
    subst hin
    refine codeAny_builtin F.entry_set_update_loop ?_
    rw [Around.under_plainId F.plain_set_update_loop _]
    show wpAny _ A.in1 (pyNext (.ref I) >>= _) _ _ s
    refine wpAny_bind (W.done s _ _ hst fun s' hm => ?_)
    show wpAny _ A.in1 (ret Value.none) _ _ s'
    refine wpAny_pure (hR s' (hm.mono hsub) ?_)
    rw [hn, List.take_length] at hS
    rw [hn]
    obtain ⟨o, es, ep, t, ho, rest⟩ := hS
    exact ⟨o, es, ep, t, hm.heap S _ hSw ho, rest⟩
  | succ k ih =>
    intro i s hk hi hst hS hR
    have hlt : i < n := by omega
    refine codeAny_builtin F.entry_set_update_loop ?_
    rw [Around.under_plainId F.plain_set_update_loop _]
    show wpAny _ A.in1 (pyNext (.ref I) >>= _) _ _ s
    refine wpAny_bind (W.item i s _ _ hlt hst fun v s' hP hst' hm => ?_)
    obtain ⟨x, t, hx, rfl⟩ := hval i v hP
    have hS' : s'.heap.SetOf (PySem.strKind P w) S (fun y => decide (y ∈ xs.take i)) i := by
      obtain ⟨o, es, ep, tb, ho, rest⟩ := hS
      exact ⟨o, es, ep, tb, hm.heap S _ hSw ho, rest⟩
    have hil : i < xs.length := by omega
    have ex : xs[i] = x := by rw [List.getElem?_eq_getElem hil] at hx; exact Option.some.inj hx
    have out : x ∉ xs.take i := fun z => by
      obtain ⟨j, hj, e⟩ := List.mem_iff_getElem.mp z
      rw [List.length_take] at hj
      rw [List.getElem_take, ← ex] at e
      have := (List.getElem_inj nd).mp e
      omega
    show wpAny _ A.in1 (holding [Value.str x t] (setAdd S (.str x t)) >>= _) _ _ s'
    refine wpAny_bind (wpAny_holding ?_)
    unfold setAdd
    refine wpAny_holding ?_
    refine wpAny_bind ((PySem.strKind P w).pyHash (k := x) (str_is _ _) ?_)
    refine wpAny_setAddHashed_of (knd := PySem.strKind P w) (s := { s' with toks := s'.toks + 1 }) (str_is _ _) rfl hS' (by omega) fun h' hsb hS2 => ?_
    have hSi : h'.SetOf (PySem.strKind P w) S (fun y => decide (y ∈ xs.take (i + 1))) (i + 1) := by
      refine SetOf_congr hS2 (fun y => ?_) (by rw [if_neg (by rw [decide_eq_true_eq]; exact out)])
      rw [List.take_add_one, hx, Bool.eq_iff_iff, Bool.or_eq_true, decide_eq_true_eq, decide_eq_true_eq, decide_eq_true_eq, List.mem_append]
      simp
    refine wpAny_pure ⟨plainId_quiet F.plain_set_update_loop _, ih (i + 1) _ (by omega) hlt (W.frame _ s' _ _ hst' (Nat.le_succ _) fun b hb o e => ?_) hSi fun s'' hm'' hS'' => ?_⟩
    · rw [hsb.2 b (fun h : b = S => hSf (by rw [← h]; exact hb))]; exact e
    · refine hR s'' (Moved.trans W.gtrans ((hm.mono hsub).then_heap (Nat.le_succ _) fun b o hb e => ?_) hm'') hS''
      rw [hsb.2 b (fun h : b = S => hb (by rw [h]; exact List.mem_cons_self))]; exact e
end
section
variable {P : Program} {w : World} {A : Around} {E : Value → Shared → Prop} {s : Shared}
def FilledS (P : Program) (w : World) (xs : List Str) (s s2 : Shared) : Prop := ∃ h' tk, s2 = { s with heap := h', toks := tk } ∧ h'.SetOf (PySem.strKind P w) s.heap.objs.size (fun y => decide (y ∈ xs)) xs.length ∧ ∀ b o, s.heap.get? b = some o → h'.get? b = some o
set_option maxHeartbeats 3200000 in
theorem set_of_strs {l : Addr} {items : Array Value} (xs : List Str) {Q : Value → Shared → Prop} (hh : A.handled = none) (hl : s.heap.IsList l items) (hlen : items.size = xs.length) (hit : ∀ (i : Nat) (v : Value), items[i]? = some v → ∃ x t, xs[i]? = some x ∧ v = .str x t) (nd : xs.Nodup) (hb : xs.length + 1 < scanBound)
    (q : ∀ s2, FilledS P w xs s s2 → Q (.ref s.heap.objs.size) s2) : wpAny (model P w) A (call (.type "set") [.ref l]) Q E s := by
  have g1 := F.called_set.made
  have g2 := F.called_set.sub
  have g3 := F.called_set.notType
  have g4 := F.called_set.canCreate
  have g5 := F.typeCall_set_1 (.ref l)
  obtain ⟨c, tl, g6⟩ := F.called_set.mro
  refine wpAny_call (codeAny_of_tree (wpAny_pure ⟨Code.quiet_builtin _ (by decide +kernel), codeAny_builtin F.entry_type_call ?_⟩))
  rw [Around.under_plain (weight_type_call_type "set" [.ref l] []) rfl]
  repeat (any_goals (first | assumption | wp_step))
  refine codeAny_mono (code_set_led1 (.ref l) (E := E) (Q₁ := fun o s1 => o = .ref s.heap.objs.size ∧ s1 = { s with heap := s.heap.push (bareSet w) }) ⟨rfl, rfl⟩) fun r s1 hr => ?_
  match r, hr with
  | .error e, hr => exact hr
  | .ok (.ret o), hr =>
    obtain ⟨rfl, rfl⟩ := hr
    have old : (s.heap.push (bareSet w)).get? s.heap.objs.size = some (bareSet w) := Heap.get?_push_size _ rfl
    have g7 : Shared.TypeIs { s with heap := s.heap.push (bareSet w) } (.ref s.heap.objs.size) "set" := ⟨_, old, rfl⟩
    have g8 := F.called_set.init.lookup
    have g9 := F.called_set.init.bind (.ref s.heap.objs.size)
    repeat (any_goals (first | assumption | wp_step))
    refine codeAny_mono (codeAny_call_builtin (R := wants (fun r s2 => r = .none ∧ FilledS P w xs s s2) E) F.called_set.init.plain F.entry_set_init (check_set_init_1 g7 ?_)) fun r2 s2 h2 => ?_
    · have lt : l < s.heap.objs.size := by
        obtain ⟨_, z, _⟩ := hl
        exact Heap.lt_size z
      have hl2 : (s.heap.push (bareSet w)).IsList l items := hl.push _
      obtain ⟨ol, k1, k2, nl, k3⟩ := hl2
      obtain ⟨oc, od, oz, os⟩ := ol
      simp only at k2 k3
      subst k2 k3
      have k4 := F.sub_list_set
      have k5 := F.sub_list_frozenset
      have k6 : (Value.type "list" == Value.type "dict") = false := by decide
      have hl3 : (s.heap.push (bareSet w)).IsList l items := ⟨_, k1, rfl, nl, rfl⟩
      unfold Builtin.«set.__init__» noKeywords Builtin.Frozenset.updateFrom
      generalize hit2 : pyIter = it
      wp_walk
      subst hit2
      refine wpAny_pyIter_list hl3 (wpAny_bind (wpAny_runValue ?_))
      have sz : (s.heap.push (bareSet w)).objs.size = s.heap.objs.size + 1 := Heap.size_push ..
      have nl1 : l ≠ (s.heap.push (bareSet w)).objs.size := by rw [sz]; exact Nat.ne_of_lt (Nat.lt_succ_of_lt lt)
      have nin : s.heap.objs.size ∉ [(s.heap.push (bareSet w)).objs.size, l] := by
        intro z
        rw [sz] at z
        rcases List.mem_cons.mp z with z | z
        · exact absurd z (Nat.ne_of_lt (Nat.lt_succ_self _))
        · exact absurd (List.mem_singleton.mp z) (Nat.ne_of_gt lt)
      refine set_update_strs ((Walks.list (by simp [hh]) _ l nl1 items).toS) s.heap.objs.size nin xs hlen nd (by rw [hlen]; exact hb) hit (items.size - 0) 0 _ rfl (Nat.zero_le _)
        ⟨⟨_, Heap.get?_push_size _ rfl, rfl, rfl⟩, (hl3.push _)⟩ ?_ fun s3 hm hS => ?_
      · have hget : ((s.heap.push (bareSet w)).push { cls := .type "list_iterator", data := .fields #[.ref l, .int 0 0] }).get? s.heap.objs.size = some (bareSet w) := Heap.get?_push_of_some _ old
        exact SetOf_congr ((setObjOf_fresh (knd := PySem.strKind P w) _).setOf hget (by unfold scanBound; omega)) (fun y => by simp) rfl
      obtain ⟨h', g', d', tk', o'⟩ := s3
      have z1 : g' = s.gens := hm.gens
      have z2 : d' = s.drawn := hm.drawn
      have z3 : o' = s.os := hm.os
      subst z1 z2 z3
      show wpAny _ _ _ _ _ _
      refine wpAny_pure ?_
      show wpAny _ _ (ret Value.none) _ _ _
      rw [hlen] at hS
      refine wpAny_pure ⟨rfl, h', tk', rfl, hS, fun b o e => hm.heap b o ?_ (Heap.get?_push_of_some _ (Heap.get?_push_of_some _ e))⟩
      have hb0 := Heap.lt_size e
      intro z
      rcases List.mem_cons.mp z with z | z
      · exact absurd z (Nat.ne_of_lt hb0)
      · have := List.mem_singleton.mp z
        rw [sz] at this
        exact absurd this (Nat.ne_of_lt (Nat.lt_succ_of_lt hb0))
    · match r2, h2 with
      | .error e, h2 => exact h2
      | .ok (.ret _), h2 =>
        obtain ⟨rfl, h2⟩ := h2
        repeat (any_goals (first | assumption | wp_step))
        exact q _ h2
end
def tLenSetS (ta : TE) : TE := fun σ H Q => ta σ H fun x H1 => ∃ (l : Addr) (xs : List Str), x = V.ref l ∧ H1 l = some (.lst (xs.map V.str)) ∧ xs.length < 4000 ∧ xs.Nodup ∧ Q (.int xs.length) H1
theorem pe_lenSetS {X : Cx} {a : Expr} {ta : TE} {p p2 q pos : Pos} (hc : X.calm = true) (hg : Gl X "len") (hm : X.mg "len" = none) (hg2 : Gl X "set") (hm2 : X.mg "set" = none) (ha : PE X a ta)
    (na : starEach [a] X.env = (false, eval a X.env) :: starEach [] X.env := by rfl) : PE X (.Call (.Name "len" p) [.Call (.Name "set" p2) [a] [] q] [] pos) (tLenSetS ta) := by
  refine ⟨fun pins s σ H Q I h => ?_⟩
  refine Call_ (ld_blt I hg hm PySem.boot_len ?_)
  refine PyProof.Rows.callWith_builtin1 (PyProof.Rows.args_cons ?_ rfl) rfl rfl
  refine Call_ (ld_blt I hg2 hm2 PyProof.Rows.boot_set ?_)
  refine PyProof.Rows.callWith_type1 (PyProof.Rows.args_cons (thn (ha.run pins s σ H _ I h) fun v s1 ⟨x, H1, I1, r1, q1⟩ => PyProof.Rows.args_nil ?_) na) na rfl
  obtain ⟨l, xs, rfl, hq, h1, hnd, q1⟩ := q1
  cases r1
  obtain ⟨its, r, pl, hz⟩ := I1.list (SqL.of hq)
  have hl : its.toArray.size = xs.length := by rw [List.size_toArray, ← r.length, List.length_map]
  have hit : ∀ (i : Nat) (v : Value), its.toArray[i]? = some v → ∃ x t, xs[i]? = some x ∧ v = .str x t := fun i v hv => by
    rw [List.getElem?_toArray] at hv
    cases e : xs[i]? with
    | none =>
      have := Vals.none_of r (i := i) (by rw [List.getElem?_map, e]; rfl)
      rw [this] at hv; cases hv
    | some x =>
      obtain ⟨u, h2, h3⟩ := Vals.get r (i := i) (x := V.str x) (by rw [List.getElem?_map, e]; rfl)
      rw [hv] at h2
      cases h2
      obtain ⟨t, rfl⟩ := h3
      exact ⟨x, t, rfl, rfl⟩
  refine set_of_strs xs (I1.ok.hd hc) pl.isList hl hit hnd (Nat.lt_of_lt_of_le (show xs.length + 1 < 4096 by omega) (by decide)) fun s2 hs => ?_
  obtain ⟨h', tk, rfl, hS, hk⟩ := hs
  refine PyProof.Rows.args_nil ?_
  obtain ⟨o, es, ep, t, ho, hex, hd, _, _, _, hf, hn⟩ := hS
  have I2 : Inv X pins σ H1 { s1 with heap := h', toks := tk } := I1.kept fun b o e => hk b o e
  refine call_len_set ho hex hd hf (by rw [hn] <;> omega) ⟨.int xs.length, H1, I2.tok _, ⟨_, by rw [hn]⟩, q1⟩
/-- len(set(e)), the texts all different -/
def mLenSetS (m : ME) : ME := fun R en Q => m R en fun d e1 => ∃ xs : List Str, d = .lst (xs.map D.str) ∧ xs.length < 4000 ∧ xs.Nodup ∧ Q (.int xs.length) e1
theorem rps_strsN {K : PySem.W.Frag} {F : Hp} : ∀ {vs : List V} {xs : List Str}, Rps K F vs (xs.map D.str) → vs = xs.map V.str
  | _, [], h => by cases h; rfl
  | _, x :: xs, h => by
    cases h with
    | cons a b =>
      cases a
      rw [rps_strsN b]; rfl
theorem ae_lenSetS {X : Cx} {W : WX} {a : Expr} {m : ME} {p p2 q pos : Pos} (hc : X.calm = true) (hg : Gl X "len") (hm : X.mg "len" = none) (hg2 : Gl X "set") (hm2 : X.mg "set" = none) (ha : AE X W a m)
    (na : starEach [a] X.env = (false, eval a X.env) :: starEach [] X.env := by rfl) : AE X W (.Call (.Name "len" p) [.Call (.Name "set" p2) [a] [] q] [] pos) (mLenSetS m) := by
  obtain ⟨_, pa, sa⟩ := ha
  refine ⟨_, pe_lenSetS hc hg hm hg2 hm2 pa na, fun P0 F en σ H R Q Qc rs rx h k => sa P0 F en σ H R _ _ rs rx h fun F1 e1 v d H1 s1 r1 rp q1 => ?_⟩
  obtain ⟨xs, rfl, hz, nd, q1⟩ := q1
  cases rp with
  | lst h1 h2 =>
    have e := rps_strsN h2
    subst e
    exact ⟨_, xs, rfl, r1.same _ _ h1, hz, nd, k F1 e1 _ _ H1 s1 r1 (.int _) q1⟩
end LP
namespace LP.Lo
open PySem PySem.Spec
/-- a yield through «yield from» a generator: the scheduler treats it like any other while nothing is registered -/
def Fair (s : Shared) (t : Thread) : Prop := ∃ (v : Value) (l : List Value) (k : Resume → Sem PySem.Fin) (it : Addr) (r : List Value) (kw : List (Str × Value)) (p : Pos) (st pre rest : List Frame) (b : Nat × (GenResult → Sem PySem.Fin) × Code × Pos) (o : Obj) (n : Nat),
  t = ⟨.yield v true l k, .builtin "proto.yield_from" ⟨.ref it :: r, kw⟩, p, st⟩ ∧ splitAtGen st = some (pre, b, rest) ∧ pre.any Frame.guarded = false ∧ s.heap.get? it = some o ∧ o.genNumber? = some n
/-- steps one after another -/
inductive Red (M : Model) : Shared → Thread → Shared → Thread → Prop
  | here {s : Shared} {t : Thread} : Red M s t s t
  | go {s s₁ s' : Shared} {t t₁ t' : Thread} : (t.loud = false ∨ Fair s t) → stepK M.den M.prog M.w s t = .go s₁ t₁ → Red M s₁ t₁ s' t' → Red M s t s' t'
section
variable {M : Model} {s s₁ s' : Shared} {t t₁ t' : Thread}
theorem Red.trans (h : Red M s t s₁ t₁) (k : Red M s₁ t₁ s' t') : Red M s t s' t' := by
  induction h with
  | here => exact k
  | go a b _ ih => exact .go a b (ih k)
theorem step_cases (h : M.step s t = .go s₁ t₁) : t.loud = false ∧ stepK M.den M.prog M.w s t = .go s₁ t₁ := by
  cases q : t.loud with
  | true => rw [M.step_loud q] at h; cases h
  | false => rw [M.step_quiet q] at h; exact ⟨rfl, h⟩
theorem Red.one (h : M.step s t = .go s₁ t₁) (k : Red M s₁ t₁ s' t') : Red M s t s' t' :=
  let ⟨a, b⟩ := step_cases h; .go (.inl a) b k
theorem red_reach {base : List Frame} {x : Sem PySem.Fin} {c : Code} {p : Pos} {pre : List Frame} {e : End} (h : Reach M base s x c p pre s' e) :
    ∃ x' c' p' pre', Red M s ⟨x, c, p, pre ++ base⟩ s' ⟨x', c', p', pre' ++ base⟩ ∧ Exits e x' c' p' pre' := by
  induction h with
  | exit hx => exact ⟨_, _, _, _, .here, hx⟩
  | step hs _ ih =>
    obtain ⟨x', c', p', pre', r, hx⟩ := ih
    exact ⟨x', c', p', pre', .one hs r, hx⟩
/-- what a code comes to by such steps -/
def code2 (M : Model) (A : Around) (c : Code) (R : Result → Shared → Prop) (s : Shared) : Prop :=
  ∀ (p : Pos) (B : List Frame), (Ctx.of c B).Below A → ∃ (r : Result) (s' : Shared) (c' : Code) (p' : Pos), R r s' ∧ Red M s ⟨M.den c, c, p, B⟩ s' ⟨leafOf r, c', p', B⟩
/-- what a piece of code comes to -/
def wp2 {α : Type} (M : Model) (A : Around) (m : Sem α) (Q : α → Shared → Prop) (E : Value → Shared → Prop) (s : Shared) : Prop :=
  ∀ (c : Code) (p : Pos) (B : List Frame) (K : α → Sem PySem.Fin) (H : Value → Sem PySem.Fin) (gd : Bool → Bool) (lv : List Value → List Value), (Ctx.of c B).In A →
    (∃ a p' s', Q a s' ∧ Red M s ⟨m.wrap K H gd lv, c, p, B⟩ s' ⟨K a, c, p', B⟩) ∨ ∃ e p' s', E e s' ∧ Red M s ⟨m.wrap K H gd lv, c, p, B⟩ s' ⟨H e, c, p', B⟩
/-- one step on, then the rest -/
theorem red_or {α : Type} {Q : α → Shared → Prop} {E : Value → Shared → Prop} {c : Code} {B : List Frame} {K : α → Sem PySem.Fin} {H : Value → Sem PySem.Fin} (f : ∀ {s' : Shared} {t' : Thread}, Red M s₁ t₁ s' t' → Red M s t s' t')
    (h : (∃ a p' s', Q a s' ∧ Red M s₁ t₁ s' ⟨K a, c, p', B⟩) ∨ ∃ e p' s', E e s' ∧ Red M s₁ t₁ s' ⟨H e, c, p', B⟩) : (∃ a p' s', Q a s' ∧ Red M s t s' ⟨K a, c, p', B⟩) ∨ ∃ e p' s', E e s' ∧ Red M s t s' ⟨H e, c, p', B⟩ :=
  h.imp (fun ⟨a, p', s', q, r⟩ => ⟨a, p', s', q, f r⟩) fun ⟨a, p', s', q, r⟩ => ⟨a, p', s', q, f r⟩
/-- the end of a wake is handed to the waker -/
theorem red_woken {e₁ : End} {x' : Sem PySem.Fin} {c' : Code} {p' : Pos} {pre' : List Frame} (g : Nat) (k : GenResult → Sem PySem.Fin) (l : List Value) (c : Code) (p : Pos) (B : List Frame) (hx : Exits e₁ x' c' p' pre') (hq : e₁.quiet = true) :
    Red M s ⟨x', c', p', pre' ++ .gen g k l c p :: B⟩ (s.setGen g e₁.genState) ⟨k e₁.result, c, p, B⟩ := .one (step_exit_gen s g k l c p B hx hq) .here
/-- what the library's logic tells of a piece of code holds of its runs -/
theorem wp_red {α : Type} {c : Code} {B : List Frame} (K : α → Sem PySem.Fin) (H : Value → Sem PySem.Fin) (gd : Bool → Bool) (lv : List Value → List Value) (m : Sem α) :
    ∀ {Q : α → Shared → Prop} {E : Value → Shared → Prop} {p : Pos} {s : Shared}, Sem.wp M (Ctx.of c B) m (fun a _ s' => Q a s') (fun e _ s' => E e s') p s →
      (∃ a p' s', Q a s' ∧ Red M s ⟨m.wrap K H gd lv, c, p, B⟩ s' ⟨K a, c, p', B⟩) ∨ ∃ e p' s', E e s' ∧ Red M s ⟨m.wrap K H gd lv, c, p, B⟩ s' ⟨H e, c, p', B⟩ := by
  have fits := Ctx.fits_of c B
  induction m with
  | pure a => intro Q E p s h; exact .inl ⟨a, p, s, h, .here⟩
  | raise x => intro Q E p s h; exact .inr ⟨x, p, s, h, .here⟩
  | unsupported what => intro Q E p s h; exact h.elim
  | finish x => intro Q E p s h; exact h.elim
  | register a k => intro Q E p s h; exact h.elim
  | yield v g l k => intro Q E p s h; exact h.elim
  | fork c k => intro Q E p s h; exact h.elim
  | await a f d l k => intro Q E p s h; exact h.elim
  | rule tag k ih => intro Q E p s h; exact red_or (fun r => .one (step_rule ..) r) (ih () h)
  | «at» p' k ih => intro Q E p s h; exact red_or (fun r => .one (step_at ..) r) (ih () h)
  | load a part k ih => intro Q E p s h; obtain ⟨o, ho, h⟩ := h; exact red_or (fun r => .one (step_load _ _ _ _ _ _ _ ho) r) (ih o h)
  | update a part f k ih => intro Q E p s h; obtain ⟨ha, h⟩ := h; exact red_or (fun r => .one (step_update _ _ _ _ _ _ _ _ ha) r) (ih () h)
  | loadIfAlive a k ih => intro Q E p s h; exact red_or (fun r => .one (step_loadIfAlive ..) r) (ih _ h)
  | point l k ih => intro Q E p s h; exact red_or (fun r => .one (step_point ..) r) (ih () h)
  | alloc o k ih => intro Q E p s h; exact red_or (fun r => .one (step_alloc ..) r) (ih _ h)
  | fresh k ih => intro Q E p s h; exact red_or (fun r => .one (step_fresh ..) r) (ih _ h)
  | ask k ih => intro Q E p s h; exact red_or (fun r => .one (step_ask ..) r) (ih _ h)
  | choose src n k ih => intro Q E p s h; obtain ⟨hn, h⟩ := h; exact red_or (fun r => .one (step_choose _ _ _ _ _ _ _ hn) r) (ih _ h)
  | os q l k ih => intro Q E p s h; exact red_or (fun r => .one (step_os ..) r) (ih _ h)
  | handled own k ih =>
    intro Q E p s h
    refine red_or (fun r => .one (step_handled ..) r) ?_
    have e : topHandled (if own then ownFrames B else B) = (if own then (Ctx.of c B).own else (Ctx.of c B).handled) := by cases own <;> rfl
    rw [e]; exact ih _ h
  | genState g k ih => intro Q E p s h; obtain ⟨st, hg, h⟩ := h; exact red_or (fun r => .one (step_genState _ _ _ _ _ _ hg) r) (ih _ h)
  | newGen c' k ih => intro Q E p s h; exact red_or (fun r => .one (step_newGen ..) r) (ih _ h)
  | stack k ih => intro Q E p s h; exact red_or (fun r => .one (step_stack ..) r) (ih _ h)
  | thread k ih => intro Q E p s h; exact red_or (fun r => .one (step_thread ..) r) (ih _ h)
  | call c' hd g l k ih =>
    intro Q E p s h
    obtain ⟨r, s₁, hr, h⟩ := h
    refine red_or (fun r' => .one (step_call ..) ?_) (ih r h)
    obtain ⟨x', c'', p'', pre', rd, hx⟩ := red_reach (runs_reach hr _ (fits.enter c' (fun x => (k x).wrap K H gd lv) hd (gd g) (lv l) p []))
    obtain ⟨rfl, rfl⟩ := hx
    exact rd.trans (.one (step_leaf_ret ..) r')
  | resume g r l k ih =>
    intro Q E p s h
    obtain ⟨res, s₁, hw, h⟩ := h
    have h2 := ih res h
    unfold Wakes at hw
    cases hg : s.gens[g]? with
    | none => simp only [hg] at hw
    | some gs =>
      simp only [hg] at hw
      cases gs with
      | fresh c' =>
        cases r with
        | send v =>
          by_cases hv : v = .none
          · subst hv
            obtain ⟨e₁, s₂, hr, hq, rfl, rfl⟩ := hw
            refine red_or (fun r' => .one (step_resume_fresh _ _ _ _ _ _ _ hg) ?_) h2
            obtain ⟨x', c'', p'', pre', rd, hx⟩ := red_reach (runs_reach hr _ (fits.wake c' g (fun x => (k x).wrap K H gd lv) (lv l) p))
            exact rd.trans ((red_woken _ _ _ _ _ _ hx hq).trans r')
          · have hw' : res = .justStarted ∧ s₁ = s := by cases v <;> first | exact absurd rfl hv | exact hw
            obtain ⟨rfl, rfl⟩ := hw'
            exact red_or (fun r' => .one (step_resume_justStarted _ _ _ _ _ _ _ hg hv) r') h2
        | throw x =>
          obtain ⟨rfl, rfl⟩ := hw
          exact red_or (fun r' => .one (step_resume_throwFresh _ _ _ _ _ _ _ _ hg) r') h2
      | suspended k₀ l₀ c₀ p₀ fs cl =>
        obtain ⟨e₁, s₂, hr, hq, rfl, rfl⟩ := hw
        refine red_or (fun r' => .one (step_resume_suspended _ _ _ _ _ _ _ _ hg) ?_) h2
        obtain ⟨x', c'', p'', pre', rd, hx⟩ := red_reach (runs_reach hr _ (fits.wake c₀ g (fun x => (k x).wrap K H gd lv) (lv l) p))
        exact rd.trans ((red_woken _ _ _ _ _ _ hx hq).trans r')
      | running => obtain ⟨rfl, rfl⟩ := hw; exact red_or (fun r' => .one (step_resume_running _ _ _ _ _ _ _ _ hg) r') h2
      | finished => obtain ⟨rfl, rfl⟩ := hw; exact red_or (fun r' => .one (step_resume_finished _ _ _ _ _ _ _ _ hg) r') h2
end
theorem red_size {M : Model} {s s' : Shared} {t t' : Thread} (h : Red M s t s' t') : s.heap.objs.size ≤ s'.heap.objs.size := by
  induction h with
  | here => exact Nat.le_refl _
  | go a b _ ih =>
    refine Nat.le_trans ?_ ih
    rename_i s s₁ s' t t₁ t' _
    have up : ∀ (h : Heap) (a : Addr) (f : Obj → Obj), h.objs.size ≤ (h.update a f).objs.size := fun h a f => by
      cases h; simp [Heap.update]
    have pu : ∀ (h : Heap) (o : Obj), h.objs.size ≤ (h.push o).objs.size := fun h o => by
      cases h; simp [Heap.push]
    obtain ⟨cur, code, pos, stack⟩ := t
    have key : ∀ {st : Step}, PySem.step M.den M.prog M.w s ⟨cur, code, pos, stack⟩ = .go s₁ t₁ → s.heap.objs.size ≤ s₁.heap.objs.size := fun {st} hs => by
      rw [step_heap M.den M.prog M.w _ _ _ _ hs]
      cases cur <;> first | exact Nat.le_refl _ | exact up _ _ _ | exact pu _ _
    cases cur with
    | pure fin =>
      cases fin with
      | again c => cases b; exact Nat.le_refl _
      | done f => exact key (st := .go s₁ t₁) b
    | call c h g l k => cases b; exact Nat.le_refl _
    | _ => exact key (st := .go s₁ t₁) b
section
variable {M : Model} {A : Around} {α β : Type} {E : Value → Shared → Prop} {s : Shared}
/-- the heap does not shrink -/
theorem wp2_hsz {m : Sem α} {Q : α → Shared → Prop} (h : wp2 M A m Q E s) : wp2 M A m (fun a s' => s.heap.objs.size ≤ s'.heap.objs.size ∧ Q a s') E s := fun c p B K H gd lv hA =>
  (h c p B K H gd lv hA).imp (fun ⟨a, p', s', q, r⟩ => ⟨a, p', s', ⟨red_size r, q⟩, r⟩) id
theorem lift {m : Sem α} {Q : α → Shared → Prop} (h : wpAny M A m Q E s) : wp2 M A m Q E s := fun c p B K H gd lv hA => wp_red K H gd lv m (h (Ctx.of c B) p hA)
theorem liftC {c : Code} {R : Result → Shared → Prop} (h : codeAny M A c R s) : code2 M A c R s := fun p B hA => by
  obtain ⟨r, s', hr, q⟩ := h (Ctx.of c B) p rfl hA
  obtain ⟨x', c', p', pre', rd, hx⟩ := red_reach (runs_reach hr B (Ctx.fits_of c B))
  obtain ⟨rfl, rfl⟩ := hx
  exact ⟨r, s', c', p', q, rd⟩
theorem wp2_pure {a : α} {Q : α → Shared → Prop} (h : Q a s) : wp2 M A (pure a) Q E s := lift (wpAny_pure h)
theorem wp2_throw {e : Value} {Q : α → Shared → Prop} (h : E e s) : wp2 M A (throw e : Sem α) Q E s := lift (wpAny_throw h)
theorem wp2_mono {m : Sem α} {Q Q' : α → Shared → Prop} {E' : Value → Shared → Prop} (h : wp2 M A m Q E s) (hQ : ∀ a s, Q a s → Q' a s) (hE : ∀ e s, E e s → E' e s) : wp2 M A m Q' E' s :=
  fun c p B K H gd lv hA => (h c p B K H gd lv hA).imp (fun ⟨a, p', s', q, r⟩ => ⟨a, p', s', hQ _ _ q, r⟩) fun ⟨a, p', s', q, r⟩ => ⟨a, p', s', hE _ _ q, r⟩
/-- one piece, then what it comes to, wrapped alike -/
theorem wp2_wrap {m : Sem α} {K : α → Sem β} {H : Value → Sem β} {gd : Bool → Bool} {lv : List Value → List Value} {Q : β → Shared → Prop} (h : wp2 M A m (fun a s' => wp2 M A (K a) Q E s') (fun e s' => wp2 M A (H e) Q E s') s) : wp2 M A (m.wrap K H gd lv) Q E s := by
  intro c p B K' H' gd' lv' hA
  rw [Sem.wrap_wrap]
  rcases h c p B _ _ (fun g => gd' (gd g)) (fun l => lv' (lv l)) hA with ⟨a, p', s', q, r⟩ | ⟨a, p', s', q, r⟩
  · exact red_or r.trans (q c p' B K' H' gd' lv' hA)
  · exact red_or r.trans (q c p' B K' H' gd' lv' hA)
theorem wp2_bind {m : Sem α} {f : α → Sem β} {Q : β → Shared → Prop} (h : wp2 M A m (fun a s' => wp2 M A (f a) Q E s') E s) : wp2 M A (m >>= f) Q E s := by
  rw [Sem.bind_eq_wrap']
  exact wp2_wrap (wp2_mono h (fun _ _ q => q) fun e s' q => lift (wpAny_throw q))
theorem wp2_tryCatch {m : Sem α} {k : Value → Sem α} {Q : α → Shared → Prop} (h : wp2 M A m Q (fun e s' => wp2 M A (k e) Q E s') s) : wp2 M A (tryCatch m k) Q E s := by
  show wp2 M A (m.tryCatch k) Q E s
  rw [Sem.tryCatch_eq_wrap]
  exact wp2_wrap (wp2_mono h (fun _ _ q => wp2_pure q) fun _ _ q => q)
theorem wp2_attempt {m : Sem α} {Q : Except Value α → Shared → Prop} (h : wp2 M A m (fun a => Q (.ok a)) (fun e => Q (.error e)) s) : wp2 M A m.attempt Q E s := by
  unfold Sem.attempt
  refine wp2_tryCatch ?_
  exact wp2_bind (wp2_mono h (fun _ _ q => wp2_pure q) fun _ _ q => wp2_pure q)
theorem wp2_onRaise {m : Sem α} {k : Value → Sem Unit} {Q : α → Shared → Prop} (h : wp2 M A m Q (fun e s' => wp2 M A (k e) (fun _ s'' => E e s'') E s') s) : wp2 M A (m.onRaise k) Q E s := by
  rw [Sem.onRaise_eq_wrap]
  refine wp2_wrap (wp2_mono h (fun _ _ q => wp2_pure q) fun e s' q => ?_)
  show wp2 M A ((k e) >>= fun _ => (throw e : Sem α)) Q E s'
  exact wp2_bind (wp2_mono q (fun _ _ z => wp2_throw z) fun _ _ z => z)
theorem wp2_holding {vs : List Value} {m : Sem α} {Q : α → Shared → Prop} (h : wp2 M A m Q E s) : wp2 M A (holding vs m) Q E s := by
  rw [holding_eq_keep, Sem.keep_eq_wrap]
  exact wp2_wrap (wp2_mono h (fun _ _ q => wp2_pure q) fun _ _ q => wp2_throw q)
theorem wp2_rule {tag : String} {Q : Unit → Shared → Prop} (h : Q () s) : wp2 M A (rule tag) Q E s := lift (wpAny_rule h)
theorem wp2_standAt {pos : Pos} {Q : Unit → Shared → Prop} (h : Q () s) : wp2 M A (standAt pos) Q E s := lift (wpAny_standAt h)
theorem code2_mono {c : Code} {R R' : Result → Shared → Prop} (h : code2 M A c R s) (hR : ∀ r s, R r s → R' r s) : code2 M A c R' s := fun p B hA =>
  let ⟨r, s', c', p', q, rd⟩ := h p B hA; ⟨r, s', c', p', hR _ _ q, rd⟩
theorem wrap_id (m : Sem α) : m.wrap .pure .raise id id = m := by
  induction m <;> simp only [Sem.wrap, id, *]
theorem code2_of_tree {c : Code} {R : Result → Shared → Prop} (h : wp2 M (A.under c) (M.den c) (fun fin s' => match fin with | .done f => R (.ok f) s' | .again c' => c'.quiet = true ∧ code2 M A c' R s') (fun e s' => R (.error e) s') s) : code2 M A c R s := by
  intro p B hA
  have h0 := h c p B .pure .raise id id hA.in
  rw [wrap_id] at h0
  rcases h0 with ⟨fin, p', s', q, r⟩ | ⟨e, p', s', q, r⟩
  · cases fin with
    | done f => exact ⟨.ok f, s', c, p', q, r⟩
    | again c' =>
      obtain ⟨hq, q⟩ := q
      obtain ⟨r2, s2, c2, p2, q2, rd⟩ := q p' B (hA.goto c')
      exact ⟨r2, s2, c2, p2, q2, r.trans (.one (step_again M s' c p' B c' hq) rd)⟩
  · exact ⟨.error e, s', c, p', q, r⟩
/-- a code is run and its result handed on -/
theorem wp2_callk {c : Code} {hd : Option Value} {g : Bool} {l : List Value} {k : Result → Sem α} {Q : α → Shared → Prop} (hnb : hd ≠ some byPass) (h : code2 M (A.mark hd) c (fun r s' => wp2 M A (k r) Q E s') s) : wp2 M A (.call c hd g l k) Q E s := by
  intro c₀ p B K H gd lv hA
  obtain ⟨r, s', c', p', q, rd⟩ := h p (.ret (fun x => (k x).wrap K H gd lv) hd (gd g) (lv l) c₀ p [] :: B) (by
    have e := Ctx.of_append c [.ret (fun x => (k x).wrap K H gd lv) hd (gd g) (lv l) c₀ p []] B
    rw [List.singleton_append] at e
    rw [e]
    exact hA.enter c hd p hnb)
  exact red_or (fun r' => .one (step_call ..) (rd.trans (.one (step_leaf_ret ..) r'))) (q c₀ p B K H gd lv hA)
end
end LP.Lo
namespace LP.Hid2
open PySem
open Sem (wp)
/-- a sleeper that cannot be woken; it looks as before -/
def dead : GenState → GenState
  | .suspended _ l c p fs _ => .suspended (fun _ => .unsupported "hidden") l c p fs false
  | x => x
def slp : GenState → Bool
  | .suspended .. => true
  | _ => false
theorem seen_dead (x : GenState) : (dead x).seen = x.seen := by cases x <;> rfl
theorem bare_dead (x : GenState) : (dead x).bare = true := by cases x <;> rfl
theorem no_run {M : Model} {Γ : Ctx} {p : Pos} {t : Sem PySem.Fin} {fs : List Frame} {s s' : Shared} {e : End} (h : Runs M Γ p t fs s e s') : ∀ {w : String}, t = .unsupported w → False := by
  induction h <;> intro w z <;> cases z
  all_goals (rename_i ih; exact ih rfl)
def gf : End → Prop
  | .ret _ => True
  | .susp _ _ _ _ _ _ fs => splitAtGen fs = none
theorem split_app : ∀ {fs gs : List Frame}, splitAtGen fs = none → splitAtGen gs = none → splitAtGen (fs ++ gs) = none
  | [], _, _, h => h
  | .ret k h g l c p kp :: fs, gs, h1, h2 => by
    have h1' : (splitAtGen fs).map (fun x => (Frame.ret k h g l c p kp :: x.1, x.2)) = none := h1
    have e : splitAtGen fs = none := by
      cases q : splitAtGen fs with
      | none => rfl
      | some x => rw [q] at h1'; cases h1'
    show (splitAtGen (fs ++ gs)).map _ = none
    rw [split_app e h2]; rfl
  | .gen g k l c p :: fs, gs, h1, _ => by cases h1
theorem split_tail {k : Result → Sem PySem.Fin} {h : Option Value} {g : Bool} {l kp : List Value} {c : Code} {p : Pos} {fs : List Frame} (e : splitAtGen (.ret k h g l c p kp :: fs) = none) : splitAtGen fs = none := by
  have e' : (splitAtGen fs).map (fun x => (Frame.ret k h g l c p kp :: x.1, x.2)) = none := e
  cases q : splitAtGen fs with
  | none => rfl
  | some x => rw [q] at e'; cases e'
section
variable (act : Nat → Option GenState)
def fixG (G : Array GenState) : Array GenState := G.mapIdx fun i x => (act i).getD x
def fixS (s : Shared) : Shared := { s with gens := fixG act s.gens }
structure Hid (s : Shared) : Prop where
  d : ∀ i y, act i = some y → s.gens[i]? = some (dead y) ∧ slp y = true
  j : ∀ i k l c p fs cl, s.gens[i]? = some (.suspended k l c p fs cl) → act i = none → splitAtGen fs = none
end
variable {act : Nat → Option GenState} {M : Model}
theorem fix_size (G : Array GenState) : (fixG act G).size = G.size := by simp [fixG]
theorem fix_at {G : Array GenState} {i : Nat} {x : GenState} (h : G[i]? = some x) : (fixG act G)[i]? = some ((act i).getD x) := by
  unfold fixG
  rw [Array.getElem?_mapIdx, h]; rfl
theorem fix_push {G : Array GenState} {x : GenState} (h : act G.size = none) : fixG act (G.push x) = (fixG act G).push x := by
  unfold fixG
  rw [Array.mapIdx_push, h]; rfl
theorem fix_set {G : Array GenState} {g : Nat} {x : GenState} (h : act g = none) : fixG act (G.setIfInBounds g x) = (fixG act G).setIfInBounds g x := by
  apply Array.ext_getElem?
  intro i
  unfold fixG
  rw [Array.getElem?_mapIdx, Array.getElem?_setIfInBounds, Array.getElem?_setIfInBounds, Array.getElem?_mapIdx, Array.size_mapIdx]
  by_cases e : g = i
  · subst e
    simp only [if_true]
    split
    · simp [h]
    · rfl
  · simp only [if_neg e]
theorem Hid.other {s : Shared} (h : Hid act s) {g : Nat} {x : GenState} (e : s.gens[g]? = some x) (n : slp x = false) : act g = none := by
  cases q : act g with
  | none => rfl
  | some y =>
    obtain ⟨h1, h2⟩ := h.d g y q
    rw [e] at h1
    have : x = dead y := Option.some.inj h1
    subst this
    cases y with
    | suspended => cases n
    | _ => cases h2
theorem Hid.gens {s : Shared} {G : Array GenState} (h : Hid act s) (e : G = s.gens) (s' : Shared) (e' : s'.gens = G) : Hid act s' := ⟨fun i y q => by rw [e', e]; exact h.d i y q, fun i k l c p fs cl q => by rw [e', e] at q; exact h.j i k l c p fs cl q⟩
theorem Hid.set {s : Shared} (h : Hid act s) {g : Nat} {x : GenState} (n : act g = none) (hx : ∀ k l c p fs cl, x = .suspended k l c p fs cl → splitAtGen fs = none) : Hid act (s.setGen g x) := by
  refine ⟨fun i y q => ?_, fun i k l c p fs cl q hn => ?_⟩
  · have ne : g ≠ i := fun z => by rw [← z, n] at q; cases q
    show (s.gens.setIfInBounds g x)[i]? = _ ∧ _
    rw [Array.getElem?_setIfInBounds_ne ne]
    exact h.d i y q
  · have q' : (s.gens.setIfInBounds g x)[i]? = some (.suspended k l c p fs cl) := q
    by_cases e : g = i
    · subst e
      rw [Array.getElem?_setIfInBounds] at q'
      simp only [if_true] at q'
      split at q'
      · exact hx _ _ _ _ _ _ (Option.some.inj q')
      · cases q'
    · rw [Array.getElem?_setIfInBounds_ne e] at q'
      exact h.j _ _ _ _ _ _ _ q' hn
theorem Hid.push {s : Shared} (h : Hid act s) (c : Code) : Hid act { s with gens := s.gens.push (.fresh c) } ∧ act s.gens.size = none := by
  have n : act s.gens.size = none := by
    cases q : act s.gens.size with
    | none => rfl
    | some y =>
      have := (h.d _ y q).1
      rw [Array.getElem?_eq_none (Nat.le_refl _)] at this
      cases this
  refine ⟨⟨fun i y q => ?_, fun i k l c' p fs cl q hn => ?_⟩, n⟩
  · obtain ⟨h1, h2⟩ := h.d i y q
    refine ⟨?_, h2⟩
    show (s.gens.push (.fresh c))[i]? = _
    rw [Array.getElem?_push]
    have hi : i < s.gens.size := (Array.getElem?_eq_some_iff.mp h1).1
    rw [if_neg (Nat.ne_of_lt hi)]
    exact h1
  · have q' : (s.gens.push (.fresh c))[i]? = some (.suspended k l c' p fs cl) := q
    rw [Array.getElem?_push] at q'
    split at q'
    · cases q'
    · exact h.j _ _ _ _ _ _ _ q' hn
theorem fix_setGen {s : Shared} {g : Nat} {x : GenState} (n : act g = none) : fixS act (s.setGen g x) = (fixS act s).setGen g x := by
  show ({ s with gens := fixG act (s.gens.setIfInBounds g x) } : Shared) = { s with gens := (fixG act s.gens).setIfInBounds g x }
  rw [fix_set n]
theorem gs_gf {e : End} (h : gf e) : ∀ k l c p fs cl, e.genState = .suspended k l c p fs cl → splitAtGen fs = none := by
  intro k l c p fs cl q
  cases e with
  | ret r => cases q
  | susp v g l' k' c' p' fs' => cases q; exact h
theorem Hid.seen {s : Shared} (h : Hid act s) {g : Nat} {st : GenState} (q : s.gens[g]? = some st) : ((act g).getD st).seen = st.seen := by
  cases z : act g with
  | none => rfl
  | some y =>
    have := (h.d g y z).1
    rw [q] at this
    rw [Option.some.inj this, seen_dead]; rfl
theorem fix_sizeS {s : Shared} : (fixS act s).gens.size = s.gens.size := fix_size _
theorem fix_new {s : Shared} {c : Code} (n : act s.gens.size = none) : fixS act { s with gens := s.gens.push (.fresh c) } = { fixS act s with gens := (fixS act s).gens.push (.fresh c) } := by
  show ({ s with gens := fixG act (s.gens.push (.fresh c)) } : Shared) = { s with gens := (fixG act s.gens).push (.fresh c) }
  rw [fix_push n]
theorem runs_hide {Γ : Ctx} {p : Pos} {t : Sem PySem.Fin} {fs : List Frame} {s s' : Shared} {e : End} (h : Runs M Γ p t fs s e s') : splitAtGen fs = none → Hid act s → Hid act s' ∧ Runs M Γ p t fs (fixS act s) e (fixS act s') ∧ gf e := by
  induction h with
  | done => intro _ hh; exact ⟨hh, .done, trivial⟩
  | raise => intro _ hh; exact ⟨hh, .raise, trivial⟩
  | again q _ ih => intro f hh; obtain ⟨a, b, c⟩ := ih f hh; exact ⟨a, .again q b, c⟩
  | rule _ ih => intro f hh; obtain ⟨a, b, c⟩ := ih f hh; exact ⟨a, .rule b, c⟩
  | «at» _ ih => intro f hh; obtain ⟨a, b, c⟩ := ih f hh; exact ⟨a, .at b, c⟩
  | load e _ ih => intro f hh; obtain ⟨a, b, c⟩ := ih f hh; exact ⟨a, .load e b, c⟩
  | update e _ ih => intro f hh; obtain ⟨a, b, c⟩ := ih f (hh.gens rfl _ rfl); exact ⟨a, .update e b, c⟩
  | loadIfAlive _ ih => intro f hh; obtain ⟨a, b, c⟩ := ih f hh; exact ⟨a, .loadIfAlive b, c⟩
  | point _ ih => intro f hh; obtain ⟨a, b, c⟩ := ih f hh; exact ⟨a, .point b, c⟩
  | alloc _ ih => intro f hh; obtain ⟨a, b, c⟩ := ih f (hh.gens rfl _ rfl); exact ⟨a, .alloc b, c⟩
  | fresh _ ih => intro f hh; obtain ⟨a, b, c⟩ := ih f (hh.gens rfl _ rfl); exact ⟨a, .fresh b, c⟩
  | ask _ ih => intro f hh; obtain ⟨a, b, c⟩ := ih f hh; exact ⟨a, .ask b, c⟩
  | choose n _ ih => intro f hh; obtain ⟨a, b, c⟩ := ih f (hh.gens rfl _ rfl); exact ⟨a, .choose n b, c⟩
  | os _ ih => intro f hh; obtain ⟨a, b, c⟩ := ih f (hh.gens rfl _ rfl); exact ⟨a, .os b, c⟩
  | handled _ ih => intro f hh; obtain ⟨a, b, c⟩ := ih f hh; exact ⟨a, .handled b, c⟩
  | genState q _ ih => intro f hh; obtain ⟨a, b, c⟩ := ih f hh; exact ⟨a, .genState (fix_at (act := act) q) (by rw [hh.seen q]; exact b), c⟩
  | stack _ ih => intro f hh; obtain ⟨a, b, c⟩ := ih f hh; exact ⟨a, .stack b, c⟩
  | thread _ ih => intro f hh; obtain ⟨a, b, c⟩ := ih f hh; exact ⟨a, .thread b, c⟩
  | newGen _ ih =>
    intro f hh
    obtain ⟨h1, n⟩ := hh.push _
    obtain ⟨a, b, d⟩ := ih f h1
    rw [fix_new n] at b
    exact ⟨a, .newGen (by rw [fix_sizeS]; exact b), d⟩
  | call _ _ ih1 ih2 => intro f hh; obtain ⟨a, b, _⟩ := ih1 f hh; obtain ⟨a2, b2, c2⟩ := ih2 f a; exact ⟨a2, .call b b2, c2⟩
  | callSusp _ ih => intro f hh; obtain ⟨a, b, c⟩ := ih f hh; exact ⟨a, .callSusp b, split_app c rfl⟩
  | yield => intro _ hh; exact ⟨hh, .yield, rfl⟩
  | resumeFresh q _ hq _ ih1 ih2 =>
    intro f hh
    have n := hh.other q rfl
    obtain ⟨a, b, c⟩ := ih1 rfl (hh.set n (fun _ _ _ _ _ _ z => by cases z))
    obtain ⟨a2, b2, c2⟩ := ih2 f (a.set n (gs_gf c))
    rw [fix_setGen n] at b b2
    have q2 := fix_at (act := act) q
    rw [n] at q2
    exact ⟨a2, .resumeFresh q2 b hq b2, c2⟩
  | @resumeSuspended Γ p g r l k s k₀ l₀ c₀ p₀ fs cl e₁ s₁ e s' q hr hq _ ih1 ih2 =>
    intro f hh
    cases n : act g with
    | some y =>
      exfalso
      obtain ⟨h1, h2⟩ := hh.d g y n
      rw [q] at h1
      cases y with
      | suspended k' l' c' p' fs' cl' =>
        have z := Option.some.inj h1
        have ek : k₀ = fun _ => .unsupported "hidden" := by injection z
        rw [ek] at hr
        exact no_run hr rfl
      | _ => cases h2
    | none =>
      have gfs := hh.j _ _ _ _ _ _ _ q n
      obtain ⟨a, b, c⟩ := ih1 gfs (hh.set n (fun _ _ _ _ _ _ z => by cases z))
      obtain ⟨a2, b2, c2⟩ := ih2 f (a.set n (gs_gf c))
      rw [fix_setGen n] at b b2
      have q2 := fix_at (act := act) q
      rw [n] at q2
      exact ⟨a2, .resumeSuspended q2 b hq b2, c2⟩
  | resumeJustStarted q v _ ih =>
    intro f hh
    obtain ⟨a, b, c⟩ := ih f hh
    have q2 := fix_at (act := act) q
    rw [hh.other q rfl] at q2
    exact ⟨a, .resumeJustStarted q2 v b, c⟩
  | resumeThrowFresh q _ ih =>
    intro f hh
    have n := hh.other q rfl
    obtain ⟨a, b, c⟩ := ih f (hh.set n (fun _ _ _ _ _ _ z => by cases z))
    rw [fix_setGen n] at b
    have q2 := fix_at (act := act) q
    rw [n] at q2
    exact ⟨a, .resumeThrowFresh q2 b, c⟩
  | resumeRunning q _ ih =>
    intro f hh
    obtain ⟨a, b, c⟩ := ih f hh
    have q2 := fix_at (act := act) q
    rw [hh.other q rfl] at q2
    exact ⟨a, .resumeRunning q2 b, c⟩
  | resumeFinished q _ ih =>
    intro f hh
    obtain ⟨a, b, c⟩ := ih f hh
    have q2 := fix_at (act := act) q
    rw [hh.other q rfl] at q2
    exact ⟨a, .resumeFinished q2 b, c⟩
  | segRet _ _ ih1 ih2 =>
    intro f hh
    obtain ⟨a, b, _⟩ := ih1 rfl hh
    obtain ⟨a2, b2, c2⟩ := ih2 (split_tail f) a
    exact ⟨a2, .segRet b b2, c2⟩
  | segGen _ _ _ _ => intro f hh; cases f
  | segSuspOut q _ ih => intro f hh; obtain ⟨a, b, c⟩ := ih rfl hh; exact ⟨a, .segSuspOut q b, split_app c q⟩
  | segSuspGen q _ _ _ _ _ => intro f hh; rw [f] at q; cases q
theorem wakes_hide {Γ : Ctx} {p : Pos} {g : Nat} {r : Resume} {s s' : Shared} {res : GenResult} (h : Wakes M Γ p g r s res s') (hh : Hid act s) : Hid act s' ∧ Wakes M Γ p g r (fixS act s) res (fixS act s') := by
  unfold Wakes at h
  split at h
  · exact h.elim
  · rename_i c q
    have n := hh.other q rfl
    have q2 := fix_at (act := act) q
    rw [n] at q2
    split at h
    · obtain ⟨e₁, s₁, hr, h1, h2, rfl⟩ := h
      obtain ⟨a, b, d⟩ := runs_hide hr rfl (hh.set n (fun _ _ _ _ _ _ z => by cases z))
      rw [fix_setGen n] at b
      refine ⟨a.set n (gs_gf d), ?_⟩
      unfold Wakes
      rw [show (fixS act s).gens[g]? = some (.fresh c) from q2]
      exact ⟨e₁, _, b, h1, h2, fix_setGen n⟩
    · obtain ⟨h1, rfl⟩ := h
      refine ⟨hh, ?_⟩
      unfold Wakes
      rw [show (fixS act s').gens[g]? = some (.fresh c) from q2]
      rename_i v hv
      cases v <;> first | exact ⟨h1, rfl⟩ | exact absurd rfl hv
    · obtain ⟨h1, rfl⟩ := h
      refine ⟨hh.set n (fun _ _ _ _ _ _ z => by cases z), ?_⟩
      unfold Wakes
      rw [show (fixS act s).gens[g]? = some (.fresh c) from q2]
      exact ⟨h1, fix_setGen n⟩
  · rename_i k₀ l₀ c₀ p₀ fs cl q
    obtain ⟨e₁, s₁, hr, h1, h2, rfl⟩ := h
    cases n : act g with
    | some y =>
      exfalso
      obtain ⟨z1, z2⟩ := hh.d g y n
      rw [q] at z1
      cases y with
      | suspended k' l' c' p' fs' cl' =>
        have z := Option.some.inj z1
        have ek : k₀ = fun _ => .unsupported "hidden" := by injection z
        rw [ek] at hr
        exact no_run hr rfl
      | _ => cases z2
    | none =>
      have q2 := fix_at (act := act) q
      rw [n] at q2
      obtain ⟨a, b, d⟩ := runs_hide hr (hh.j _ _ _ _ _ _ _ q n) (hh.set n (fun _ _ _ _ _ _ z => by cases z))
      rw [fix_setGen n] at b
      refine ⟨a.set n (gs_gf d), ?_⟩
      unfold Wakes
      rw [show (fixS act s).gens[g]? = some (.suspended k₀ l₀ c₀ p₀ fs cl) from q2]
      exact ⟨e₁, _, b, h1, h2, fix_setGen n⟩
  · rename_i q
    obtain ⟨h1, rfl⟩ := h
    have q2 := fix_at (act := act) q
    rw [hh.other q rfl] at q2
    refine ⟨hh, ?_⟩
    unfold Wakes
    rw [show (fixS act s').gens[g]? = some .running from q2]
    exact ⟨h1, rfl⟩
  · rename_i q
    obtain ⟨h1, rfl⟩ := h
    have q2 := fix_at (act := act) q
    rw [hh.other q rfl] at q2
    refine ⟨hh, ?_⟩
    unfold Wakes
    rw [show (fixS act s').gens[g]? = some .finished from q2]
    exact ⟨h1, rfl⟩
theorem Hid.same {s s' : Shared} (h : Hid act s) (e : s'.gens = s.gens) : Hid act s' := h.gens rfl s' e
theorem wp_hide {α : Type} (Γ : Ctx) (t : Sem α) : ∀ (Q : α → Pos → Shared → Prop) (E : Value → Pos → Shared → Prop) (p : Pos) (s : Shared), Hid act s → wp M Γ t Q E p s →
    wp M Γ t (fun a p' s' => ∃ s₁, s' = fixS act s₁ ∧ Hid act s₁ ∧ Q a p' s₁) (fun e p' s' => ∃ s₁, s' = fixS act s₁ ∧ Hid act s₁ ∧ E e p' s₁) p (fixS act s) := by
  induction t with
  | pure a => intro Q E p s hh h; exact ⟨s, rfl, hh, h⟩
  | raise e => intro Q E p s hh h; exact ⟨s, rfl, hh, h⟩
  | unsupported _ => intro Q E p s _ h; exact h
  | finish _ => intro Q E p s _ h; exact h
  | rule _ k ih => intro Q E p s hh h; exact ih () Q E p s hh h
  | «at» p' k ih => intro Q E p s hh h; exact ih () Q E p' s hh h
  | load a _ k ih => intro Q E p s hh h; obtain ⟨o, ho, h⟩ := h; exact ⟨o, ho, ih o Q E p s hh h⟩
  | update a _ f k ih => intro Q E p s hh h; exact ⟨h.1, ih () Q E p { s with heap := s.heap.update a f } (hh.same rfl) h.2⟩
  | loadIfAlive a k ih => intro Q E p s hh h; exact ih _ Q E p s hh h
  | point _ k ih => intro Q E p s hh h; exact ih () Q E p s hh h
  | register _ _ => intro Q E p s _ h; exact h
  | alloc o k ih => intro Q E p s hh h; exact ih _ Q E p { s with heap := s.heap.push o } (hh.same rfl) h
  | fresh k ih => intro Q E p s hh h; exact ih _ Q E p { s with toks := s.toks + 1 } (hh.same rfl) h
  | ask k ih => intro Q E p s hh h; exact ih _ Q E p s hh h
  | choose src m k ih => intro Q E p s hh h; exact ⟨h.1, ih _ Q E p { s with drawn := s.drawn.bump src } (hh.same rfl) h.2⟩
  | os q _ k ih => intro Q E p s hh h; exact ih _ Q E p { s with os := (Os.step s.os q).1 } (hh.same rfl) h
  | call c hd _ _ k ih =>
    intro Q E p s hh h
    obtain ⟨r, s', hr, h⟩ := h
    obtain ⟨a, b, _⟩ := runs_hide hr rfl hh
    exact ⟨r, _, b, ih r Q E p s' a h⟩
  | handled own k ih => intro Q E p s hh h; exact ih _ Q E p s hh h
  | genState g k ih =>
    intro Q E p s hh h
    obtain ⟨st, hs, h⟩ := h
    refine ⟨_, fix_at (act := act) hs, ?_⟩
    rw [hh.seen hs]
    exact ih _ Q E p s hh h
  | newGen c k ih =>
    intro Q E p s hh h
    obtain ⟨h1, n⟩ := hh.push c
    have z := ih _ Q E p _ h1 h
    rw [fix_new n] at z
    show wp M Γ (k (fixS act s).gens.size) _ _ p _
    rw [fix_sizeS]
    exact z
  | resume g r _ k ih =>
    intro Q E p s hh h
    obtain ⟨res, s', hw, h⟩ := h
    obtain ⟨a, b⟩ := wakes_hide hw hh
    exact ⟨res, _, b, ih res Q E p s' a h⟩
  | yield _ _ _ _ => intro Q E p s _ h; exact h
  | stack k ih => intro Q E p s hh h; exact ih _ Q E p s hh h
  | fork _ _ => intro Q E p s _ h; exact h
  | thread k ih => intro Q E p s hh h; exact ih _ Q E p s hh h
  | await _ _ _ _ _ => intro Q E p s _ h; exact h
/-- the sleepers of a table -/
def actOf (G : Array GenState) (i : Nat) : Option GenState := match G[i]? with
  | some y => if slp y = true then some y else none
  | none => none
def deadG (G : Array GenState) : Array GenState := G.map dead
theorem act_some {G : Array GenState} {i : Nat} {y : GenState} (h : actOf G i = some y) : G[i]? = some y ∧ slp y = true := by
  unfold actOf at h
  split at h
  · rename_i z e
    split at h
    · rename_i hs
      cases h
      exact ⟨e, hs⟩
    · cases h
  · cases h
theorem hid_dead {s : Shared} : Hid (actOf s.gens) { s with gens := deadG s.gens } := by
  refine ⟨fun i y q => ?_, fun i k l c p fs cl q n => ?_⟩
  · obtain ⟨h1, h2⟩ := act_some q
    refine ⟨?_, h2⟩
    show (s.gens.map dead)[i]? = _
    rw [Array.getElem?_map, h1]; rfl
  · exfalso
    have q' : (s.gens.map dead)[i]? = some (.suspended k l c p fs cl) := q
    rw [Array.getElem?_map] at q'
    unfold actOf at n
    cases e : s.gens[i]? with
    | none => rw [e] at q'; cases q'
    | some y =>
      rw [e] at q' n
      cases y with
      | suspended => simp [slp] at n
      | _ => cases q'
theorem fix_dead {s : Shared} : fixS (actOf s.gens) { s with gens := deadG s.gens } = s := by
  have e : fixG (actOf s.gens) (deadG s.gens) = s.gens := by
    apply Array.ext_getElem?
    intro i
    unfold fixG deadG
    rw [Array.getElem?_mapIdx, Array.getElem?_map]
    cases e : s.gens[i]? with
    | none => rfl
    | some y =>
      show some ((actOf s.gens i).getD (dead y)) = some y
      unfold actOf
      rw [e]
      cases y <;> rfl
  show ({ s with gens := fixG (actOf s.gens) (deadG s.gens) } : Shared) = s
  rw [e]
/-- the sleepers of s sleep in s' as they did -/
def Sleep (s s' : Shared) : Prop := ∀ (i : Nat) (y : GenState), s.gens[i]? = some y → slp y = true → s'.gens[i]? = some y
theorem all_dead {G : Array GenState} : PyProof.Rows.AllBare (deadG G) := fun x hx => by
  obtain ⟨y, hy, rfl⟩ := Array.mem_map.mp hx
  exact bare_dead y
/-- what holds of a run whatever the table of generators is, holds with the sleepers kept -/
theorem run2 {α : Type} {A : Around} {t : Sem α} {Q : α → Shared → Prop} {E : Value → Shared → Prop} {s : Shared} (h : ∀ G, PyProof.Rows.AllBare G → G.size = s.gens.size → wpAny M A t Q E { s with gens := G }) :
    wpAny M A t (fun a s' => ∃ s₁ : Shared, s' = { s₁ with gens := s'.gens } ∧ Q a s₁ ∧ Sleep s s' ∧ s'.gens.size = s₁.gens.size ∧ (∀ (i : Nat) (x : GenState), s₁.gens[i]? = some x → slp x = false → s'.gens[i]? = some x) ∧ ∀ (i : Nat) (x : GenState), s'.gens[i]? = some x → s.gens[i]? = some x ∨ s₁.gens[i]? = some x) (fun e s' => ∃ s₁ : Shared, s' = { s₁ with gens := s'.gens } ∧ E e s₁ ∧ Sleep s s') s := fun Γ p hΓ => by
  have z := wp_hide (act := actOf s.gens) Γ t _ _ p _ hid_dead (h (deadG s.gens) all_dead (Array.size_map ..) Γ p hΓ)
  rw [fix_dead] at z
  have kept : ∀ {s₁ : Shared}, Hid (actOf s.gens) s₁ → Sleep s (fixS (actOf s.gens) s₁) := fun {s₁} hh i y e hy => by
    have ea : actOf s.gens i = some y := by unfold actOf; rw [e]; simp [hy]
    have h1 := fix_at (act := actOf s.gens) (hh.d i y ea).1
    rw [ea] at h1
    exact h1
  refine Sem.wp_mono M Γ t (fun a p' s' hs => ?_) (fun e p' s' hs => ?_) p s z
  · obtain ⟨s₁, rfl, hh, q⟩ := hs
    refine ⟨s₁, rfl, q, kept hh, fix_size _, fun i x e hx => ?_, fun i x e => ?_⟩
    · have h1 := fix_at (act := actOf s.gens) e
      rw [hh.other e hx] at h1
      exact h1
    · cases ha : actOf s.gens i with
      | some y =>
        left
        have h2 := kept hh i y (act_some ha).1 (act_some ha).2
        rw [h2] at e
        cases e
        exact (act_some ha).1
      | none =>
        right
        cases h3 : s₁.gens[i]? with
        | none =>
          have hsz : s₁.gens.size ≤ i := Array.getElem?_eq_none_iff.mp h3
          have : (fixS (actOf s.gens) s₁).gens[i]? = none := Array.getElem?_eq_none_iff.mpr (by show (fixG _ _).size ≤ i; rw [fix_size]; exact hsz)
          rw [this] at e; cases e
        | some y =>
          have h1 := fix_at (act := actOf s.gens) h3
          rw [ha] at h1
          exact h1.symm.trans e
  · obtain ⟨s₁, rfl, hh, q⟩ := hs
    exact ⟨s₁, rfl, q, kept hh⟩
end LP.Hid2
namespace LP.Lo
open PySem PySem.Spec L2
open PyProof.Rows hiding St
section
variable {M : Model} {A : Around} {c : Code} {fs : List Frame} {s : Shared} {Φ : End → Shared → Prop}
def genBase (base : List Frame) : Prop := ∃ g k l c p B, base = .gen g k l c p :: B
/-- from a wake (or amid one) to the next end -/
def Sg (M : Model) (A : Around) (c : Code) (t : Sem PySem.Fin) (fs : List Frame) (Φ : End → Shared → Prop) (s : Shared) : Prop :=
  ∀ (p : Pos) (base : List Frame), genBase base → (Ctx.of c base).Woken A → ∃ e s' x' c' p' pre', Red M s ⟨t, c, p, fs ++ base⟩ s' ⟨x', c', p', pre' ++ base⟩ ∧ Exits e x' c' p' pre' ∧ Φ e s'
theorem sg_wrap {α : Type} {m : Sem α} {K : α → Sem PySem.Fin} {H : Value → Sem PySem.Fin} {gd : Bool → Bool} {lv : List Value → List Value}
    (h : wp2 M (A.over c fs) m (fun a s' => Sg M A c (K a) fs Φ s') (fun x s' => Sg M A c (H x) fs Φ s') s) : Sg M A c (m.wrap K H gd lv) fs Φ s := by
  intro p base hb hw
  rcases h c p (fs ++ base) K H gd lv (by rw [Ctx.of_append]; exact hw.over fs) with ⟨a, p1, s1, q, r⟩ | ⟨a, p1, s1, q, r⟩
  · obtain ⟨e, s', x', c', p', pre', rd, hx, hq⟩ := q p1 base hb hw
    exact ⟨e, s', x', c', p', pre', r.trans rd, hx, hq⟩
  · obtain ⟨e, s', x', c', p', pre', rd, hx, hq⟩ := q p1 base hb hw
    exact ⟨e, s', x', c', p', pre', r.trans rd, hx, hq⟩
theorem sg_bind {α : Type} {m : Sem α} {K : α → Sem PySem.Fin} (h : wp2 M (A.over c fs) m (fun a s' => Sg M A c (K a) fs Φ s') (fun x s' => Sg M A c (.raise x) fs Φ s') s) : Sg M A c (m >>= K) fs Φ s := by
  rw [Sem.bind_eq_wrap']; exact sg_wrap h
theorem sg_at {p' : Pos} {k : Unit → Sem PySem.Fin} (h : Sg M A c (k ()) fs Φ s) : Sg M A c (.at p' k) fs Φ s :=
  sg_wrap (m := standAt p') (K := k) (H := .raise) (gd := id) (lv := id) (wp2_standAt h)
theorem sg_point {l : List Value} {k : Unit → Sem PySem.Fin} (h : Sg M A c (k ()) fs Φ s) : Sg M A c (.point l k) fs Φ s :=
  sg_wrap (m := point) (K := k) (H := .raise) (gd := id) (lv := fun _ => l) (lift (wpAny_point h))
theorem sg_call {c' : Code} {h : Option Value} {g : Bool} {l : List Value} {k : Result → Sem PySem.Fin} (hc : ∀ p, Sg M A c' (M.den c') (.ret k h g l c p [] :: fs) Φ s) : Sg M A c (.call c' h g l k) fs Φ s := by
  intro p base hb hw
  obtain ⟨e, s', x', c1, p', pre', rd, hx, hq⟩ := hc p p base hb (hw.goto c')
  exact ⟨e, s', x', c1, p', pre', .one (step_call ..) rd, hx, hq⟩
theorem sg_leaf {k : Result → Sem PySem.Fin} {h : Option Value} {g : Bool} {l : List Value} {c₁ : Code} {p₁ : Pos} {kp : List Value} (r : Result) (hk : Sg M A c₁ (k r) fs Φ s) : Sg M A c (leafOf r) (.ret k h g l c₁ p₁ kp :: fs) Φ s := by
  intro p base hb hw
  obtain ⟨e, s', x', c1, p', pre', rd, hx, hq⟩ := hk p₁ base hb (hw.goto c₁)
  exact ⟨e, s', x', c1, p', pre', .one (step_leaf_ret ..) rd, hx, hq⟩
theorem sg_again {c' : Code} (hq : c'.quiet = true) (hc : Sg M A c' (M.den c') fs Φ s) : Sg M A c (.pure (.again c')) fs Φ s := by
  intro p base hb hw
  obtain ⟨e, s', x', c1, p', pre', rd, hx, hΦ⟩ := hc p base hb (hw.goto c')
  exact ⟨e, s', x', c1, p', pre', .one (step_again _ _ _ _ _ _ hq) rd, hx, hΦ⟩
theorem sg_end (r : Result) (h : Φ (.ret r) s) : Sg M A c (leafOf r) [] Φ s := fun p base _ _ => ⟨.ret r, s, _, c, p, [], .here, ⟨rfl, rfl⟩, h⟩
theorem sg_yield {v : Value} {g : Bool} {l : List Value} {k : Resume → Sem PySem.Fin} (hfs : splitAtGen fs = none) (h : ∀ p, Φ (.susp v g l k c p fs) s) : Sg M A c (.yield v g l k) fs Φ s :=
  fun p base _ _ => ⟨.susp v g l k c p fs, s, _, c, p, fs, .here, ⟨rfl, rfl, rfl, rfl, hfs⟩, h p⟩
theorem Sg.imp {t : Sem PySem.Fin} {Φ' : End → Shared → Prop} (h : Sg M A c t fs Φ s) (hΦ : ∀ e s', Φ e s' → Φ' e s') : Sg M A c t fs Φ' s := fun p base hb hw =>
  let ⟨e, s', x', c1, p', pre', rd, hx, hq⟩ := h p base hb hw; ⟨e, s', x', c1, p', pre', rd, hx, hΦ e s' hq⟩
theorem Sg.of {t : Sem PySem.Fin} (h : Gn.SegD M A c t fs Φ s) : Sg M A c t fs Φ s := fun p base hb hw => by
  obtain ⟨e, s', hr, hq⟩ := h (Ctx.of c base) p rfl hw
  obtain ⟨x', c1, p', pre', rd, hx⟩ := red_reach (runs_reach hr base (Ctx.fits_of c base))
  exact ⟨e, s', x', c1, p', pre', rd, hx, hq⟩
/-- an end that the scheduler takes as it is -/
def Okay (e : End) (s : Shared) : Prop := e.quiet = true ∨ ∃ (v : Value) (l : List Value) (k : Resume → Sem PySem.Fin) (it : Addr) (r : List Value) (kw : List (Str × Value)) (p : Pos) (fs : List Frame) (o : Obj) (n : Nat),
  e = .susp v true l k (.builtin "proto.yield_from" ⟨.ref it :: r, kw⟩) p fs ∧ fs.any Frame.guarded = false ∧ s.heap.get? it = some o ∧ o.genNumber? = some n
theorem split_gen {fs : List Frame} {g : Nat} {k : GenResult → Sem PySem.Fin} {l : List Value} {c : Code} {p : Pos} {B : List Frame} (h : splitAtGen fs = none) : splitAtGen (fs ++ .gen g k l c p :: B) = some (fs, (g, k, c, p), B) := by
  rw [splitAtGen_append_none _ h, splitAtGen_gen]; simp
theorem red_end {e₁ : End} {x' : Sem PySem.Fin} {c' : Code} {p' : Pos} {pre' : List Frame} (g : Nat) (k : GenResult → Sem PySem.Fin) (l : List Value) (c : Code) (p : Pos) (B : List Frame) (hx : Exits e₁ x' c' p' pre') (hq : Okay e₁ s) :
    Red M s ⟨x', c', p', pre' ++ .gen g k l c p :: B⟩ (s.setGen g e₁.genState) ⟨k e₁.result, c, p, B⟩ := by
  rcases hq with hq | ⟨v, l', k', it, r, kw, p1, fs', o, n, rfl, hg, ho, hn⟩
  · exact red_woken g k l c p B hx hq
  · obtain ⟨rfl, rfl, rfl, rfl, hfs⟩ := hx
    refine .go (.inr ⟨v, l', k', it, r, kw, _, _, _, B, (g, k, c, p), o, n, rfl, split_gen hfs, hg, ho, hn⟩) ?_ .here
    show PySem.step M.den M.prog M.w s ⟨.yield v true l' k', _, _, _⟩ = _
    obtain ⟨heap, gens, drawn, toks, os⟩ := s
    simp only [PySem.step, split_gen hfs]
    rfl
/-- it is woken -/
def Goes2 (M : Model) (A : Around) (gs : GenState) (Φ : End → Shared → Prop) (s : Shared) : Prop :=
  match gs with
  | .fresh c => Sg M A c (M.den c) [] Φ s
  | .suspended k _ c _ fs _ => Sg M A c (k (.send .none)) fs Φ s
  | _ => False
theorem wp2_wake {α : Type} {E : Value → Shared → Prop} {g : Nat} {gs : GenState} {l : List Value} {k : GenResult → Sem α} {Q : α → Shared → Prop} (hg : s.gens[g]? = some gs) (hgo : Goes2 M A gs Φ (s.setGen g .running))
    (hq : ∀ e s₁, Φ e s₁ → Okay e s₁ ∧ wp2 M A (k e.result) Q E (s₁.setGen g e.genState)) : wp2 M A (.resume g (.send .none) l k) Q E s := by
  intro c p B K H gd lv hA
  have hW : ∀ c', (Ctx.of c' (.gen g (fun x => (k x).wrap K H gd lv) (lv l) c p :: B)).Woken A := fun c' => hA.wake c' p
  cases gs with
  | fresh c' =>
    obtain ⟨e, s1, x', c1, p', pre', rd, hx, hΦ⟩ := hgo p _ ⟨_, _, _, _, _, _, rfl⟩ (hW c')
    obtain ⟨q1, q2⟩ := hq e s1 hΦ
    exact red_or (fun r' => .one (step_resume_fresh _ _ _ _ _ _ _ hg) (rd.trans ((red_end _ _ _ _ _ _ hx q1).trans r'))) (q2 c p B K H gd lv hA)
  | suspended k₀ l₀ c₀ p₀ fs₀ cl =>
    obtain ⟨e, s1, x', c1, p', pre', rd, hx, hΦ⟩ := hgo p₀ _ ⟨_, _, _, _, _, _, rfl⟩ (hW c₀)
    obtain ⟨q1, q2⟩ := hq e s1 hΦ
    exact red_or (fun r' => .one (step_resume_suspended _ _ _ _ _ _ _ _ hg) (rd.trans ((red_end _ _ _ _ _ _ hx q1).trans r'))) (q2 c p B K H gd lv hA)
  | running => exact hgo.elim
  | finished => exact hgo.elim
end
section
variable {M : Model} {A : Around} {E : Value → Shared → Prop} {s : Shared}
/-- what a call's result must be -/
def want (Q : Value → Shared → Prop) (E : Value → Shared → Prop) (r : Result) (s' : Shared) : Prop := match r with
  | .ok (.ret v) => Q v s'
  | .ok _ => False
  | .error e => E e s'
theorem wp2_run {c : Code} {hd : Option Value} {Q : Flow → Shared → Prop} (hnb : hd ≠ some byPass) (h : code2 M (A.mark hd) c (fun r s' => match r with | .ok f => Q f s' | .error e => E e s') s) : wp2 M A (run c hd) Q E s := by
  unfold run
  refine wp2_callk hnb (code2_mono h fun r s' q => ?_)
  cases r with
  | ok f => exact lift (wpAny_pure q)
  | error e => exact lift (wpAny_throw q)
theorem mark_none2 : A.mark none = A := by cases A; rfl
theorem wp2_runValue {c : Code} {Q : Value → Shared → Prop} (h : code2 M A c (want Q E) s) : wp2 M A (runValue c) Q E s := by
  unfold runValue
  refine wp2_bind (wp2_run (hd := none) (by intro z; cases z) ?_)
  rw [mark_none2]
  refine code2_mono h fun r s' q => ?_
  cases r with
  | error e => exact q
  | ok f =>
    cases f with
    | ret v => exact wp2_pure q
    | next => exact q.elim
    | brk => exact q.elim
    | cont => exact q.elim
theorem wp2_call {f : Value} {pos : List Value} {kw : List (Str × Value)} {Q : Value → Shared → Prop} (h : code2 M A (.call f ⟨pos, kw⟩) (want Q E) s) : wp2 M A (call f pos kw) Q E s := wp2_runValue h
theorem wp2_callSpecial {self : Value} {T : String} {name : Str} {id : String} {args : List Value} {kw : List (Str × Value)} {Q : Option Value → Shared → Prop} (hT : s.TypeIs self T) (h : Slot T name id)
    (hc : wp2 M A (call (.builtin id) (self :: args) kw) (fun v => Q (some v)) E s) : wp2 M A (callSpecial? self name args kw) Q E s := by
  simp only [callSpecial?]
  refine wp2_bind (lift (wpAny_specialOf hT h.lookup ?_))
  simp only [h.bind]
  exact wp2_holding (wp2_bind (wp2_pure (wp2_bind (wp2_mono hc (fun v s' h' => wp2_pure h') fun _ _ h' => h'))))
end
section
variable {prog : Program} {w : World} {A : Around} {E : Value → Shared → Prop} {s : Shared} {R : Result → Shared → Prop}
/-- what the tree of a code must come to -/
def finP (M : Model) (A : Around) (R : Result → Shared → Prop) (fin : PySem.Fin) (s' : Shared) : Prop := match fin with
  | .done f => R (.ok f) s'
  | .again c' => c'.quiet = true ∧ code2 M A c' R s'
theorem code2_builtin {id : String} {args : Args} {b : Builtin} (hb : entryFor table id = some b) (h : wp2 (model prog w) (A.under (.builtin id args)) (b args) (finP (model prog w) A R) (fun e s' => R (.error e) s') s) : code2 (model prog w) A (.builtin id args) R s := by
  refine code2_of_tree ?_
  show wp2 _ _ (match entryFor table id with | some b => b args | none => unsupported ((withoutEnding? id "#data").getD id)) _ _ s
  rw [hb]
  exact wp2_mono h (fun fin s' q => by cases fin <;> exact q) fun _ _ q => q
theorem code2_builtinP {id : String} {args : Args} {b : Builtin} (hp : plainId id = true) (hb : entryFor table id = some b) (h : wp2 (model prog w) A.in1 (b args) (finP (model prog w) A R) (fun e s' => R (.error e) s') s) : code2 (model prog w) A (.builtin id args) R s :=
  code2_builtin hb (by rw [Around.under_plainId hp args]; exact h)
theorem under_call {f : Value} {a : Args} : A.under (.call f a) = A.in1 := Around.under_plain (by first | rfl | simp [Code.weight, Code.frames, Code.isFrame, Code.isCreation, Code.isGuard, Code.isCaller]) (by first | rfl | simp [Code.cUnits, Code.frames, Code.isFrame])
/-- a builtin that is called: looked at, then it runs -/
theorem code2_call_builtin {id : String} {args : Args} {b : Builtin} (hp : plainId id = true) (hb : entryFor table id = some b)
    (h : wp2 (model prog w) A.in1 (checkBuiltinCall id args) (fun _ s₁ => wp2 (model prog w) A.in1 (b args) (finP (model prog w) A R) (fun e s' => R (.error e) s') s₁) (fun e s' => R (.error e) s') s) : code2 (model prog w) A (.call (.builtin id) args) R s := by
  refine code2_of_tree ?_
  rw [under_call]
  show wp2 _ A.in1 (do checkBuiltinCall id args; again (.builtin id args)) _ _ s
  refine wp2_bind (wp2_mono h (fun _ s₁ h₁ => wp2_pure ?_) fun _ _ q => q)
  exact ⟨plainId_quiet hp args, code2_builtinP hp hb h₁⟩
theorem wp2_call_entry {T : String} {name : Str} {id : String} {b : Builtin} {self : Value} {rest : List Value} {Q : Value → Shared → Prop} (h : Slot T name id) (hT : s.TypeIs self T) (hb : entryFor table id = some b)
    (hc : wp2 (model prog w) A.in1 (b ⟨self :: rest, []⟩) (fun fin s' => ∃ v, fin = .done (.ret v) ∧ Q v s') E s) (ha : argsOk id ⟨self :: rest, []⟩ := by rfl) : wp2 (model prog w) A (call (.builtin id) (self :: rest)) Q E s := by
  refine wp2_call (code2_call_builtin h.plain hb (lift (h.check _ _ _ _ _ _ _ _ hT ha (wp2_mono hc (fun fin s' h' => ?_) fun _ _ h' => h'))))
  obtain ⟨v, rfl, hv⟩ := h'
  exact hv
def GenO (o : Obj) (g : Nat) : Prop := ∃ nm qn, o.cls = .type "generator" ∧ o.data = .fields #[.int g 0, nm, qn]
/-- no delegator sleeps over it -/
def zs (o : Obj) : Prop := o.slots = #[] ∨ o.slots = #[some (rawInt 0)]
def slN (n : Int) (o : Obj) : Obj := { o with slots := #[some (rawInt n)] }
theorem GenO.slN {o : Obj} {g : Nat} (h : GenO o g) (n : Int) : GenO (slN n o) g := h
theorem zs_sl0 {o : Obj} : zs (slN 0 o) := .inr rfl
theorem GenO.num {o : Obj} {g : Nat} (h : GenO o g) : o.genNumber? = some g := by
  obtain ⟨nm, qn, hc, hd⟩ := h
  unfold Obj.genNumber?
  rw [hc, hd]
  show some ((g : Int).toNat) = _
  rw [Int.toNat_natCast]
theorem wpAny_numZ {M : Model} {a : Addr} {o : Obj} {g : Nat} {Q : Nat → Shared → Prop} (ho : s.heap.get? a = some o) (hg : GenO o g) (hz : zs o) (h : Q g s) : wpAny M A (Builtin.Generator.genNumber (.ref a)) Q E s := by
  obtain ⟨nm, qn, _, hd⟩ := hg
  unfold Builtin.Generator.genNumber
  refine wpAny_bind (wpAny_load ho ?_)
  have z : wpAny M A (pure ((g : Int).toNat) : Sem Nat) Q E s := by rw [Int.toNat_natCast]; exact wpAny_pure h
  rcases hz with hz | hz
  · rw [hz, hd]; exact z
  · rw [hz, hd]; exact z
theorem wpAny_slept {M : Model} {a : Addr} {o : Obj} {g : Nat} {b : Bool} {n : Int} {Q : Unit → Shared → Prop} (ho : s.heap.get? a = some o) (hg : GenO o g) (hn : b = true ∧ zs o ∧ n = 1 ∨ b = false ∧ (∃ o', o = slN 1 o') ∧ n = 0)
    (h : ∀ h', h'.get? a = some (slN n o) → (∀ b o', b ≠ a → s.heap.get? b = some o' → h'.get? b = some o') → Q () { s with heap := h' }) : wpAny M A (Builtin.Generator.sleptOver (.ref a) b) Q E s := by
  obtain ⟨nm, qn, hc, hd⟩ := hg
  have e : Builtin.Generator.sleptOver (.ref a) b = (load a >>= fun o => if o.cls != .type "generator" then pure () else setSlotAt a 0 (some (rawInt (if b then (match (o.slots[0]? : Option (Option Value)) with | some (some (Value.int n _)) => n | _ => 0) + 1 else (match (o.slots[0]? : Option (Option Value)) with | some (some (Value.int n _)) => n | _ => 0) - 1)))) := rfl
  rw [e]
  refine wpAny_bind (wpAny_load ho ?_)
  rw [hc, if_neg (by decide)]
  have key : ∀ v : Int, v = n → (o.slots.size = 0 ∨ o.slots.size = 1) → wpAny M A (setSlotAt a 0 (some (rawInt v))) Q E s := fun v hv hs => by
    subst hv
    unfold setSlotAt
    dsimp only
    rw [if_neg (by rw [sizeLine_eq]; omega)]
    refine wpAny_updatePart ho (h _ ?_ fun b o' nb e => (Heap.get?_update_other _ _ (Ne.symm nb)).trans e)
    have fr : ({ o with slots := (o.slots ++ Array.replicate (0 + 1 - o.slots.size) none).setIfInBounds 0 (some (rawInt v)) } : Obj) = slN v o := by
      unfold slN
      congr 1
      rcases hs with hs | hs
      · have : o.slots = #[] := Array.eq_empty_of_size_eq_zero hs
        rw [this]; rfl
      · obtain ⟨x, hx⟩ : ∃ x, o.slots = #[x] := by
          obtain ⟨x, hx⟩ := List.length_eq_one_iff.mp (show o.slots.toList.length = 1 by simpa using hs)
          exact ⟨x, by rw [← Array.toArray_toList (xs := o.slots), hx]⟩
        rw [hx]; rfl
    have z := Heap.get?_update_self (fun o : Obj => { o with slots := (o.slots ++ Array.replicate (0 + 1 - o.slots.size) none).setIfInBounds 0 (some (rawInt v)) }) ho (Obj.isFreed_of_fields hd)
    rw [z]; exact congrArg some fr
  rcases hn with ⟨rfl, hz, rfl⟩ | ⟨rfl, ⟨o', rfl⟩, rfl⟩
  · rcases hz with hz | hz
    · rw [hz]; exact key 1 rfl (.inl (by rw [hz]; rfl))
    · rw [hz]; exact key 1 rfl (.inr (by rw [hz]; rfl))
  · exact key 0 rfl (.inr rfl)
/-- g.__next__() -/
theorem cs2 {P : Program} {a : Addr} {go : Obj} {g : Nat} {gs : GenState} {Φ : End → Shared → Prop} {Q : Option Value → Shared → Prop} (hh : A.handled = none)
    (hl : s.heap.NoLimit) (hroom : A.depth < recursionLimit) (ho : s.heap.get? a = some go) (hg : GenO go g) (hz : zs go) (hgs : s.gens[g]? = some gs)
    (hgo : Goes2 (model P w) A.in1 gs Φ (s.setGen g .running))
    (hq : ∀ e s₁, Φ e s₁ → (∃ v b l k c p fs, e = .susp v b l k c p fs ∧ Okay e s₁ ∧ Q (some v) (s₁.setGen g e.genState)) ∨
      ((e = .ret (.ok (.ret .none)) ∨ e = .ret (.ok .next)) ∧ ∀ x h', StopX x h' → (∀ b o, s₁.heap.get? b = some o → h'.get? b = some o) → E x { s₁.setGen g .finished with heap := h' })) :
    wp2 (model P w) A (callSpecial? (.ref a) "__next__") Q E s := by
  have hT : s.TypeIs (.ref a) "generator" := ⟨go, ho, let ⟨_, _, hc, _⟩ := hg; hc⟩
  refine wp2_callSpecial (name := Str.ofString "__next__") hT slot_gen_next (wp2_call_entry slot_gen_next hT entry_gen_next ?_ (args_gen_next _))
  show wp2 _ A.in1 (Builtin.Generator.genWake (.ref a) (.send .none)) _ _ s
  unfold Builtin.Generator.genWake
  refine wp2_bind (wp2_holding (lift (wpAny_numZ ho hg hz ?_)))
  refine wp2_bind (lift (wpAny_genState hgs ?_))
  cases gs with
  | running => exact hgo.elim
  | finished => exact hgo.elim
  | _ =>
    refine wp2_bind (lift (wpAny_roomToWake hl hroom ?_))
    show wp2 _ A.in1 (.resume g (.send .none) [] _) _ _ s
    refine wp2_wake hgs hgo fun e s₁ he => ?_
    rcases hq e s₁ he with ⟨v, b, l, k, c, p, fs, rfl, hqt, hQ⟩ | ⟨hr, hp⟩
    · exact ⟨hqt, wp2_pure ⟨v, rfl, hQ⟩⟩
    · have hres : e.quiet = true ∧ e.result = .returned .none ∧ e.genState = .finished := by
        rcases hr with hr | hr <;> rw [hr] <;> exact ⟨rfl, rfl, rfl⟩
      obtain ⟨hqt, hres, hfin⟩ := hres
      refine ⟨.inl hqt, ?_⟩
      rw [hfin]
      first | rw [hres] | simp only [hres]
      refine lift ?_
      show wpAny _ A.in1 (newExc (.type "StopIteration") [] >>= _) _ _ _
      refine wpAny_bind ?_
      simp only [newExc, newTuple]
      refine wpAny_bind (wpAny_newObj_type ?_ (by size_fits))
      refine wpAny_bind (m := firstArgMember _ _) (wpAny_of_eq (a := Value.none) (by first | rfl | (simp only [firstArgMember]; rfl)) ?_)
      refine wpAny_newObj_type ?_ (by size_fits)
      simp only [raiseNew]
      refine wpAny_bind (wpAny_bind (wpAny_handled ?_))
      first | rw [show A.in1.handled = none from hh] | rw [hh]
      refine wpAny_throw ?_
      refine hp _ _ ⟨_, _, _, rfl, Heap.get?_push_size _ rfl, rfl, rfl, ?_⟩ fun b o hb => Heap.get?_push_of_some _ (Heap.get?_push_of_some _ hb)
      first
        | rfl
        | (rw [Array.getElem?_append_left (by decide)]; rfl)
        | kernel_rfl
end
end LP.Lo
namespace LP.Lo
open PySem PySem.Spec L2
open PyProof.Rows hiding St
open LP.Gn (GD WD cutH cut_get cut_some cut_size cut_frames gx GOk allV allV_get look_loc)
/-- the state with no generator in it -/
abbrev nog (s : Shared) : Shared := { s with gens := #[] }
theorem nog_of {s s₁ : Shared} (h : s = { s₁ with gens := s.gens }) : nog s = nog s₁ := by rw [h]
abbrev KpL := LP.Gn.Kp
/-- all that may be to be closed is among these -/
def TbL (kg : List (Nat × GenState)) (s : Shared) : Prop := ∀ (i : Nat) (x : GenState), s.gens[i]? = some x → x.bare = true ∨ ∃ q ∈ kg, q.1 = i
/-- a sleeper that the scheduler may forget; po: what is known of its objects -/
def FairG (gs : GenState) (po : List (Addr × Obj)) : Prop := gs.bare = true ∨ ∃ (k : Resume → Sem PySem.Fin) (l : List Value) (it : Addr) (r : List Value) (kw : List (Str × Value)) (p : Pos) (fs : List Frame) (o : Obj) (n : Nat),
  gs = .suspended k l (.builtin "proto.yield_from" ⟨.ref it :: r, kw⟩) p fs true ∧ fs.any Frame.guarded = false ∧ (it, o) ∈ po ∧ o.genNumber? = some n
theorem FairG.mono {gs : GenState} {po po' : List (Addr × Obj)} (h : FairG gs po) (hp : ∀ p ∈ po, p ∈ po') : FairG gs po' := by
  rcases h with h | ⟨k, l, it, r, kw, p, fs, o, n, e, h1, h2, h3⟩
  · exact .inl h
  · exact .inr ⟨k, l, it, r, kw, p, fs, o, n, e, h1, hp _ h2, h3⟩
def OkP (e : End) (po : List (Addr × Obj)) : Prop := e.quiet = true ∨ ∃ (v : Value) (l : List Value) (k : Resume → Sem PySem.Fin) (it : Addr) (r : List Value) (kw : List (Str × Value)) (p : Pos) (fs : List Frame) (o : Obj) (n : Nat),
  e = .susp v true l k (.builtin "proto.yield_from" ⟨.ref it :: r, kw⟩) p fs ∧ fs.any Frame.guarded = false ∧ (it, o) ∈ po ∧ o.genNumber? = some n
theorem OkP.okay {e : End} {po : List (Addr × Obj)} {s : Shared} (h : OkP e po) (hp : ∀ p ∈ po, s.heap.get? p.1 = some p.2) : Okay e s := by
  rcases h with h | ⟨v, l, k, it, r, kw, p, fs, o, n, e, h1, h2, h3⟩
  · exact .inl h
  · exact .inr ⟨v, l, k, it, r, kw, p, fs, o, n, e, h1, hp _ h2, h3⟩
theorem OkP.fair {e : End} {po : List (Addr × Obj)} (h : OkP e po) : FairG e.genState po := by
  rcases h with h | ⟨v, l, k, it, r, kw, p, fs, o, n, rfl, h1, h2, h3⟩
  · exact .inl (End.bare_of_quiet h)
  · exact .inr ⟨k, l, it, r, kw, p, fs, o, n, rfl, h1, h2, h3⟩
theorem tb_set {kg : List (Nat × GenState)} {s : Shared} {g : Nat} {x : GenState} (h : TbL kg s) (hx : x.bare = true ∨ ∃ q ∈ kg, q.1 = g) : TbL kg (s.setGen g x) := fun i y e => by
  by_cases z : i = g
  · subst z
    have e' : (s.gens.setIfInBounds i x)[i]? = some y := e
    rw [Array.getElem?_setIfInBounds_self] at e'
    split at e'
    · cases e'; exact hx
    · cases e'
  · have e' : (s.gens.setIfInBounds g x)[i]? = some y := e
    rw [Array.getElem?_setIfInBounds_ne (Ne.symm z)] at e'
    exact h i y e'
theorem TbL.mono {kg kg' : List (Nat × GenState)} {s : Shared} (h : TbL kg s) (hk : ∀ q ∈ kg, ∃ q' ∈ kg', q'.1 = q.1) : TbL kg' s := fun i x e => (h i x e).imp id fun ⟨q, hq, z⟩ => let ⟨q', h1, h2⟩ := hk q hq; ⟨q', h1, h2.trans z⟩
/-- it may be woken: po are its own objects, pg the generators that it walks itself -/
structure Rdy (G : GD) (d : WD) (po : List (Addr × Obj)) (pg : List (Nat × GenState)) : Prop where
  room : Room (G.k + 1) d.A
  gd : d.A.guards = some []
  e0 : Env0 G.P G.w G.K G.mg G.base d.A G.outer (nog d.s) d.H
  same : Same d.F d.H
  so : SOk G.K d.F d.M d.H
  pn : ∀ p ∈ d.pn, d.s.heap.get? p.1 = some p.2 ∧ d.H p.1 = none ∧ p.1 ∉ frs G.outer ∧ ∀ v, p.2.data ≠ .cell v
  ko : ∀ p ∈ po, d.s.heap.get? p.1 = some p.2 ∧ d.H p.1 = none
  dis : ∀ p ∈ d.pn, ∀ q ∈ po, p.1 ≠ q.1
  kk : KpL (d.kg ++ pg) d.s
  ng : ∀ q ∈ d.kg, q.1 ≠ G.g
  dg : ∀ q ∈ d.kg, ∀ p ∈ pg, q.1 ≠ p.1
  sz : G.g < d.s.gens.size
  cm : G.C d.M
  tb : TbL (d.kg ++ pg) d.s
/-- behind a wake -/
structure Aft (G : GD) (d : WD) (po : List (Addr × Obj)) (pg : List (Nat × GenState)) (s : Shared) (H F : Hp) : Prop where
  os : s.os = d.s.os
  un : Un (frs G.outer) [] d.H H (cutH G.n0 d.s.heap) s.heap
  hok : HOk G.P G.w H s.heap
  fin : Fin G.K d.F d.M d.H F d.M H
  pn : ∀ p ∈ d.pn, s.heap.get? p.1 = some p.2 ∧ H p.1 = none
  ko : ∀ p ∈ po, s.heap.get? p.1 = some p.2 ∧ H p.1 = none ∧ p.1 ∉ frs G.outer ∧ (∀ v, p.2.data ≠ .cell v) ∧ (∀ q ∈ d.pn, q.1 ≠ p.1) ∧ G.n0 ≤ p.1
  kk : KpL (d.kg ++ pg) s
  pgs : ∀ q ∈ pg, G.g < q.1 ∧ ∀ p ∈ d.kg, p.1 ≠ q.1
  sz : G.g < s.gens.size
  tb : TbL (d.kg ++ pg) s
  pf : ∀ q ∈ pg, FairG q.2 po
/-- what is still to be yielded -/
def Fut (G : GD) : List D → WD → End → Shared → Prop
  | [], d, e, s => (e = .ret (.ok (.ret .none)) ∨ e = .ret (.ok .next)) ∧ ∃ H F, Aft G d [] [] s H F
  | x :: r, d, e, s => ∃ v b l k c p fs, e = .susp v b l k c p fs ∧ ∃ po pg H F u, OkP e po ∧ Aft G d po pg s H F ∧ RelV u v ∧ Rp G.K F u x ∧
      ∀ d2, Rdy G d2 po pg → Same F d2.F → Sg (model G.P G.w) d2.A c (k (.send .none)) fs (Fut G r d2) d2.s
/-- amid a wake: ip are its iterators, kg the generators that it walks -/
structure GInv0 (G : GD) (d : WD) (ip : List (Addr × Obj)) (kg : List (Nat × GenState)) (s : Shared) (σ : St) (H F : Hp) (en : En) : Prop where
  ok : GOk G
  room : Room (G.k + 1) d.A
  gd : d.A.guards = some []
  inv : Inv (gx G d) ip σ H (nog s)
  rs : RS G.K (prv d.F d.M d.H) F en σ H
  sm : Same d.F F
  m : en.M = d.M
  kk : KpL (d.kg ++ kg) s
  pgs : ∀ q ∈ kg, G.g < q.1 ∧ ∀ p ∈ d.kg, p.1 ≠ q.1
  ng : ∀ q ∈ d.kg, q.1 ≠ G.g
  dis : ∀ p ∈ d.pn, ∀ q ∈ ip, p.1 ≠ q.1
  sz : G.g < s.gens.size
  n0 : G.n0 ≤ d.s.heap.objs.size
  nip : ∀ q ∈ ip, G.n0 ≤ q.1
  kf : ∀ q ∈ kg, FairG q.2 ip
/-- .. and the table tells no more -/
structure GInv (G : GD) (d : WD) (ip : List (Addr × Obj)) (kg : List (Nat × GenState)) (s : Shared) (σ : St) (H F : Hp) (en : En) : Prop extends GInv0 G d ip kg s σ H F en where
  tb : TbL (d.kg ++ kg) s
section
variable {G : GD} {d : WD} {ip : List (Addr × Obj)} {kg : List (Nat × GenState)} {s : Shared} {σ : St} {H F : Hp} {en : En}
theorem GInv0.roomX (I : GInv0 G d ip kg s σ H F en) : Room G.k (gx G d).A := I.room.deeper _
theorem GInv0.gdX (I : GInv0 G d ip kg s σ H F en) : (gx G d).A.guards = some [] := I.gd
/-- the frame's own dict -/
theorem GInv0.loc (I : GInv0 G d ip kg s σ H F en) : ∃ o, s.heap.get? G.n0 = some o ∧ ∀ v, o.data ≠ .cell v := by
  obtain ⟨m, ⟨o, es, ep, ho, hd, _⟩, _⟩ := I.inv.loc
  exact ⟨o, ho, fun v z => by rw [hd] at z; cases z⟩
theorem GInv0.fin (I : GInv0 G d ip kg s σ H F en) : Fin G.K d.F d.M d.H F d.M H := by
  have e := I.m
  refine ⟨I.sm, I.rs.same, by rw [← e]; exact I.rs.sto, fun q o h1 h2 h3 => ?_⟩
  have z := I.rs.prv q o (prv_of h1 h2 h3)
  rw [e] at z; exact z
/-- .. it yields here -/
theorem GInv.aft (I : GInv G d ip kg s σ H F en) {o : Obj} (ho : s.heap.get? G.n0 = some o) : Aft G d ((G.n0, o) :: ip) kg s H F where
  os := I.inv.os
  un := I.inv.base
  hok := I.inv.hok
  fin := I.fin
  pn := fun p hp => let ⟨a, b, _⟩ := I.inv.pin p (List.mem_append_left _ hp); ⟨a, b⟩
  ko := fun p hp => by
    rcases List.mem_cons.mp hp with z | z
    · rw [z]
      obtain ⟨o', ho', hc⟩ := I.loc
      have eo : o' = o := by have := ho'.symm.trans ho; exact Option.some.inj this
      subst eo
      exact ⟨ho, I.inv.free, I.ok.out, hc, fun q hq => (I.inv.pin q (List.mem_append_left _ hq)).2.2.1, Nat.le_refl _⟩
    · obtain ⟨a, b, _, c, e⟩ := I.inv.pin p (List.mem_append_right _ z)
      exact ⟨a, b, c, e, fun q hq => I.dis q hq p z, I.nip p z⟩
  kk := I.kk
  pgs := I.pgs
  sz := I.sz
  tb := I.tb
  pf := fun q hq => (I.kf q hq).mono fun p hp => List.mem_cons_of_mem _ hp
/-- .. it ends here -/
theorem GInv.aft0 (I : GInv G d ip [] s σ H F en) : Aft G d [] [] s H F where
  os := I.inv.os
  un := I.inv.base
  hok := I.inv.hok
  fin := I.fin
  pn := fun p hp => let ⟨a, b, _⟩ := I.inv.pin p (List.mem_append_left _ hp); ⟨a, b⟩
  ko := fun p hp => by cases hp
  kk := I.kk
  pgs := fun q hq => by cases hq
  sz := I.sz
  tb := I.tb
  pf := fun q hq => by cases hq
/-- the frame as it stands, at a wake -/
theorem ginv_of {d2 : WD} {o : Obj} {sl : List Sl} (ok : GOk G) (r : Rdy G d2 ((G.n0, o) :: ip) kg)
    (loc : ∃ m, d2.s.heap.Ns G.n0 m ∧ ∀ (i : Nat) (x : Str) (v : V), G.N[i]? = some x → σ[i]? = some (some v) → Vis G.scope x → ∃ u, RelV v u ∧ G.env.kindOf x = some .local ∧ m x = some u) (len : σ.length = G.N.length)
    (ipf : ∀ p ∈ ip, p.1 ≠ G.n0 ∧ p.1 ∉ L2.frs G.outer ∧ (∀ v, p.2.data ≠ .cell v) ∧ G.n0 ≤ p.1) (kgf : ∀ q ∈ kg, G.g < q.1) (kf : ∀ q ∈ kg, FairG q.2 ip) (lv : sl.length = σ.length) (vals : ∀ (i : Nat) (x : D), sl[i]? = some (.v x) → ∃ v, σ[i]? = some (some v) ∧ Rp G.K d2.F v x) (hv : allV sl = true) :
    GInv G d2 ip kg d2.s σ d2.H d2.F ⟨sl, d2.M⟩ := by
  obtain ⟨h1, h2⟩ := r.ko (G.n0, o) List.mem_cons_self
  have hlt : G.n0 < d2.s.heap.objs.size := Heap.lt_size h1
  have hsz : (cutH G.n0 d2.s.heap).objs.size = G.n0 := cut_size (Nat.le_of_lt hlt)
  have nocell : ∀ (x : Str) (c : Addr), G.env.cells.lookup x = some c → False := fun x c e => by rw [LP.Gn.GOk.cells ok x] at e; cases e
  have neL : ∀ p ∈ d2.pn, p.1 ≠ G.n0 := fun p hp => r.dis p hp (G.n0, o) List.mem_cons_self
  refine ⟨⟨ok, r.room, r.gd, ⟨⟨ok.mod, ok.kind, rfl, rfl, ?_, fun x y c e => (nocell x c e).elim, fun x hx => ?_, fun x c _ e => (nocell x c e).elim, fun _ => r.room.hd, Around.frames_deeper r.e0.frames, .inr ⟨rfl, rfl⟩, fun b z => (by cases z),
      fun b ob e => ?_, ?_, fun b _ _ z => (by cases z), fun b z => (by cases z), cut_frames ok.frs r.e0.funs, r.e0.frf⟩,
    rfl, r.e0.bare, Un.kept fun b u e => (cut_some e).2, ?_, fun x c e => (nocell x c e).elim, h2, fun x c e => (nocell x c e).elim, fun p hp => ?_, r.e0.hok, len⟩, ⟨r.same, fun p ob e => prv_some e, lv, fun i x hx => vals i x hx, fun i x hx ho2 => ?_, fun i j p x y _ hx _ ho2 => ?_, r.so⟩, Same.refl _, rfl, r.kk, fun q hq => ⟨kgf q hq, fun p hp => r.dg p hp q hq⟩, r.ng, fun p hp q hq => r.dis p hp q (List.mem_cons_of_mem _ hq), r.sz, Nat.le_of_lt hlt, fun q hq => (ipf q hq).2.2.2, kf⟩, r.tb⟩
  · show (cutH G.n0 d2.s.heap).objs.size ≤ G.n0
    rw [hsz]; exact Nat.le_refl _
  · exact (hx.elim (ok.nofree x).1 (ok.nofree x).2).elim
  · have hb : b < G.n0 := Nat.lt_of_lt_of_le (Heap.lt_size e) ok.bsz
    exact ⟨by show (cutH G.n0 d2.s.heap).get? b = _; rw [cut_get hb]; exact (r.e0.bs b ob e).1, (r.e0.bs b ob e).2⟩
  · show G.base.objs.size ≤ (cutH G.n0 d2.s.heap).objs.size
    rw [hsz]; exact ok.bsz
  · obtain ⟨m, hn, hl⟩ := loc
    refine ⟨m, hn, fun i x v e1 e2 e3 => ?_⟩
    obtain ⟨u, ru, l⟩ := hl i x v e1 e2 e3
    exact ⟨u, ru, .inl l⟩
  · rcases List.mem_append.mp hp with z | z
    · obtain ⟨a, b, c, e⟩ := r.pn p z
      exact ⟨a, b, neL p z, c, e⟩
    · obtain ⟨c, e, q, _⟩ := ipf p z
      obtain ⟨a, b⟩ := r.ko p (List.mem_cons_of_mem _ z)
      exact ⟨a, b, c, e, q⟩
  · have := allV_get hv hx
    rw [this] at ho2; cases ho2
  · have := allV_get hv hx
    rw [this] at ho2; cases ho2
/-- .. it is woken again -/
theorem GInv.wake (I : GInv G d ip kg s σ H F en) {o : Obj} (ho : s.heap.get? G.n0 = some o) (hv : allV en.sl = true) {d2 : WD} (r : Rdy G d2 ((G.n0, o) :: ip) kg) (sF : Same F d2.F) :
    GInv G d2 ip kg d2.s σ d2.H d2.F ⟨en.sl, d2.M⟩ := by
  obtain ⟨h1, _⟩ := r.ko (G.n0, o) List.mem_cons_self
  refine ginv_of I.ok r ?_ I.inv.len (fun p hp => ?_) (fun q hq => (I.pgs q hq).1) I.kf I.rs.len (fun i x hx => ?_) hv
  · obtain ⟨m, hn, hl⟩ := I.inv.loc
    refine ⟨m, hn.at' fun o' e => ?_, fun i x v e1 e2 e3 => ?_⟩
    · have e' : s.heap.get? G.n0 = some o' := e
      rw [ho] at e'; cases e'; exact h1
    · obtain ⟨u, ru, l⟩ := hl i x v e1 e2 e3
      exact ⟨u, ru, look_loc (LP.Gn.GOk.cells I.ok) l⟩
  · obtain ⟨_, _, c, e, q⟩ := I.inv.pin p (List.mem_append_right _ hp)
    exact ⟨c, e, q, I.nip p hp⟩
  · obtain ⟨v, a, b⟩ := I.rs.val i x hx
    exact ⟨v, a, b.mono sF⟩
end
end LP.Lo
namespace LP.Lo
open PySem PySem.Spec L2
open PyProof.Rows hiding St
open LP.Gn (GD WD cutH cut_get cut_some cut_size cut_frames gx GOk allV allV_get look_loc RF GEn MY Der rais_f yPl yNil ySeq yIf yTk yYield forY yFor forHead wpAny_forHead turnHead wpAny_turnHead onward)
/-- what a step that needs no sleeper leaves of the table -/
structure Stays (s s' : Shared) : Prop where
  sl : Hid2.Sleep s s'
  sz : s.gens.size ≤ s'.gens.size
  nb : ∀ (i : Nat) (x : GenState), s'.gens[i]? = some x → s.gens[i]? = some x ∨ x.bare = true
theorem slp_eq {x : GenState} (h : Hide.slp x = true) : Hid2.slp x = true := by cases x <;> first | rfl | cases h
theorem kp_stays {kg : List (Nat × GenState)} {s s' : Shared} (h : KpL kg s) (sl : Stays s s') : KpL kg s' := fun q hq => ⟨sl.sl q.1 q.2 (h q hq).1 (slp_eq (h q hq).2), (h q hq).2⟩
theorem tb_stays {kg : List (Nat × GenState)} {s s' : Shared} (h : TbL kg s) (sl : Stays s s') : TbL kg s' := fun i x e => by
  rcases sl.nb i x e with z | z
  · exact h i x z
  · exact .inl z
theorem Stays.trans {s s₁ s' : Shared} (a : Stays s s₁) (b : Stays s₁ s') : Stays s s' := ⟨fun i y e h => b.sl i y (a.sl i y e h) h, Nat.le_trans a.sz b.sz, fun i x e => by
  rcases b.nb i x e with z | z
  · exact a.nb i x z
  · exact .inr z⟩
/-- it does not look at the table of generators -/
def Cl2 {α : Type} (Q : α → Shared → Prop) : Prop := ∀ (a : α) (s : Shared), Q a s → Q a (nog s) ∧ AllBare s.gens
theorem bare0 : AllBare (#[] : Array GenState) := fun x hx => by cases hx; rename_i h; cases h
theorem inv_nog {X : Cx} {pins : List (Addr × Obj)} {σ : St} {H : Hp} {s : Shared} (I : Inv X pins σ H s) : Inv X pins σ H (nog s) := LP.Gn.inv_gens I bare0
theorem cl2_SP {X : Cx} {pins : List (Addr × Obj)} {D : Ends} : Cl2 (SP X pins D) := fun f s q => by
  cases f with
  | next => obtain ⟨a, b, I, r⟩ := q; exact ⟨⟨a, b, inv_nog I, r⟩, I.bare⟩
  | brk => obtain ⟨a, b, I, r⟩ := q; exact ⟨⟨a, b, inv_nog I, r⟩, I.bare⟩
  | cont => obtain ⟨a, b, I, r⟩ := q; exact ⟨⟨a, b, inv_nog I, r⟩, I.bare⟩
  | ret u => obtain ⟨v, a, b, I, r⟩ := q; exact ⟨⟨v, a, b, inv_nog I, r⟩, I.bare⟩
theorem cl2_EP {X : Cx} {pins : List (Addr × Obj)} {σ : St} {Q : VK} : Cl2 (EP X pins σ Q) := fun f s q => by
  obtain ⟨a, b, I, r⟩ := q; exact ⟨⟨a, b, inv_nog I, r⟩, I.bare⟩
theorem cl2_TP {X : Cx} {pins : List (Addr × Obj)} {σ : St} {Q : Bool → Hp → Prop} : Cl2 (TP X pins σ Q) := fun f s q => by
  obtain ⟨b, I, r⟩ := q; exact ⟨⟨b, inv_nog I, r⟩, I.bare⟩
theorem cl2_PIE {X : Cx} {pins : List (Addr × Obj)} {σ : St} {tg : Expr} {R : It → Hp → Prop} : Cl2 (PIE X pins σ tg R) := fun f s q => by
  obtain ⟨it, fp, tn, J, H', e, i, r⟩ := q
  exact ⟨⟨it, fp, tn, J, H', e, inv_nog i, r⟩, i.bare⟩
/-- a run of what needs none of the sleepers -/
theorem run_hid {α : Type} {X : Cx} {pins : List (Addr × Obj)} {σ : St} {H : Hp} {s : Shared} {t : Sem α} {Q : α → Shared → Prop} {A : Around} {E : Value → Shared → Prop} (I : Inv X pins σ H (nog s)) (h : ∀ s₁, Inv X pins σ H s₁ → s₁.heap = s.heap → s₁.gens.size = s.gens.size → wpAny (model X.prog X.w) A t Q (fun _ _ => False) s₁) (hb : ∀ a s, Q a s → AllBare s.gens) :
    wp2 (model X.prog X.w) A t (fun a s' => ∃ s₁ : Shared, nog s' = nog s₁ ∧ Q a s₁ ∧ Stays s s' ∧ s'.gens.size = s₁.gens.size ∧ ∀ (i : Nat) (x : GenState), s₁.gens[i]? = some x → Hid2.slp x = false → s'.gens[i]? = some x) E s := by
  refine lift (GenW.wpAny_gsz (n := s.gens.size) (Nat.le_refl _) (wpAny_mono (Hid2.run2 (E := fun _ _ => False) fun G hG hz => h { s with gens := G } (LP.Gn.inv_gens (s := nog s) I hG) rfl hz) (fun a s' q hsz => ?_) fun _ _ q => by obtain ⟨_, _, z, _⟩ := q; exact z.elim))
  obtain ⟨s₁, e, q, sl, sz, nk, nb⟩ := q
  refine ⟨s₁, nog_of e, q, ⟨sl, hsz, fun i x hx => (nb i x hx).imp id fun z => ?_⟩, sz, nk⟩
  exact hb a s₁ q x (Array.mem_of_getElem? z)
theorem inv_run2 {α : Type} {X : Cx} {pins : List (Addr × Obj)} {σ : St} {H : Hp} {s : Shared} {t : Sem α} {Q : α → Shared → Prop} {E : Value → Shared → Prop} (I : Inv X pins σ H (nog s)) (h : ∀ s₁, Inv X pins σ H s₁ → s₁.heap = s.heap → wpAny (model X.prog X.w) X.A t Q (fun _ _ => False) s₁) (hQ : Cl2 Q) :
    wp2 (model X.prog X.w) X.A t (fun a s' => Q a (nog s') ∧ Stays s s') E s :=
  wp2_mono (run_hid (E := E) I (fun s₁ a b _ => h s₁ a b) fun a s q => (hQ a s q).2) (fun a s' ⟨s₁, e, q, st, _⟩ => ⟨by rw [e]; exact (hQ a s₁ q).1, st⟩) fun _ _ z => z
section
variable {prog : Program} {w : World} {A : Around} {c : Code} {fs : List Frame} {s : Shared} {Φ : End → Shared → Prop} {env : Env}
  {K : Flow → Sem PySem.Fin} {H : Value → Sem PySem.Fin} {gd : Bool → Bool} {lv : List Value → List Value}
theorem sg_execs_cons {M : Model} {st : Stmt} {rest : List Stmt}
    (h : Sg M A c ((exec st env).wrap (fun f => match f with | .next => (execs rest env).wrap K H gd lv | f => K f) H gd lv) fs Φ s) :
    Sg M A c ((execs (st :: rest) env).wrap K H gd lv) fs Φ s := by rw [execs_cons_wrap]; exact h
theorem sg_func {body : List Stmt}
    (h : Sg (model prog w) A (.func body env) ((execs body env).wrap (fun f => .pure (.done (.ret (match f with | .ret v => v | _ => .none))))
      (fun e => (leaving env e).wrap (fun _ => .raise e) .raise id id) id id) fs Φ s) :
    Sg (model prog w) A (.func body env) ((model prog w).den (.func body env)) fs Φ s := by
  show Sg _ A _ (.point [] fun _ => ((execs body env).onRaise (leaving env)) >>= _) fs Φ s
  refine sg_point ?_
  rw [Sem.onRaise_eq_wrap, Sem.bind_eq_wrap', Sem.wrap_wrap]
  rw [Sem.wrap_congr (execs body env) _ _ (K' := fun f => .pure (.done (.ret (match f with | .ret v => v | _ => .none))))
    (H' := fun e => (leaving env e).wrap (fun _ => .raise e) .raise id id) (fun f => by cases f <;> rfl)
    (fun e => by rw [Sem.bind_eq_wrap, Sem.wrap_wrap]; rfl)]
  exact h
/-- the statement yield e -/
theorem sg_yieldE {M : Model} {e : Expr} {ypos pos : Pos} (hfs : splitAtGen fs = none)
    (h : wp2 M (A.over c fs) (eval e env) (fun v s' => ∀ p g l k, k (.send .none) = K .next → (g = gd false) → Φ (.susp v g l k c p fs) s')
      (fun x s' => Sg M A c (H x) fs Φ s') s) (hco : env.scope.isCoroutine = false := by rfl) (hi : interactive env = false := by rfl) :
    Sg M A c ((exec (.Expr (.Yield (some e) ypos) pos) env).wrap K H gd lv) fs Φ s := by
  rw [exec_Expr env _ pos hi rfl]
  show Sg M A c (.at pos fun _ => ((eval e env >>= fun v => (standAt ypos >>= fun _ => yieldOut env v)) >>= fun x =>
    dropValue (.Yield (some e) ypos) pos x).wrap K H gd lv) fs Φ s
  have hy : ∀ v, yieldOut env v = yieldValue v := fun v => by simp only [yieldOut, hco, Bool.false_eq_true, if_false]
  simp only [hy]
  refine sg_at ?_
  rw [Sem.bind_eq_wrap', Sem.bind_eq_wrap', Sem.wrap_wrap, Sem.wrap_wrap]
  refine sg_wrap (wp2_mono h (fun v s' h' => ?_) fun _ _ x => x)
  refine sg_at (sg_yield hfs fun p => ?_)
  exact h' p _ _ _ rfl rfl
end
/-- where the code stands -/
structure GC (G : GD) (c : Code) (fs : List Frame) (gd : Bool → Bool) : Prop where
  over : ∀ d : WD, d.A.over c fs = (gx G d).A
  split : splitAtGen fs = none
  guard : fs.any Frame.guarded = false
  gd : gd false = false
def GKo (G : GD) (ip : List (Addr × Obj)) (kg : List (Nat × GenState)) (c : Code) (fs : List Frame) (K : Flow → Sem PySem.Fin) (F0 : Hp) (B : GEn) : Prop :=
  ∀ (f : Flow) (r : List D) (d : WD) (s : Shared) (σ : St) (H F : Hp) (en : En), GInv G d ip kg s σ H F en → Same F0 F →
    (match f with | .next => B.nx r en | .brk => B.bk r en | .cont => B.ct r en | .ret _ => False) → Sg (model G.P G.w) d.A c (K f) fs (Fut G r d) s
theorem GKo.mono {G : GD} {ip : List (Addr × Obj)} {kg : List (Nat × GenState)} {c : Code} {fs : List Frame} {K : Flow → Sem PySem.Fin} {F0 F1 : Hp} {B : GEn} (k : GKo G ip kg c fs K F0 B) (h : Same F0 F1) : GKo G ip kg c fs K F1 B :=
  fun f r d s σ H F en I s1 q => k f r d s σ H F en I (h.trans s1) q
def YS (G : GD) (st : Stmt) (m : MY) : Prop := ∀ (ip : List (Addr × Obj)) (kg : List (Nat × GenState)) (c : Code) (fs : List Frame) (K : Flow → Sem PySem.Fin) (J : Value → Sem PySem.Fin) (gd : Bool → Bool) (lv : List Value → List Value) (B : GEn) (r : List D) (d : WD) (s : Shared) (σ : St) (H F : Hp) (en : En),
  GC G c fs gd → GKo G ip kg c fs K F B → GInv G d ip kg s σ H F en → m B r en → Sg (model G.P G.w) d.A c ((exec st G.env).wrap K J gd lv) fs (Fut G r d) s
def YSs (G : GD) (st : List Stmt) (m : MY) : Prop := ∀ (ip : List (Addr × Obj)) (kg : List (Nat × GenState)) (c : Code) (fs : List Frame) (K : Flow → Sem PySem.Fin) (J : Value → Sem PySem.Fin) (gd : Bool → Bool) (lv : List Value → List Value) (B : GEn) (r : List D) (d : WD) (s : Shared) (σ : St) (H F : Hp) (en : En),
  GC G c fs gd → GKo G ip kg c fs K F B → GInv G d ip kg s σ H F en → m B r en → Sg (model G.P G.w) d.A c ((execs st G.env).wrap K J gd lv) fs (Fut G r d) s
section
variable {G : GD} {d : WD} {ip : List (Addr × Obj)} {kg : List (Nat × GenState)} {s s' : Shared} {σ σ' : St} {H H' F F' : Hp} {en en' : En}
theorem GInv.to (I : GInv G d ip kg s σ H F en) (i : Inv (gx G d) ip σ' H' (nog s')) (r : RS G.K (prv d.F d.M d.H) F' en' σ' H') (sm : Same F F') (m : en'.M = en.M) (sl : Stays s s') : GInv G d ip kg s' σ' H' F' en' :=
  ⟨⟨I.ok, I.room, I.gd, i, r, I.sm.trans sm, m.trans I.m, kp_stays I.kk sl, I.pgs, I.ng, I.dis, Nat.lt_of_lt_of_le I.sz sl.sz, I.n0, I.nip, I.kf⟩, tb_stays I.tb sl⟩
variable {st : Stmt} {rest : List Stmt} {m u : MY} {ms : MS} {me : ME} {mt : MT} {e : Expr} {pos : Pos}
theorem y_ps (h : Der G fun X => AS X W0 st ms) : YS G st (yPl ms) := by
  intro ip kg c fs K J gd lv B r d s σ H F en g k I hm
  obtain ⟨t, p, sm⟩ := h d I.gdX I.roomX
  refine sg_wrap ?_
  rw [g.over]
  let W (B0 : List D → En → Prop) : St → Hp → Prop := fun σ1 H1 => ∃ F1 e1, Same F F1 ∧ RS G.K (prv d.F d.M d.H) F1 e1 σ1 H1 ∧ e1.M = en.M ∧ B0 r e1
  let E : Ends := ⟨W B.nx, fun _ _ => False, W B.bk, W B.ct⟩
  have ht : t E σ H := sm (prv d.F d.M d.H) F en σ H { nx := fun e1 => e1.M = en.M ∧ B.nx r e1, rt := fun _ _ => False, bk := fun e1 => e1.M = en.M ∧ B.bk r e1, ct := fun e1 => e1.M = en.M ∧ B.ct r e1 } E I.rs ⟨fun F1 e1 σ1 H1 s1 r1 q => ⟨F1, e1, s1, r1, q⟩, fun _ _ _ _ _ _ _ _ _ q => False.elim q, fun F1 e1 σ1 H1 s1 r1 q => ⟨F1, e1, s1, r1, q⟩, fun F1 e1 σ1 H1 s1 r1 q => ⟨F1, e1, s1, r1, q⟩, rais_f⟩ hm
  refine wp2_mono (inv_run2 (X := gx G d) I.inv (fun s₁ i _ => p.run ip s₁ σ H E i ht) cl2_SP) (fun f s' q => ?_) fun _ _ z => z
  obtain ⟨q, sl⟩ := q
  cases f with
  | next => obtain ⟨σ1, H1, i, F1, e1, s1, r1, q1, q2⟩ := q; exact k .next r d s' σ1 H1 F1 e1 (I.to i r1 s1 q1 sl) s1 q2
  | brk => obtain ⟨σ1, H1, i, F1, e1, s1, r1, q1, q2⟩ := q; exact k .brk r d s' σ1 H1 F1 e1 (I.to i r1 s1 q1 sl) s1 q2
  | cont => obtain ⟨σ1, H1, i, F1, e1, s1, r1, q1, q2⟩ := q; exact k .cont r d s' σ1 H1 F1 e1 (I.to i r1 s1 q1 sl) s1 q2
  | ret v => obtain ⟨_, _, _, _, _, q⟩ := q; exact q.elim
theorem y_nil : YSs G [] yNil := fun ip kg c fs K J gd lv B r d s σ H F en g k I hm => k .next r d s σ H F en I (Same.refl F) hm
theorem y_cons (a : YS G st m) (b : YSs G rest u) : YSs G (st :: rest) (ySeq m u) := by
  intro ip kg c fs K J gd lv B r d s σ H F en g k I hm
  refine sg_execs_cons ?_
  refine a ip kg c fs _ J gd lv { B with nx := u B } r d s σ H F en g (fun f r1 d1 s1 σ1 H1 F1 e1 I1 sF q => ?_) I hm
  cases f with
  | next => exact b ip kg c fs K J gd lv B r1 d1 s1 σ1 H1 F1 e1 g (k.mono sF) I1 q
  | brk => exact k .brk r1 d1 s1 σ1 H1 F1 e1 I1 sF q
  | cont => exact k .cont r1 d1 s1 σ1 H1 F1 e1 I1 sF q
  | ret v => exact k (.ret v) r1 d1 s1 σ1 H1 F1 e1 I1 sF q
theorem y_if {c : Expr} {a b : List Stmt} (hc : Der G fun X => AT X W0 c mt) (ha : YSs G a m) (hb : YSs G b u) : YS G (.If c a b pos) (yIf mt m u) := by
  intro ip kg cd fs K J gd lv B r d s σ H F en g k I hm
  obtain ⟨t, p, sm⟩ := hc d I.gdX I.roomX
  show Sg _ _ _ ((exec (.If c a b pos) G.env).wrap K J gd lv) _ _ _
  rw [exec_If]
  refine sg_at ?_
  show Sg _ _ _ ((isTrue c G.env (eval c G.env) >>= fun ok => if ok = true then execs a G.env else execs b G.env).wrap K J gd lv) _ _ _
  rw [Sem.bind_eq_wrap', Sem.wrap_wrap]
  refine sg_wrap ?_
  rw [g.over]
  have ht := sm (prv d.F d.M d.H) F en σ H _ _ (fun ok H1 => ∃ F1 e1, Same F F1 ∧ RS G.K (prv d.F d.M d.H) F1 e1 σ H1 ∧ e1.M = en.M ∧ if ok = true then m B r e1 else u B r e1) I.rs rais_f hm fun F1 e1 ok H1 s1 r1 q => ⟨F1, e1, s1, r1, q⟩
  refine wp2_mono (inv_run2 (X := gx G d) I.inv (fun s₁ i _ => p.run ip s₁ σ H _ i ht) cl2_TP) (fun ok s' q => ?_) fun _ _ z => z
  obtain ⟨⟨H1, i, F1, e1, s1, r1, q1, q2⟩, sl⟩ := q
  have I1 := I.to i r1 s1 q1 sl
  cases ok with
  | true => exact ha ip kg cd fs K J gd lv B r d s' σ H1 F1 e1 g (k.mono s1) I1 q2
  | false => exact hb ip kg cd fs K J gd lv B r d s' σ H1 F1 e1 g (k.mono s1) I1 q2
theorem y_yield {yp : Pos} (he : Der G fun X => AE X W0 e me) (hco : G.scope.isCoroutine = false := by rfl) (hi : interactive G.env = false := by rfl) : YS G (.Expr (.Yield (some e) yp) pos) (yYield me) := by
  intro ip kg c fs K J gd lv B r d s σ H F en g k I hm
  obtain ⟨t, p, sm⟩ := he d I.gdX I.roomX
  refine sg_yieldE g.split ?_ hco hi
  rw [g.over]
  have ht := sm (prv d.F d.M d.H) F en σ H _ _ (fun v H1 => ∃ F1 e1 x, Same F F1 ∧ RS G.K (prv d.F d.M d.H) F1 e1 σ H1 ∧ Rp G.K F1 v x ∧ e1.M = en.M ∧ allV e1.sl = true ∧ yTk r x fun r' => ∀ M', B.nx r' ⟨e1.sl, M'⟩) I.rs rais_f hm
    fun F1 e1 v x H1 s1 r1 rp q => ⟨F1, e1, x, s1, r1, rp, q⟩
  refine wp2_mono (inv_run2 (X := gx G d) I.inv (fun s₁ i _ => p.run ip s₁ σ H _ i ht) cl2_EP) (fun v s' q => ?_) fun _ _ z => z
  obtain ⟨⟨uv, H1, i, ru, F1, e1, x, s1, r1, rp, q1, q2, q3⟩, sl⟩ := q
  have I1 := I.to i r1 s1 q1 sl
  obtain ⟨o, ho, hd⟩ := I1.loc
  intro p0 b l kk hk hg
  cases r with
  | nil => exact q3.elim
  | cons y r' =>
    obtain ⟨rfl, q3⟩ := q3
    refine ⟨v, b, l, kk, c, p0, fs, rfl, (G.n0, o) :: ip, kg, H1, F1, uv, .inl ?_, I1.aft ho, ru, rp, fun d2 rd sF => ?_⟩
    · simp [End.quiet, hg, g.gd, g.guard]
    · rw [hk]
      exact k .next r' d2 d2.s σ d2.H d2.F ⟨e1.sl, d2.M⟩ (I1.wake ho q2 rd sF) (s1.trans sF) (q3 d2.M)
theorem gc_for {c c' : Code} {fs : List Frame} {gd : Bool → Bool} {k : Result → Sem PySem.Fin} {l kp : List Value} {p : Pos} (g : GC G c fs gd) (hw : c'.weight = 0) (hu : c'.cUnits = 0) : GC G c' (.ret k none (gd false) l c p kp :: fs) id where
  over := fun d => (GenW.over_loop hw hu).trans (g.over d)
  split := by
    show (splitAtGen fs).map _ = none
    rw [g.split]; rfl
  guard := by
    show (gd false || fs.any Frame.guarded) = false
    rw [g.gd, g.guard]; rfl
  gd := rfl
theorem GInv0.szc (I : GInv0 G d ip kg s σ H F en) : (gx G d).s_0.heap.objs.size ≤ G.n0 := I.inv.ok.above
end
end LP.Lo
namespace LP.Lo
open PySem PySem.Spec L2
open PyProof.Rows hiding St
open LP.Gn (GD WD cutH cut_get cut_some cut_size cut_frames gx GOk allV allV_get look_loc RF Yng inv_aft mkG kp_set fin_tr wkD)
theorem inv_yng {X : Cx} {pins : List (Addr × Obj)} {σ : St} {H : Hp} {s : Shared} (I : Inv X pins σ H (nog s)) : Yng X s.heap.objs.size := LP.Gn.Inv.yng (s := nog s) I
/-- a sleeper: what it will yield whenever it is woken -/
def Slp (G : GD) (gs : GenState) (po : List (Addr × Obj)) (pg : List (Nat × GenState)) (F : Hp) (ds : List D) : Prop :=
  ∀ d2, Rdy G d2 po pg → Same F d2.F → Goes2 (model G.P G.w) d2.A gs (Fut G ds d2) d2.s
/-- a generator of ours that sleeps: a its object, g its number -/
structure Gs (X : Cx) (G : GD) (pins : List (Addr × Obj)) (kgo : List (Nat × GenState)) (a : Addr) (go : Obj) (gs : GenState) (po : List (Addr × Obj)) (pg : List (Nat × GenState)) (F H : Hp) (s : Shared) (ds : List D) : Prop where
  yng : Yng X G.n0
  gen : GenO go G.g
  obj : s.heap.get? a = some go
  ha : H a = none ∧ a ∉ frs X.stack ∧ (∀ v, go.data ≠ .cell v) ∧ (∀ p ∈ X.pn ++ pins, p.1 ≠ a) ∧ G.n0 ≤ a
  st : s.gens[G.g]? = some gs
  ko : ∀ p ∈ po, s.heap.get? p.1 = some p.2 ∧ H p.1 = none ∧ p.1 ∉ frs X.stack ∧ (∀ v, p.2.data ≠ .cell v) ∧ p.1 ≠ a ∧ (∀ q ∈ X.pn ++ pins, q.1 ≠ p.1) ∧ G.n0 ≤ p.1
  kk : KpL (kgo ++ pg) s
  ng : ∀ q ∈ kgo ++ pg, q.1 ≠ G.g
  dg : ∀ q ∈ kgo, ∀ p ∈ pg, q.1 ≠ p.1
  slp : ∃ Fg, Same Fg F ∧ Slp G gs po pg Fg ds
  gt : ∀ q ∈ pg, G.g < q.1
  fair : FairG gs po
  pf : ∀ q ∈ pg, FairG q.2 po
  tb : TbL (kgo ++ ((G.g, gs) :: pg)) s
theorem tb_at {kgo pg : List (Nat × GenState)} {g : Nat} {gs x : GenState} {s : Shared} (h : TbL (kgo ++ ((g, gs) :: pg)) s) (hx : x.bare = true) : TbL (kgo ++ pg) (s.setGen g x) := fun i y e => by
  by_cases z : i = g
  · subst z
    have e' : (s.gens.setIfInBounds i x)[i]? = some y := e
    rw [Array.getElem?_setIfInBounds_self] at e'
    split at e'
    · cases e'; exact .inl hx
    · cases e'
  · have e' : (s.gens.setIfInBounds g x)[i]? = some y := e
    rw [Array.getElem?_setIfInBounds_ne (Ne.symm z)] at e'
    rcases h i y e' with w | ⟨q, hq, hi⟩
    · exact .inl w
    · rcases List.mem_append.mp hq with w | w
      · exact .inr ⟨q, List.mem_append_left _ w, hi⟩
      · rcases List.mem_cons.mp w with w | w
        · rw [w] at hi; exact absurd hi.symm z
        · exact .inr ⟨q, List.mem_append_right _ w, hi⟩
section
variable {X : Cx} {N : List Str} {qual : Str} {scope : Scope} {f : Addr} {cdv : Value} {n0 k g : Nat} {pins : List (Addr × Obj)} {kgo : List (Nat × GenState)} {a : Addr} {go : Obj} {gs : GenState} {po : List (Addr × Obj)} {pg : List (Nat × GenState)} {P0 F H : Hp} {en : En} {σ : St} {s : Shared} {ds : List D} {C : Sto → Prop}
theorem Gs.rdy {A : Around} (I : Inv X pins σ H (nog s)) (rs : RS X.K P0 F en σ H) (q : Gs X (mkG X N qual scope f cdv n0 k g C) pins kgo a go gs po pg F H s ds) (hr : Room (k + 2) A) (hgd : A.guards = some []) (hfr : A.frames = some X.stack) (hC : C en.M) :
    Rdy (mkG X N qual scope f cdv n0 k g C) (wkD X A pins kgo a go g F H en.M s) po pg where
  room := hr.in1
  gd := hgd
  e0 := ⟨hfr, I.env0.mod, I.env0.bs, I.env0.bsz, I.env0.funs, I.env0.frf, I.env0.hok, bare0⟩
  same := rs.same
  so := rs.sto
  pn := fun p hp => by
    rcases List.mem_cons.mp hp with z | z
    · rw [z]; exact ⟨q.obj, q.ha.1, q.ha.2.1, q.ha.2.2.1⟩
    · obtain ⟨a1, a2, a3, a4, a5⟩ := I.pin p z
      exact ⟨a1, a2, fun hm => (List.mem_cons.mp (I.stkSub _ hm)).elim a3 a4, a5⟩
  ko := fun p hp => ⟨(q.ko p hp).1, (q.ko p hp).2.1⟩
  dis := fun p hp r hrm => by
    obtain ⟨_, _, _, _, h5, h6, _⟩ := q.ko r hrm
    rcases List.mem_cons.mp hp with z | z
    · rw [z]; exact Ne.symm h5
    · exact h6 p z
  kk := kp_set q.kk q.ng
  ng := fun r hr => q.ng r (List.mem_append_left _ hr)
  dg := q.dg
  sz := by
    have h := (Array.getElem?_eq_some_iff.mp q.st).1
    show g < (s.setGen g .running).gens.size
    rw [GenW.setGen_size]; exact h
  cm := hC
  tb := tb_at q.tb rfl
/-- what a turn that yields leaves -/
def Turned (X : Cx) (G : GD) (pins : List (Addr × Obj)) (kgo : List (Nat × GenState)) (a : Addr) (go : Obj) (P0 F : Hp) (en : En) (σ : St) (ds : List D) (u : Value) (s' : Shared) : Prop :=
  ∃ x ds' v F' H' po' pg' gs', ds = x :: ds' ∧ Inv X pins σ H' (nog s') ∧ RS X.K P0 F' en σ H' ∧ Same F F' ∧ RelV v u ∧ Rp X.K F' v x ∧ Gs X G pins kgo a go gs' po' pg' F' H' s' ds' ∧ Hide.slp gs' = true
/-- .. and one that ends it -/
def Ended (X : Cx) (g : Nat) (pins : List (Addr × Obj)) (kgo : List (Nat × GenState)) (P0 F : Hp) (en : En) (σ : St) (ds : List D) (s' : Shared) : Prop :=
  ds = [] ∧ ∃ F' H', Inv X pins σ H' (nog s') ∧ RS X.K P0 F' en σ H' ∧ Same F F' ∧ KpL kgo s' ∧ TbL kgo s' ∧ g < s'.gens.size
/-- one turn of a generator of ours -/
theorem cs_turn {A : Around} (I : Inv X pins σ H (nog s)) (rs : RS X.K P0 F en σ H) (q : Gs X (mkG X N qual scope f cdv n0 k g C) pins kgo a go gs po pg F H s ds) (hz : zs go) (hr : Room (k + 2) A) (hgd : A.guards = some []) (hfr : A.frames = some X.stack) (hC : C en.M) :
    wp2 (model X.prog X.w) A (callSpecial? (.ref a) "__next__") (fun r s' => ∃ u, r = some u ∧ Turned X (mkG X N qual scope f cdv n0 k g C) pins kgo a go P0 F en σ ds u s') (fun e s' => StopX e s'.heap ∧ Ended X g pins kgo P0 F en σ ds s') s := by
  obtain ⟨Fg, sFg, sl⟩ := q.slp
  have R := q.rdy I rs hr hgd hfr hC
  have goes := sl _ R sFg
  have aft : ∀ {po' : List (Addr × Obj)} {pg' : List (Nat × GenState)} {s₁ s₂ : Shared} {H' F' : Hp}, Aft (mkG X N qual scope f cdv n0 k g C) (wkD X A pins kgo a go g F H en.M s) po' pg' s₁ H' F' → s₂.os = s₁.os → (∀ b o, s₁.heap.get? b = some o → s₂.heap.get? b = some o) →
      Inv X pins σ H' (nog s₂) ∧ RS X.K P0 F' en σ H' ∧ Same F F' := fun {po' pg' s₁ s₂ H' F'} w eo ek => by
    refine ⟨inv_aft (s := nog s) (s' := nog s₂) I q.yng (eo.trans w.os) bare0 (w.un.trans (Un.kept ek)) (w.hok.kept ek) (fun p hp => ?_) (fin_tr rs.same w.fin), rs.fin w.fin, w.fin.s1⟩
    obtain ⟨z1, z2⟩ := w.pn p (List.mem_cons_of_mem _ hp)
    exact ⟨ek _ _ z1, z2⟩
  refine cs2 hr.hd (show s.heap.NoLimit from I.nolimit) hr.depth q.obj q.gen hz q.st goes fun e s₁ he => ?_
  cases ds with
  | nil =>
    obtain ⟨he, H', F', w⟩ := he
    refine .inr ⟨he, fun x h' hx hk => ⟨hx, rfl, F', H', ?_⟩⟩
    obtain ⟨i1, i2, i3⟩ := aft (s₂ := { s₁.setGen g .finished with heap := h' }) w rfl hk
    refine ⟨i1, i2, i3, fun p hp => ?_, fun i y e => ?_, ?_⟩
    · have kk : KpL kgo s₁ := fun p hp => w.kk p (List.mem_append_left _ hp)
      exact kp_set (x := .finished) kk (fun p hp => q.ng p (List.mem_append_left _ hp)) p hp
    · have tb : TbL kgo s₁ := w.tb.mono fun r hr => ⟨r, (by
        rcases List.mem_append.mp hr with z | z
        · exact z
        · cases z), rfl⟩
      exact tb_set (x := .finished) tb (.inl rfl) i y e
    · show g < (s₁.setGen g .finished).gens.size
      rw [GenW.setGen_size]; exact w.sz
  | cons x ds' =>
    obtain ⟨v, b, l, kc, c, p, fs, rfl, po', pg', H', F', u, ok, w, ru, rp, fut⟩ := he
    have hqt := ok.okay (s := s₁) fun p hp => (w.ko p hp).1
    refine .inl ⟨v, b, l, kc, c, p, fs, rfl, hqt, v, rfl, x, ds', u, F', H', po', pg', (End.susp v b l kc c p fs).genState, rfl, ?_⟩
    obtain ⟨i1, i2, i3⟩ := aft (s₂ := s₁.setGen g (End.susp v b l kc c p fs).genState) w rfl (fun _ _ e => e)
    obtain ⟨z1, z2⟩ := w.pn (a, go) List.mem_cons_self
    refine ⟨i1, i2, i3, ru, rp, ⟨q.yng, q.gen, z1, ⟨z2, q.ha.2⟩, setGen_at w.sz, fun p hp => ?_, kp_set w.kk fun p hp => ?_, fun p hp => ?_, fun p hp r hr => (w.pgs r hr).2 p hp, ⟨F', Same.refl F', fun d2 r2 s2 => fut d2 r2 s2⟩, fun r hr => (w.pgs r hr).1, ok.fair, w.pf, ?_⟩, rfl⟩
    · obtain ⟨h1, h2, h3, h4, h5, h6⟩ := w.ko p hp
      exact ⟨h1, h2, h3, h4, fun z => h5 (a, go) List.mem_cons_self z.symm, fun r hr => h5 r (List.mem_cons_of_mem _ hr), h6⟩
    · rcases List.mem_append.mp hp with z | z
      · exact q.ng p (List.mem_append_left _ z)
      · exact Nat.ne_of_gt (w.pgs p z).1
    · rcases List.mem_append.mp hp with z | z
      · exact q.ng p (List.mem_append_left _ z)
      · exact Nat.ne_of_gt (w.pgs p z).1
    · refine tb_set (w.tb.mono fun r hr => ⟨r, ?_, rfl⟩) (.inr ⟨_, List.mem_append_right _ List.mem_cons_self, rfl⟩)
      rcases List.mem_append.mp hr with z | z
      · exact List.mem_append_left _ z
      · exact List.mem_append_right _ (List.mem_cons_of_mem _ z)
theorem next_turn {A : Around} {E : Value → Shared → Prop} (I : Inv X pins σ H (nog s)) (rs : RS X.K P0 F en σ H) (q : Gs X (mkG X N qual scope f cdv n0 k g C) pins kgo a go gs po pg F H s ds) (hz : zs go) (hr : Room (k + 2) A) (hgd : A.guards = some []) (hfr : A.frames = some X.stack) (hC : C en.M) :
    wp2 (model X.prog X.w) A (pyNext (.ref a)) (fun r s' => (r = none ∧ Ended X g pins kgo P0 F en σ ds s') ∨ ∃ u, r = some u ∧ Turned X (mkG X N qual scope f cdv n0 k g C) pins kgo a go P0 F en σ ds u s') E s := by
  unfold pyNext
  refine wp2_bind (wp2_attempt (wp2_mono (cs_turn I rs q hz hr hgd hfr hC) (fun r s' h => ?_) fun e s' h => ?_))
  · obtain ⟨u, rfl, h⟩ := h
    exact wp2_pure (.inr ⟨u, rfl, h⟩)
  · obtain ⟨⟨xa, xo, vs, rfl, hxo, hxc, _, _⟩, h⟩ := h
    refine lift ?_
    refine wpAny_bind (wpAny_isInstance (T := "StopIteration") (b := true) ⟨_, hxo, hxc⟩ isSubtype_stop ?_)
    exact wpAny_pure (.inl ⟨rfl, h⟩)
end
end LP.Lo
namespace LP.Lo
open PySem
open Sem (wp)
theorem up_size (h : Heap) (a : Addr) (f : Obj → Obj) : (h.update a f).objs.size = h.objs.size := by cases h; simp [Heap.update]
theorem pu_size (h : Heap) (o : Obj) : (h.push o).objs.size = h.objs.size + 1 := by cases h; simp [Heap.push]
theorem sg_heap (s : Shared) (g : Nat) (x : GenState) : (s.setGen g x).heap = s.heap := rfl
theorem runs_hsz {M : Model} {Γ : Ctx} {p : Pos} {t : Sem PySem.Fin} {fs : List Frame} {s s' : Shared} {e : End} (h : Runs M Γ p t fs s e s') : s.heap.objs.size ≤ s'.heap.objs.size := by
  induction h <;> (try simp only [sg_heap, up_size, pu_size] at *) <;> omega
theorem wakes_hsz {M : Model} {Γ : Ctx} {p : Pos} {g : Nat} {r : Resume} {s s' : Shared} {res : GenResult} (h : Wakes M Γ p g r s res s') : s.heap.objs.size ≤ s'.heap.objs.size := by
  unfold Wakes at h
  repeat' split at h
  · exact h.elim
  · obtain ⟨e₁, s₁, hr, _, _, rfl⟩ := h; have z := runs_hsz hr; simp only [sg_heap] at z ⊢; exact z
  · rw [h.2]; exact Nat.le_refl _
  · rw [h.2]; exact Nat.le_refl _
  · obtain ⟨e₁, s₁, hr, _, _, rfl⟩ := h; have z := runs_hsz hr; simp only [sg_heap] at z ⊢; exact z
  · rw [h.2]; exact Nat.le_refl _
  · rw [h.2]; exact Nat.le_refl _
theorem wp_hsz {α : Type} (M : Model) (Γ : Ctx) (n : Nat) (t : Sem α) : ∀ (Q : α → Pos → Shared → Prop) (E : Value → Pos → Shared → Prop) (p : Pos) (s : Shared), n ≤ s.heap.objs.size → wp M Γ t Q E p s →
    wp M Γ t (fun a p' s' => n ≤ s'.heap.objs.size ∧ Q a p' s') E p s := by
  induction t with
  | pure a => intro Q E p s hn h; exact ⟨hn, h⟩
  | alloc o k ih => intro Q E p s hn h; exact ih _ Q E p _ (by show n ≤ (s.heap.push o).objs.size; rw [pu_size]; omega) h
  | update a _ f k ih => intro Q E p s hn h; exact ⟨h.1, ih () Q E p _ (by show n ≤ (s.heap.update a f).objs.size; rw [up_size]; exact hn) h.2⟩
  | call c hd _ _ k ih => intro Q E p s hn h; obtain ⟨r, s', hr, h⟩ := h; exact ⟨r, s', hr, ih r Q E p s' (Nat.le_trans hn (runs_hsz hr)) h⟩
  | resume g r _ k ih => intro Q E p s hn h; obtain ⟨res, s', hw, h⟩ := h; exact ⟨res, s', hw, ih res Q E p s' (Nat.le_trans hn (wakes_hsz hw)) h⟩
  | load a _ k ih => intro Q E p s hn h; obtain ⟨o, ho, h⟩ := h; exact ⟨o, ho, ih o Q E p s hn h⟩
  | choose src m k ih => intro Q E p s hn h; exact ⟨h.1, ih _ Q E p _ hn h.2⟩
  | genState g k ih => intro Q E p s hn h; obtain ⟨st, hs, h⟩ := h; exact ⟨st, hs, ih _ Q E p s hn h⟩
  | raise e => intro Q E p s hn h; exact h
  | unsupported _ => intro Q E p s _ h; exact h
  | finish _ => intro Q E p s _ h; exact h
  | register _ _ => intro Q E p s _ h; exact h
  | yield _ _ _ _ => intro Q E p s _ h; exact h
  | fork _ _ => intro Q E p s _ h; exact h
  | await _ _ _ _ _ => intro Q E p s _ h; exact h
  | rule _ k ih => intro Q E p s hn h; exact ih () Q E p s hn h
  | «at» p' k ih => intro Q E p s hn h; exact ih () Q E p' s hn h
  | loadIfAlive a k ih => intro Q E p s hn h; exact ih _ Q E p s hn h
  | point _ k ih => intro Q E p s hn h; exact ih () Q E p s hn h
  | fresh k ih => intro Q E p s hn h; exact ih _ Q E p _ hn h
  | ask k ih => intro Q E p s hn h; exact ih _ Q E p s hn h
  | os q _ k ih => intro Q E p s hn h; exact ih _ Q E p _ hn h
  | handled own k ih => intro Q E p s hn h; exact ih _ Q E p s hn h
  | newGen c k ih => intro Q E p s hn h; exact ih _ Q E p _ hn h
  | stack k ih => intro Q E p s hn h; exact ih _ Q E p s hn h
  | thread k ih => intro Q E p s hn h; exact ih _ Q E p s hn h
theorem wpAny_hsz {α : Type} {M : Model} {A : Around} {s : Shared} {t : Sem α} {Q : α → Shared → Prop} {E : Value → Shared → Prop} (h : wpAny M A t Q E s) : wpAny M A t (fun a s' => s.heap.objs.size ≤ s'.heap.objs.size ∧ Q a s') E s :=
  fun Γ p hΓ => wp_hsz M Γ _ t _ _ p s (Nat.le_refl _) (h Γ p hΓ)
end LP.Lo
namespace LP.Lo
open PySem PySem.Spec L2
open PyProof.Rows hiding St
open LP.Gn (GD WD cutH cut_get cut_some cut_size cut_frames gx GOk allV allV_get look_loc RF GEn MY Der rais_f Yng inv_aft mkG kp_set fin_tr wkD ASpG ASpM startA_allV noCells nc_cells nc_lookup MGn mGn)
/-- a generator that has not begun -/
def GNew (P : Program) (w : World) (K : PySem.W.Frag) (mg : Str → Option Value) (base : Heap) (k : Nat) (outer : List Env) (s : Shared) (F : Hp) (ys : List D) (u : Value) (s' : Shared) (C : Sto → Prop := fun _ => True) : Prop :=
  ∃ (a : Addr) (N : List Str) (qual : Str) (scope : Scope) (f : Addr) (cdv : Value) (go o : Obj) (c : Code), u = .ref a ∧ s.heap.objs.size < a ∧ s'.os = s.os ∧ AllBare s'.gens ∧ (∀ b o, s.heap.get? b = some o → s'.heap.get? b = some o) ∧
    s'.heap.get? a = some go ∧ s'.heap.IsGen a s.gens.size ∧ (∀ v, go.data ≠ .cell v) ∧ s'.gens = s.gens.push (.fresh c) ∧ s'.heap.get? s.heap.objs.size = some o ∧ (∀ v, o.data ≠ .cell v) ∧
    Slp ⟨P, w, K, mg, base, N, qual, scope, f, cdv, outer, s.heap.objs.size, k, s.gens.size, C⟩ (.fresh c) [(s.heap.objs.size, o)] [] F ys
structure GFnA (P : Program) (w : World) (K : PySem.W.Frag) (mg : Str → Option Value) (base : Heap) (k : Nat) (f : Addr) (fd : FuncData) (ps : List Str) (sp : ASpG) : Prop where
  len : ∀ ds ys, sp ds ys → ds.length = ps.length
  go : ∀ (A : Around) (outer : List Env) (s : Shared) (H F : Hp) (args : Args) (us : List Value) (vs : List V) (ds ys : List D), A.guards = some [] → Room (k + 1) A → Env0 P w K mg base A outer s H → BindsTo s fd args (ps.zip us) → Vals vs us → Rps K F vs ds → sp ds ys →
    codeAny (model P w) A (.call (.ref f) args) (fun r s' => match r with | .ok (.ret u) => GNew P w K mg base k outer s F ys u s' | _ => False) s
structure GFnM (P : Program) (w : World) (K : PySem.W.Frag) (mg : Str → Option Value) (base : Heap) (k : Nat) (f : Addr) (fd : FuncData) (ps : List Str) (sp : ASpM) : Prop where
  len : ∀ ds C ys, sp ds C ys → ds.length = ps.length
  go : ∀ (A : Around) (outer : List Env) (s : Shared) (H F : Hp) (args : Args) (us : List Value) (vs : List V) (ds : List D) (C : Sto → Prop) (ys : List D), A.guards = some [] → Room (k + 1) A → Env0 P w K mg base A outer s H → BindsTo s fd args (ps.zip us) → Vals vs us → Rps K F vs ds → sp ds C ys →
    codeAny (model P w) A (.call (.ref f) args) (fun r s' => match r with | .ok (.ret u) => GNew P w K mg base k outer s F ys u s' C | _ => False) s
section
variable {P : Program} {w : World} {K : PySem.W.Frag} {mg : Str → Option Value} {base : Heap}
theorem gdef_okM {x qual : Str} {st : Stmt} {dvs : List V} {kws : List (Str × V)} {f : Addr} {fd : FuncData} {N ps : List Str} {k : Nat} {sp : ASpM} {m : MY} (D0 : FnD K x qual st dvs kws f fd) (S : GScope N ps (defScope st)) (nc : noCells (defScope st) = true) (len : ∀ ds C ys, sp ds C ys → ds.length = ps.length)
    (body : ∀ {C : Sto → Prop} (cdv : Value) (outer : List Env) (n0 g : Nat), YSs ⟨P, w, K, mg, base, N, qual, defScope st, f, cdv, outer, n0, k, g, C⟩ (defBody st) m)
    (spec : ∀ ds C ys, sp ds C ys → ∀ M, C M → m { nx := fun r _ => r = [] } ys ⟨startA N.length ds, M⟩) : GFnM P w K mg base k f fd ps sp where
  len := len
  go := by
    intro A outer s H F args us vs ds C ys hgd hr e0 hb r rp hsp
    obtain ⟨oc, od, dV, kV, doc, pm, an, cdv, ct, osl, rfl, lk, hcd, _, _⟩ := D0.ex
    have hl : vs.length = ps.length := rp.length.trans (len _ _ _ hsp)
    have KX : K.In s.heap := e0.mod.kin.keeps fun b o e => (e0.bs b o e).1
    have lim : s.heap.NoLimit := e0.mod.nolimit.keeps fun b o e => (e0.bs b o e).1
    have hkind : ∀ y ∈ ps.zip us, (defScope st).names.lookup y.1 = some .local ∨ ((defScope st).names.lookup y.1 = some .cell ∧ ((cellsFrom (s.heap.objs.size + 1) (defScope st).names []).lookup y.1).isSome = true) := fun ⟨n, v⟩ hy => by
      rcases S.par n (List.of_mem_zip hy).1 with q | q
      · exact .inl q
      · exact .inr ⟨q, PySem.W.cellsFrom_some _ _ _ (.inl q)⟩
    refine codeAny_call_generator hr.depth (KX _ _ lk) rfl S.co S.gen rfl (PySem.W.codeRec_of KX hcd) (hb _ _ _ _ ?_)
    refine wpAny_newFunctionEnv_cells S.kind hkind fun env he s1 x => ?_
    subst he
    refine ⟨lim.keeps x.toInCall.keep, ?_⟩
    obtain ⟨h1, tk, es1, hk1⟩ := x.done
    have gen1 : s1.gens = s.gens := by rw [es1]
    have kp1 : ∀ b o, s.heap.get? b = some o → s1.heap.get? b = some o := x.toInCall.keep
    have lt1 : s.heap.objs.size < s1.heap.objs.size := x.toInCall.ns.lt
    have I1 : Inv (gcxOf P w K mg base N qual (defScope st) f cdv A outer s H (fun _ _ _ => False) []) [] (L2.start N vs) H s1 := inv_startG S hr.hd e0 hl r x
    obtain ⟨mm, hns, hlook⟩ := I1.loc
    obtain ⟨o, es, ep, ho, hdd, hsk⟩ := id hns
    let G : GD := ⟨P, w, K, mg, base, N, qual, defScope st, f, cdv, outer, s.heap.objs.size, k, s.gens.size, C⟩
    have nofr : ∀ b ∈ L2.frs outer, b < s.heap.objs.size := fun b hb => by
      obtain ⟨_, o, ho, _⟩ := e0.funs.mem hb
      exact Heap.lt_size ho
    have ok : GOk G := ⟨S.kind, nc_cells nc, nc_lookup nc, e0.mod, e0.bsz, nofr⟩
    refine ⟨s1.heap.objs.size, N, qual, defScope st, f, cdv, _, o, .func (defBody st) G.env, rfl, lt1, by rw [es1], AllBare.push (by rw [gen1]; exact e0.bare) rfl, fun b o e => Heap.get?_push_of_some _ (kp1 b o e), Heap.get?_push_size _ rfl, ?_, fun v z => (by cases z), ?_, Heap.get?_push_of_some _ ho, fun v z => (by rw [hdd] at z; cases z), ?_⟩
    · rw [gen1]
      exact ⟨_, _, _, Heap.get?_push_size _ rfl, rfl, rfl, rfl⟩
    · exact congrArg (fun z : Array GenState => z.push _) gen1
    -- the first wake
    intro d2 R sF
    show Sg (model P w) d2.A (.func (defBody st) G.env) ((model P w).den (.func (defBody st) G.env)) [] (Fut G ys d2) d2.s
    have I : GInv G d2 [] [] d2.s (L2.start N vs) d2.H d2.F ⟨startA N.length ds, d2.M⟩ := by
      refine ginv_of ok R ⟨mm, hns.at' fun o' e => ?_, fun i y v e1 e2 e3 => ?_⟩ I1.len (fun p hp => by cases hp) (fun p hp => by cases hp) (fun p hp => by cases hp) ?_ (fun i d h => ?_) startA_allV
      · have e' : s1.heap.get? s.heap.objs.size = some o' := e
        have eo : o = o' := Option.some.inj (ho.symm.trans e')
        subst eo
        exact (R.ko (s.heap.objs.size, o) List.mem_cons_self).1
      · obtain ⟨u, ru, l⟩ := hlook i y v e1 e2 e3
        exact ⟨u, ru, look_loc ok.cells l⟩
      · simp [startA, L2.start, rp.length]
      · obtain ⟨v, a, b⟩ := (rs_start (M := fun _ => none) (H := F) (Same.refl F) (fun a o z => by cases z) rp : RS K _ F ⟨startA N.length ds, fun _ => none⟩ (L2.start N vs) F).val i d h
        exact ⟨v, a, b.mono sF⟩
    refine sg_func ?_
    refine body cdv outer s.heap.objs.size s.gens.size [] [] _ [] _ _ id id { nx := fun r _ => r = [] } ys d2 d2.s _ _ _ _ ⟨fun d => GenW.over_func, rfl, rfl, rfl⟩ (fun fl r' d' s' σ' H' F' en' I' sm q => ?_) I (spec ds C ys hsp d2.M R.cm)
    cases fl with
    | next =>
      have q' : r' = [] := q
      subst q'
      exact sg_end (.ok (.ret .none)) ⟨.inl rfl, H', F', I'.aft0⟩
    | brk => exact q.elim
    | cont => exact q.elim
    | ret v => exact q.elim
theorem gdef_ok {x qual : Str} {st : Stmt} {dvs : List V} {kws : List (Str × V)} {f : Addr} {fd : FuncData} {N ps : List Str} {k : Nat} {sp : ASpG} {m : MY} (D0 : FnD K x qual st dvs kws f fd) (S : GScope N ps (defScope st)) (nc : noCells (defScope st) = true) (len : ∀ ds ys, sp ds ys → ds.length = ps.length)
    (body : ∀ {C : Sto → Prop} (cdv : Value) (outer : List Env) (n0 g : Nat), YSs ⟨P, w, K, mg, base, N, qual, defScope st, f, cdv, outer, n0, k, g, C⟩ (defBody st) m)
    (spec : ∀ ds ys, sp ds ys → ∀ M, m { nx := fun r _ => r = [] } ys ⟨startA N.length ds, M⟩) : GFnA P w K mg base k f fd ps sp where
  len := len
  go := fun A outer s H F args us vs ds ys hgd hr e0 hb r rp hsp =>
    (gdef_okM (sp := fun ds C ys => C = (fun _ => True) ∧ sp ds ys) D0 S nc (fun ds C ys h => len ds ys h.2) body (fun ds C ys h M _ => spec ds ys h.2 M)).go A outer s H F args us vs ds (fun _ => True) ys hgd hr e0 hb r rp ⟨rfl, hsp⟩
end
/-- a generator that has not begun, of ours: a its object, c its code, o its frame -/
structure Gn0 (X : Cx) (G : GD) (pins : List (Addr × Obj)) (a : Addr) (go o : Obj) (c : Code) (F H : Hp) (s : Shared) (ds : List D) : Prop where
  yng : Yng X G.n0
  gen : GenO go G.g
  slots : go.slots = #[]
  obj : s.heap.get? a = some go
  ha : H a = none ∧ a ∉ frs X.stack ∧ (∀ v, go.data ≠ .cell v) ∧ (∀ p ∈ X.pn ++ pins, p.1 ≠ a) ∧ G.n0 ≤ a
  st : s.gens[G.g]? = some (.fresh c)
  ko : s.heap.get? G.n0 = some o ∧ H G.n0 = none ∧ G.n0 ∉ frs X.stack ∧ (∀ v, o.data ≠ .cell v) ∧ G.n0 ≠ a ∧ (∀ q ∈ X.pn ++ pins, q.1 ≠ G.n0)
  slp : Slp G (.fresh c) [(G.n0, o)] [] F ds
theorem Gn0.isGen {X : Cx} {G : GD} {pins : List (Addr × Obj)} {a : Addr} {go o : Obj} {c : Code} {F H : Hp} {s : Shared} {ds : List D} (q : Gn0 X G pins a go o c F H s ds) : s.heap.IsGen a G.g := by
  obtain ⟨nm, qn, h1, h2⟩ := q.gen
  exact ⟨go, nm, qn, q.obj, h1, h2, q.slots⟩
theorem Gn0.gs {X : Cx} {G : GD} {pins : List (Addr × Obj)} {a : Addr} {go o : Obj} {c : Code} {F H : Hp} {s : Shared} {ds : List D} {kgo : List (Nat × GenState)} (q : Gn0 X G pins a go o c F H s ds) (kk : KpL kgo s) (tb : TbL kgo s) (ng : ∀ q ∈ kgo, q.1 < G.g) :
    Gs X G pins kgo a go (.fresh c) [(G.n0, o)] [] F H s ds where
  yng := q.yng
  gen := q.gen
  obj := q.obj
  ha := q.ha
  st := q.st
  ko := fun p hp => by
    rw [List.mem_singleton.mp hp]
    obtain ⟨h1, h2, h3, h4, h5, h6⟩ := q.ko
    exact ⟨h1, h2, h3, h4, h5, h6, Nat.le_refl _⟩
  kk := fun p hp => kk p (by rw [List.append_nil] at hp; exact hp)
  ng := fun p hp => Nat.ne_of_lt (ng p (by rw [List.append_nil] at hp; exact hp))
  dg := fun _ _ r hr => by cases hr
  slp := ⟨F, Same.refl F, q.slp⟩
  gt := fun r hr => by cases hr
  fair := .inl rfl
  pf := fun r hr => by cases hr
  tb := tb.mono fun r hr => ⟨r, List.mem_append_left _ hr, rfl⟩
/-- an expression's value is a generator that has not begun; the table hidden -/
def GnQ (X : Cx) (k : Nat) (pins : List (Addr × Obj)) (n m : Nat) (P0 F : Hp) (σ : St) (Q : List D → En → Prop) (u : Value) (s' : Shared) : Prop :=
  ∃ (N : List Str) (qual : Str) (scope : Scope) (f : Addr) (cdv : Value) (n0 g : Nat) (a : Addr) (go o : Obj) (c : Code) (H1 F1 : Hp) (e1 : En) (ys : List D), u = .ref a ∧ Inv X pins σ H1 (nog s') ∧ RS X.K P0 F1 e1 σ H1 ∧ Same F F1 ∧ Q ys e1 ∧ n ≤ g ∧ m ≤ n0 ∧ (∀ p ∈ X.pn ++ pins, p.1 < n0) ∧
    Gn0 X (mkG X N qual scope f cdv n0 k g) pins a go o c F1 H1 s' ys
def GnP (X : Cx) (k : Nat) (pins : List (Addr × Obj)) (n m : Nat) (P0 F : Hp) (σ : St) (Q : List D → En → Prop) (u : Value) (s' : Shared) : Prop := AllBare s'.gens ∧ GnQ X k pins n m P0 F σ Q u s'
def AGn (X : Cx) (k : Nat) (e : Expr) (m : MGn) : Prop := ∀ (pins : List (Addr × Obj)) (s : Shared) (σ : St) (H P0 F : Hp) (en : En) (Q : List D → En → Prop), Inv X pins σ H s → RS X.K P0 F en σ H → m en Q →
  wpAny (model X.prog X.w) X.A (eval e X.env) (GnP X k pins s.gens.size s.heap.objs.size P0 F σ Q) X.xe s
section
variable {X : Cx} {k : Nat} {f : Addr} {fd : FuncData} {ps : List Str} {sp : ASpG} {x : Str} {p pos : Pos} {e : Expr} {es : List Expr} {ma : MA} {W : WX}
/-- f(e, ..) of a generator def -/
theorem agn_call (Gf : GFnA X.prog X.w X.K X.mg X.base k f fd ps sp) (hr : Room (k + 1) X.A) (hgd : X.A.guards = some []) (hg : Gl X x) (hm : X.mg x = some (.ref f)) (hk : PySem.W.keepIn X.K (.ref f) = true) (hb : Binds X.K fd ps []) (ha : AA X W (e :: es) ma) (hdb : (x == ("__debug__" : Str)) = false := by decide)
    (he : starEach (e :: es) X.env = (false, eval e X.env) :: starEach es X.env := by rfl) (hpl : (backTo pos (starEach es X.env)).any (·.1) = false := by rfl) : AGn X k (.Call (.Name x p) (e :: es) [] pos) (mGn sp ma) := by
  obtain ⟨t, pa, sa⟩ := ha
  intro pins s σ H P0 F en Q I rs hq
  have ht := sa P0 F en σ H RF _ (fun vs H1 => ∃ F1 e1 ds, Same F F1 ∧ RS X.K P0 F1 e1 σ H1 ∧ Rps X.K F1 vs ds ∧ ∃ ys, sp ds ys ∧ Q ys e1) rs rais_f hq fun F1 e1 vs ds H1 s1 r1 rp q => ⟨F1, e1, ds, s1, r1, rp, q⟩
  refine wpAny_Call_Name_kw (ld_glob I hg hm (PySem.W.callWith_K (h₀ := X.base) I.ok.mod.kin hk (GenW.wpAny_gsz (n := s.gens.size) (Nat.le_refl _) (wpAny_mono (wpAny_hsz (pa.run pos pins s σ H _ I ht)) (fun us s1 ⟨hhz, q⟩ hsz => ?_) fun _ _ z _ => z)) he hpl) hdb)
  obtain ⟨vs, H1, I1, rv, F1, e1, ds, sm, r1, rp, ys, hsp, hQ⟩ := q
  refine ⟨I1.kIn, ?_⟩
  have el : (us ++ []).length = ps.length := by rw [List.append_nil, ← rv.length, rp.length]; exact Gf.len _ _ hsp
  have bt := hb s1 us I1.kIn el
  rw [List.append_nil] at bt
  refine wpAny_call (codeAny_mono (Gf.go X.A X.stack s1 H1 F1 ⟨us, []⟩ us vs ds ys hgd hr I1.env0 bt rv rp hsp) fun r s' hq => ?_)
  cases r with
  | error _ => exact hq.elim
  | ok fl =>
    cases fl with
    | next => exact hq.elim
    | brk => exact hq.elim
    | cont => exact hq.elim
    | ret u =>
      obtain ⟨a, N, qual, scope, f', cdv, go, o, c, rfl, ha0, os, bare, keep, hgo, hgen, hgc, hgens, hloc, hlc, sl⟩ := hq
      have I2 : Inv X pins σ H1 s' := I1.call' (ch := []) os (Un.kept keep) (I1.hok.kept keep) bare fun b z => by cases z
      have old : ∀ p ∈ X.pn ++ pins, p.1 < s1.heap.objs.size := fun p hp => Heap.lt_size (I1.pin p hp).1
      have hgo' : GenO go s1.gens.size ∧ go.slots = #[] := by
        obtain ⟨o', nm, qn, ho', h1, h2, h3⟩ := hgen
        have eo : o' = go := Option.some.inj (ho'.symm.trans hgo)
        subst eo
        exact ⟨⟨nm, qn, h1, h2⟩, h3⟩
      refine ⟨bare, N, qual, scope, f', cdv, s1.heap.objs.size, s1.gens.size, a, go, o, c, H1, F1, e1, ys, rfl, inv_nog I2, r1, sm, hQ, hsz, hhz, old, ⟨(LP.Gn.Inv.yng I1), hgo'.1, hgo'.2, hgo, ⟨I1.hok.fresh (Nat.le_of_lt ha0), fun z => ?_, hgc, fun p hp z => ?_, Nat.le_of_lt ha0⟩, ?_, ⟨hloc, I1.hok.fresh (Nat.le_refl _), fun z => Nat.lt_irrefl _ ((LP.Gn.Inv.yng I1).frs I1 _ z), hlc, Nat.ne_of_lt ha0, fun q hq z => ?_⟩, sl⟩⟩
      · exact absurd (Nat.lt_trans ((LP.Gn.Inv.yng I1).frs I1 _ z) ha0) (Nat.lt_irrefl _)
      · have := old p hp
        rw [z] at this
        exact absurd (Nat.lt_trans this ha0) (Nat.lt_irrefl _)
      · show s'.gens[s1.gens.size]? = _
        rw [hgens]; exact Array.getElem?_push_size ..
      · have := old q hq
        rw [z] at this
        exact absurd this (Nat.lt_irrefl _)
end
/-- such an expression, the table hidden -/
theorem run_gn {X : Cx} {k : Nat} {pins : List (Addr × Obj)} {s : Shared} {σ : St} {H P0 F : Hp} {en : En} {Q : List D → En → Prop} {e : Expr} {m : MGn} {E : Value → Shared → Prop} {t : Sem Value} (I : Inv X pins σ H (nog s)) (rs : RS X.K P0 F en σ H) (hm : m en Q) (hi : AGn X k e m) (hx : X.xe = fun _ _ => False)
    (ht : ∀ (A : Around) (Q : Value → Shared → Prop) (s : Shared), wpAny (model X.prog X.w) A (eval e X.env) (fun u s' => (∃ (a : Addr) (g : Nat), u = .ref a ∧ s'.heap.IsGen a g) ∧ Q u s') (fun _ _ => False) s → wpAny (model X.prog X.w) A t Q (fun _ _ => False) s) :
    wp2 (model X.prog X.w) X.A t (fun u s' => GnQ X k pins s.gens.size s.heap.objs.size P0 F σ Q u s' ∧ Stays s s') E s := by
  refine wp2_mono (run_hid (Q := GnP X k pins s.gens.size s.heap.objs.size P0 F σ Q) I (fun s₁ i eh ez => ht _ _ _ ?_) fun a s q => q.1) (fun u s' q => ?_) fun _ _ z => z
  · have z := hi pins s₁ σ H P0 F en Q i rs hm
    rw [hx, ez, eh] at z
    refine wpAny_mono z (fun u s' q => ⟨?_, q⟩) fun _ _ z => z
    obtain ⟨_, N, qual, scope, f, cdv, n0, g, a, go, o, c, H1, F1, e1, ys, rfl, _, _, _, _, _, _, _, q⟩ := q
    exact ⟨a, g, rfl, q.isGen⟩
  · obtain ⟨s₁, e, q, st, _, nk⟩ := q
    obtain ⟨_, N, qual, scope, f, cdv, n0, g, a, go, o, c, H1, F1, e1, ys, h1, h2, h3, h4, h5, h6, h7, h8, q⟩ := q
    have eh : s'.heap = s₁.heap := by have z := congrArg Shared.heap e; exact z
    refine ⟨⟨N, qual, scope, f, cdv, n0, g, a, go, o, c, H1, F1, e1, ys, h1, by rw [e]; exact h2, h3, h4, h5, h6, h7, h8, ⟨q.yng, q.gen, q.slots, by rw [eh]; exact q.obj, q.ha, nk _ _ q.st rfl, by rw [eh]; exact q.ko, q.slp⟩⟩, st⟩
end LP.Lo
namespace LP.Lo
open PySem PySem.Spec L2
open PyProof.Rows hiding St
open LP.Gn (GD WD cutH cut_get cut_some cut_size cut_frames gx GOk allV allV_get look_loc RF GEn MY Der rais_f Yng inv_aft mkG kp_set fin_tr wkD ASpG ASpM MGn mGn forY forHead wpAny_forHead turnHead)
section
variable {X : Cx} {N : List Str} {qual : Str} {scope : Scope} {f : Addr} {cdv : Value} {n0 k g : Nat} {pins : List (Addr × Obj)} {kgo : List (Nat × GenState)} {a : Addr} {go : Obj} {gs : GenState} {po : List (Addr × Obj)} {pg : List (Nat × GenState)} {P0 F F' H H' : Hp} {en : En} {σ σ' : St} {s s' : Shared} {ds : List D} {G : GD}
/-- what belongs to the sleeper is pinned -/
theorem Gs.pin (q : Gs X G pins kgo a go gs po pg F H s ds) (I : Inv X pins σ H (nog s)) : Inv X (pins ++ ((a, go) :: po)) σ H (nog s) := I.pins_of fun p hp => by
  have nl : ∀ b, G.n0 ≤ b → b ≠ X.env.locals := fun b h z => absurd (Nat.lt_of_lt_of_le q.yng.loc h) (by rw [z]; exact Nat.lt_irrefl _)
  have nf : ∀ b, b ∉ frs X.stack → b ∉ X.fs := fun b h z => by
    rcases I.ok.stk with e | ⟨e, hf⟩
    · rw [e] at h; exact h z
    · rw [e] at h
      refine h ?_
      unfold frs; rw [List.filterMap_cons, hf]; exact List.mem_cons_of_mem _ z
  rcases List.mem_append.mp hp with z | z
  · exact I.pin p (List.mem_append_right _ z)
  · rcases List.mem_cons.mp z with z | z
    · rw [z]
      obtain ⟨h1, h2, h3, h4, h5⟩ := q.ha
      exact ⟨q.obj, h1, nl _ h5, nf _ h2, h3⟩
    · obtain ⟨h1, h2, h3, h4, h5, h6, h7⟩ := q.ko p z
      exact ⟨h1, h2, nl _ h7, nf _ h3, h4⟩
/-- .. and so it is kept -/
theorem Gs.kept (q : Gs X G pins kgo a go gs po pg F H s ds) (hs : Hide.slp gs = true) (J : Inv X (pins ++ ((a, go) :: po)) σ' H' (nog s')) (sl : Stays s s') (sm : Same F F') : Gs X G pins kgo a go gs po pg F' H' s' ds := by
  have pinned : ∀ p ∈ (a, go) :: po, s'.heap.get? p.1 = some p.2 ∧ H' p.1 = none := fun p hp => let ⟨h1, h2, _⟩ := J.pin p (List.mem_append_right _ (List.mem_append_right _ hp)); ⟨h1, h2⟩
  obtain ⟨p1, p2⟩ := pinned (a, go) List.mem_cons_self
  obtain ⟨Fg, s1, s2⟩ := q.slp
  refine ⟨q.yng, q.gen, p1, ⟨p2, q.ha.2⟩, sl.sl _ _ q.st (slp_eq hs), fun p hp => ?_, kp_stays q.kk sl, q.ng, q.dg, ⟨Fg, s1.trans sm, s2⟩, q.gt, q.fair, q.pf, tb_stays q.tb sl⟩
  obtain ⟨h1, h2⟩ := pinned p (List.mem_cons_of_mem _ hp)
  exact ⟨h1, h2, (q.ko p hp).2.2⟩
end
section
variable {G : GD} {d d' : WD} {ip : List (Addr × Obj)} {kg : List (Nat × GenState)} {s s' : Shared} {σ σ' : St} {H H' F F' : Hp} {en en' : En} {N : List Str} {qual : Str} {scope : Scope} {f : Addr} {cdv : Value} {n0 k g : Nat} {a : Addr} {go : Obj} {gs : GenState} {po : List (Addr × Obj)} {pg : List (Nat × GenState)} {ds : List D}
theorem GInv0.to2 (I : GInv0 G d ip kg s σ H F en) (i : Inv (gx G d) ip σ' H' (nog s')) (r : RS G.K (prv d.F d.M d.H) F' en' σ' H') (sm : Same F F') (m : en'.M = en.M) (kk : KpL (d.kg ++ kg) s') (sz : G.g < s'.gens.size) : GInv0 G d ip kg s' σ' H' F' en' :=
  ⟨I.ok, I.room, I.gd, i, r, I.sm.trans sm, m.trans I.m, kk, I.pgs, I.ng, I.dis, sz, I.n0, I.nip, I.kf⟩
/-- with the generator that it walks -/
theorem GInv0.in1 (I : GInv0 G d ip kg s σ H F en) (q : Gs (gx G d) (mkG (gx G d) N qual scope f cdv n0 k g) ip (d.kg ++ kg) a go gs po pg F H s ds) (hs : Hide.slp gs = true) (hg : G.g < g) :
    GInv G d (ip ++ ((a, go) :: po)) (kg ++ ((g, gs) :: pg)) s σ H F en := by
  have lo : G.n0 ≤ n0 := Nat.le_of_lt q.yng.loc
  refine ⟨⟨I.ok, I.room, I.gd, q.pin I.inv, I.rs, I.sm, I.m, fun p hp => ?_, fun p hp => ?_, I.ng, fun p hp r hr => ?_, I.sz, I.n0, fun p hp => ?_, fun p hp => ?_⟩, ?_⟩
  · rcases List.mem_append.mp hp with z | z
    · exact I.kk p (List.mem_append_left _ z)
    rcases List.mem_append.mp z with z | z
    · exact I.kk p (List.mem_append_right _ z)
    rcases List.mem_cons.mp z with z | z
    · rw [z]; exact ⟨q.st, hs⟩
    · exact q.kk p (List.mem_append_right _ z)
  · rcases List.mem_append.mp hp with z | z
    · exact I.pgs p z
    rcases List.mem_cons.mp z with z | z
    · rw [z]; exact ⟨hg, fun r hr => q.ng r (List.mem_append_left _ (List.mem_append_left _ hr))⟩
    · exact ⟨Nat.lt_trans hg (q.gt p z), fun r hr => q.dg r (List.mem_append_left _ hr) p z⟩
  · rcases List.mem_append.mp hr with z | z
    · exact I.dis p hp r z
    rcases List.mem_cons.mp z with z | z
    · rw [z]; exact q.ha.2.2.2.1 p (List.mem_append_left _ hp)
    · exact (q.ko r z).2.2.2.2.2.1 p (List.mem_append_left _ hp)
  · rcases List.mem_append.mp hp with z | z
    · exact I.nip p z
    rcases List.mem_cons.mp z with z | z
    · rw [z]; exact Nat.le_trans lo q.ha.2.2.2.2
    · exact Nat.le_trans lo (q.ko p z).2.2.2.2.2.2
  · rcases List.mem_append.mp hp with z | z
    · exact (I.kf p z).mono fun r hr => List.mem_append_left _ hr
    rcases List.mem_cons.mp z with z | z
    · rw [z]; exact q.fair.mono fun r hr => List.mem_append_right _ (List.mem_cons_of_mem _ hr)
    · exact (q.pf p z).mono fun r hr => List.mem_append_right _ (List.mem_cons_of_mem _ hr)
  · rw [← List.append_assoc]; exact q.tb
theorem GInv0.out1 {pl : List (Addr × Obj)} {kl : List (Nat × GenState)} (I : GInv0 G d (ip ++ pl) (kg ++ kl) s σ H F en) (kf : ∀ q ∈ kg, FairG q.2 ip) : GInv0 G d ip kg s σ H F en :=
  ⟨I.ok, I.room, I.gd, I.inv.unpinned, I.rs, I.sm, I.m, fun p hp => (List.mem_append.mp hp).elim (fun z => I.kk p (List.mem_append_left _ z)) (fun z => I.kk p (List.mem_append_right _ (List.mem_append_left _ z))), fun p hp => I.pgs p (List.mem_append_left _ hp), I.ng,
    fun p hp r hr => I.dis p hp r (List.mem_append_left _ hr), I.sz, I.n0, fun p hp => I.nip p (List.mem_append_left _ hp), kf⟩
/-- the sleeper after the body, maybe in another wake; its object may have been marked meanwhile -/
theorem Gs.again (q : Gs (gx G d) (mkG (gx G d) N qual scope f cdv n0 k g) ip (d.kg ++ kg) a go gs po pg F H s ds) (I : GInv G d' (ip ++ ((a, go) :: po)) (kg ++ ((g, gs) :: pg)) s' σ' H' F' en') (sm : Same F F') :
    Gs (gx G d') (mkG (gx G d') N qual scope f cdv n0 k g) ip (d'.kg ++ kg) a go gs po pg F' H' s' ds := by
  have pinned : ∀ p ∈ (a, go) :: po, s'.heap.get? p.1 = some p.2 ∧ H' p.1 = none := fun p hp => let ⟨h1, h2, _⟩ := I.inv.pin p (List.mem_append_right _ (List.mem_append_right _ hp)); ⟨h1, h2⟩
  obtain ⟨p1, p2⟩ := pinned (a, go) List.mem_cons_self
  obtain ⟨Fg, s1, s2⟩ := q.slp
  have ms : (g, gs) ∈ kg ++ ((g, gs) :: pg) := List.mem_append_right _ List.mem_cons_self
  have mp : ∀ p ∈ pg, p ∈ kg ++ ((g, gs) :: pg) := fun p hp => List.mem_append_right _ (List.mem_cons_of_mem _ hp)
  have szc : (gx G d').s_0.heap.objs.size ≤ n0 := Nat.le_trans (I.inv.ok.above : (gx G d').s_0.heap.objs.size ≤ G.n0) (Nat.le_of_lt q.yng.loc)
  refine ⟨⟨szc, q.yng.loc, fun x c e => ?_⟩, q.gen, p1, ⟨p2, q.ha.2.1, q.ha.2.2.1, fun p hp => ?_, q.ha.2.2.2.2⟩, (I.kk _ (List.mem_append_right _ ms)).1, fun p hp => ?_, fun p hp => ?_, fun p hp => ?_, fun p hp r hr => ?_, ⟨Fg, s1.trans sm, s2⟩, q.gt, q.fair, q.pf, by rw [List.append_assoc]; exact I.tb⟩
  · have e' : G.env.cells.lookup x = some c := e
    rw [LP.Gn.GOk.cells I.ok x] at e'; cases e'
  · rcases List.mem_append.mp hp with z | z
    · exact I.dis p z (a, go) (List.mem_append_right _ List.mem_cons_self)
    · exact q.ha.2.2.2.1 p (List.mem_append_right _ z)
  · obtain ⟨h1, h2⟩ := pinned p (List.mem_cons_of_mem _ hp)
    obtain ⟨_, _, h3, h4, h5, h6, h7⟩ := q.ko p hp
    refine ⟨h1, h2, h3, h4, h5, fun r hr => ?_, h7⟩
    rcases List.mem_append.mp hr with z | z
    · exact I.dis r z p (List.mem_append_right _ (List.mem_cons_of_mem _ hp))
    · exact h6 r (List.mem_append_right _ z)
  · rcases List.mem_append.mp hp with z | z
    · rcases List.mem_append.mp z with z | z
      · exact I.kk p (List.mem_append_left _ z)
      · exact I.kk p (List.mem_append_right _ (List.mem_append_left _ z))
    · exact I.kk p (List.mem_append_right _ (mp p z))
  · rcases List.mem_append.mp hp with z | z
    · rcases List.mem_append.mp z with z | z
      · exact (I.pgs _ ms).2 p z
      · exact q.ng p (List.mem_append_left _ (List.mem_append_right _ z))
    · exact q.ng p (List.mem_append_right _ z)
  · rcases List.mem_append.mp hp with z | z
    · exact (I.pgs _ (mp r hr)).2 p z
    · exact q.dg p (List.mem_append_right _ z) r hr
variable {tg e : Expr} {body : List Stmt} {pos : Pos} {i : MGn} {gm : MG} {m : MY} {ws : List Nat}
end
end LP.Lo
namespace LP.Lo
open PySem PySem.Spec L2
open PyProof.Rows hiding St
open LP.Gn (GD WD cutH cut_get cut_some cut_size cut_frames gx GOk allV allV_get look_loc RF GEn MY Der rais_f Yng inv_aft mkG kp_set fin_tr wkD ASpG ASpM MGn mGn yTk)
section
variable {M : Model} {A : Around} {c : Code} {fs : List Frame} {s : Shared} {Φ : End → Shared → Prop}
theorem sg_bind_wrap {α β : Type} {m : Sem α} {f : α → Sem β} {K : β → Sem PySem.Fin} {J : Value → Sem PySem.Fin} {gd : Bool → Bool} {lv : List Value → List Value}
    (h : wp2 M (A.over c fs) m (fun a s' => Sg M A c ((f a).wrap K J gd lv) fs Φ s') (fun x s' => Sg M A c (J x) fs Φ s') s) : Sg M A c ((m >>= f).wrap K J gd lv) fs Φ s := by
  rw [Sem.bind_eq_wrap', Sem.wrap_wrap]; exact sg_wrap h
end
theorem close_gen : typeLookup (.type "generator") "close" = pure (some (.builtin "generator.close")) := by rw [typeLookup_type, builtinLookup_eq_fast]; kernel_rfl
/-- a builtin's code over the frame that it was called from -/
theorem over_bi {A : Around} {c c' : Code} {fs : List Frame} {k : Result → Sem PySem.Fin} {g : Bool} {l kp : List Value} {p : Pos} (env : Env) (hw : c'.weight = 0) (hu : c'.cUnits = 1) : A.over c' (.ret k none g l c p kp :: fs) = (A.over c fs).in1 := by
  have z := GenW.over_loop (A := A) (c := c) (c' := .block [] env) (fs := fs) (k := k) (g := g) (l := l) (kp := kp) (p := p) rfl rfl
  rw [← z]
  unfold Around.over
  rw [Code.envs_of_weight hw, Code.guards_of_weight hw, hw, hu]
  rfl
section
variable {X : Cx} {N : List Str} {qual : Str} {scope : Scope} {f : Addr} {cdv : Value} {n0 k g : Nat} {pins : List (Addr × Obj)} {kgo : List (Nat × GenState)} {a : Addr} {go go' : Obj} {gs : GenState} {po : List (Addr × Obj)} {pg : List (Nat × GenState)} {P0 F F' H H' : Hp} {en : En} {σ σ' : St} {s s' : Shared} {ds : List D} {G : GD} {h' : Heap}
theorem Gs.mark (q : Gs X G pins kgo a go gs po pg F H s ds) (e' : h'.get? a = some go') (k' : ∀ b o, b ≠ a → s.heap.get? b = some o → h'.get? b = some o) (gen : GenO go' G.g) : Gs X G pins kgo a go' gs po pg F H { s with heap := h' } ds := by
  refine ⟨q.yng, gen, e', ⟨q.ha.1, q.ha.2.1, fun v z => ?_, q.ha.2.2.2⟩, q.st, fun p hp => ?_, q.kk, q.ng, q.dg, q.slp, q.gt, q.fair, q.pf, q.tb⟩
  · obtain ⟨nm, qn, _, hd⟩ := gen
    rw [hd] at z; cases z
  · obtain ⟨h1, h2, h3, h4, h5, h6⟩ := q.ko p hp
    exact ⟨k' _ _ h5 h1, h2, h3, h4, h5, h6⟩
theorem Gs.inv_mark (q : Gs X G pins kgo a go gs po pg F H s ds) (I : Inv X pins σ H (nog s)) (k' : ∀ b o, b ≠ a → s.heap.get? b = some o → h'.get? b = some o) : Inv X pins σ H (nog { s with heap := h' }) := by
  obtain ⟨h1, h2, h3, h4, h5⟩ := q.ha
  refine Inv.turned (s := nog s) (t' := s.toks) I k' h1 (fun z => ?_) (.inr (Nat.le_trans q.yng.s0 h5)) (fun x c e z => ?_) h4
  · have := Nat.lt_of_lt_of_le q.yng.loc h5
    rw [z] at this; exact Nat.lt_irrefl _ this
  · have := Nat.lt_of_lt_of_le (q.yng.cell x c e) h5
    rw [z] at this; exact Nat.lt_irrefl _ this
end
section
variable {G : GD} {k : Nat} {e : Expr} {pos yp : Pos} {i : MGn}
def fromY (B : GEn) : List D → List D → En → Prop
  | [], r, en => B.nx r en
  | x :: xs, r, en => allV en.sl = true ∧ yTk r x fun r' => ∀ M', fromY B xs r' ⟨en.sl, M'⟩
def yFrom (i : MGn) : MY := fun B r en => i en fun ds e1 => e1.M = en.M ∧ fromY B ds r e1
abbrev yfc (a : Addr) : Code := .builtin "proto.yield_from" ⟨[.ref a, .bool false, .none], []⟩
theorem y_from (hk : k + 3 ≤ G.k) (hi : Der G fun X => AGn X k e i) (hin : interactive G.env = false := by rfl) : YS G (.Expr (.YieldFrom e yp) pos) (yFrom i) := by
  intro ip kg c fs K J gd lv B r d s σ H F en g kk I hm
  have ht := hi d I.gdX I.roomX
  rw [exec_Expr G.env _ pos hin rfl]
  show Sg _ _ c (.at pos fun _ => ((eval e G.env >>= fun v => (standAt yp >>= fun _ => yieldFrom G.env v)) >>= fun x => dropValue (.YieldFrom e yp) pos x).wrap K J gd lv) fs _ s
  refine sg_at ?_
  rw [Sem.bind_eq_wrap' (eval e G.env >>= fun v => (standAt yp >>= fun _ => yieldFrom G.env v)), Sem.wrap_wrap]
  refine sg_bind_wrap ?_
  rw [g.over]
  refine wp2_mono (run_gn (X := gx G d) (E := fun x s' => Sg (model G.P G.w) d.A c (J x) fs (Fut G r d) s') I.inv I.rs hm ht rfl fun A Q s h => wpAny_mono h (fun u s1 q => q.2) fun _ _ z => z) (fun itv s2 q => ?_) fun _ _ z => z
  obtain ⟨⟨N, qual, scope, f, cdv, n0, gi, a, go, o, c0, H1, F1, e1, ys, rfl, I1, r1, s1, ⟨em, hf⟩, hn, _, _, q⟩, sl⟩ := q
  have I2 : GInv G d ip kg s2 σ H1 F1 e1 := I.to I1 r1 s1 em sl
  have hgi : G.g < gi := Nat.lt_of_lt_of_le I.sz hn
  have q2 := q.gs I2.kk I2.tb fun p hp => Nat.lt_of_lt_of_le (Array.getElem?_eq_some_iff.mp (I.kk p hp).1).1 hn
  have hz : zs go := .inl q.slots
  have hT : s2.TypeIs (.ref a) "generator" := q.isGen.typeIs
  refine sg_at ?_
  show Sg _ _ c ((yieldFrom G.env (.ref a)).wrap (fun b => (dropValue (.YieldFrom e yp) pos b).wrap K J gd lv) J gd lv) fs _ s2
  unfold yieldFrom
  refine sg_bind_wrap (lift (wpAny_typeOf hT ?_))
  rw [if_neg (by decide)]
  refine sg_bind_wrap (wp2_holding (lift (wpAny_pyIter_gen q.isGen ?_)))
  refine sg_call fun p => ?_
  have hov : ∀ (d' : WD) (kk : Result → Sem PySem.Fin) (l : List Value), d'.A.over (yfc a) (.ret kk none (gd false) l c p [] :: fs) = (gx G d').A.in1 := fun d' kk l => by
    rw [over_bi G.env (plainId_weight plain_yf _) (plainId_units plain_yf _), g.over]
  have gl := fun (kk : Result → Sem PySem.Fin) (l : List Value) => gc_for (k := kk) (c' := .block [] G.env) (l := l) (kp := []) (p := p) g rfl rfl
  refine (?_ : ∀ (n : Nat) (xs : List D) (r : List D) (d' : WD) (s' : Shared) (H' F' : Hp) (en' : En) (go : Obj) (gs : GenState) (po : List (Addr × Obj)) (pg : List (Nat × GenState)), xs.length < n → GInv0 G d' ip kg s' σ H' F' en' → Gs (gx G d') (mkG (gx G d') N qual scope f cdv n0 k gi) ip (d'.kg ++ kg) a go gs po pg F' H' s' xs → zs go → Same F1 F' → fromY B xs r en' →
      Sg (model G.P G.w) d'.A (yfc a) ((model G.P G.w).den (yfc a)) _ (Fut G r d') s') (ys.length + 1) ys r d s2 H1 F1 e1 go _ _ _ (Nat.lt_succ_self _) I2.toGInv0 q2 hz (Same.refl F1) hf
  intro n
  induction n with
  | zero => intro xs r d' s' H' F' en' go gs po pg hn; exact absurd hn (Nat.not_lt_zero _)
  | succ n ih =>
    intro xs r d' s' H' F' en' go gs po pg hn I' q' hz' sF' hf'
    have ed : (model G.P G.w).den (yfc a) = Builtin.«proto.yield_from» ⟨[.ref a, .bool false, .none], []⟩ := den_yf (X := gx G d') (it := .ref a)
    rw [ed]
    unfold Builtin.«proto.yield_from»
    try dsimp only
    refine sg_bind (lift (wpAny_pure ?_))
    try dsimp only
    refine sg_bind (wp2_attempt (wp2_holding ?_))
    rw [if_neg Bool.false_ne_true, if_pos (show (Value.none == Value.none) = true from rfl)]
    refine wp2_bind (wp2_rule (wp2_bind ?_))
    rw [hov]
    refine wp2_mono (cs_turn I'.inv I'.rs q' hz' (I'.roomX.mono hk).in1 I'.gdX I'.inv.ok.frames trivial) (fun r0 s4 h4 => ?_) fun e s4 h4 => ?_
    · obtain ⟨u, rfl, x, ds', v, F4, H4, po', pg', gs', rfl, I4, r4, sm4, ru, rp, q4, hsl⟩ := h4
      have z4 : gi < s4.gens.size := (Array.getElem?_eq_some_iff.mp q4.st).1
      have I4' : GInv0 G d' ip kg s4 σ H4 F4 en' := I'.to2 I4 r4 sm4 rfl (fun p hp => q4.kk p (List.mem_append_left _ hp)) (Nat.lt_trans hgi z4)
      have hT4 : s4.TypeIs (.ref a) "generator" := by
        obtain ⟨nm, qn, hc, _⟩ := q4.gen
        exact ⟨_, q4.obj, hc⟩
      have hcl := close_gen
      refine wp2_pure ?_
      try dsimp only
      refine sg_bind (lift (wpAny_typeOf (T := "generator") hT4 ?_))
      try dsimp only
      first
        | (refine sg_bind (lift (wpAny_of_eq hcl ?_)); refine sg_bind (lift (wpAny_pure ?_)))
        | refine sg_bind (lift (wpAny_bind (wpAny_of_eq hcl (wpAny_pure ?_))))
        | refine sg_bind (lift (wpAny_of_eq hcl ?_))
      try dsimp only
      refine sg_bind (lift (wpAny_slept (n := 1) q4.obj q4.gen (.inl ⟨rfl, hz', rfl⟩) fun h5 e5 k5 => ?_))
      obtain ⟨hav, hty⟩ := hf'
      have I5' : Inv (gx G d') ip σ H4 (nog { s4 with heap := h5 }) := q4.inv_mark I4 k5
      have q5 := q4.mark e5 k5 (q4.gen.slN 1)
      have I5 : GInv G d' _ _ { s4 with heap := h5 } σ H4 F4 en' := (I4'.to2 I5' r4 (Same.refl F4) rfl I4'.kk I4'.sz).in1 q5 hsl hgi
      obtain ⟨o, ho, hd⟩ := I5.loc
      cases r with
      | nil => exact hty.elim
      | cons y r' =>
        obtain ⟨rfl, hty⟩ := hty
        refine sg_yield (gl _ _).split fun p0 => ?_
        refine ⟨u, _, _, _, _, p0, _, rfl, (G.n0, o) :: (ip ++ ((a, slN 1 go) :: po')), kg ++ ((gi, gs') :: pg'), H4, F4, v, .inr ⟨_, _, _, a, _, _, _, _, slN 1 go, gi, rfl, (gl _ _).guard, List.mem_cons_of_mem _ (List.mem_append_right _ List.mem_cons_self), (q4.gen.slN 1).num⟩, I5.aft ho, ru, rp, fun d2 rd sF => ?_⟩
        have I6 := I5.wake ho hav rd sF
        have q6 := q5.again I6 sF
        have I7 := I6.toGInv0.out1 I.kf
        show Sg _ _ _ (Builtin.Generator.sleptOver (.ref a) false >>= fun _ => _) _ _ _
        refine sg_bind (lift (wpAny_slept (n := 0) q6.obj q6.gen (.inr ⟨rfl, ⟨go, rfl⟩, rfl⟩) fun h8 e8 k8 => ?_))
        try dsimp only
        refine sg_bind (lift (wpAny_pure ?_))
        refine sg_again (plainId_quiet plain_yf _) (ih ds' r' d2 { d2.s with heap := h8 } d2.H d2.F ⟨en'.sl, d2.M⟩ _ gs' po' pg' (Nat.lt_of_succ_lt_succ hn) (I7.to2 (q6.inv_mark I7.inv k8) I7.rs (Same.refl _) rfl I7.kk I7.sz) (q6.mark e8 k8 (q6.gen.slN 0)) zs_sl0 ((sF'.trans sm4).trans sF) (hty d2.M))
    · obtain ⟨⟨xa, xo, vs, rfl, hoa, hcls, hdat, h5⟩, rfl, F4, H4, I4, r4, sm4, k4, t4, z4⟩ := h4
      try dsimp only
      refine sg_bind (lift (wpAny_endsTurn hoa hcls ?_))
      try dsimp only
      rw [if_pos rfl]
      first
        | refine sg_bind (lift (wpAny_rule ?_))
        | (rw [if_neg Bool.false_ne_true]; refine sg_bind (lift (wpAny_rule ?_)))
        | (rw [if_neg Bool.false_ne_true]; refine sg_bind (lift (wpAny_pure ?_)); refine sg_bind (lift (wpAny_rule ?_)))
      refine sg_bind (lift (wpAny_field hoa hdat h5 ?_))
      exact sg_leaf (.ok (.ret .none)) (kk .next r d' s4 σ H4 F4 en' ⟨I'.to2 I4 r4 sm4 rfl k4 (Nat.lt_trans hgi z4), t4⟩ (s1.trans (sF'.trans sm4)) hf')
end
end LP.Lo
namespace LP.Lo
open PySem PySem.Spec L2
open PyProof.Rows hiding St
open LP.Gn (GD WD cutH cut_get cut_some cut_size cut_frames gx GOk allV allV_get look_loc RF GEn MY Der rais_f Yng inv_aft mkG kp_set fin_tr wkD ASpG ASpM MGn mGn extG inv_adopt)
/-- the state of a def (not a generator's): ko the sleepers of those around it, kl and pins its own -/
structure DI0 (X : Cx) (ko : List (Nat × GenState)) (pins : List (Addr × Obj)) (kl : List (Nat × GenState)) (σ : St) (H : Hp) (s : Shared) : Prop where
  inv : Inv X pins σ H (nog s)
  kk : KpL (ko ++ kl) s
structure DI (X : Cx) (ko : List (Nat × GenState)) (pins : List (Addr × Obj)) (kl : List (Nat × GenState)) (σ : St) (H : Hp) (s : Shared) : Prop extends DI0 X ko pins kl σ H s where
  tb : TbL (ko ++ kl) s
section
variable {X : Cx} {ko kl : List (Nat × GenState)} {N : List Str} {qual : Str} {scope : Scope} {f : Addr} {cdv : Value} {n0 k g : Nat} {pins : List (Addr × Obj)} {a S : Addr} {go : Obj} {gs : GenState} {po : List (Addr × Obj)} {pg : List (Nat × GenState)} {P0 F F' H H' : Hp} {en : En} {σ σ' : St} {s s' : Shared} {ds : List D} {G : GD} {C : Sto → Prop} {kgo : List (Nat × GenState)}
theorem DI.to (I : DI X ko pins kl σ H s) (i : Inv X pins σ' H' (nog s')) (sl : Stays s s') : DI X ko pins kl σ' H' s' := ⟨⟨i, kp_stays I.kk sl⟩, tb_stays I.tb sl⟩
/-- a step that leaves the table alone -/
theorem DI0.same (I : DI0 X ko pins kl σ H s) (i : Inv X pins σ' H' (nog s')) (e : s'.gens = s.gens) : DI0 X ko pins kl σ' H' s' := ⟨i, fun q hq => by rw [e]; exact I.kk q hq⟩
/-- the sleeper beside a step of its waker that leaves its objects alone -/
theorem Gs.step {pins' : List (Addr × Obj)} (q : Gs X G pins kgo a go gs po pg F H s ds) (hp : ∀ r ∈ X.pn ++ pins', ∃ r' ∈ X.pn ++ pins, r'.1 = r.1) (hk : ∀ p ∈ (a, go) :: po, s.heap.get? p.1 = some p.2 → s'.heap.get? p.1 = some p.2) (hg : s'.gens = s.gens) : Gs X G pins' kgo a go gs po pg F H s' ds := by
  refine ⟨q.yng, q.gen, hk (a, go) List.mem_cons_self q.obj, ⟨q.ha.1, q.ha.2.1, q.ha.2.2.1, fun p hpm => ?_, q.ha.2.2.2.2⟩, by rw [hg]; exact q.st, fun p hpm => ?_, fun p hpm => by rw [hg]; exact q.kk p hpm, q.ng, q.dg, q.slp, q.gt, q.fair, q.pf, fun i x e => q.tb i x (by rw [← hg]; exact e)⟩
  · obtain ⟨r', h1, h2⟩ := hp p hpm
    rw [← h2]; exact q.ha.2.2.2.1 r' h1
  · obtain ⟨h1, h2, h3, h4, h5, h6, h7⟩ := q.ko p hpm
    refine ⟨hk p (List.mem_cons_of_mem _ hpm) h1, h2, h3, h4, h5, fun r hr => ?_, h7⟩
    obtain ⟨r', z1, z2⟩ := hp r hr
    rw [← z2]; exact h6 r' z1
theorem fpOk_pin {o : Obj} (I : Inv X pins σ H (nog s)) (hf : FpOk X pins H S) (ho : s.heap.get? S = some o) (hd : ∀ v, o.data ≠ .cell v) : Inv X (pins ++ [(S, o)]) σ H (nog s) := LP.Gn.fpOk_pin (s := nog s) I hf ho hd
/-- the turns of list.extend -/
theorem drain2 {A : Around} {res : Value} (hr : Room (k + 3) A) (hgd : A.guards = some []) (hfr : A.frames = some X.stack) (hC : C en.M) (hz : zs go) :
    ∀ (ds : List D) (s : Shared) (acc : Array Value) (c : Nat) (H F : Hp) (gs : GenState) (po : List (Addr × Obj)) (pg : List (Nat × GenState)) (vs : List V) (dn : List D), Inv X pins σ H (nog s) → RS X.K P0 F en σ H → FpOk X pins H S → s.heap.get? S = some (lstObj acc c) →
      Gs X (mkG X N qual scope f cdv n0 k g C) (pins ++ [(S, lstObj acc c)]) kgo a go gs po pg F H s ds → Vals vs acc.toList → Rps X.K F vs dn → dn.length + ds.length ≤ sizeLine →
      code2 (model X.prog X.w) A (.builtin "list.extend.loop" ⟨[.ref S, .ref a, res], []⟩) (fun r s' => r = .ok (.ret res) ∧ ∃ H' F' acc' c' vs', Inv X pins σ H' (nog s') ∧ KpL kgo s' ∧ TbL kgo s' ∧ RS X.K P0 F' en σ H' ∧ Same F F' ∧ FpOk X pins H' S ∧ s'.heap.get? S = some (lstObj acc' c') ∧ Vals vs' acc'.toList ∧ Rps X.K F' vs' (dn ++ ds)) s := by
  intro ds
  induction ds with
  | nil =>
    intro s acc c H F gs po pg vs dn I rs hf hS q rv rp hl
    refine code2_builtinP PySem.F.plain_extend_loop PySem.F.entry_extend_loop ?_
    show wp2 _ A.in1 (pyNext (.ref a) >>= _) _ _ s
    refine wp2_bind (wp2_mono (next_turn (E := fun _ _ => False) (fpOk_pin I hf hS fun v z => by cases z) rs q hz hr.in1 hgd hfr hC) (fun r s4 h4 => ?_) fun _ _ z => z.elim)
    rcases h4 with ⟨rfl, _, F4, H4, I4, r4, sm4, k4, t4, _⟩ | ⟨_, _, _, _, _, _, _, _, _, _, z, _⟩
    · obtain ⟨e4, n4, _⟩ := I4.pin (S, lstObj acc c) (List.mem_append_right _ (List.mem_append_right _ (List.mem_singleton.mpr rfl)))
      exact wp2_pure ⟨rfl, H4, F4, acc, c, vs, I4.unpinned, k4, t4, r4, sm4, ⟨n4, hf.2⟩, e4, rv, by rw [List.append_nil]; exact rp.mono sm4⟩
    · cases z
  | cons x ds ih =>
    intro s acc c H F gs po pg vs dn I rs hf hS q rv rp hl
    refine code2_builtinP PySem.F.plain_extend_loop PySem.F.entry_extend_loop ?_
    show wp2 _ A.in1 (pyNext (.ref a) >>= _) _ _ s
    refine wp2_bind (wp2_mono (next_turn (E := fun _ _ => False) (fpOk_pin I hf hS fun v z => by cases z) rs q hz hr.in1 hgd hfr hC) (fun r s4 h4 => ?_) fun _ _ z => z.elim)
    rcases h4 with ⟨_, z, _⟩ | ⟨u, rfl, x', ds', v, F4, H4, po', pg', gs', e, I4, r4, sm4, ru, rpx, q4, hsl⟩
    · cases z
    obtain ⟨rfl, rfl⟩ := List.cons.inj e
    obtain ⟨e4, n4, _⟩ := I4.pin (S, lstObj acc c) (List.mem_append_right _ (List.mem_append_right _ (List.mem_singleton.mpr rfl)))
    have hasz : acc.size < sizeLine := by
      have e1 := rv.length
      have e2 := rp.length
      have e3 : acc.toList.length = acc.size := by simp
      simp only [List.length_cons] at hl
      omega
    show wp2 _ A.in1 (updateSeq S (·.push u) >>= _) _ _ _
    refine wp2_bind (lift ?_)
    refine wpAny_updateSeq e4 rfl (wp2_pure ⟨plainId_quiet PySem.F.plain_extend_loop _, ?_⟩) (Nat.le_of_lt hasz) (by show (acc.push u).size ≤ sizeLine + 1; rw [Array.size_push]; omega)
    have keep3 : ∀ b o, b ≠ S → s4.heap.get? b = some o → (s4.heap.update S (Obj.mapSeq (·.push u))).get? b = some o := fun b o hbS e => (Heap.get?_update_other _ _ (Ne.symm hbS)).trans e
    have hf4 : FpOk X pins H4 S := ⟨n4, hf.2⟩
    have I5 : Inv X pins σ H4 (nog { s4 with heap := s4.heap.update S (Obj.mapSeq (·.push u)) }) := Inv.turned (s := nog s4) (t' := s4.toks) I4.unpinned keep3 n4 hf.2.1 hf.2.2.2.1 hf.2.2.2.2.1 hf.2.2.2.2.2
    obtain ⟨c5, e5⟩ : ∃ c5, (s4.heap.update S (Obj.mapSeq (·.push u))).get? S = some (lstObj (acc.push u) c5) := ⟨_, Heap.get?_update_self (Obj.mapSeq (·.push u)) e4 rfl⟩
    refine code2_mono (ih _ (acc.push u) c5 H4 F4 gs' po' pg' (vs ++ [v]) (dn ++ [x]) I5 r4 hf4 e5 (q4.step (fun r hr => ?_) (fun p hp e => ?_) rfl) ?_ ((rp.mono sm4).append (.cons rpx .nil)) (by simp only [List.length_append, List.length_cons, List.length_nil] at hl ⊢; omega)) fun r s6 h6 => ?_
    · rcases List.mem_append.mp hr with z | z
      · exact ⟨r, List.mem_append_left _ z, rfl⟩
      · rcases List.mem_append.mp z with z | z
        · exact ⟨r, List.mem_append_right _ (List.mem_append_left _ z), rfl⟩
        · exact ⟨(S, lstObj acc c), List.mem_append_right _ (List.mem_append_right _ (List.mem_singleton.mpr rfl)), by rw [List.mem_singleton.mp z]⟩
    · refine keep3 p.1 p.2 (fun z => ?_) e
      have hm : (S, lstObj acc c) ∈ X.pn ++ (pins ++ [(S, lstObj acc c)]) := List.mem_append_right _ (List.mem_append_right _ (List.mem_singleton.mpr rfl))
      rcases List.mem_cons.mp hp with y | y
      · rw [y] at z; exact q4.ha.2.2.2.1 _ hm z.symm
      · exact (q4.ko p y).2.2.2.2.2.1 _ hm z.symm
    · rw [Array.toList_push]; exact rv.append (.cons ru .nil)
    · obtain ⟨e1, H', F', acc', c', vs', i1, k1, t1, i2, i3, i4, i5, i6, i7⟩ := h6
      exact ⟨e1, H', F', acc', c', vs', i1, k1, t1, i2, sm4.trans i3, i4, i5, i6, by rw [List.append_assoc] at i7; exact i7⟩
/-- a new list beside the sleeper -/
theorem Gs.pushed (q : Gs X G pins kgo a go gs po pg F H s ds) (o : Obj) {o2 : Obj} : Gs X G (pins ++ [(s.heap.objs.size, o2)]) kgo a go gs po pg F H { s with heap := s.heap.push o } ds := by
  have z := q.step (pins' := pins) (s' := { s with heap := s.heap.push o }) (fun r hr => ⟨r, hr, rfl⟩) (fun p _ e => Heap.get?_push_of_some _ e) rfl
  refine ⟨z.yng, z.gen, z.obj, ⟨z.ha.1, z.ha.2.1, z.ha.2.2.1, fun p hp => ?_, z.ha.2.2.2.2⟩, z.st, fun p hp => ?_, z.kk, z.ng, z.dg, z.slp, z.gt, z.fair, z.pf, z.tb⟩
  · rcases List.mem_append.mp hp with y | y
    · exact z.ha.2.2.2.1 p (List.mem_append_left _ y)
    · rcases List.mem_append.mp y with y | y
      · exact z.ha.2.2.2.1 p (List.mem_append_right _ y)
      · rw [List.mem_singleton.mp y]
        exact Nat.ne_of_gt (Heap.lt_size q.obj)
  · obtain ⟨h1, h2, h3, h4, h5, h6, h7⟩ := z.ko p hp
    refine ⟨h1, h2, h3, h4, h5, fun r hr => ?_, h7⟩
    rcases List.mem_append.mp hr with y | y
    · exact h6 r (List.mem_append_left _ y)
    · rcases List.mem_append.mp y with y | y
      · exact h6 r (List.mem_append_right _ y)
      · rw [List.mem_singleton.mp y]
        exact Nat.ne_of_gt (Heap.lt_size (q.ko p hp).1)
/-- all that a generator yields, in a new list at S -/
def Drained (X : Cx) (pins : List (Addr × Obj)) (kgo : List (Nat × GenState)) (σ : St) (P0 F : Hp) (en : En) (ds : List D) (S : Addr) (s' : Shared) : Prop :=
  ∃ H' F' acc' c' vs', Inv X pins σ H' (nog s') ∧ KpL kgo s' ∧ TbL kgo s' ∧ RS X.K P0 F' en σ H' ∧ Same F F' ∧ FpOk X pins H' S ∧ s'.heap.get? S = some (lstObj acc' c') ∧ Vals vs' acc'.toList ∧ Rps X.K F' vs' ds
/-- listExtendWith of a list that has just been made -/
theorem extend2 {A : Around} {res : Value} {c : Nat} {s1 : Shared} {E : Value → Shared → Prop} {R : Result → Shared → Prop} {A' : Around} (hr : Room (k + 4) A) (hgd : A.guards = some []) (hfr : A.frames = some X.stack) (hC : C en.M) (hz : zs go) (I : Inv X pins σ H (nog s)) (rs : RS X.K P0 F en σ H) (q : Gs X (mkG X N qual scope f cdv n0 k g C) pins kgo a go gs po pg F H s ds) (hsl : go.slots = #[]) (hl : ds.length ≤ sizeLine)
    (hS : s1.heap.get? s.heap.objs.size = some (lstObj #[] c)) (hk : ∀ b o, b ≠ s.heap.objs.size → s.heap.get? b = some o → s1.heap.get? b = some o) (h1 : s1 = { s with heap := s1.heap, toks := s1.toks })
    (hR : ∀ s', Drained X pins kgo σ P0 F en ds s.heap.objs.size s' → R (.ok (.ret res)) s') : wp2 (model X.prog X.w) A' (Builtin.List.listExtendWith (.ref s.heap.objs.size) (.ref a) res) (finP (model X.prog X.w) A R) E s1 := by
  have hne : s.heap.objs.size ≠ a := Nat.ne_of_gt (Heap.lt_size q.obj)
  have hgen : s1.heap.IsGen a g := by
    obtain ⟨nm, qn, z1, z2⟩ := q.gen
    exact ⟨go, nm, qn, hk _ _ (Ne.symm hne) q.obj, z1, z2, hsl⟩
  refine lift (extG hS hgen hne fun h' c' e' k' => ⟨plainId_quiet PySem.F.plain_extend_loop _, ?_⟩)
  have lt2 : ∀ b o, s.heap.get? b = some o → b ≠ s.heap.objs.size := fun b o e => Nat.ne_of_lt (Heap.lt_size e)
  have kp : ∀ b o, s.heap.get? b = some o → h'.get? b = some o := fun b o e => k' b o (lt2 b o e) (hk b o (lt2 b o e) e)
  have eg : ({ s1 with heap := h' } : Shared).gens = s.gens := by
    show s1.gens = s.gens
    rw [h1]
  have eo : s1.os = s.os := by rw [h1]
  have ed : s1.drawn = s.drawn := by rw [h1]
  have I1 : Inv X pins σ H (nog { s1 with heap := h' }) := by
    have z := Inv.kept (s := nog s) (t' := s1.toks) (h' := h') I kp
    have e2 : nog { s1 with heap := h' } = { nog s with heap := h', toks := s1.toks } := by
      show ({ s1 with heap := h', gens := #[] } : Shared) = { s with gens := #[], heap := h', toks := s1.toks }
      rw [h1]
    rw [e2]; exact z
  have fp : FpOk X pins H s.heap.objs.size := Inv.fpOk (s := nog s) I (Nat.le_refl _) (I.hok.fresh (Nat.le_refl _))
  have q1 := (q.pushed { cls := .type "list", data := .seq #[] } (o2 := lstObj #[] c')).step (pins' := pins ++ [(s.heap.objs.size, lstObj #[] c')]) (s' := { s1 with heap := h' }) (fun r hr => ⟨r, hr, rfl⟩) (fun p hp e => ?_) eg
  · refine code2_mono (drain2 (A := A) (res := res) (hr.mono (by omega)) hgd hfr hC hz ds _ #[] c' H F gs po pg [] [] I1 rs fp e' q1 .nil .nil (by simpa using hl)) fun r s6 h6 => ?_
    obtain ⟨rfl, H', F', acc', c6, vs', i⟩ := h6
    exact hR s6 ⟨H', F', acc', c6, vs', i⟩
  · have hlt : s.heap.get? p.1 = some p.2 := by
      rcases List.mem_cons.mp hp with y | y
      · rw [y]; exact q.obj
      · exact (q.ko p y).1
    exact kp p.1 p.2 hlt
end
end LP.Lo
namespace LP.Lo
open PySem PySem.Spec L2
open PyProof.Rows hiding St
open LP.Gn (GD WD cutH cut_get cut_some cut_size cut_frames gx GOk allV allV_get look_loc RF GEn MY Der rais_f Yng inv_aft mkG kp_set fin_tr wkD ASpG ASpM MGn mGn extG inv_adopt)
section
variable {prog : Program} {w : World} {A : Around} {E : Value → Shared → Prop} {s : Shared}
theorem wp2_callType {T newId initId : String} {Bi : Builtin} {arg : Value} {Q Q₁ : Value → Shared → Prop} (ft : TypeCalled T newId initId) (hct : checkTypeCall T ⟨[arg], []⟩ = pure ()) (entryI : entryFor table initId = some Bi)
    (hnew : code2 (model prog w) A.in1 (.call (.builtin newId) ⟨[.type T, arg], []⟩) (want Q₁ E) s)
    (hnext : ∀ obj s₁, Q₁ obj s₁ → s₁.TypeIs obj T ∧ argsOk initId ⟨[obj, arg], []⟩ ∧
      wp2 (model prog w) A.in1.in1 (Bi ⟨[obj, arg], []⟩) (finP (model prog w) A.in1 (want (fun r s₂ => r = .none ∧ Q obj s₂) E)) E s₁) :
    wp2 (model prog w) A (call (.type T) [arg]) Q E s := by
  obtain ⟨c, tl, hmro⟩ := ft.mro
  refine wp2_call (code2_of_tree ?_)
  rw [under_call]
  show wp2 _ _ (callAny (.type T) _) _ _ _
  refine wp2_pure ⟨Code.quiet_builtin _ (by decide +kernel), code2_builtin PySem.F.entry_type_call ?_⟩
  rw [Around.under_plain (weight_type_call_type T [arg] []) rfl]
  have h1 := ft.notType
  have h2 := ft.canCreate
  unfold Builtin.«type.__call__»
  dsimp only
  rw [if_neg (by rw [h1]; exact Bool.false_ne_true)]
  rw [if_neg (by rw [h2]; exact Bool.false_ne_true)]
  refine wp2_bind (lift (wpAny_of_eq hct ?_))
  refine wp2_bind (lift (wpAny_of_eq hmro ?_))
  rw [if_neg (by exact Bool.false_ne_true)]
  refine wp2_bind (lift (wpAny_of_eq ft.made ?_))
  dsimp only
  refine wp2_bind (wp2_pure ?_)
  refine wp2_bind (wp2_holding (wp2_call (code2_mono hnew fun r s₁ h => ?_)))
  cases r with
  | error e => exact h
  | ok fl =>
    cases fl with
    | next => exact h.elim
    | brk => exact h.elim
    | cont => exact h.elim
    | ret obj =>
      obtain ⟨hT, ha, hb⟩ := hnext obj s₁ h
      refine wp2_bind (lift (wpAny_isInstance (T := T) (b := true) hT ft.sub ?_))
      rw [if_neg (by exact Bool.false_ne_true)]
      refine wp2_bind (wp2_holding (wp2_callSpecial (name := Str.ofString "__init__") hT ft.init (wp2_call (code2_call_builtin ft.init.plain entryI (lift (ft.init.check _ _ _ _ _ _ _ _ hT ha (wp2_mono hb (fun fin s' h' => ?_) fun _ _ h' => h')))))))
      have conv : ∀ (r : Result) (s₂ : Shared), want (fun r s₂ => r = .none ∧ Q obj s₂) E r s₂ → want (fun v => fun s' => wp2 (model prog w) A.in1 (match some v with
                    | none => ret obj
                    | some r =>
                      if (r != Value.none) = true then do
                        rule "type.call.init-returned-value"
                        let __do_lift ← typeNameOf r
                        raiseErrorMade "TypeError"
                            (toString "__init__() should return None, not '" ++ toString __do_lift ++ toString "'")
                        ret obj
                      else ret obj) (finP (model prog w) A (want Q E)) (fun e s' => want Q E (.error e) s') s') E r s₂ := by
        intro r s₂ hr
        cases r with
        | error e => exact hr
        | ok fl =>
          cases fl with
          | ret v =>
            obtain ⟨rfl, hq⟩ := hr
            exact wp2_pure hq
          | next => exact hr.elim
          | brk => exact hr.elim
          | cont => exact hr.elim
      cases fin with
      | done f => exact conv _ _ h'
      | again c' => exact ⟨h'.1, code2_mono h'.2 conv⟩
end
section
variable {X : Cx} {N : List Str} {qual : Str} {scope : Scope} {f : Addr} {cdv : Value} {n0 k g : Nat} {pins : List (Addr × Obj)} {kgo : List (Nat × GenState)} {a : Addr} {go : Obj} {gs : GenState} {po : List (Addr × Obj)} {pg : List (Nat × GenState)} {P0 F H : Hp} {en : En} {σ : St} {s : Shared} {ds : List D} {E : Value → Shared → Prop} {C : Sto → Prop} {A : Around}
theorem collect2 {Q : List Value → Shared → Prop} (hr : Room (k + 5) A) (hgd : A.guards = some []) (hfr : A.frames = some X.stack) (hC : C en.M) (hz : go.slots = #[]) (I : Inv X pins σ H (nog s)) (rs : RS X.K P0 F en σ H) (q : Gs X (mkG X N qual scope f cdv n0 k g C) pins kgo a go gs po pg F H s ds) (hl : ds.length ≤ sizeLine)
    (hQ : ∀ s' H' F' (acc' : List Value) vs', Inv X pins σ H' (nog s') → KpL kgo s' → TbL kgo s' → RS X.K P0 F' en σ H' → Same F F' → Vals vs' acc' → Rps X.K F' vs' ds → Q acc' s') : wp2 (model X.prog X.w) A (collect (.ref a)) Q E s := by
  unfold collect
  refine wp2_bind (wp2_runValue (code2_builtinP (by decide +kernel) PySem.F.entry_proto_collect ?_))
  show wp2 _ A.in1 (newList [] >>= fun l => again (.builtin "list.__iadd__" ⟨[l, .ref a], []⟩)) _ _ s
  refine wp2_bind (lift (wpAny_newObj_type ?_))
  refine wp2_pure ⟨plainId_quiet PySem.F.plain_list_iadd _, code2_builtinP PySem.F.plain_list_iadd PySem.F.entry_list_iadd ?_⟩
  show wp2 _ A.in1 (Builtin.List.listExtendWith (.ref s.heap.objs.size) (.ref a) (.ref s.heap.objs.size)) _ _ _
  have hS : (s.heap.push { cls := .type "list", data := .seq ([] : List Value).toArray }).get? s.heap.objs.size = some (lstObj #[] 0) := Heap.get?_push_size _ rfl
  refine extend2 (s := s) (A := A) (hr.mono (by omega)) hgd hfr hC (.inl hz) I rs q hz hl hS (fun b o _ e => Heap.get?_push_of_some _ e) rfl fun s6 ⟨H', F', acc', c6, vs', i1, k1, t1, i2, i3, i4, i5, i6, i7⟩ => ?_
  show wp2 _ A (load s.heap.objs.size >>= _) _ _ _
  exact wp2_bind (lift (wpAny_load i5 (wp2_pure (hQ s6 H' F' _ vs' i1 k1 t1 i2 i3 i6 i7))))
/-- tuple(g) -/
theorem tuple2 {Q : Value → Shared → Prop} (hr : Room (k + 8) A) (hgd : A.guards = some []) (hfr : A.frames = some X.stack) (hC : C en.M) (hz : go.slots = #[]) (I : Inv X pins σ H (nog s)) (rs : RS X.K P0 F en σ H) (q : Gs X (mkG X N qual scope f cdv n0 k g C) pins kgo a go gs po pg F H s ds) (hl : ds.length ≤ sizeLine)
    (hQ : ∀ s' H' F' (acc' : List Value) vs', Inv X pins σ H' (nog s') → KpL kgo s' → TbL kgo s' → RS X.K P0 F' en σ H' → Same F F' → Vals vs' acc' → Rps X.K F' vs' ds → Q (.ref s'.heap.objs.size) { s' with heap := s'.heap.push { cls := .type "tuple", data := .seq acc'.toArray } }) :
    wp2 (model X.prog X.w) A (call (.type "tuple") [.ref a]) Q E s := by
  have hT : s.TypeIs (.ref a) "generator" := by
    obtain ⟨nm, qn, hc, _⟩ := q.gen
    exact ⟨_, q.obj, hc⟩
  have code : code2 (model X.prog X.w) A.in1 (.call (.builtin "tuple.__new__") ⟨[.type "tuple", .ref a], []⟩) (want (fun obj s₁ => s₁.TypeIs obj "tuple" ∧ Q obj s₁) E) s := by
    refine code2_of_tree ?_
    rw [under_call]
    show wp2 _ A.in1.in1 (do checkBuiltinCall "tuple.__new__" ⟨[.type "tuple", .ref a], []⟩; again (.builtin "tuple.__new__" ⟨[.type "tuple", .ref a], []⟩)) _ _ s
    refine wp2_bind (lift (wpAny_of_eq (PySem.F.newCall_tuple_1 _) ?_))
    refine wp2_pure ⟨plainId_quiet PySem.F.plain_tuple_new _, code2_builtinP PySem.F.plain_tuple_new PySem.F.entry_tuple_new ?_⟩
    have hsub := sub_tuple_self
    have hinit := init_tuple_lookup
    have hmh := madeHere_tuple
    unfold Builtin.«tuple.__new__»
    dsimp only
    refine wp2_bind (lift (wpAny_of_eq (a := true) rfl ?_))
    rw [if_neg (by decide)]
    refine wp2_bind (lift (wpAny_of_eq hsub ?_))
    rw [if_neg (by decide), if_neg (by decide +kernel)]
    refine wp2_bind (lift (wpAny_of_eq hmh ?_))
    refine wp2_bind (lift (wpAny_of_eq hinit ?_))
    rw [if_pos (by decide)]
    refine wp2_bind (lift (wpAny_of_eq (a := ()) rfl ?_))
    refine wp2_bind (lift (wpAny_of_eq (a := ()) rfl ?_))
    rw [if_pos (by decide)]
    refine wp2_bind (lift (wpAny_bind (m := typeOf (.ref a)) (wpAny_typeOf hT (wpAny_pure ?_))))
    rw [if_neg (by decide)]
    refine wp2_bind (collect2 (A := A.in1.in1) ((hr.mono (by omega) : Room (k + 7) A).in1.in1) hgd hfr hC hz I rs q hl fun s' H' F' acc' vs' i1 k1 t1 i2 i3 i4 i5 => ?_)
    refine wp2_bind (wp2_pure ?_)
    refine lift ?_
    unfold Builtin.Tuple.tupleExact
    refine wpAny_bind (wpAny_newObj_type ?_ (by
      show acc'.toArray.size ≤ sizeLine
      rw [List.size_toArray, ← i4.length, i5.length]; exact hl))
    exact wpAny_pure ⟨⟨_, Heap.get?_push_size _ rfl, rfl⟩, hQ s' H' F' acc' vs' i1 k1 t1 i2 i3 i4 i5⟩
  refine wp2_callType (Q₁ := fun obj s₁ => s₁.TypeIs obj "tuple" ∧ Q obj s₁) PySem.F.called_tuple (PySem.F.typeCall_tuple_1 _) PySem.F.entry_object_init code fun obj s₁ h₁ => ?_
  refine ⟨h₁.1, PySem.F.args_object_init_2 obj _, ?_⟩
  have z := object_init_meets (rest := [.ref a]) PySem.F.called_tuple.init.lookup PySem.F.called_tuple.made (by decide) X.prog X.w A.in1 (want (fun r s₂ => r = Value.none ∧ Q obj s₂) E) s₁ ⟨h₁.1, rfl, h₁.2⟩
  exact lift (wpAny_mono z (fun fin s' h => by cases fin with | done f => exact h | again c' => exact ⟨h.1, liftC h.2⟩) fun _ _ h => h)
end
end LP.Lo
namespace LP.Lo
open PySem PySem.Spec L2
open PyProof.Rows hiding St
open LP.Gn (RF rais_f mkG)
/-- what is left behind an expression: more sleepers, more pins -/
def Ex (X : Cx) (ko : List (Nat × GenState)) (pins : List (Addr × Obj)) (kl : List (Nat × GenState)) (n : Nat) (P0 F : Hp) (σ : St) (Q : En → Hp → Hp → Prop) (s' : Shared) : Prop :=
  ∃ xs kx H' F' en', (∀ q ∈ kx, FairG q.2 xs) ∧ (∀ p ∈ xs, n ≤ p.1) ∧ n ≤ s'.heap.objs.size ∧ DI X ko (pins ++ xs) (kl ++ kx) σ H' s' ∧ RS X.K P0 F' en' σ H' ∧ Same F F' ∧ Q en' F' H'
theorem fair2 {k1 k2 : List (Nat × GenState)} {x1 x2 : List (Addr × Obj)} (h1 : ∀ q ∈ k1, FairG q.2 x1) (h2 : ∀ q ∈ k2, FairG q.2 x2) : ∀ q ∈ k1 ++ k2, FairG q.2 (x1 ++ x2) := fun q hq => by
  rcases List.mem_append.mp hq with z | z
  · exact (h1 q z).mono fun p hp => List.mem_append_left _ hp
  · exact (h2 q z).mono fun p hp => List.mem_append_right _ hp
theorem new2 {x1 x2 : List (Addr × Obj)} {n m : Nat} (h1 : ∀ p ∈ x1, n ≤ p.1) (h2 : ∀ p ∈ x2, m ≤ p.1) (h : n ≤ m) : ∀ p ∈ x1 ++ x2, n ≤ p.1 := fun p hp => by
  rcases List.mem_append.mp hp with z | z
  · exact h1 p z
  · exact Nat.le_trans h (h2 p z)
theorem Ex.up {X : Cx} {ko : List (Nat × GenState)} {pins xs : List (Addr × Obj)} {kl kx : List (Nat × GenState)} {n m : Nat} {P0 F F1 : Hp} {σ : St} {Q Q' : En → Hp → Hp → Prop} {s' : Shared} (h : Ex X ko (pins ++ xs) (kl ++ kx) m P0 F1 σ Q s') (hk : ∀ q ∈ kx, FairG q.2 xs) (hn : ∀ p ∈ xs, n ≤ p.1) (hm : n ≤ m) (sm : Same F F1) (hQ : ∀ en F' H', Same F1 F' → Q en F' H' → Q' en F' H') : Ex X ko pins kl n P0 F σ Q' s' := by
  obtain ⟨x2, k2, H', F', en', a, b, b2, c, d, e, q⟩ := h
  rw [List.append_assoc, List.append_assoc] at c
  exact ⟨xs ++ x2, kx ++ k2, H', F', en', fair2 hk a, new2 hn b hm, Nat.le_trans hm b2, c, d, sm.trans e, hQ _ _ _ e q⟩
theorem Ex.mono {X : Cx} {ko : List (Nat × GenState)} {pins : List (Addr × Obj)} {kl : List (Nat × GenState)} {n : Nat} {P0 F : Hp} {σ : St} {Q Q' : En → Hp → Hp → Prop} {s' : Shared} (h : Ex X ko pins kl n P0 F σ Q s') (hQ : ∀ en F' H', Same F F' → Q en F' H' → Q' en F' H') : Ex X ko pins kl n P0 F σ Q' s' := by
  obtain ⟨x2, k2, H', F', en', a, b, b2, c, d, e, q⟩ := h
  exact ⟨x2, k2, H', F', en', a, b, b2, c, d, e, hQ _ _ _ e q⟩
/-- nothing more -/
theorem Ex.here {X : Cx} {ko : List (Nat × GenState)} {pins : List (Addr × Obj)} {kl : List (Nat × GenState)} {n : Nat} {P0 F F1 H1 : Hp} {σ : St} {Q : En → Hp → Hp → Prop} {e1 : En} {s' : Shared} (hn : n ≤ s'.heap.objs.size) (I : DI X ko pins kl σ H1 s') (rs : RS X.K P0 F1 e1 σ H1) (sm : Same F F1) (q : Q e1 F1 H1) : Ex X ko pins kl n P0 F σ Q s' :=
  ⟨[], [], H1, F1, e1, fun _ z => (by cases z), fun _ z => (by cases z), hn, by rw [List.append_nil, List.append_nil]; exact I, rs, sm, q⟩
section
variable (X : Cx)
def E2 (e : Expr) (m : ME) : Prop := ∀ (ko : List (Nat × GenState)) (pins : List (Addr × Obj)) (kl : List (Nat × GenState)) (s : Shared) (σ : St) (H P0 F : Hp) (en : En) (Q : D → En → Prop), DI X ko pins kl σ H s → RS X.K P0 F en σ H → m RF en Q →
  wp2 (model X.prog X.w) X.A (eval e X.env) (fun u s' => Ex X ko pins kl s.heap.objs.size P0 F σ (fun en' F' _ => ∃ v d, RelV v u ∧ Rp X.K F' v d ∧ Q d en') s') (fun _ _ => False) s
def V2 (e : Expr) (m : MV) : Prop := ∀ (ko : List (Nat × GenState)) (pins : List (Addr × Obj)) (kl : List (Nat × GenState)) (s : Shared) (σ : St) (H P0 F : Hp) (en : En) (Q : (En → Option D) → En → Prop), DI X ko pins kl σ H s → RS X.K P0 F en σ H → m RF en Q →
  wp2 (model X.prog X.w) X.A (eval e X.env) (fun u s' => Ex X ko pins kl s.heap.objs.size P0 F σ (fun en' F' _ => ∃ v g, RelV v u ∧ Res X.K P0 F' σ v g ∧ Q g en') s') (fun _ _ => False) s
def T2 (e : Expr) (m : MT) : Prop := ∀ (ko : List (Nat × GenState)) (pins : List (Addr × Obj)) (kl : List (Nat × GenState)) (s : Shared) (σ : St) (H P0 F : Hp) (en : En) (Q : Bool → En → Prop), DI X ko pins kl σ H s → RS X.K P0 F en σ H → m RF en Q →
  wp2 (model X.prog X.w) X.A (isTrue e X.env (eval e X.env)) (fun b s' => Ex X ko pins kl s.heap.objs.size P0 F σ (fun en' _ _ => Q b en') s') (fun _ _ => False) s
def W2 (e : Expr) (m : MT) : Prop := ∀ (whole : Sem Value) (ko : List (Nat × GenState)) (pins : List (Addr × Obj)) (kl : List (Nat × GenState)) (s : Shared) (σ : St) (H P0 F : Hp) (en : En) (Q : Bool → En → Prop), DI X ko pins kl σ H s → RS X.K P0 F en σ H → m RF en Q →
  wp2 (model X.prog X.w) X.A (isTrue e X.env whole) (fun b s' => Ex X ko pins kl s.heap.objs.size P0 F σ (fun en' _ _ => Q b en') s') (fun _ _ => False) s
/-- arguments -/
def A2 (es : List Expr) (m : MA) : Prop := ∀ (pos : Pos) (ko : List (Nat × GenState)) (pins : List (Addr × Obj)) (kl : List (Nat × GenState)) (s : Shared) (σ : St) (H P0 F : Hp) (en : En) (Q : List D → En → Prop), DI X ko pins kl σ H s → RS X.K P0 F en σ H → m RF en Q →
  wp2 (model X.prog X.w) X.A (spliced (backTo pos (starEach es X.env))) (fun us s' => Ex X ko pins kl s.heap.objs.size P0 F σ (fun en' F' _ => ∃ vs ds, Vals vs us ∧ Rps X.K F' vs ds ∧ Q ds en') s') (fun _ _ => False) s
def AV2 (es : List Expr) (m : MAV) : Prop := ∀ (pos : Pos) (ko : List (Nat × GenState)) (pins : List (Addr × Obj)) (kl : List (Nat × GenState)) (s : Shared) (σ : St) (H P0 F : Hp) (en : En) (Q : (En → Option (List D)) → En → Prop), DI X ko pins kl σ H s → RS X.K P0 F en σ H → m RF en Q →
  wp2 (model X.prog X.w) X.A (spliced (backTo pos (starEach es X.env))) (fun us s' => Ex X ko pins kl s.heap.objs.size P0 F σ (fun en' F' _ => ∃ vs g, Vals vs us ∧ ResL X.K P0 F' σ vs g ∧ Q g en') s') (fun _ _ => False) s
end
/-- behind a statement -/
def SEx (X : Cx) (ko : List (Nat × GenState)) (pins : List (Addr × Obj)) (kl : List (Nat × GenState)) (n : Nat) (P0 F : Hp) (A : AEnds) (f : Flow) (s' : Shared) : Prop :=
  ∃ xs kx σ' σ1 H' F' en', (∀ q ∈ kx, FairG q.2 xs) ∧ (∀ p ∈ xs, n ≤ p.1) ∧ n ≤ s'.heap.objs.size ∧ DI X ko (pins ++ xs) (kl ++ kx) σ' H' s' ∧ RS X.K P0 F' en' σ1 H' ∧ Same F F' ∧ match f with
    | .next => σ1 = σ' ∧ A.nx en'
    | .brk => σ1 = σ' ∧ A.bk en'
    | .cont => σ1 = σ' ∧ A.ct en'
    | .ret u => ∃ v d, RelV v u ∧ Rp X.K F' v d ∧ A.rt d en'
theorem SEx.up {X : Cx} {ko : List (Nat × GenState)} {pins xs : List (Addr × Obj)} {kl kx : List (Nat × GenState)} {n m : Nat} {P0 F F1 : Hp} {A : AEnds} {f : Flow} {s' : Shared} (h : SEx X ko (pins ++ xs) (kl ++ kx) m P0 F1 A f s') (hk : ∀ q ∈ kx, FairG q.2 xs) (hn : ∀ p ∈ xs, n ≤ p.1) (hm : n ≤ m) (sm : Same F F1) : SEx X ko pins kl n P0 F A f s' := by
  obtain ⟨x2, k2, σ', σ1, H', F', en', a, b, b2, c, d, e, q⟩ := h
  rw [List.append_assoc, List.append_assoc] at c
  exact ⟨xs ++ x2, kx ++ k2, σ', σ1, H', F', en', fair2 hk a, new2 hn b hm, Nat.le_trans hm b2, c, d, sm.trans e, q⟩
section
variable (X : Cx)
def S2 (st : Stmt) (m : MS) : Prop := ∀ (ko : List (Nat × GenState)) (pins : List (Addr × Obj)) (kl : List (Nat × GenState)) (s : Shared) (σ : St) (H P0 F : Hp) (en : En) (A : AEnds), (∀ x en, ¬ A.R x en) → DI X ko pins kl σ H s → RS X.K P0 F en σ H → m A en →
  wp2 (model X.prog X.w) X.A (exec st X.env) (SEx X ko pins kl s.heap.objs.size P0 F A) (fun _ _ => False) s
def Ss2 (st : List Stmt) (m : MS) : Prop := ∀ (ko : List (Nat × GenState)) (pins : List (Addr × Obj)) (kl : List (Nat × GenState)) (s : Shared) (σ : St) (H P0 F : Hp) (en : En) (A : AEnds), (∀ x en, ¬ A.R x en) → DI X ko pins kl σ H s → RS X.K P0 F en σ H → m A en →
  wp2 (model X.prog X.w) X.A (execs st X.env) (SEx X ko pins kl s.heap.objs.size P0 F A) (fun _ _ => False) s
end
section
variable {X : Cx} {e : Expr} {es : List Expr} {st : Stmt} {sts : List Stmt}
theorem cl2_AP {X : Cx} {pins : List (Addr × Obj)} {σ : St} {Q : List V → Hp → Prop} : Cl2 (L2.AP X pins σ Q) := fun f s q => by
  obtain ⟨a, b, I, r⟩ := q; exact ⟨⟨a, b, inv_nog I, r⟩, I.bare⟩
theorem e2_of {m : ME} (hx : X.xe = fun _ _ => False) (h : AE X W0 e m) : E2 X e m := by
  obtain ⟨t, p, sm⟩ := h
  intro ko pins kl s σ H P0 F en Q I rs hm
  have ht := sm P0 F en σ H RF Q (fun v H1 => ∃ F1 e1 d, Same F F1 ∧ RS X.K P0 F1 e1 σ H1 ∧ Rp X.K F1 v d ∧ Q d e1) rs rais_f hm fun F1 e1 v d H1 s1 r1 rp q => ⟨F1, e1, d, s1, r1, rp, q⟩
  refine wp2_mono (wp2_hsz (inv_run2 (E := fun _ _ => False) I.inv (fun s₁ i _ => by have z := p.run pins s₁ σ H _ i ht; rw [hx] at z; exact z) cl2_EP)) (fun u s' q => ?_) fun _ _ z => z
  obtain ⟨hz, ⟨v, H1, i, ru, F1, e1, d, s1, r1, rp, q⟩, sl⟩ := q
  exact .here hz (I.to i sl) r1 s1 ⟨v, d, ru, rp, q⟩
theorem v2_of {m : MV} (hx : X.xe = fun _ _ => False) (h : AV X W0 e m) : V2 X e m := by
  obtain ⟨t, p, sm⟩ := h
  intro ko pins kl s σ H P0 F en Q I rs hm
  have ht := sm P0 F en σ H RF Q (fun v H1 => ∃ F1 e1 d, Same F F1 ∧ RS X.K P0 F1 e1 σ H1 ∧ Res X.K P0 F1 σ v d ∧ Q d e1) rs rais_f hm fun F1 e1 v d H1 s1 r1 rp q => ⟨F1, e1, d, s1, r1, rp, q⟩
  refine wp2_mono (wp2_hsz (inv_run2 (E := fun _ _ => False) I.inv (fun s₁ i _ => by have z := p.run pins s₁ σ H _ i ht; rw [hx] at z; exact z) cl2_EP)) (fun u s' q => ?_) fun _ _ z => z
  obtain ⟨hz, ⟨v, H1, i, ru, F1, e1, d, s1, r1, rp, q⟩, sl⟩ := q
  exact .here hz (I.to i sl) r1 s1 ⟨v, d, ru, rp, q⟩
theorem t2_of {m : MT} (hx : X.xe = fun _ _ => False) (h : AT X W0 e m) : T2 X e m := by
  obtain ⟨t, p, sm⟩ := h
  intro ko pins kl s σ H P0 F en Q I rs hm
  have ht := sm P0 F en σ H RF Q (fun b H1 => ∃ F1 e1, Same F F1 ∧ RS X.K P0 F1 e1 σ H1 ∧ Q b e1) rs rais_f hm fun F1 e1 b H1 s1 r1 q => ⟨F1, e1, s1, r1, q⟩
  refine wp2_mono (wp2_hsz (inv_run2 (E := fun _ _ => False) I.inv (fun s₁ i _ => by have z := p.run pins s₁ σ H _ i ht; rw [hx] at z; exact z) cl2_TP)) (fun u s' q => ?_) fun _ _ z => z
  obtain ⟨hz, ⟨H1, i, F1, e1, s1, r1, q⟩, sl⟩ := q
  exact .here hz (I.to i sl) r1 s1 q
theorem a2_of {m : MA} (hx : X.xe = fun _ _ => False) (h : AA X W0 es m) : A2 X es m := by
  obtain ⟨t, p, sm⟩ := h
  intro pos ko pins kl s σ H P0 F en Q I rs hm
  have ht := sm P0 F en σ H RF Q (fun v H1 => ∃ F1 e1 d, Same F F1 ∧ RS X.K P0 F1 e1 σ H1 ∧ Rps X.K F1 v d ∧ Q d e1) rs rais_f hm fun F1 e1 v d H1 s1 r1 rp q => ⟨F1, e1, d, s1, r1, rp, q⟩
  refine wp2_mono (wp2_hsz (inv_run2 (E := fun _ _ => False) I.inv (fun s₁ i _ => by have z := p.run pos pins s₁ σ H _ i ht; rw [hx] at z; exact z) cl2_AP)) (fun u s' q => ?_) fun _ _ z => z
  obtain ⟨hz, ⟨v, H1, i, ru, F1, e1, d, s1, r1, rp, q⟩, sl⟩ := q
  exact .here hz (I.to i sl) r1 s1 ⟨v, d, ru, rp, q⟩
/-- what is wished behind a statement, for the kit's judgement -/
theorem st_of {ko : List (Nat × GenState)} {pins : List (Addr × Obj)} {kl : List (Nat × GenState)} {s : Shared} {σ : St} {H P0 F : Hp} {en : En} {A : AEnds} {t : TS} {m : MS} {c : Sem Flow} (hR : ∀ x en, ¬ A.R x en) (I : DI X ko pins kl σ H s) (rs : RS X.K P0 F en σ H) (hm : m A en) (sm : SimS X W0 t m)
    (run : ∀ s₁ (D : Ends), Inv X pins σ H s₁ → t D σ H → wpAny (model X.prog X.w) X.A c (SP X pins D) (fun _ _ => False) s₁) : wp2 (model X.prog X.w) X.A c (SEx X ko pins kl s.heap.objs.size P0 F A) (fun _ _ => False) s := by
  let W (B0 : En → Prop) : St → Hp → Prop := fun σ1 H1 => ∃ F1 e1, Same F F1 ∧ RS X.K P0 F1 e1 σ1 H1 ∧ B0 e1
  let E : Ends := ⟨W A.nx, fun v H1 => ∃ σ1 F1 e1 d, Same F F1 ∧ RS X.K P0 F1 e1 σ1 H1 ∧ Rp X.K F1 v d ∧ A.rt d e1, W A.bk, W A.ct⟩
  have ht : t E σ H := sm P0 F en σ H A E rs ⟨fun F1 e1 σ1 H1 s1 r1 q => ⟨F1, e1, s1, r1, q⟩, fun F1 e1 σ1 H1 v d s1 r1 rp q => ⟨σ1, F1, e1, d, s1, r1, rp, q⟩, fun F1 e1 σ1 H1 s1 r1 q => ⟨F1, e1, s1, r1, q⟩, fun F1 e1 σ1 H1 s1 r1 q => ⟨F1, e1, s1, r1, q⟩, fun _ e1 _ _ x _ _ _ _ _ z => (hR x e1 z).elim⟩ hm
  refine wp2_mono (wp2_hsz (inv_run2 (E := fun _ _ => False) I.inv (fun s₁ i _ => run s₁ E i ht) cl2_SP)) (fun f s' q => ?_) fun _ _ z => z
  obtain ⟨hz, q, sl⟩ := q
  have nil : ∀ {σ1 H1}, Inv X pins σ1 H1 (nog s') → DI X ko (pins ++ []) (kl ++ []) σ1 H1 s' := fun i => by rw [List.append_nil, List.append_nil]; exact I.to i sl
  cases f with
  | next => obtain ⟨σ1, H1, i, F1, e1, s1, r1, q1⟩ := q; exact ⟨[], [], σ1, σ1, H1, F1, e1, fun _ z => (by cases z), fun _ z => (by cases z), hz, nil i, r1, s1, rfl, q1⟩
  | brk => obtain ⟨σ1, H1, i, F1, e1, s1, r1, q1⟩ := q; exact ⟨[], [], σ1, σ1, H1, F1, e1, fun _ z => (by cases z), fun _ z => (by cases z), hz, nil i, r1, s1, rfl, q1⟩
  | cont => obtain ⟨σ1, H1, i, F1, e1, s1, r1, q1⟩ := q; exact ⟨[], [], σ1, σ1, H1, F1, e1, fun _ z => (by cases z), fun _ z => (by cases z), hz, nil i, r1, s1, rfl, q1⟩
  | ret u => obtain ⟨v, σ1, H1, i, ru, σ2, F1, e1, d, s1, r1, rp, q1⟩ := q; exact ⟨[], [], σ1, σ2, H1, F1, e1, fun _ z => (by cases z), fun _ z => (by cases z), hz, nil i, r1, s1, v, d, ru, rp, q1⟩
theorem s2_of {m : MS} (hx : X.xe = fun _ _ => False) (h : AS X W0 st m) : S2 X st m := by
  obtain ⟨t, p, sm⟩ := h
  exact fun ko pins kl s σ H P0 F en A hR I rs hm => st_of hR I rs hm sm fun s₁ D i ht => by have z := p.run pins s₁ σ H D i ht; rw [hx] at z; exact z
theorem ss2_of {m : MS} (hx : X.xe = fun _ _ => False) (h : ASs X W0 sts m) : Ss2 X sts m := by
  obtain ⟨t, p, sm⟩ := h
  exact fun ko pins kl s σ H P0 F en A hR I rs hm => st_of hR I rs hm sm fun s₁ D i ht => by have z := p.run pins s₁ σ H D i ht; rw [hx] at z; exact z
end
end LP.Lo
namespace LP.Lo
open PySem PySem.Spec L2
open PyProof.Rows hiding St
open LP.Gn (RF rais_f mkG)
section
variable {M : Model} {A : Around} {E : Value → Shared → Prop} {s : Shared} {env : Env} {pos : Pos}
theorem wp2_keep {α : Type} {vs : List Value} {m : Sem α} {Q : α → Shared → Prop} (h : wp2 M A m Q E s) : wp2 M A (m.keep vs) Q E s := by
  rw [Sem.keep_eq_wrap]
  exact wp2_wrap (wp2_mono h (fun _ _ q => wp2_pure q) fun _ _ q => wp2_throw q)
theorem spliced2_nil {Q : List Value → Shared → Prop} (h : Q [] s) : wp2 M A (spliced []) Q E s := wp2_pure h
theorem spliced2_cons {x : Sem Value} {rest : List (Bool × Sem Value)} {Q : List Value → Shared → Prop}
    (h : wp2 M A x (fun v s₁ => wp2 M A (spliced rest) (fun vs s₂ => Q (v :: vs) s₂) E s₁) E s) : wp2 M A (spliced ((false, x) :: rest)) Q E s := by
  rw [spliced]
  refine wp2_bind (wp2_mono h (fun v s₁ h₁ => ?_) fun _ _ x => x)
  simp only [Bool.false_eq_true, if_false]
  exact wp2_bind (wp2_pure (wp2_bind (wp2_holding (wp2_mono h₁ (fun vs s₂ h₂ => wp2_pure h₂) fun _ _ x => x))))
theorem evalArgs2 {f : Value} {x : Sem Value} {rest : List (Bool × Sem Value)} {Q : Args → Shared → Prop}
    (h : wp2 M A (spliced ((false, x) :: rest)) (fun vs s' => Q ⟨vs, []⟩ s') E s) : wp2 M A (evalArgs f true ((false, x) :: rest) []) Q E s := by
  unfold evalArgs
  show wp2 M A (spliced ((false, x) :: rest) >>= _) Q E s
  refine wp2_bind (wp2_mono h (fun vs s' h' => ?_) fun _ _ x => x)
  refine wp2_holding ?_
  exact wp2_bind (wp2_pure (wp2_bind (wp2_pure (wp2_pure h'))))
/-- a call of a def's object that the fragment knows -/
theorem callWith2 {K : PySem.W.Frag} {f : Value} {e : Expr} {rest : List Expr} {Q : Value → Shared → Prop} (hk : PySem.W.keepIn K f = true) (h : wp2 M A (spliced (backTo pos (starEach (e :: rest) env))) (fun vs s₁ => K.In s₁.heap ∧ wp2 M A (call f vs) Q E s₁) E s)
    (he : starEach (e :: rest) env = (false, eval e env) :: starEach rest env) (hplain : (backTo pos (starEach rest env)).any (·.1) = false) :
    wp2 M A (callWith pos f [] (backTo pos (starEach (e :: rest) env)) []) Q E s := by
  have eb : backTo pos ((false, eval e env) :: starEach rest env) = (false, eval e env) :: backTo pos (starEach rest env) := rfl
  rw [he, eb] at h ⊢
  have hp : (((false, eval e env) :: backTo pos (starEach rest env)).any (·.1) || ([] : List (Option Str × Sem Value)).any (·.1.isNone)) = false := by
    show ((false || (backTo pos (starEach rest env)).any (·.1)) || false) = false
    rw [hplain]; rfl
  unfold callWith
  refine wp2_bind (wp2_holding (wp2_mono (evalArgs2 (Q := fun a s₁ => K.In s₁.heap ∧ wp2 M A (call f a.pos a.kw) Q E s₁) h) (fun a s₁ h₁ => wp2_bind (wp2_standAt ?_)) fun _ _ x => x))
  obtain ⟨k, hk', L⟩ := PySem.W.keeps_K (M := M) hk _ h₁.1
  have e2 : (((false, eval e env) :: backTo pos (starEach rest env)).any (·.1) || ([] : List (Option Str × Sem Value)).any (·.1.isNone)) = false := hp
  simp only [e2]
  refine wp2_bind (lift (L.here ?_))
  have tail : ∀ {t : Sem Value}, wp2 M A t Q E s₁ → wp2 M A (t >>= fun r => holding [r] point >>= fun _ => pure r) Q E s₁ :=
    fun ht => wp2_bind (wp2_mono ht (fun r s₂ hr => wp2_bind (lift (wpAny_holding (wpAny_point (wp2_pure hr))))) fun _ _ x => x)
  have marked (mk : Value) : wp2 M A (callMarked mk f ([] ++ a.pos) a.kw) Q E s₁ := by unfold callMarked; exact wp2_keep h₁.2
  rcases hk' with rfl | rfl | rfl <;> dsimp only <;> first | exact tail h₁.2 | (split <;> first | exact tail h₁.2 | exact tail (marked _))
/-- a call of a builtin -/
theorem callWithB2 {f : Value} {e : Expr} {rest : List Expr} {Q : Value → Shared → Prop} (hf : keeperOf f = pure .machine) (h : wp2 M A (spliced (backTo pos (starEach (e :: rest) env))) (fun vs s₁ => wp2 M A (call f vs) Q E s₁) E s)
    (he : starEach (e :: rest) env = (false, eval e env) :: starEach rest env) (hplain : (backTo pos (starEach rest env)).any (·.1) = false) :
    wp2 M A (callWith pos f [] (backTo pos (starEach (e :: rest) env)) []) Q E s := by
  have eb : backTo pos ((false, eval e env) :: starEach rest env) = (false, eval e env) :: backTo pos (starEach rest env) := rfl
  rw [he, eb] at h ⊢
  have hp : (((false, eval e env) :: backTo pos (starEach rest env)).any (·.1) || ([] : List (Option Str × Sem Value)).any (·.1.isNone)) = false := by
    show ((false || (backTo pos (starEach rest env)).any (·.1)) || false) = false
    rw [hplain]; rfl
  unfold callWith
  refine wp2_bind (wp2_holding (wp2_mono (evalArgs2 (Q := fun a s₁ => wp2 M A (call f a.pos a.kw) Q E s₁) h) (fun a s₁ h₁ => wp2_bind (wp2_standAt ?_)) fun _ _ x => x))
  simp only [hp]
  rw [hf]
  refine wp2_bind (wp2_pure ?_)
  dsimp only
  exact wp2_bind (wp2_mono h₁ (fun r s₂ hr => wp2_bind (lift (wpAny_holding (wpAny_point (wp2_pure hr))))) fun _ _ x => x)
theorem wp2_release {vs kp : List Value} {Q : Unit → Shared → Prop} (h : Q () s) : wp2 M A (release vs kp) Q E s := by
  exact lift fun Γ p hΓ => by rw [Sem.wp_release]; exact h
theorem wp2_operate {vs : List Value} {m : Sem Value} {Q : Value → Shared → Prop} (h : wp2 M A m Q E s) : wp2 M A (operate vs m) Q E s := by
  unfold operate
  exact wp2_bind (wp2_holding (wp2_mono h (fun r s₁ q => wp2_bind (wp2_release (wp2_pure q))) fun _ _ z => z))
end
end LP.Lo
namespace LP.Lo
open PySem PySem.Spec L2
open PyProof.Rows hiding St
open LP.Gn (RF rais_f mkG)
section
variable {X : Cx} {a b c e : Expr} {es rest : List Expr} {st : Stmt} {sts : List Stmt} {pos p : Pos} {m m' : ME} {ma mb : MV} {mt mu : MT} {ms us : MS} {ko : List (Nat × GenState)} {pins : List (Addr × Obj)} {kl : List (Nat × GenState)} {s : Shared} {σ : St} {H P0 F : Hp} {en : En}
/-- an operation that wakes nothing -/
theorem run_e {t : Sem Value} {Q : D → En → Prop} (I : DI X ko pins kl σ H s) (run : ∀ s₁, Inv X pins σ H s₁ → s₁.heap = s.heap → wpAny (model X.prog X.w) X.A t (EP X pins σ fun v H1 => ∃ F1 e1 d, Same F F1 ∧ RS X.K P0 F1 e1 σ H1 ∧ Rp X.K F1 v d ∧ Q d e1) (fun _ _ => False) s₁) :
    wp2 (model X.prog X.w) X.A t (fun u s' => Ex X ko pins kl s.heap.objs.size P0 F σ (fun en' F' _ => ∃ v d, RelV v u ∧ Rp X.K F' v d ∧ Q d en') s') (fun _ _ => False) s := by
  refine wp2_mono (wp2_hsz (inv_run2 (E := fun _ _ => False) I.inv run cl2_EP)) (fun u s' q => ?_) fun _ _ z => z
  obtain ⟨hz, ⟨v, H1, i, ru, F1, e1, d, s1, r1, rp, q⟩, sl⟩ := q
  exact .here hz (I.to i sl) r1 s1 ⟨v, d, ru, rp, q⟩
/-- a store that wakes nothing -/
theorem run_st {t : Sem Flow} {A : AEnds} (I : DI X ko pins kl σ H s) (run : ∀ s₁, Inv X pins σ H s₁ → s₁.heap = s.heap → wpAny (model X.prog X.w) X.A t (fun f s' => f = .next ∧ ∃ σ1 H1, Inv X pins σ1 H1 s' ∧ ∃ F1 e1, Same F F1 ∧ RS X.K P0 F1 e1 σ1 H1 ∧ A.nx e1) (fun _ _ => False) s₁) :
    wp2 (model X.prog X.w) X.A t (SEx X ko pins kl s.heap.objs.size P0 F A) (fun _ _ => False) s := by
  refine wp2_mono (wp2_hsz (inv_run2 (E := fun _ _ => False) I.inv run fun f s' q => ?_)) (fun f s' q => ?_) fun _ _ z => z
  · obtain ⟨q0, σ1, H1, i, r⟩ := q
    exact ⟨⟨q0, σ1, H1, inv_nog i, r⟩, i.bare⟩
  · obtain ⟨hz, ⟨rfl, σ1, H1, i, F1, e1, s1, r1, q⟩, sl⟩ := q
    exact ⟨[], [], σ1, σ1, H1, F1, e1, fun _ z => (by cases z), fun _ z => (by cases z), hz, by rw [List.append_nil, List.append_nil]; exact I.to i sl, r1, s1, rfl, q⟩
theorem v2_e (h : E2 X e m) : V2 X e (mV m) := by
  intro ko pins kl s σ H P0 F en Q I rs hm
  refine wp2_mono (h ko pins kl s σ H P0 F en _ I rs hm) (fun u s' q => q.mono fun en' F' H' _ ⟨v, d, ru, rp, q⟩ => ⟨v, _, ru, fun F2 e2 H2 d2 s2 _ g => by cases g; exact .inl (rp.mono s2), q⟩) fun _ _ z => z
theorem Res.up {K : PySem.W.Frag} {v : V} {g : En → Option D} {F' : Hp} (h : Res K P0 F σ v g) (s : Same F F') : Res K P0 F' σ v g := fun F2 en H d s2 => h F2 en H d (s.trans s2)
/-- two operands -/
theorem two {γ : Type} {Qf : En → Hp → Hp → γ → Prop} {f : Value → Value → Sem γ} (ha : V2 X a ma) (hb : V2 X b mb) (I : DI X ko pins kl σ H s) (rs : RS X.K P0 F en σ H) {Qm : (En → Option D) → (En → Option D) → En → Prop} (hm : ma RF en fun g e1 => mb RF e1 fun h e2 => Qm g h e2) {R : γ → Shared → Prop}
    (hf : ∀ (x y : Value) (v w : V) (g h : En → Option D) (xs : List (Addr × Obj)) (kx : List (Nat × GenState)) (s2 : Shared) (H2 F2 : Hp) (e2 : En), RelV v x → RelV w y → Res X.K P0 F2 σ v g → Res X.K P0 F2 σ w h → (∀ q ∈ kx, FairG q.2 xs) → (∀ p ∈ xs, s.heap.objs.size ≤ p.1) → s.heap.objs.size ≤ s2.heap.objs.size → DI X ko (pins ++ xs) (kl ++ kx) σ H2 s2 → RS X.K P0 F2 e2 σ H2 → Same F F2 → Qm g h e2 → wp2 (model X.prog X.w) X.A (f x y) R (fun _ _ => False) s2) :
    wp2 (model X.prog X.w) X.A (eval a X.env >>= fun x => holding [x] (eval b X.env) >>= fun y => f x y) R (fun _ _ => False) s := by
  refine wp2_bind (wp2_mono (ha ko pins kl s σ H P0 F en _ I rs hm) (fun x s1 q1 => ?_) fun _ _ z => z)
  obtain ⟨xs, kx, H1, F1, e1, h1, h2, h3, I1, r1, sm1, v, g, rv, rg, q1⟩ := q1
  refine wp2_bind (wp2_holding (wp2_mono (hb ko _ _ s1 σ H1 P0 F1 e1 _ I1 r1 q1) (fun y s2 q2 => ?_) fun _ _ z => z))
  obtain ⟨x2, k2, H2, F2, e2, g1, g2, g3, I2, r2, sm2, w, h, rw', rh, q2⟩ := q2
  rw [List.append_assoc, List.append_assoc] at I2
  exact hf x y v w g h (xs ++ x2) (kx ++ k2) s2 H2 F2 e2 rv rw' (Res.up rg sm2) rh (fair2 h1 g1) (new2 h2 g2 h3) (Nat.le_trans h3 g3) I2 r2 (sm1.trans sm2) q2
theorem opr_run {r : R2} {f : D → D → (D → Prop) → Prop} {op : Value → Value → Sem Value} (hx : X.xe = fun _ _ => False) (ho : OpR X op r) (hs : OpS X r f) {x y : Value} {v w : V} {g h : En → Option D} (rv : RelV v x) (rw' : RelV w y) (rg : Res X.K P0 F σ v g) (rh : Res X.K P0 F σ w h) (I : DI X ko pins kl σ H s) (rs : RS X.K P0 F en σ H) {Q : D → En → Prop} (q : rq2 (g en) (h en) fun x y => f x y fun z => Q z en) :
    wp2 (model X.prog X.w) X.A (op x y) (fun u s' => Ex X ko pins kl s.heap.objs.size P0 F σ (fun en' F' _ => ∃ v d, RelV v u ∧ Rp X.K F' v d ∧ Q d en') s') (fun _ _ => False) s := by
  obtain ⟨dx, dy, g1, g2, q⟩ := rq2_some q
  have hr := hs P0 F en σ H v w dx dy (fun z => Q z en) (fun v H1 => ∃ F1 e1 d, Same F F1 ∧ RS X.K P0 F1 e1 σ H1 ∧ Rp X.K F1 v d ∧ Q d e1) rs (rg F en H dx (Same.refl _) rs g1) (rh F en H dy (Same.refl _) rs g2) q fun F3 v d H3 s3 rs3 rp q3 => ⟨F3, en, d, s3, rs3, rp, q3⟩
  exact run_e I fun s₁ i _ => by have z := ho pins s₁ σ H v w x y _ i rv rw' hr; rw [hx] at z; exact z
theorem t2_cm {op : CmpOp} {f : D → D → (D → Prop) → Prop} (hx : X.xe = fun _ _ => False) (h : CmpS X op f) (ha : V2 X a ma) (hb : V2 X b mb) (hm : behindInMarks op b = false) : T2 X (.Compare a [op] [b] pos) (mB (mOp f ma mb)) := by
  obtain ⟨r, ho, hs⟩ := h
  intro ko pins kl s σ H P0 F en Q I rs q
  rw [isTrue_Compare1, markedBehindIn_of_false hm]
  refine two (f := fun x y => standAt pos >>= fun _ => operate [x, y] (compareOp op x y) >>= fun c => holding [c] (truthy c)) (Qf := fun _ _ _ _ => True) ha hb I rs q fun x y v w g h xs kx s2 H2 F2 e2 rv rw' rg rh c1 c2 c3 I2 r2 sm q2 => ?_
  refine wp2_bind (wp2_standAt (wp2_bind (wp2_operate (wp2_mono (opr_run (Q := fun d en' => asB d fun b => Q b en') hx ho hs rv rw' rg rh I2 r2 q2) (fun u s3 q3 => ?_) fun _ _ z => z))))
  obtain ⟨x3, k3, H3, F3, e3, d1, d2, d3, I3, r3, sm3, v3, dd, ru, rp, q3⟩ := q3
  obtain ⟨bb, rfl, q3⟩ := asB_some q3
  cases rp
  cases ru
  refine wp2_holding (lift (wpAny_truthy_bool ?_))
  exact Ex.up (Q := fun en' _ _ => Q bb en') ⟨x3, k3, H3, F3, e3, d1, d2, d3, I3, r3, sm3, q3⟩ c1 c2 c3 sm fun _ _ _ _ z => z
theorem t2_w (h : W2 X e mt) : T2 X e mt := h _
theorem w2_or1 (ha : T2 X a mt) : W2 X (.BoolOp .Or [a] pos) mt := by
  intro whole ko pins kl s σ H P0 F en Q I rs hm
  show wp2 _ _ (do
    match BoolOp.Or, ← isTrue a X.env (eval a X.env) with
    | .And, false => pure false
    | .Or, true => pure true
    | _, _ => allTrue .Or [] X.env) _ _ _
  refine wp2_bind (wp2_mono (ha ko pins kl s σ H P0 F en _ I rs hm) (fun c s1 q => ?_) fun _ _ z => z)
  cases c with
  | true => exact wp2_pure q
  | false => exact wp2_pure q
theorem w2_or (ha : T2 X a mt) (hb : W2 X (.BoolOp .Or (b :: rest) pos) mu) : W2 X (.BoolOp .Or (a :: b :: rest) pos) (mOr mt mu) := by
  intro whole ko pins kl s σ H P0 F en Q I rs hm
  show wp2 _ _ (do
    match BoolOp.Or, ← isTrue a X.env (eval a X.env) with
    | .And, false => pure false
    | .Or, true => pure true
    | _, _ => allTrue .Or (b :: rest) X.env) _ _ _
  refine wp2_bind (wp2_mono (ha ko pins kl s σ H P0 F en _ I rs hm) (fun c s1 q => ?_) fun _ _ z => z)
  obtain ⟨x3, k3, H3, F3, e3, d1, d2, d3, I3, r3, sm3, q3⟩ := q
  cases c with
  | true => exact wp2_pure ⟨x3, k3, H3, F3, e3, d1, d2, d3, I3, r3, sm3, q3⟩
  | false => exact wp2_mono (hb whole ko _ _ s1 σ H3 P0 F3 e3 _ I3 r3 q3) (fun c s2 q => q.up d1 d2 d3 sm3 fun _ _ _ _ z => z) fun _ _ z => z
end
end LP.Lo
namespace LP.Lo
open PySem PySem.Spec L2
open PyProof.Rows hiding St
open LP.Gn (RF rais_f mkG)
/-- a loud def's return -/
def LRet (P : Program) (w : World) (K : PySem.W.Frag) (outer : List Env) (ko : List (Nat × GenState)) (H F : Hp) (M : Sto) (s : Shared) (Q : D → Sto → Prop) (u : Value) (s' : Shared) : Prop :=
  ∃ v d H' F' M' xs kx, s'.os = s.os ∧ Un (frs outer) [] H H' s.heap s'.heap ∧ HOk P w H' s'.heap ∧ RelV v u ∧ Fin K F M H F' M' H' ∧ Rp K F' v d ∧ Q d M' ∧ KpL (ko ++ kx) s' ∧ TbL (ko ++ kx) s' ∧ (∀ q ∈ kx, FairG q.2 xs) ∧
    (∀ p ∈ xs, s'.heap.get? p.1 = some p.2 ∧ H' p.1 = none ∧ s.heap.objs.size ≤ p.1 ∧ ∀ v, p.2.data ≠ .cell v) ∧ s.heap.objs.size ≤ s'.heap.objs.size
/-- a loud def's promise -/
structure FnL (P : Program) (w : World) (K : PySem.W.Frag) (mg : Str → Option Value) (base : Heap) (k : Nat) (f : Addr) (fd : FuncData) (ps : List Str) (sp : ASp) : Prop where
  len : ∀ ds M Q E, sp ds M Q E → ds.length = ps.length
  go : ∀ (A : Around), A.guards = some [] → Room k A → ∀ (outer : List Env) (ko : List (Nat × GenState)) (s : Shared) (H F : Hp) (M : Sto), Env0 P w K mg base A outer (nog s) H → KpL ko s → TbL ko s → ∀ (args : Args) (us : List Value) (vs : List V) (ds : List D), BindsTo s fd args (ps.zip us) → Vals vs us → Same F H → SOk K F M H → Rps K F vs ds →
    ∀ (Q : D → Sto → Prop), sp ds M Q (fun _ _ => False) → code2 (model P w) A (.call (.ref f) args) (fun r s' => match r with | .ok (.ret u) => LRet P w K outer ko H F M s Q u s' | _ => False) s
theorem FnL.mono {P : Program} {w : World} {K : PySem.W.Frag} {mg : Str → Option Value} {base : Heap} {j k : Nat} {f : Addr} {fd : FuncData} {ps : List Str} {sp : ASp} (G : FnL P w K mg base j f fd ps sp) (h : j ≤ k) : FnL P w K mg base k f fd ps sp :=
  ⟨G.len, fun A hg hr => G.go A hg (hr.mono h)⟩
section
variable {X : Cx} {a b c e : Expr} {es rest : List Expr} {st : Stmt} {sts : List Stmt} {pos p : Pos} {m m' : ME} {ma mb : MV} {mt mu : MT} {ms us : MS} {ko : List (Nat × GenState)} {pins : List (Addr × Obj)} {kl : List (Nat × GenState)} {s : Shared} {σ : St} {H P0 F : Hp} {en : En}
/-- a name of the module -/
theorem glob2 {x : Str} {u0 : Value} (I : DI X ko pins kl σ H s) (hg : Gl X x) (hm : X.mg x = some u0) (hd : (x == ("__debug__" : Str)) = false) : wp2 (model X.prog X.w) X.A (eval (.Name x p) X.env) (fun u s' => u = u0 ∧ DI X ko pins kl σ H s' ∧ s.heap.objs.size ≤ s'.heap.objs.size) (fun _ _ => False) s := by
  refine wp2_mono (wp2_hsz (inv_run2 (E := fun _ _ => False) (Q := fun u s' => u = u0 ∧ Inv X pins σ H s') I.inv (fun s₁ i _ => ld_glob i hg hm ⟨rfl, i⟩ hd) fun u s' q => ⟨⟨q.1, inv_nog q.2⟩, q.2.bare⟩)) (fun u s' q => ?_) fun _ _ z => z
  obtain ⟨hz, ⟨rfl, i⟩, sl⟩ := q
  exact ⟨rfl, I.to i sl, hz⟩
theorem blt2 {x : Str} {u0 : Value} (I : DI X ko pins kl σ H s) (hg : Gl X x) (hm : X.mg x = none) (hv : bootBuiltins x = some u0) (hn : x ≠ "__name__") (hd : (x == ("__debug__" : Str)) = false) : wp2 (model X.prog X.w) X.A (eval (.Name x p) X.env) (fun u s' => u = u0 ∧ DI X ko pins kl σ H s' ∧ s.heap.objs.size ≤ s'.heap.objs.size) (fun _ _ => False) s := by
  refine wp2_mono (wp2_hsz (inv_run2 (E := fun _ _ => False) (Q := fun u s' => u = u0 ∧ Inv X pins σ H s') I.inv (fun s₁ i _ => ld_blt i hg hm hv ⟨rfl, i⟩ hn hd) fun u s' q => ⟨⟨q.1, inv_nog q.2⟩, q.2.bare⟩)) (fun u s' q => ?_) fun _ _ z => z
  obtain ⟨hz, ⟨rfl, i⟩, sl⟩ := q
  exact ⟨rfl, I.to i sl, hz⟩
/-- the caller's state behind a loud def's return -/
theorem DI.after {Q : D → Sto → Prop} {u : Value} {s' : Shared} (I : DI X ko pins kl σ H s) (rs : RS X.K P0 F en σ H) (h : LRet X.prog X.w X.K X.stack (ko ++ kl) H F en.M s Q u s') :
    Ex X ko pins kl s.heap.objs.size P0 F σ (fun en' F' _ => ∃ v d M', RelV v u ∧ Rp X.K F' v d ∧ en' = { en with M := M' } ∧ Q d M') s' := by
  obtain ⟨v, d, H', F', M', xs, kx, os, un, hok, ru, fin, rp, q, kk, tb, fx, nx, hz⟩ := h
  have y : LP.Gn.Yng X s.heap.objs.size := inv_yng I.inv
  have i : Inv X pins σ H' (nog s') := Inv.call' (s := nog s) (s' := nog s') (ch := []) I.inv os un hok bare0 fun b z => by cases z
  have i2 : Inv X (pins ++ xs) σ H' (nog s') := i.pins_of fun p hp => by
    rcases List.mem_append.mp hp with z | z
    · exact i.pin p (List.mem_append_right _ z)
    · obtain ⟨z1, z2, z3, z4⟩ := nx p z
      have nfr : p.1 ∉ frs X.stack := fun hm => absurd (Nat.lt_of_lt_of_le (y.frs I.inv _ hm) z3) (Nat.lt_irrefl _)
      refine ⟨z1, z2, fun e => ?_, fun hm => ?_, z4⟩
      · have := Nat.lt_of_lt_of_le y.loc z3
        rw [e] at this; exact Nat.lt_irrefl _ this
      · rcases I.inv.ok.stk with e | ⟨e, hf⟩
        · rw [e] at nfr; exact nfr hm
        · rw [e] at nfr
          refine nfr ?_
          unfold frs; rw [List.filterMap_cons, hf]; exact List.mem_cons_of_mem _ hm
  refine ⟨xs, kx, H', F', { en with M := M' }, fx, fun p hp => (nx p hp).2.2.1, hz, ⟨⟨i2, ?_⟩, ?_⟩, rs.fin fin, fin.s1, v, d, M', ru, rp, rfl, q⟩
  · rw [← List.append_assoc]; exact kk
  · rw [← List.append_assoc]; exact tb
/-- f(e, ..) of a loud def -/
theorem e2_call {k : Nat} {f : Addr} {fd : FuncData} {ps : List Str} {sp : ASp} {x : Str} {mm : MA} (G : FnL X.prog X.w X.K X.mg X.base k f fd ps sp) (hr : Room k X.A) (hgd : X.A.guards = some []) (hg : Gl X x) (hm : X.mg x = some (.ref f)) (hk : PySem.W.keepIn X.K (.ref f) = true) (hb : Binds X.K fd ps []) (ha : A2 X (e :: es) mm) (hdb : (x == ("__debug__" : Str)) = false := by decide)
    (he : starEach (e :: es) X.env = (false, eval e X.env) :: starEach es X.env := by rfl) (hpl : (backTo pos (starEach es X.env)).any (·.1) = false := by rfl) : E2 X (.Call (.Name x p) (e :: es) [] pos) (mCall sp mm) := by
  intro ko pins kl s σ H P0 F en Q I rs hq
  rw [arm_eval_Call_Name']
  refine wp2_bind (wp2_mono (glob2 I hg hm hdb) (fun u s0 q0 => ?_) fun _ _ z => z)
  obtain ⟨rfl, I0, hz0⟩ := q0
  refine callWith2 (K := X.K) hk (wp2_mono (ha pos ko pins kl s0 σ H P0 F en _ I0 rs hq) (fun us s1 q1 => ?_) fun _ _ z => z) he hpl
  obtain ⟨xs, kx, H1, F1, e1, h1, h2, h3, I1, r1, sm1, vs, ds, rv, rp, q1⟩ := q1
  refine ⟨I1.inv.kIn, wp2_call ?_⟩
  have el : (us ++ []).length = ps.length := by rw [List.append_nil, ← rv.length, rp.length]; exact G.len _ _ _ _ q1
  have bt := hb s1 us I1.inv.kIn el
  rw [List.append_nil] at bt
  refine code2_mono (G.go X.A hgd hr X.stack (ko ++ (kl ++ kx)) s1 H1 F1 e1.M I1.inv.env0 I1.kk I1.tb ⟨us, []⟩ us vs ds bt rv r1.same r1.sto rp _ q1) fun r s2 q2 => ?_
  cases r with
  | error _ => exact q2.elim
  | ok fl =>
    cases fl with
    | next => exact q2.elim
    | brk => exact q2.elim
    | cont => exact q2.elim
    | ret u => exact (I1.after r1 q2).up h1 (fun p hp => Nat.le_trans hz0 (h2 p hp)) (Nat.le_trans hz0 h3) sm1 fun en' F' H' _ ⟨v, d, M', z1, z2, z3, z4⟩ => ⟨v, d, z1, z2, by rw [z3]; exact z4⟩
/-- .. of a quiet one -/
theorem e2_callQ {k : Nat} {f : Addr} {fd : FuncData} {ps : List Str} {sp : ASp} {x : Str} {mm : MA} (hx : X.xe = fun _ _ => False) (G : FnG X.prog X.w X.K X.mg X.base k f fd ps (conc X.K sp)) (mono : sp.Mono) (hr : Room k X.A) (hgd : X.A.guards = some []) (hg : Gl X x) (hm : X.mg x = some (.ref f)) (hk : PySem.W.keepIn X.K (.ref f) = true) (hb : Binds X.K fd ps []) (ha : A2 X (e :: es) mm) (hdb : (x == ("__debug__" : Str)) = false := by decide)
    (he : starEach (e :: es) X.env = (false, eval e X.env) :: starEach es X.env := by rfl) (hpl : (backTo pos (starEach es X.env)).any (·.1) = false := by rfl) : E2 X (.Call (.Name x p) (e :: es) [] pos) (mCall sp mm) := by
  intro ko pins kl s σ H P0 F en Q I rs hq
  rw [arm_eval_Call_Name']
  refine wp2_bind (wp2_mono (glob2 I hg hm hdb) (fun u s0 q0 => ?_) fun _ _ z => z)
  obtain ⟨rfl, I0, hz0⟩ := q0
  refine callWith2 (K := X.K) hk (wp2_mono (ha pos ko pins kl s0 σ H P0 F en _ I0 rs hq) (fun us s1 q1 => ?_) fun _ _ z => z) he hpl
  obtain ⟨xs, kx, H1, F1, e1, h1, h2, h3, I1, r1, sm1, vs, ds, rv, rp, q1⟩ := q1
  refine ⟨I1.inv.kIn, wp2_mono (run_e (P0 := P0) (F := F1) (Q := Q) I1 fun s₁ i _ => ?_) (fun u s2 q2 => q2.up h1 (fun p hp => Nat.le_trans hz0 (h2 p hp)) (Nat.le_trans hz0 h3) sm1 fun _ _ _ _ z => z) fun _ _ z => z⟩
  have z := go_at (X := X) G hr hgd hb .nil (passAt takes0 σ) i rv (Q := fun v H1 => ∃ F2 e2 d, Same F1 F2 ∧ RS X.K P0 F2 e2 σ H1 ∧ Rp X.K F2 v d ∧ Q d e2) (by
    rw [List.append_nil]
    exact ⟨F1, e1.M, ds, r1.same, r1.sto, rp, mono _ _ _ _ _ _ (fun d M' q' F' v H' f rv => ⟨F', _, d, f.s1, r1.fin f, rv, q'⟩) (fun x M' q' => q'.elim) q1⟩)
  rw [hx] at z; exact z
theorem a2_nil : A2 X [] mNil := fun pos ko pins kl s σ H P0 F en Q I rs hm => spliced2_nil (.here (Nat.le_refl _) I rs (Same.refl F) ⟨[], [], .nil, .nil, hm⟩)
theorem a2_cons {mm : MA} (ha : E2 X e m) (hr : A2 X es mm) (hs : starEach (e :: es) X.env = (false, eval e X.env) :: starEach es X.env := by rfl) : A2 X (e :: es) (mCons m mm) := by
  intro pos ko pins kl s σ H P0 F en Q I rs hm
  rw [hs]
  show wp2 _ _ (spliced ((false, eval e X.env) :: backTo pos (starEach es X.env))) _ _ s
  refine spliced2_cons (wp2_mono (ha ko pins kl s σ H P0 F en _ I rs hm) (fun u s1 q1 => ?_) fun _ _ z => z)
  obtain ⟨xs, kx, H1, F1, e1, h1, h2, h3, I1, r1, sm1, v, d, ru, rp, q1⟩ := q1
  refine wp2_mono (hr pos ko _ _ s1 σ H1 P0 F1 e1 _ I1 r1 q1) (fun us s2 q2 => q2.up h1 h2 h3 sm1 fun en' F' H' s2 ⟨vs, ds, z1, z2, z3⟩ => ⟨_, _, .cons ru z1, .cons (rp.mono s2) z2, z3⟩) fun _ _ z => z
theorem av2_nil : AV2 X [] mvNil := fun pos ko pins kl s σ H P0 F en Q I rs hm => spliced2_nil (.here (Nat.le_refl _) I rs (Same.refl F) ⟨[], _, .nil, fun F' en' H' ds _ _ e => by cases e; exact .nil, hm⟩)
theorem av2_cons {mm : MAV} (ha : V2 X e ma) (hr : AV2 X es mm) (hs : starEach (e :: es) X.env = (false, eval e X.env) :: starEach es X.env := by rfl) : AV2 X (e :: es) (mvCons ma mm) := by
  intro pos ko pins kl s σ H P0 F en Q I rs hm
  rw [hs]
  show wp2 _ _ (spliced ((false, eval e X.env) :: backTo pos (starEach es X.env))) _ _ s
  refine spliced2_cons (wp2_mono (ha ko pins kl s σ H P0 F en _ I rs hm) (fun u s1 q1 => ?_) fun _ _ z => z)
  obtain ⟨xs, kx, H1, F1, e1, h1, h2, h3, I1, r1, sm1, v, g, ru, rg, q1⟩ := q1
  refine wp2_mono (hr pos ko _ _ s1 σ H1 P0 F1 e1 _ I1 r1 q1) (fun us s2 q2 => q2.up h1 h2 h3 sm1 fun en' F' H' s2 ⟨vs, h, z1, z2, z3⟩ => ⟨_, _, .cons ru z1, fun F3 e3 H3 ds s3 r3 hd => ?_, z3⟩) fun _ _ z => z
  unfold cns at hd
  split at hd
  · rename_i y ys g1 g2
    cases hd
    exact .cons (rg F3 e3 H3 _ (s2.trans s3) r3 g1) (z2 F3 e3 H3 _ s3 r3 g2)
  · cases hd
/-- a call of a built-in -/
theorem e2_cb {x : Str} {fv : Value} {f : List D → (D → Prop) → Prop} {mm : MAV} (hx : X.xe = fun _ _ => False) (h : CallS X fv f) (hg : Gl X x) (hm : X.mg x = none) (hv : bootBuiltins x = some fv) (ha : AV2 X (e :: es) mm) (hf : keeperOf fv = pure .machine := by rfl) (hn : x ≠ "__name__" := by decide) (hdb : (x == ("__debug__" : Str)) = false := by decide)
    (he : starEach (e :: es) X.env = (false, eval e X.env) :: starEach es X.env := by rfl) (hpl : (backTo pos (starEach es X.env)).any (·.1) = false := by rfl) : E2 X (.Call (.Name x p) (e :: es) [] pos) (mCB f mm) := by
  obtain ⟨r, cr, cs⟩ := h
  intro ko pins kl s σ H P0 F en Q I rs hq
  rw [arm_eval_Call_Name']
  refine wp2_bind (wp2_mono (blt2 I hg hm hv hn hdb) (fun u s0 q0 => ?_) fun _ _ z => z)
  obtain ⟨rfl, I0, hz0⟩ := q0
  refine callWithB2 hf (wp2_mono (ha pos ko pins kl s0 σ H P0 F en _ I0 rs hq) (fun us s1 q1 => ?_) fun _ _ z => z) he hpl
  obtain ⟨xs, kx, H1, F1, e1, h1, h2, h3, I1, r1, sm1, vs, g, rv, rg, ds, eg, q1⟩ := q1
  have hr := cs P0 F1 e1 σ H1 vs ds (fun d => Q d e1) (fun v H2 => ∃ F2 e2 d, Same F1 F2 ∧ RS X.K P0 F2 e2 σ H2 ∧ Rp X.K F2 v d ∧ Q d e2) r1 (rg F1 e1 H1 ds (Same.refl _) r1 eg) q1 fun F2 v d H2 s2 r2 rp q2 => ⟨F2, e1, d, s2, r2, rp, q2⟩
  refine wp2_mono (run_e (P0 := P0) (F := F1) (Q := Q) I1 fun s₁ i _ => ?_) (fun u s2 q2 => q2.up h1 (fun p hp => Nat.le_trans hz0 (h2 p hp)) (Nat.le_trans hz0 h3) sm1 fun _ _ _ _ z => z) fun _ _ z => z
  have z := cr _ s₁ σ H1 vs us _ i rv hr
  rw [hx] at z; exact z
end
end LP.Lo
namespace LP.Lo
open PySem PySem.Spec L2
open PyProof.Rows hiding St
open LP.Gn (RF rais_f mkG turnHead forHead wpAny_forHead wpAny_turnHead)
section
variable {X : Cx} {a b c e : Expr} {es : List Expr} {rest : List Stmt} {st : Stmt} {sts : List Stmt} {pos p : Pos} {m m' : ME} {ma mb : MV} {mt mu : MT} {ms us : MS} {ko : List (Nat × GenState)} {pins : List (Addr × Obj)} {kl : List (Nat × GenState)} {s : Shared} {σ : St} {H P0 F : Hp} {en : En}
theorem ss2_cons (h1 : S2 X st ms) (h2 : Ss2 X rest us) : Ss2 X (st :: rest) (sSeq ms us) := by
  intro ko pins kl s σ H P0 F en A hR I rs hm
  rw [execs_cons]
  refine wp2_bind (wp2_mono (h1 ko pins kl s σ H P0 F en { A with nx := us A } hR I rs hm) (fun f s1 q => ?_) fun _ _ z => z)
  obtain ⟨xs, kx, σ', σ1, H1, F1, e1, g1, g2, g3, I1, r1, sm1, q1⟩ := q
  cases f with
  | next =>
    obtain ⟨rfl, q1⟩ := q1
    exact wp2_mono (h2 ko _ _ s1 σ1 H1 P0 F1 e1 A hR I1 r1 q1) (fun f s2 q2 => q2.up g1 g2 g3 sm1) fun _ _ z => z
  | brk => exact wp2_pure ⟨xs, kx, σ', σ1, H1, F1, e1, g1, g2, g3, I1, r1, sm1, q1⟩
  | cont => exact wp2_pure ⟨xs, kx, σ', σ1, H1, F1, e1, g1, g2, g3, I1, r1, sm1, q1⟩
  | ret u => exact wp2_pure ⟨xs, kx, σ', σ1, H1, F1, e1, g1, g2, g3, I1, r1, sm1, q1⟩
theorem noR {A : AEnds} (hR : ∀ x en, ¬ A.R x en) : A.R = RF := funext fun x => funext fun e => propext ⟨fun z => hR x e z, fun z => z.elim⟩
theorem s2_if {sa sb : List Stmt} (hc : T2 X c mt) (ha : Ss2 X sa ms) (hb : Ss2 X sb us) : S2 X (.If c sa sb pos) (sIf mt ms us) := by
  intro ko pins kl s σ H P0 F en A hR I rs hm
  rw [exec_If]
  unfold sIf at hm
  rw [noR hR] at hm
  refine wp2_bind (wp2_standAt (wp2_bind (wp2_mono (hc ko pins kl s σ H P0 F en _ I rs hm) (fun u s1 q => ?_) fun _ _ z => z)))
  obtain ⟨xs, kx, H1, F1, e1, h1, h2, h3, I1, r1, sm1, q1⟩ := q
  cases u with
  | true => exact wp2_mono (ha ko _ _ s1 σ H1 P0 F1 e1 A hR I1 r1 q1) (fun f s2 q2 => q2.up h1 h2 h3 sm1) fun _ _ z => z
  | false => exact wp2_mono (hb ko _ _ s1 σ H1 P0 F1 e1 A hR I1 r1 q1) (fun f s2 q2 => q2.up h1 h2 h3 sm1) fun _ _ z => z
theorem s2_set {i : Nat} {x : Str} {pos' : Pos} (hN : X.N.Nodup) (hi : X.N[i]? = some x) (hx : Loc X.env.scope x) (he : E2 X e m) (hs : swapsWith e (some (.Name x pos')) pos.line X.env = pure false := by rfl) (hf : X.fn x = true ∨ X.env.scope.names.lookup x = some .local := by first | exact .inl rfl | exact .inr rfl | assumption) :
    S2 X (.Assign [.Name x pos'] e pos) (sSet i m) := by
  intro ko pins kl s σ H P0 F en A hR I rs hm
  rw [exec_Assign_Name X.env x pos' e pos hs]
  unfold sSet at hm
  rw [noR hR] at hm
  refine wp2_bind (wp2_standAt (wp2_bind (wp2_mono (he ko pins kl s σ H P0 F en _ I rs hm) (fun u s1 q => ?_) fun _ _ z => z)))
  obtain ⟨xs, kx, H1, F1, e1, h1, h2, h3, I1, r1, sm1, v, d, ru, rp, q1⟩ := q
  refine wp2_mono (run_st (P0 := P0) (F := F1) (A := A) I1 fun s₁ i₁ _ => ?_) (fun f s2 q2 => q2.up h1 h2 h3 sm1) fun _ _ z => z
  exact wpAny_bind (wpAny_standAt (wpAny_bind (wpAny_bindName (store_ok i₁ hN hi hx ru (fun s2 I2 => wpAny_pure ⟨rfl, _, H1, I2, F1, _, Same.refl F1, r1.setV rp, q1⟩) hf))))
theorem code2_forLoop {prog : Program} {w : World} {A : Around} {R : Result → Shared → Prop} {target : Expr} {it : Value} {body : List Stmt} {env : Env} {s : Shared}
    (h : wp2 (model prog w) A (turnHead target it env) (fun r s₁ => match r with
      | none => R (.ok .next) s₁
      | some _ => wp2 (model prog w) A (execs body env) (fun f s₂ => match f with
        | .next | .cont => code2 (model prog w) A (.forLoop target it body [] env) R s₂
        | .brk => R (.ok .next) s₂
        | .ret v => R (.ok (.ret v)) s₂) (fun _ _ => False) s₁) (fun _ _ => False) s) : code2 (model prog w) A (.forLoop target it body [] env) R s := by
  refine code2_of_tree ?_
  show wp2 _ A ((forTurn target it body [] env).onRaise (fun x => do noteFrame x env; theTreesLotGoes x)) _ _ s
  refine wp2_onRaise ?_
  unfold forTurn
  refine wp2_bind (wp2_standAt ?_)
  have e : ∀ (m : Sem (Option Value)) (gg : Option Value → Sem PySem.Fin) (kk : Option Unit → Sem PySem.Fin), (∀ v, gg (some v) = (letOwnedTupleGo target it v >>= fun _ => assign target env v >>= fun _ => (pure (some ()) : Sem (Option Unit))).bind kk) → (gg none = kk none) →
      (m >>= gg) = (m >>= fun r => (match r with
        | none => (pure none : Sem (Option Unit))
        | some v => letOwnedTupleGo target it v >>= fun _ => assign target env v >>= fun _ => pure (some ()))).bind kk := by
    intro m gg kk h1 h2
    rw [Sem.bind_eq_wrap', Sem.bind_eq_wrap', Sem.bind_eq_wrap, Sem.wrap_wrap]
    refine Sem.wrap_congr m _ _ (fun r => ?_) (fun _ => rfl)
    cases r with
    | none => exact h2
    | some v => rw [h1 v, Sem.bind_eq_wrap]
  let kk : Option Unit → Sem PySem.Fin := fun r => match r with
    | none => again (.block [] env)
    | some _ => do
      match ← execs body env with
      | .next | .cont => again (.forLoop target it body [] env)
      | .brk => pure (.done .next)
      | .ret v => pure (.done (.ret v))
  have e2 := e ((pyNext it).onRaise fun _ => standAt { target.pos with line := 0 }) (fun r => match r with
    | none => again (.block [] env)
    | some v => do
      letOwnedTupleGo target it v
      assign target env v
      match ← execs body env with
      | .next | .cont => again (.forLoop target it body [] env)
      | .brk => pure (.done .next)
      | .ret v => pure (.done (.ret v))) kk (fun v => by
        show _ = ((letOwnedTupleGo target it v >>= fun _ => assign target env v >>= fun _ => (pure (some ()) : Sem (Option Unit))) >>= kk)
        simp only [Sem.bind_eq_wrap', Sem.wrap_wrap]
        refine Sem.wrap_congr _ _ _ (fun _ => ?_) (fun _ => rfl)
        refine Sem.wrap_congr _ _ _ (fun _ => ?_) (fun _ => rfl)
        exact (Sem.bind_eq_wrap' (execs body env) _).symm) rfl
  refine cast (congrArg (fun z => wp2 (model prog w) A z _ _ s) e2.symm) ?_
  show wp2 _ A (turnHead target it env >>= kk) _ _ s
  refine wp2_bind (wp2_mono h (fun r s₁ h₁ => ?_) fun _ _ z => z.elim)
  cases r with
  | none =>
    refine wp2_pure ⟨rfl, code2_of_tree ?_⟩
    show wp2 _ _ (leafOf (.ok .next)) _ _ s₁
    exact wp2_pure h₁
  | some _ =>
    refine wp2_bind (wp2_mono h₁ (fun f s₂ h₂ => ?_) fun _ _ z => z.elim)
    cases f with
    | next => exact wp2_pure ⟨rfl, h₂⟩
    | cont => exact wp2_pure ⟨rfl, h₂⟩
    | brk => exact wp2_pure h₂
    | ret v => exact wp2_pure h₂
theorem exec_For1 {target iter : Expr} {body : List Stmt} {pos : Pos} {env : Env} : exec (.For target iter body [] pos) env = (standAt pos >>= fun _ => forHead iter env >>= fun it => runOwn (.forLoop target it body [] env) env) := by
  rw [exec_For]
  unfold forHead
  simp only [Sem.bind_eq_wrap', Sem.wrap_wrap]
  rfl
/-- pins that are there anyway -/
theorem DI.sub {p2 : List (Addr × Obj)} (I : DI X ko p2 kl σ H s) (h : ∀ p ∈ pins, p ∈ p2) : DI X ko pins kl σ H s := ⟨⟨I.inv.pins_of fun p hp => I.inv.pin p (List.mem_append_right _ (h p hp)), I.kk⟩, I.tb⟩
theorem s2_for {bb : Bool} {tg iter : Expr} {body : List Stmt} {mi : MI} {gm : MG} {ws : List Nat} (hx : X.xe = fun _ _ => False) (hc : X.calm = true) (hi : AI X W0 bb tg iter mi) (hg : AG X bb tg gm ws) (hb : Ss2 X body ms) (hs : ∀ x, foldedSetIterable iter X.env x = pure x := by intro _; rfl) : S2 X (.For tg iter body [] pos) (sFor mi gm ms) := by
  obtain ⟨t, pi, si⟩ := hi
  obtain ⟨tg', pg, sg⟩ := hg
  intro ko pins kl s σ H P0 F en A hR I rs hm
  rw [exec_For1]
  unfold sFor at hm
  rw [noR hR] at hm
  have ht := si P0 F en σ H RF _ (fun Jt H1 => ∃ F1 e1 ds, Same F F1 ∧ RS X.K P0 F1 e1 σ H1 ∧ ItOk bb X.K F1 Jt ds ∧ forR gm ms A ds e1) rs rais_f hm fun F1 e1 Jt ds H1 s1 r1 hJ q => ⟨F1, e1, ds, s1, r1, hJ, q⟩
  refine wp2_bind (wp2_standAt (wp2_bind (wp2_mono (wp2_hsz (inv_run2 (E := fun _ _ => False) (X := X) I.inv (fun s₁ i _ => wpAny_forHead (by have z := pi.run pins s₁ σ H _ i ht; rw [hx] at z; exact z) hs) cl2_PIE)) (fun itv s2 q => ?_) fun _ _ z => z)))
  obtain ⟨hz, ⟨it, fp, tn, Jt, H1, rfl, i1, T, st1, fp1, F1, e1, ds, s1, r1, hJ, hf⟩, sl⟩ := q
  have I1 : DI X ko pins kl σ H1 s2 := I.to i1 sl
  unfold runOwn
  refine wp2_onRaise (wp2_mono (E := fun _ _ => False) (Q := SEx X ko pins kl s.heap.objs.size P0 F A) (wp2_run (hd := none) (by intro z; cases z) ?_) (fun _ _ z => z) fun _ _ z => z.elim)
  rw [mark_none2]
  have blt : ∀ b ∈ fp, b < s2.heap.objs.size := fun b hb => by
    obtain ⟨o, e, _⟩ := T.obj _ _ st1 b hb
    exact Heap.lt_size e
  have stat : ∀ (x1 : List (Addr × Obj)) (H' : Hp), (∀ p ∈ x1, s2.heap.objs.size ≤ p.1) → ∀ b ∈ fp, H' b = none → FpOk X (pins ++ x1) H' b := fun x1 H' hx1 b hb hn => by
    obtain ⟨_, f1, f2, f3, f4, f5⟩ := fp1 b hb
    refine ⟨hn, f1, f2, f3, f4, fun p hp z => ?_⟩
    rcases List.mem_append.mp hp with y | y
    · exact f5 p (List.mem_append_left _ y) z
    · rcases List.mem_append.mp y with y | y
      · exact f5 p (List.mem_append_right _ y) z
      · have := hx1 p y
        rw [z] at this
        exact absurd (Nat.lt_of_lt_of_le (blt b hb) this) (Nat.lt_irrefl _)
  have loop : ∀ (xs : List D) (i : Nat) (x1 : List (Addr × Obj)) (k1 : List (Nat × GenState)) (s' : Shared) (σ' : St) (H' F' : Hp) (en' : En), xs = ds.drop i → i ≤ ds.length → (∀ q ∈ k1, FairG q.2 x1) → (∀ p ∈ x1, s2.heap.objs.size ≤ p.1) → s2.heap.objs.size ≤ s'.heap.objs.size → DI X ko (pins ++ x1) (kl ++ k1) σ' H' s' → RS X.K P0 F' en' σ' H' → tn i s'.heap → (∀ b ∈ fp, H' b = none) → Same F1 F' → forR gm ms A xs en' →
      code2 (model X.prog X.w) X.A (.forLoop tg (.ref it) body [] X.env) (fun r s'' => match r with | .ok f => SEx X ko pins kl s.heap.objs.size P0 F A f s'' | .error _ => False) s' := by
    intro xs
    induction xs with
    | nil =>
      intro i x1 k1 s' σ' H' F' en' hxs hi' hk1 hx1 hsz I' rs' st' fr' sF' hf'
      refine code2_forLoop ?_
      have hi : ds.length ≤ i := List.drop_eq_nil_iff.mp hxs.symm
      have hstop : Jt.stop i H' := by
        have z := ((hJ.mono sF') H' rs'.same).2
        rw [Nat.le_antisymm hi' hi]; exact z
      refine wp2_mono (wp2_hsz (inv_run2 (E := fun _ _ => False) (X := X) I'.inv (Q := fun r sE => r = none ∧ Inv X (pins ++ x1) σ' H' sE) (fun s₁ i₁ e₁ => wpAny_turnHead (thn (T.done X rfl rfl rfl hc i (pins ++ x1) s₁ σ' H' _ i₁ (fun b hb => stat x1 H' hx1 b hb (fr' b hb)) (by rw [e₁]; exact st') hstop) fun r s4 ⟨hr, i4⟩ => ?_)) (fun r sE q => ⟨⟨q.1, inv_nog q.2⟩, q.2.bare⟩))) (fun r sE q => ?_) fun _ _ z => z
      · subst hr; exact ⟨rfl, i4⟩
      · obtain ⟨hz4, ⟨rfl, i4⟩, sl4⟩ := q
        exact ⟨x1, k1, σ', σ', H', F', en', hk1, fun p hp => Nat.le_trans hz (hx1 p hp), Nat.le_trans hz (Nat.le_trans hsz hz4), I'.to i4 sl4, rs', s1.trans sF', rfl, hf'⟩
    | cons x xs ih =>
      intro i x1 k1 s' σ' H' F' en' hxs hi' hk1 hx1 hsz I' rs' st' fr' sF' hf'
      refine code2_forLoop ?_
      have hlt : i < ds.length := by
        rcases Nat.lt_or_ge i ds.length with z | z
        · exact z
        · rw [List.drop_eq_nil_of_le z] at hxs; cases hxs
      rw [List.drop_eq_getElem_cons hlt] at hxs
      obtain ⟨ex, exs⟩ := List.cons.inj hxs
      have eg : ds[i]? = some x := by rw [List.getElem?_eq_getElem hlt, ex]
      have hgo : Jt.go i H' := (((hJ.mono sF') H' rs'.same).1 i x eg).1
      let B2 : AEnds := { A with nx := forR gm ms A xs, ct := forR gm ms A xs, bk := A.nx }
      let Q : Option Unit → Shared → Prop := fun r' s6 => r' = some () ∧ ∃ (h5 : Heap) (σ6 : St) (H6 F6 : Hp) (e6 : En), tn (i + 1) h5 ∧ Inv X ((pins ++ x1) ++ pinsAt fp h5) σ6 H6 s6 ∧ Same F' F6 ∧ RS X.K P0 F6 e6 σ6 H6 ∧ ms B2 e6
      have head : ∀ s₁, Inv X (pins ++ x1) σ' H' s₁ → s₁.heap = s'.heap → wpAny (model X.prog X.w) X.A (turnHead tg (.ref it) X.env) Q (fun _ _ => False) s₁ := fun s₁ i₁ e₁ => by
        refine wpAny_turnHead (thn (T.item X rfl rfl rfl hc i (pins ++ x1) s₁ σ' H' _ i₁ (fun b hb => stat x1 H' hx1 b hb (fr' b hb)) (by rw [e₁]; exact st') hgo) fun r4 s4 ⟨u, hr, h4⟩ => ?_)
        subst hr
        refine thn h4 fun _ s5 ⟨v, H5, I5, r5, y5, st5, fr5⟩ => ?_
        obtain ⟨F3, s3, rs3, rp3⟩ := (hJ.mono sF').turn rs' eg y5
        have hq := sg P0 F3 en' σ' H5 v x _ (fun σ6 H6 => ∃ F6 e6, Same F3 F6 ∧ RS X.K P0 F6 e6 σ6 H6 ∧ ms B2 e6) rs3 rp3 hf' fun F6 e6 σ6 H6 s6 rs6 _ _ q6 => ⟨F6, e6, s6, rs6, q6⟩
        have zz := pg.run _ s5 σ' H5 v u _ (I5.pinned (fun b hb => stat x1 H5 hx1 b hb (fr5 b hb)) (T.obj _ _ st5)) r5 hq
        rw [hx] at zz
        refine thn zz fun _ s6 ⟨σ6, H6, I6, F6, e6, sm6, rs6, q6⟩ => ?_
        exact ⟨rfl, s5.heap, σ6, H6, F6, e6, st5, I6, s3.trans sm6, rs6, q6⟩
      refine wp2_mono (wp2_hsz (inv_run2 (E := fun _ _ => False) (X := X) I'.inv head (fun r' s6 q => ?_))) (fun r' s6 q => ?_) fun _ _ z => z
      · obtain ⟨q0, h5, σ6, H6, F6, e6, q1, q2, q3⟩ := q
        exact ⟨⟨q0, h5, σ6, H6, F6, e6, q1, inv_nog q2, q3⟩, q2.bare⟩
      obtain ⟨hz6, ⟨rfl, h5, σ6, H6, F6, e6, st5, i6, sm6, rs6, q6⟩, sl6⟩ := q
      have I6 : DI X ko ((pins ++ x1) ++ pinsAt fp h5) (kl ++ k1) σ6 H6 s6 := ⟨⟨i6, kp_stays I'.kk sl6⟩, tb_stays I'.tb sl6⟩
      refine wp2_mono (hb ko _ _ s6 σ6 H6 P0 F6 e6 B2 hR I6 rs6 q6) (fun f s7 q7 => ?_) fun _ _ z => z
      obtain ⟨x2, k2, σ7, σ8, H7, F7, e7, g1, g2, g3, I7, r7, sm7, q7⟩ := q7
      have n6 : s2.heap.objs.size ≤ s6.heap.objs.size := Nat.le_trans hsz hz6
      have hk2 := fair2 hk1 g1
      have hx2 := new2 hx1 g2 n6
      have n7 : s2.heap.objs.size ≤ s7.heap.objs.size := Nat.le_trans n6 g3
      have pin7 : ∀ b ∈ fp, ∀ o, h5.get? b = some o → s7.heap.get? b = some o ∧ H7 b = none := fun b hb o e => by
        obtain ⟨a1, a2, _⟩ := I7.inv.pin (b, o) (List.mem_append_right _ (List.mem_append_left _ (List.mem_append_right _ (mem_pinsAt hb e))))
        exact ⟨a1, a2⟩
      have I8 : DI X ko (pins ++ (x1 ++ x2)) (kl ++ (k1 ++ k2)) σ7 H7 s7 := by
        rw [← List.append_assoc kl]
        refine I7.sub fun p hp => ?_
        rcases List.mem_append.mp hp with z | z
        · exact List.mem_append_left _ (List.mem_append_left _ (List.mem_append_left _ z))
        · rcases List.mem_append.mp z with z | z
          · exact List.mem_append_left _ (List.mem_append_left _ (List.mem_append_right _ z))
          · exact List.mem_append_right _ z
      have st7 : tn (i + 1) s7.heap := T.keep _ _ _ st5 fun b hb o e => (pin7 b hb o e).1
      have fr7 : ∀ b ∈ fp, H7 b = none := fun b hb => by
        obtain ⟨o, e, _⟩ := T.obj _ _ st5 b hb
        exact (pin7 b hb o e).2
      have sF7 : Same F1 F7 := (sF'.trans sm6).trans sm7
      have fin : ∀ {P : Prop}, P → P := fun h => h
      cases f with
      | next =>
        obtain ⟨rfl, q7⟩ := q7
        exact ih (i + 1) (x1 ++ x2) (k1 ++ k2) s7 σ8 H7 F7 e7 exs (Nat.succ_le_of_lt hlt) hk2 hx2 n7 I8 r7 st7 fr7 sF7 q7
      | cont =>
        obtain ⟨rfl, q7⟩ := q7
        exact ih (i + 1) (x1 ++ x2) (k1 ++ k2) s7 σ8 H7 F7 e7 exs (Nat.succ_le_of_lt hlt) hk2 hx2 n7 I8 r7 st7 fr7 sF7 q7
      | brk =>
        obtain ⟨rfl, q7⟩ := q7
        exact ⟨x1 ++ x2, k1 ++ k2, σ8, σ8, H7, F7, e7, hk2, fun p hp => Nat.le_trans hz (hx2 p hp), Nat.le_trans hz n7, I8, r7, s1.trans sF7, rfl, q7⟩
      | ret v => exact ⟨x1 ++ x2, k1 ++ k2, σ7, σ8, H7, F7, e7, hk2, fun p hp => Nat.le_trans hz (hx2 p hp), Nat.le_trans hz n7, I8, r7, s1.trans sF7, q7⟩
  refine code2_mono (loop ds 0 [] [] s2 σ H1 F1 e1 rfl (Nat.zero_le _) (fun _ z => by cases z) (fun _ z => by cases z) (Nat.le_refl _) (by rw [List.append_nil, List.append_nil]; exact I1) r1 st1 (fun b hb => (fp1 b hb).1) (Same.refl F1) hf) fun r s3 q => ?_
  cases r with
  | ok f => exact q
  | error e => exact q.elim
end
end LP.Lo
namespace LP.Lo
open PySem PySem.Spec L2
open PyProof.Rows hiding St
open LP.Gn (RF rais_f mkG MGn mTupG mListG turnHead forHead wpAny_forHead sForG inv_adopt)
section
variable {X : Cx} {k : Nat} {e : Expr} {p pos : Pos} {i : MGn} {ko : List (Nat × GenState)} {pins : List (Addr × Obj)} {kl : List (Nat × GenState)} {s : Shared} {σ : St} {H P0 F : Hp} {en : En}
/-- a new generator: its place beside what sleeps -/
theorem gen2 {Q : List D → En → Prop} {R : Value → Shared → Prop} (hx : X.xe = fun _ _ => False) (hi : AGn X k e i) (I : DI X ko pins kl σ H s) (rs : RS X.K P0 F en σ H) (hm : i en Q)
    (h : ∀ (N : List Str) (qual : Str) (scope : Scope) (f : Addr) (cdv : Value) (n0 g : Nat) (a : Addr) (go o : Obj) (c : Code) (s1 : Shared) (H1 F1 : Hp) (e1 : En) (ys : List D), s.heap.objs.size ≤ s1.heap.objs.size → s.heap.objs.size ≤ n0 → DI X ko pins kl σ H1 s1 → RS X.K P0 F1 e1 σ H1 → Same F F1 → Q ys e1 → go.slots = #[] → Gs X (mkG X N qual scope f cdv n0 k g) pins (ko ++ kl) a go (.fresh c) [(n0, o)] [] F1 H1 s1 ys → s1.heap.IsGen a g → R (.ref a) s1) :
    wp2 (model X.prog X.w) X.A (eval e X.env) R (fun _ _ => False) s := by
  refine wp2_mono (wp2_hsz (run_gn (X := X) (E := fun _ _ => False) I.inv rs hm hi hx fun A Q s h => wpAny_mono h (fun u s1 q => q.2) fun _ _ z => z)) (fun u s1 q => ?_) fun _ _ z => z
  obtain ⟨hz, ⟨N, qual, scope, f, cdv, n0, g, a, go, o, c, H1, F1, e1, ys, rfl, I1, r1, sm1, hQ, hn, hm0, _, q⟩, sl⟩ := q
  have I2 : DI X ko pins kl σ H1 s1 := I.to I1 sl
  exact h N qual scope f cdv n0 g a go o c s1 H1 F1 e1 ys hz hm0 I2 r1 sm1 hQ q.slots (q.gs I2.kk I2.tb fun r hr => Nat.lt_of_lt_of_le (Array.getElem?_eq_some_iff.mp (I.kk r hr).1).1 hn) q.isGen
theorem e2_tupG (hx : X.xe = fun _ _ => False) (hi : AGn X k e i) (hr : Room (k + 8) X.A) (hgd : X.A.guards = some []) (hg : Gl X "tuple") (hm : X.mg "tuple" = none) (hs : starEach [e] X.env = (false, eval e X.env) :: starEach [] X.env := by rfl) : E2 X (.Call (.Name "tuple" p) [e] [] pos) (mTupG i) := by
  intro ko pins kl s σ H P0 F en Q I rs hm'
  rw [arm_eval_Call_Name']
  refine wp2_bind (wp2_mono (blt2 I hg hm PyProof.Rows.boot_tuple (by decide) (by decide)) (fun u s0 q0 => ?_) fun _ _ z => z)
  obtain ⟨rfl, I0, hz0⟩ := q0
  refine callWithB2 rfl ?_ hs rfl
  rw [hs]
  show wp2 _ _ (spliced ((false, eval e X.env) :: backTo pos (starEach [] X.env))) _ _ s0
  refine spliced2_cons (gen2 hx hi I0 rs hm' fun N qual scope f cdv n0 g a go o c s1 H1 F1 e1 ys h1 h2 I1 r1 sm1 ⟨hl, hQ⟩ hsl q _ => spliced2_nil ?_)
  refine wp2_mono (wp2_hsz (tuple2 (E := fun _ _ => False) (Q := fun u s3 => ∃ s' H' F' acc' vs', s3 = { s' with heap := s'.heap.push { cls := .type "tuple", data := .seq (acc' : List Value).toArray } } ∧ u = .ref s'.heap.objs.size ∧ Inv X pins σ H' (nog s') ∧ KpL (ko ++ kl) s' ∧ TbL (ko ++ kl) s' ∧ RS X.K P0 F' e1 σ H' ∧ Same F1 F' ∧ Vals vs' acc' ∧ Rps X.K F' vs' ys) hr hgd I1.inv.ok.frames trivial hsl I1.inv r1 q hl fun s' H' F' acc' vs' i1 k1 t1 i2 i3 i4 i5 => ⟨s', H', F', acc', vs', rfl, rfl, i1, k1, t1, i2, i3, i4, i5⟩)) (fun u s3 q3 => ?_) fun _ _ z => z
  obtain ⟨hz3, s', H', F', acc', vs', rfl, rfl, i1, k1, t1, i2, i3, i4, i5⟩ := q3
  have hz : vs'.length ≤ sizeLine := by rw [i5.length]; exact hl
  have hn : H' s'.heap.objs.size = none := i1.hok.fresh (Nat.le_refl _)
  have s2 : Same F' (upd F' s'.heap.objs.size (.frz (tupO acc') (.tup vs'))) := same_upd (i2.same.free hn)
  have i6 := Inv.laid (s := nog s') (t' := s'.toks) i1 (fun b o e => Heap.get?_push_of_some _ e) (Nat.le_refl _) (o := .frz (tupO acc') (.tup vs')) ⟨Heap.get?_push_size _ rfl, hz, acc', i4, IsTup.new _ _⟩
  refine Ex.here (H1 := upd H' s'.heap.objs.size (.frz (tupO acc') (.tup vs'))) (Nat.le_trans hz0 (Nat.le_trans h1 hz3)) ⟨⟨i6, k1⟩, t1⟩ (i2.alloc hn) ((sm1.trans i3).trans s2) ⟨.ref s'.heap.objs.size, .tup ys, rfl, .tup (.inl ⟨acc', upd_same⟩) (i5.mono s2), hQ⟩
end
end LP.Lo
namespace LP.Lo
open PySem PySem.Spec L2
open PyProof.Rows hiding St
open LP.Gn (RF rais_f mkG)
section
variable {prog : Program} {w : World} {A : Around} {s : Shared} {R : Result → Shared → Prop}
theorem code2_call_function {a : Addr} {args : Args} {o : Obj} {fd : FuncData} {body : List Stmt} (hroom : A.depth < recursionLimit) (ho : s.heap.get? a = some o)
    (hd' : o.data = .func fd) (hco : fd.scope.isCoroutine = false) (hgen : fd.scope.isGenerator = false) (hbody : fd.body = .stmts body) (hcd : s.heap.CodeRec fd.code fd.qualname)
    (h : wpAny (model prog w) A.in1 (bindArgs fd args) (fun binds s₁ => wpAny (model prog w) A.in1 (newFunctionEnv fd.scope fd.globals fd.closure binds (fd.qualname ++ ".<locals>.") (some a) fd.code none fd.builtins)
        (fun env s₂ => s₂.heap.NoLimit ∧ code2 (model prog w) A (.func body env) R s₂) (fun e s' => R (.error e) s') s₁) (fun e s' => R (.error e) s') s) : code2 (model prog w) A (.call (.ref a) args) R s := by
  refine code2_of_tree ?_
  rw [under_call]
  show wp2 _ A.in1 (callAny (.ref a) args) _ _ s
  refine lift ?_
  simp only [callAny]
  refine wpAny_bind (wpAny_load ho ?_)
  obtain ⟨c, oc, vs, tq, hc, hoc, hdc, hq⟩ := hcd
  simp only [hd', callFunction, hco, hgen, hbody, hc]
  rw [hc] at h
  refine wpAny_bind (m := field (.ref c) 1) (wpAny_field hoc hdc hq (wpAny_bind (wpAny_pure ?_)))
  exact wpAny_bind (wpAny_mono h (fun binds s₁ h₁ => wpAny_bind (wpAny_mono h₁ (fun env s₂ h₂ => wpAny_bind (wpAny_enterFrame h₂.1 hroom (wpAny_pure (And.intro rfl h₂.2)))) fun _ _ h' => h')) fun _ _ h' => h')
theorem code2_func {body : List Stmt} {env : Env} (h : wp2 (model prog w) (A.deeper env) (execs body env) (fun f s' => R (.ok (.ret (match f with | .ret v => v | _ => .none))) s') (fun _ _ => False) s) : code2 (model prog w) A (.func body env) R s := by
  refine code2_of_tree ?_
  show wp2 _ (A.deeper env) (do point; match ← (execs body env).onRaise (leaving env) with | .ret v => ret v | _ => ret .none) _ _ s
  refine wp2_bind (lift (wpAny_point ?_))
  refine wp2_bind (wp2_onRaise (wp2_mono h (fun f s' h' => ?_) fun _ _ h' => h'.elim))
  cases f <;> exact wp2_pure h'
end
theorem inCall_nog {s s1 : Shared} {L : Addr} {m cm : Str → Option Value} {cs : List (Str × Addr)} (x : InCallC s L m cs cm s1) : InCallC (nog s) L m cs cm (nog s1) :=
  ⟨⟨let ⟨h, tk, e⟩ := x.toInCall.same; ⟨h, tk, by rw [e]⟩, x.toInCall.ns, x.toInCall.keep, x.toInCall.fresh⟩, x.cell, x.apart, x.above⟩
section
variable {P : Program} {w : World} {K : PySem.W.Frag} {mg : Str → Option Value} {base : Heap}
theorem ldef_ok {x qual : Str} {st : Stmt} {dvs : List V} {kws : List (Str × V)} {f : Addr} {fd : FuncData} {N ps : List Str} {k : Nat} {sp : ASp} {m : MS} (G : FnD K x qual st dvs kws f fd) (S : FnScope N ps (defScope st)) (len : ∀ ds M Q E, sp ds M Q E → ds.length = ps.length)
    (body : ∀ (cdv : Value) (A : Around) (outer : List Env) (s : Shared) (H : Hp) (E : XK), A.guards = some [] → Room k (A.deeper (envOfC qual (defScope st) s.heap.objs.size f cdv)) →
      Takes (cxOf (L2N.CX P w) P w K mg base N qual (defScope st) f cdv A outer s H E).nox W0 →
      PassesOwn (model P w) (cxOf (L2N.CX P w) P w K mg base N qual (defScope st) f cdv A outer s H E).A (cxOf (L2N.CX P w) P w K mg base N qual (defScope st) f cdv A outer s H E).env (fun _ _ => False) →
      Ss2 (cxOf (L2N.CX P w) P w K mg base N qual (defScope st) f cdv A outer s H E).nox (defBody st) m)
    (spec : ∀ ds M Q, sp ds M Q (fun _ _ => False) → m (defEnds Q fun _ _ => False) ⟨startA N.length ds, M⟩) : FnL P w K mg base (k + 1) f fd ps sp where
  len := len
  go := by
    intro A hgd hr out ko s H F M e0 kk tb args us vs ds hb rv sm so rp Q hsp
    obtain ⟨oc, od, dV, kV, doc, pm, an, cdv, ct, osl, rfl, lk, hcd, _, _⟩ := G.ex
    have keep : ∀ b o, base.get? b = some o → s.heap.get? b = some o := fun b o h => (e0.bs b o h).1
    have kin := e0.mod.kin.keeps keep
    have el : vs.length = ps.length := rp.length.trans (len _ _ _ _ hsp)
    have kinds : ∀ y ∈ ps.zip us, (defScope st).names.lookup y.1 = some .local ∨ ((defScope st).names.lookup y.1 = some .cell ∧ ((cellsFrom (s.heap.objs.size + 1) (defScope st).names []).lookup y.1).isSome = true) := by
      rintro ⟨nm, _⟩ hy
      exact (S.par nm (List.of_mem_zip hy).1).imp id fun q => ⟨q, PySem.W.cellsFrom_some _ _ _ (.inl q)⟩
    refine code2_call_function hr.depth (kin _ _ lk) rfl S.co S.gen rfl (PySem.W.codeRec_of kin hcd) (hb _ _ _ _ (wpAny_newFunctionEnv_cells S.kind kinds ?_))
    intro env he s1 ic
    subst he
    refine ⟨(e0.mod.nolimit.keeps keep).keeps ic.toInCall.keep, code2_func ?_⟩
    have I0 := inv_start (CX := L2N.CX P w) (E := fun _ _ _ => False) S hr.hd e0 el rv (inCall_nog ic)
    have eg : s1.gens = s.gens := by
      obtain ⟨h1, tk, e, _⟩ := ic.done
      rw [e]
    have hsz : s.heap.objs.size ≤ s1.heap.objs.size := by
      rcases Nat.lt_or_ge s1.heap.objs.size s.heap.objs.size with z | z
      · have := ic.toInCall.ns
        obtain ⟨o, _, _, ho, _⟩ := this
        exact Nat.le_of_lt (Heap.lt_size ho)
      · exact z
    have DI0' : DI (cxOf (L2N.CX P w) P w K mg base N qual (defScope st) f cdv A out (nog s) H fun _ _ _ => False).nox ko [] [] (L2.start N vs) H s1 :=
      ⟨⟨Inv.wish I0 _, fun q hq => by rw [eg]; exact kk q (by rw [List.append_nil] at hq; exact hq)⟩, fun i x e => by rw [eg] at e; rw [List.append_nil]; exact tb i x e⟩
    refine wp2_mono (body cdv A out (nog s) H (fun _ _ _ => False) hgd (hr.deeper _) takes0 PassesOwn.never ko [] [] s1 _ H (prv F M H) F _ (defEnds Q fun _ _ => False) (fun _ _ z => z) DI0' (rs_start sm so rp) (spec ds M Q hsp)) (fun fl s2 hs => ?_) fun _ _ hs => hs
    obtain ⟨xs, kx, σ', σ1, H', F', en', g1, g2, g3, J, r', sm', q⟩ := hs
    rw [List.nil_append, List.nil_append] at J
    have fin : Fin K F M H F' en'.M H' := ⟨sm', r'.same, r'.sto, fun q o h1 h2 h3 => r'.prv q o (prv_of h1 h2 h3)⟩
    have pin : ∀ p ∈ xs, s2.heap.get? p.1 = some p.2 ∧ H' p.1 = none ∧ s.heap.objs.size ≤ p.1 ∧ ∀ v, p.2.data ≠ .cell v := fun p hp => by
      obtain ⟨z1, z2, _, _, z5⟩ := J.inv.pin p (List.mem_append_right _ hp)
      exact ⟨z1, z2, Nat.le_trans hsz (g2 p hp), z5⟩
    have ends : ∀ (v : V) (d : D) (u : Value), RelV v u → Rp K F' v d → Q d en'.M → LRet P w K out ko H F M s Q u s2 := fun v d u ru rp q =>
      ⟨v, d, H', F', en'.M, xs, kx, J.inv.os, J.inv.base, J.inv.hok, ru, fin, rp, q, J.kk, J.tb, g1, pin, Nat.le_trans hsz g3⟩
    cases fl with
    | next => exact ends .non .non .none rfl .non q.2
    | brk => exact q.2.elim
    | cont => exact q.2.elim
    | ret u =>
      obtain ⟨v, d, ru, rp', q⟩ := q
      exact ends v d u ru rp' q
end
end LP.Lo
namespace LP.Lo
open PySem PySem.Spec L2
open PyProof.Rows hiding St
open LP.Gn (RF rais_f mkG ASpG)
theorem gfn_never {P : Program} {w : World} {K : PySem.W.Frag} {mg : Str → Option Value} {base : Heap} {k : Nat} {f : Addr} {fd : FuncData} {ps : List Str} (sp : ASpG) (h : ∀ ds ys, sp ds ys → False) : GFnA P w K mg base k f fd ps sp :=
  ⟨fun ds ys q => (h ds ys q).elim, fun _ _ _ _ _ _ _ _ ds ys _ _ _ _ _ _ q => (h ds ys q).elim⟩
section
variable {X : Cx} {a b c e : Expr} {es rest : List Expr} {st : Stmt} {pos p : Pos} {m m' : ME} {ma mb : MV} {ms : MS} {ko : List (Nat × GenState)} {pins : List (Addr × Obj)} {kl : List (Nat × GenState)} {s : Shared} {σ : St} {H P0 F : Hp} {en : En}
theorem ss2_one (h1 : S2 X st ms) : Ss2 X [st] ms := by
  intro ko pins kl s σ H P0 F en A hR I rs hm
  rw [execs_cons]
  refine wp2_bind (wp2_mono (h1 ko pins kl s σ H P0 F en A hR I rs hm) (fun f s1 q => ?_) fun _ _ z => z)
  cases f with
  | next => exact wp2_pure q
  | brk => exact wp2_pure q
  | cont => exact wp2_pure q
  | ret u => exact wp2_pure q
end
end LP.Lo
namespace LP.Lo
open PySem
section
variable (den : Code → Sem PySem.Fin) (prog : Program) (w : World)
theorem yf_life {s : Shared} {t : Thread} (hz : s.asleep) (hf : Fair s t) (others : List Value) : lifeStep den prog w others s t = PySem.step den prog w s t := by
  obtain ⟨v, l, k, it, r, kw, p, st, pre, rest, b, o, n, rfl, hs, hg, ho, hn⟩ := hf
  have hsp : Thread.special ⟨.yield v true l k, .builtin "proto.yield_from" ⟨.ref it :: r, kw⟩, p, st⟩ = true := by simp [Thread.special, Thread.yieldsInsideHandler]
  have hsh : closingShows s pre (.builtin "proto.yield_from" ⟨.ref it :: r, kw⟩) true = false := by
    have hr : s.heap.life.registered = [] := hz.1
    simp [closingShows, hg, delegateShows, ho, hn, hr]
  obtain ⟨b1, b2, b3, b4⟩ := b
  simp only [lifeStep, hsp, if_true, collectorTurn?, hs, hsh]
  simp [stepCounting, hz.2, Thread.atItsEnd]
theorem yf_moves {s : Shared} {v : Value} {g : Bool} {l : List Value} {k : Resume → Sem PySem.Fin} {c : Code} {p : Pos} {st : List Frame} (pr : Profile) : (Config.single s ⟨.yield v g l k, c, p, st⟩).moves pr = [.run 0] := by
  simp_all [Config.moves, Config.single, movesFrom, Thread.moves, Thread.atomic, Thread.rests, Thread.tells]
theorem yf_pick {s : Shared} {v : Value} {g : Bool} {l : List Value} {k : Resume → Sem PySem.Fin} {c : Code} {p : Pos} {st : List Frame} (hr : s.heap.life.registered = []) : (Config.single s ⟨.yield v g l k, c, p, st⟩).pick w = .ok (.run 0, .single s ⟨.yield v g l k, c, p, st⟩) := by
  have h1 : (Config.single s ⟨.yield v g l k, c, p, st⟩).collect? w.params = none := by
    simp [Config.collect?, Config.single, (nothing_to_collect _ _ _ s _ hr).1]
  have h2 : (Config.single s ⟨.yield v g l k, c, p, st⟩).collectable = [] := by
    simp [Config.collectable, Config.single, (nothing_to_collect w.params _ _ s _ hr).2]
  simp only [Config.pick, h1, h2, Config.pickThread, yf_moves]
  cases w.params.lifetimes <;> simp
theorem yf_sstep {s : Shared} {t : Thread} (hz : s.asleep) (hf : Fair s t) : sstep den prog w (.single s t) = (PySem.step den prog w s t).lift := by
  have hl := yf_life den prog w hz hf
  obtain ⟨v, l, k, it, r, kw, p, st, pre, rest, b, o, n, rfl, hs, hg, ho, hn⟩ := hf
  simp only [sstep, yf_pick w hz.1, Config.move]
  simp only [Config.run, Config.single]
  simp [hl, others_single, frozenBadly, ThreadState.insideWrite, Thread.finalizes]
  split <;> simp_all [Step.lift, Config.single]
/-- fairness is seen through what is forgotten -/
theorem Fair.forget {s σ : Shared} {t τ : Thread} (hf : Fair s t) (hs : σ.forget = s.forget) (ht : τ.forget = t.forget) : Fair σ τ := by
  obtain ⟨v, l, k, it, r, kw, p, st, pre, rest, b, o, n, rfl, h1, h2, h3, h4⟩ := hf
  obtain ⟨cur, code, pos, stack⟩ := τ
  simp only [Thread.forget, Thread.mk.injEq] at ht
  obtain ⟨rfl, rfl, rfl, hst⟩ := ht
  have e := splitAtGen_forgetAll st
  rw [← hst, splitAtGen_forgetAll, h1] at e
  cases q : splitAtGen stack with
  | none => rw [q] at e; cases e
  | some x =>
    obtain ⟨pre', b', rest'⟩ := x
    rw [q] at e
    simp only [Option.map_some, Option.some.injEq, Prod.mk.injEq] at e
    obtain ⟨e1, e2, e3⟩ := e
    refine ⟨v, l, k, it, r, kw, _, stack, pre', rest', b', o, n, rfl, q, ?_, ?_, h4⟩
    · rw [← any_guarded_forgetAll, e1, any_guarded_forgetAll]; exact h2
    · rw [(Shared.forget_eq hs).1]; exact h3
theorem one_sched {s s₁ σ : Shared} {t t₁ τ : Thread} (hq : t.loud = false ∨ Fair s t) (h : stepK den prog w s t = .go s₁ t₁) (hz : σ.asleep) (hs : σ.forget = s.forget) (ht : τ.forget = t.forget) :
    ∃ σ₁ τ₁, sstep den prog w (.single σ τ) = .go (.single σ₁ τ₁) ∧ σ₁.asleep ∧ σ₁.heap.life = σ.heap.life ∧ σ₁.forget = s₁.forget ∧ τ₁.forget = t₁.forget := by
  have e := (step_same den prog w hs ht).trans (stepK_forget den prog w s t).symm
  rw [h] at e
  cases hst : PySem.step den prog w σ τ with
  | halt o s' => rw [hst] at e; cases e
  | go σ₁ τ₁ =>
    rw [hst] at e
    simp only [Step.forget] at e
    injection e with e1 e2
    refine ⟨σ₁, τ₁, ?_, by simp only [Shared.asleep, step_life den prog w σ σ₁ τ τ₁ hst]; exact hz, step_life den prog w σ σ₁ τ τ₁ hst, e1, e2⟩
    rcases hq with hq | hq
    · have hc : t.calm = true := by
        rw [Thread.calm_eq, hq]
        cases hr : t.refused with
        | false => rfl
        | true =>
          obtain ⟨what, e⟩ := stepK_refused den prog w (s := s) hr
          rw [h] at e; cases e
      have hc' : τ.calm = true := by rw [← Thread.calm_forget, ht, Thread.calm_forget]; exact hc
      have z := (sstep_single den prog w σ τ hc' hz).resolve_right (by rw [hst]; intro z; cases z)
      rw [z, hst]; rfl
    · rw [yf_sstep den prog w hz (hq.forget hs ht), hst]; rfl
/-- the table's last word: every sleeper may be forgotten -/
def Mild (s : Shared) : Prop := ∀ (i : Nat) (x : GenState), s.gens[i]? = some x → x.bare = true ∨ ∃ (k : Resume → Sem PySem.Fin) (l : List Value) (it : Addr) (r : List Value) (kw : List (Str × Value)) (p : Pos) (fs : List Frame) (o : Obj) (n : Nat),
  x = .suspended k l (.builtin "proto.yield_from" ⟨.ref it :: r, kw⟩) p fs true ∧ fs.any Frame.guarded = false ∧ s.heap.get? it = some o ∧ o.genNumber? = some n
theorem Mild.forget {s σ : Shared} (h : Mild s) (hs : σ.forget = s.forget) : Mild σ := fun i x e => by
  obtain ⟨e1, _, _, _, e5⟩ := Shared.forget_eq hs
  have z : (s.gens.map GenState.forget)[i]? = some x.forget := by rw [← e5, Array.getElem?_map, e]; rfl
  rw [Array.getElem?_map] at z
  cases q : s.gens[i]? with
  | none => rw [q] at z; cases z
  | some y =>
    rw [q] at z
    have ey : y.forget = x.forget := by simpa using z
    rcases h i y q with w | ⟨k, l, it, r, kw, p, fs, o, n, rfl, h1, h2, h3⟩
    · left
      have : y.forget.bare = x.forget.bare := congrArg _ ey
      cases y <;> cases x <;> simp_all [GenState.bare, GenState.forget]
    · right
      cases x with
      | suspended k' l' c' p' fs' cl =>
        simp only [GenState.forget_suspended, GenState.suspended.injEq] at ey
        obtain ⟨rfl, rfl, rfl, rfl, e2, rfl⟩ := ey
        refine ⟨_, _, it, r, kw, _, fs', o, n, rfl, ?_, by rw [e1]; exact h2, h3⟩
        rw [← any_guarded_forgetAll, ← e2, any_guarded_forgetAll]; exact h1
      | _ => simp [GenState.forget] at ey
theorem Mild.left {s : Shared} (h : Mild s) (hz : s.asleep) (all : Bool) : leftWithCleanup (forgetSuspended all s).gens = false := by
  have hr : s.heap.life.registered = [] := hz.1
  unfold leftWithCleanup forgetSuspended
  rw [Array.any_eq_false]
  intro i hi
  simp only [Array.size_map] at hi
  have e : s.gens[i]? = some s.gens[i] := Array.getElem?_eq_getElem hi
  simp only [Array.getElem_map]
  rcases h i _ e with q | ⟨k, l, it, r, kw, p, fs, o, n, q, h1, h2, h3⟩
  · revert q
    cases s.gens[i] with
    | suspended k l c p fs cl => intro q; cases cl <;> simp_all [GenState.bare]
    | _ => intro _; simp
  · rw [q]
    simp [closingShows, h1, delegateShows, h2, h3, hr]
/-- the last step -/
theorem end_sstep {σ : Shared} {r : Result} {c : Code} {p : Pos} (hz : σ.asleep) (hm : Mild σ) : sstep den prog w (.single σ ⟨leafOf r, c, p, []⟩) = .halt (outcomeOf r) (forgetSuspended (w.params.lifetimes == .anyTime) σ) := by
  have hc : Thread.calm ⟨leafOf r, c, p, []⟩ = true := by cases r <;> simp [leafOf, Thread.calm, Thread.atCollectorCode, Thread.yieldsInsideHandler]
  have hl : ∀ others, lifeStep den prog w others σ ⟨leafOf r, c, p, []⟩ = .halt (outcomeOf r) (forgetSuspended (w.params.lifetimes == .anyTime) σ) := fun others => by
    rw [lifeStep_calm0 den prog w others σ _ hc hz]
    have he : Thread.atItsEnd ⟨leafOf r, c, p, []⟩ = true := by cases r <;> rfl
    rw [he]
    have hg := hm.left hz (w.params.lifetimes == .anyTime)
    cases r <;> simp [leafOf, PySem.step, PySem.finish, hg, outcomeOf]
  simp only [sstep, pick_single w σ _ hc hz.1, Config.move]
  cases r with
  | ok f =>
    simp only [leafOf] at hl ⊢
    simp only [Config.run, Config.single]
    simp [hl, others_single, frozenBadly, ThreadState.insideWrite, Thread.finalizes]
  | error e =>
    simp only [leafOf] at hl ⊢
    simp only [Config.run, Config.single]
    simp [hl, others_single, frozenBadly, ThreadState.insideWrite, Thread.finalizes]
end
theorem red_sched {M : Model} {s s' : Shared} {t t' : Thread} (h : Red M s t s' t') : ∀ (σ : Shared) (τ : Thread), σ.asleep → σ.forget = s.forget → τ.forget = t.forget →
    ∃ (n : Nat) (σ' : Shared) (τ' : Thread), (∀ k, schedN M.den M.prog M.w (n + k) (.single σ τ) = schedN M.den M.prog M.w k (.single σ' τ')) ∧ σ'.asleep ∧ σ'.heap.life = σ.heap.life ∧ σ'.forget = s'.forget ∧ τ'.forget = t'.forget := by
  induction h with
  | here => intro σ τ hz hs ht; exact ⟨0, σ, τ, fun k => by rw [Nat.zero_add], hz, rfl, hs, ht⟩
  | go a b _ ih =>
    intro σ τ hz hs ht
    obtain ⟨σ₁, τ₁, h1, h2, hl, h3, h4⟩ := one_sched M.den M.prog M.w a b hz hs ht
    obtain ⟨n, σ', τ', g1, g2, g3, g4, g5⟩ := ih σ₁ τ₁ h2 h3 h4
    refine ⟨n + 1, σ', τ', fun k => ?_, g2, g3.trans hl, g4, g5⟩
    rw [Nat.add_right_comm]
    simp only [schedN, h1]
    exact g1 k
/-- what a thread comes to in the end -/
theorem wp2_halts {prog : Program} {w : World} {t : Sem PySem.Fin} {s : Shared} {R : Result → Shared → Prop} (hz : s.asleep)
    (h : wp2 (model prog w) callerA t (fun fin s' => ∃ f, fin = .done f ∧ R (.ok f) s' ∧ Mild s') (fun e s' => R (.error e) s' ∧ Mild s') s) :
    ∃ (n : Nat) (r : Result) (s' s'' : Shared), schedN (denote table) prog w n (.single s ⟨t, .builtin "claim.caller" {}, default, []⟩) = .halted (outcomeOf r) s'' ∧ s''.heap = s'.heap ∧ s''.os = s'.os ∧ s''.heap.life = s.heap.life ∧ R r s' := by
  have key : ∀ (r : Result) (s' : Shared) (p' : Pos), Red (model prog w) s ⟨t, .builtin "claim.caller" {}, default, []⟩ s' ⟨leafOf r, .builtin "claim.caller" {}, p', []⟩ → R r s' → Mild s' →
      ∃ (n : Nat) (r : Result) (s' s'' : Shared), schedN (denote table) prog w n (.single s ⟨t, .builtin "claim.caller" {}, default, []⟩) = .halted (outcomeOf r) s'' ∧ s''.heap = s'.heap ∧ s''.os = s'.os ∧ s''.heap.life = s.heap.life ∧ R r s' := fun r s' p' rd hR hm => by
    obtain ⟨n, σ', τ', g1, g2, g3, g4, g5⟩ := red_sched rd s _ hz rfl rfl
    obtain ⟨cur, code, pos, stack⟩ := τ'
    simp only [Thread.forget, Thread.mk.injEq] at g5
    obtain ⟨rfl, rfl, rfl, hst⟩ := g5
    have est : stack = [] := by
      cases stack with
      | nil => rfl
      | cons _ _ => cases hst
    subst est
    have hm' : Mild σ' := hm.forget g4
    have fin := end_sstep (denote table) prog w (r := r) (c := .builtin "claim.caller" {}) (p := pos) g2 hm'
    obtain ⟨e1, _, _, e4, _⟩ := Shared.forget_eq g4
    refine ⟨n + 1, r, s', forgetSuspended (w.params.lifetimes == .anyTime) σ', (g1 1).trans ?_, e1, e4, ?_, hR⟩
    · simp only [schedN]
      have z := fin
      simp only [model] at z ⊢
      rw [z]
    · exact g3
  have h0 := h (.builtin "claim.caller" {}) default [] .pure .raise id id caller_in
  rw [wrap_id] at h0
  rcases h0 with ⟨fin, p', s', ⟨f, rfl, hR, hm⟩, rd⟩ | ⟨e, p', s', ⟨hR, hm⟩, rd⟩
  · exact key (.ok f) s' p' rd hR hm
  · exact key (.error e) s' p' rd hR hm
end LP.Lo
namespace LP.Lo
open PySem PySem.Spec L2
open PyProof.Rows hiding St
open LP.Gn (RF rais_f mkG)
section
variable {X : Cx}
/-- behind an iterable: what its iterator gives -/
def IEx (X : Cx) (ko : List (Nat × GenState)) (pins : List (Addr × Obj)) (kl : List (Nat × GenState)) (n : Nat) (P0 F : Hp) (σ : L2.St) (b : Bool) (tg : Expr) (Q : List D → En → Prop) (u : Value) (s' : Shared) : Prop :=
  ∃ xs kx H' F' en', (∀ q ∈ kx, FairG q.2 xs) ∧ (∀ p ∈ xs, n ≤ p.1) ∧ n ≤ s'.heap.objs.size ∧ DI X ko (pins ++ xs) (kl ++ kx) σ H' s' ∧ RS X.K P0 F' en' σ H' ∧ Same F F' ∧
    ∀ s2, Inv X (pins ++ xs) σ H' s2 → s2.heap = s'.heap → wpAny (model X.prog X.w) X.A (pyIter u) (PIE X (pins ++ xs) σ tg fun J H2 => ∃ F2 ds, Same F' F2 ∧ RS X.K P0 F2 en' σ H2 ∧ ItOk b X.K F2 J ds ∧ Q ds en') (fun _ _ => False) s2
def I2 (X : Cx) (b : Bool) (tg it : Expr) (m : MI) : Prop := ∀ (ko : List (Nat × GenState)) (pins : List (Addr × Obj)) (kl : List (Nat × GenState)) (s : Shared) (σ : L2.St) (H P0 F : Hp) (en : En) (Q : List D → En → Prop), DI X ko pins kl σ H s → RS X.K P0 F en σ H → m RF en Q →
  wp2 (model X.prog X.w) X.A (eval it X.env) (IEx X ko pins kl s.heap.objs.size P0 F σ b tg Q) (fun _ _ => False) s
theorem i2_seq {tg l : Expr} {me : ME} (hl : E2 X l me) : I2 X false tg l (mSeq me) := by
  intro ko pins kl s σ H P0 F en Q I rs hm
  refine wp2_mono (hl ko pins kl s σ H P0 F en _ I rs hm) (fun u s' q => ?_) fun _ _ z => z
  obtain ⟨xs, kx, H1, F1, e1, h1, h2, h3, I1, r1, sm1, v, d, ru, rp, q⟩ := q
  refine ⟨xs, kx, H1, F1, e1, h1, h2, h3, I1, r1, sm1, fun s2 i2 _ => ?_⟩
  have fresh : ∀ b ∈ [s2.heap.objs.size], FpOk X (pins ++ xs) H1 b := by
    intro b hb
    rw [List.mem_singleton.mp hb]
    exact i2.fpOk (Nat.le_refl _) (i2.hok.fresh (Nat.le_refl _))
  have keep : ∀ o : Obj, Inv X (pins ++ xs) σ H1 { s2 with heap := s2.heap.push o } := fun o => i2.kept (t' := s2.toks) fun b u z => Heap.get?_push_of_some _ z
  have onL : ∀ {a : Addr} {ys : List V} {ds : List D}, SqL X.K H1 a ys → ItOk false X.K F1 (Itl X.K a) ds → Q ds e1 → wpAny (model X.prog X.w) X.A (pyIter (.ref a)) (PIE X (pins ++ xs) σ tg fun J H2 => ∃ F2 ds, Same F1 F2 ∧ RS X.K P0 F2 e1 σ H2 ∧ ItOk false X.K F2 J ds ∧ Q ds e1) (fun _ _ => False) s2 := fun {a ys ds} hq ok q => by
    obtain ⟨its, _, p, _⟩ := i2.list hq
    exact wpAny_pyIter_list p.isList ⟨s2.heap.objs.size, [s2.heap.objs.size], _, Itl X.K a, H1, rfl, keep _, turn_list a _, ⟨_, Heap.get?_push_size _ rfl, rfl, rfl⟩, fresh, F1, ds, Same.refl F1, r1, ok, q⟩
  cases rp with
  | @tup _ vs ds h4 h5 =>
    cases ru
    obtain ⟨its, _, p, _⟩ := i2.tuple (sqT_mono r1.same h4.sq)
    exact wpAny_pyIter_tuple (show s2.heap.IsTuple _ its.toArray from p) ⟨s2.heap.objs.size, [s2.heap.objs.size], _, Itt X.K _, H1, rfl, keep _, turn_tuple _ _, ⟨_, Heap.get?_push_size _ rfl, rfl, rfl⟩, fresh, F1, _, Same.refl F1, r1, it_tup h4.sq h5, q⟩
  | lst h4 h5 => cases ru; exact onL (SqL.of (r1.same _ _ h4)) (it_list h4 h5) q
  | scr h4 => cases ru; exact onL (r1.same.seq h4) (it_scr h4) q
  | _ => exact q.elim
end
end LP.Lo
namespace LP
open PySem PySem.Spec L2
open PyProof.Rows hiding St
section
variable {prog : Program} {w : World} {A : Around} {s : Shared}
/-- tuples of d whole numbers -/
def TupsZ (h : Heap) (d : Nat) (vs : List Value) : Prop := ∀ v, v ∈ vs → ∃ ns, TS.TupInts h v ns ∧ ns.length = d
theorem TupsZ.keeps {h h' : Heap} {d : Nat} {vs : List Value} (x : TupsZ h d vs) (k : ∀ b o, h.get? b = some o → o.cls = .type "tuple" → h'.get? b = some o) : TupsZ h' d vs := fun v hv =>
  let ⟨ns, t, r⟩ := x v hv; ⟨ns, t.keeps k, r⟩
end
end LP
namespace LP
open PySem PySem.Spec L2
open PyProof.Rows hiding St
end LP
namespace LP
open PySem PySem.Spec L2
open PyProof.Rows hiding St
end LP
namespace LP.Lo
open PySem PySem.Spec L2
open PyProof.Rows hiding St
open LP.Gn (RF rais_f mkG)
section
variable {X : Cx} {a b : Expr} {m m' : ME} {pos : Pos}
end
end LP.Lo
namespace LP.Lo
open PySem PySem.Spec L2
open PyProof.Rows hiding St
open LP.Gn (RF rais_f mkG)
/-- the head of a comprehension's turn -/
def compHead (target : Expr) (it : Value) (env : Env) (pos : Pos) : Sem (Option Unit) :=
  standAt pos >>= fun _ => pyNext it >>= fun r => match r with
    | none => (pure none : Sem (Option Unit))
    | some v => letOwnedTupleGo target it v >>= fun _ => assign target env v >>= fun _ => pure (some ())
abbrev tests (ifs : List Expr) (env : Env) : Sem Bool := forIn ifs true fun c r => if r = true then do let ok ← isTrue c env (eval c env); pure (ForInStep.yield ok) else pure (ForInStep.yield r)
section
variable {M : Model} {A : Around} {E : Value → Shared → Prop} {s : Shared} {target : Expr} {it : Value} {env : Env} {pos : Pos} {Q : Option Unit → Shared → Prop}
theorem wpAny_compHead (h : wpAny M A (pyNext it) (fun r s₁ => match r with
    | none => Q none s₁
    | some v => wpAny M A (letOwnedTupleGo target it v) (fun _ s₂ => wpAny M A (assign target env v) (fun _ s₃ => Q (some ()) s₃) E s₂) E s₁) E s) : wpAny M A (compHead target it env pos) Q E s := by
  unfold compHead
  refine wpAny_bind (wpAny_standAt (wpAny_bind (wpAny_mono h (fun r s₁ h₁ => ?_) fun _ _ z => z)))
  cases r with
  | none => exact wpAny_pure h₁
  | some v => exact wpAny_bind (wpAny_mono h₁ (fun _ s₂ h₂ => wpAny_bind (wpAny_mono h₂ (fun _ s₃ h₃ => wpAny_pure h₃) fun _ _ z => z)) fun _ _ z => z)
end
section
variable {prog : Program} {w : World} {A : Around} {R : Result → Shared → Prop} {s : Shared} {elt target iter : Expr} {ifs : List Expr} {scope : Scope} {pos : Pos} {it acc : Value} {env : Env}
def compTail (elt : Expr) (ifs : List Expr) (acc : Value) (env : Env) (c : Code) : Sem PySem.Fin :=
  tests ifs env >>= fun ok => if ok = true then eval elt env >>= fun x => call (.builtin "list.append") [acc, x] >>= fun _ => again c else again c
theorem compTurn_head : compTurn (.ListComp elt [⟨target, iter, ifs, 0⟩] scope pos) 0 it acc env = compHead target it env iter.pos >>= fun r => match r with
    | none => pure (.done .next)
    | some _ => compTail elt ifs acc env (.compLoop (.ListComp elt [⟨target, iter, ifs, 0⟩] scope pos) 0 it acc env) := by
  rw [compTurn_list]
  unfold compHead
  simp only [Sem.bind_eq_wrap', Sem.wrap_wrap]
  refine Sem.wrap_congr _ _ _ (fun _ => ?_) (fun _ => rfl)
  refine Sem.wrap_congr _ _ _ (fun r => ?_) (fun _ => rfl)
  cases r with
  | none => rfl
  | some v =>
    simp only [Sem.bind_eq_wrap', Sem.wrap_wrap]
    refine Sem.wrap_congr _ _ _ (fun _ => ?_) (fun _ => rfl)
    refine Sem.wrap_congr _ _ _ (fun _ => ?_) (fun _ => rfl)
    show _ = compTail elt ifs acc env (.compLoop (.ListComp elt [⟨target, iter, ifs, 0⟩] scope pos) 0 it acc env)
    unfold compTail tests
    simp only [Sem.bind_eq_wrap', Sem.wrap_wrap]
    refine Sem.wrap_congr _ _ _ (fun b => ?_) (fun _ => rfl)
    cases b with
    | false => rfl
    | true => rfl
theorem code2_compLoop
    (h : wp2 (model prog w) A (compHead target it env iter.pos) (fun r s₁ => match r with
      | none => R (.ok .next) s₁
      | some _ => wp2 (model prog w) A (tests ifs env) (fun ok s₂ => if ok = true then wp2 (model prog w) A (eval elt env) (fun x s₃ => wp2 (model prog w) A (call (.builtin "list.append") [acc, x]) (fun _ s₄ => code2 (model prog w) A (.compLoop (.ListComp elt [⟨target, iter, ifs, 0⟩] scope pos) 0 it acc env) R s₄) (fun _ _ => False) s₃) (fun _ _ => False) s₂
        else code2 (model prog w) A (.compLoop (.ListComp elt [⟨target, iter, ifs, 0⟩] scope pos) 0 it acc env) R s₂) (fun _ _ => False) s₁) (fun _ _ => False) s) :
    code2 (model prog w) A (.compLoop (.ListComp elt [⟨target, iter, ifs, 0⟩] scope pos) 0 it acc env) R s := by
  refine code2_of_tree ?_
  show wp2 _ A ((compTurn (.ListComp elt [⟨target, iter, ifs, 0⟩] scope pos) 0 it acc env).onRaise (fun x => do noteFrame x env; theTreesLotGoes x)) _ _ s
  refine wp2_onRaise ?_
  rw [compTurn_head]
  refine wp2_bind (wp2_mono h (fun r s₁ h₁ => ?_) fun _ _ z => z.elim)
  cases r with
  | none => exact wp2_pure h₁
  | some _ =>
    unfold compTail
    refine wp2_bind (wp2_mono h₁ (fun ok s₂ h₂ => ?_) fun _ _ z => z.elim)
    cases ok with
    | false =>
      rw [if_neg Bool.false_ne_true] at h₂ ⊢
      exact wp2_pure ⟨rfl, h₂⟩
    | true =>
      rw [if_pos rfl] at h₂ ⊢
      exact wp2_bind (wp2_mono h₂ (fun x s₃ h₃ => wp2_bind (wp2_mono h₃ (fun _ s₄ h₄ => wp2_pure ⟨rfl, h₄⟩) fun _ _ z => z.elim)) fun _ _ z => z.elim)
theorem code2_compStart {rest : List Comprehension} (h0 : code2 (model prog w) A (.compLoop (.ListComp elt (⟨target, iter, ifs, 0⟩ :: rest) scope pos) 0 it acc env) R s)
    (h : wp2 (model prog w) A (pyIter it) (fun it' s' => code2 (model prog w) A (.compLoop (.ListComp elt (⟨target, iter, ifs, 0⟩ :: rest) scope pos) 0 it' acc env) R s') (fun _ _ => False) s) :
    code2 (model prog w) A (.compStart (.ListComp elt (⟨target, iter, ifs, 0⟩ :: rest) scope pos) 0 it acc env) R s := by
  refine code2_of_tree ?_
  show wp2 _ _ ((compStart (.ListComp elt (⟨target, iter, ifs, 0⟩ :: rest) scope pos) 0 it acc env).onRaise (fun x => do noteFrame x env; standAt theWindowsPlace)) _ _ s
  refine wp2_onRaise ?_
  unfold compStart
  show wp2 _ _ (ask >>= _) _ _ s
  refine wp2_bind (lift (wpAny_askSetting ?_))
  dsimp only
  split
  · first
      | exact wp2_bind (wp2_pure (wp2_pure (And.intro rfl h0)))
      | exact wp2_pure (And.intro rfl h0)
  · refine wp2_bind (wp2_rule ?_)
    show wp2 _ _ (standAt iter.pos >>= _) _ _ s
    exact wp2_bind (wp2_standAt (wp2_bind (wp2_mono h (fun it' s' h' => wp2_pure (And.intro rfl h')) fun _ _ z => z.elim)))
end
section
variable (X : Cx)
def T2s (ifs : List Expr) (m : MT) : Prop := ∀ (ko : List (Nat × GenState)) (pins : List (Addr × Obj)) (kl : List (Nat × GenState)) (s : Shared) (σ : L2.St) (H P0 F : Hp) (en : En) (Q : Bool → En → Prop), DI X ko pins kl σ H s → RS X.K P0 F en σ H → m RF en Q →
  wp2 (model X.prog X.w) X.A (tests ifs X.env) (fun b s' => Ex X ko pins kl s.heap.objs.size P0 F σ (fun en' _ _ => Q b en') s') (fun _ _ => False) s
end
theorem t2s_nil {X : Cx} : T2s X [] mYes := fun ko pins kl s σ H P0 F en Q I rs hm => wp2_pure (.here (Nat.le_refl _) I rs (Same.refl F) hm)
section
variable {X : Cx}
theorem e2_lcl {elt tg iter : Expr} {ifs : List Expr} {scope : Scope} {own : List (Str × Nat)} {pos : Pos} {mi : MI} {mg : MG} {mt : MT} {me : ME} {ws : List Nat} {b : Bool} (hx : X.xe = fun _ _ => False) (hc : X.calm = true) (hN : X.N.Nodup) (hi : I2 X b tg iter mi) (ok : BlkOk X.N X.env.scope scope own)
    (hg : ∀ (s : Shared) (H : Hp) (C : Addr) (cl : List (Str × Addr)) (fp : List Addr), AG (X.blk s H scope (compEnvC scope cl C X.env) fp) b tg mg ws)
    (ht : ∀ (s : Shared) (H : Hp) (C : Addr) (cl : List (Str × Addr)) (fp : List Addr), T2s (X.blk s H scope (compEnvC scope cl C X.env) fp) ifs mt)
    (he : ∀ (s : Shared) (H : Hp) (C : Addr) (cl : List (Str × Addr)) (fp : List Addr), E2 (X.blk s H scope (compEnvC scope cl C X.env) fp) elt me)
    (hw : ∀ i ∈ ws, i ∈ own.map (·.2) := by decide) (hs : ∀ x, foldedSetIterable iter X.env x = pure x := by intro _; rfl) : E2 X (.ListComp elt [⟨tg, iter, ifs, 0⟩] scope pos) (mL (mLc mi mg mt me (own.map (·.2)))) := by
  intro ko pins kl s σ H P0 F en Q I rs hm
  have hfree : ∀ y ∈ scope.names, y.2 = .free → ∃ c, X.env.cells.lookup y.1 = some c := fun y hy e => (ok.free y hy e).elim (fun k => I.inv.ok.has _ (.inl k)) fun k => I.inv.ok.has _ (.inr k)
  rw [eval_ListComp]
  unfold comprehension
  refine wp2_bind (wp2_mono (hi ko pins kl s σ H P0 F en _ I rs hm) (fun u s1 q1 => ?_) fun _ _ z => z)
  obtain ⟨xs, kx, H1, F1, e1, h1, h2, h3, I1, r1, sm1, hit⟩ := q1
  refine wp2_bind (wp2_standAt ?_)
  show wp2 _ _ (foldedSetIterable iter X.env u >>= _) _ _ s1
  rw [hs]
  refine wp2_bind (wp2_pure (wp2_bind (wp2_holding (wp2_mono (wp2_hsz (inv_run2 (E := fun _ _ => False) I1.inv (fun s₁ i hh => hit s₁ i hh) cl2_PIE)) (fun itv s2 q2 => ?_) fun _ _ z => z))))
  obtain ⟨hz2, ⟨it, fp, tn, J, H2, rfl, i2, T, st2, f2, F2, ds, sm2, r2, okI, q⟩, sl2⟩ := q2
  have I2 : DI X ko (pins ++ xs) (kl ++ kx) σ H2 s2 := I1.to i2 sl2
  show wp2 _ _ (newList [] >>= _) _ _ s2
  refine wp2_bind (lift (wpAny_newList ?_ (by show 0 ≤ sizeLine; decide)))
  rw [closure_ok hfree]
  refine wp2_bind (wp2_pure (wp2_bind (lift (newEnv_comp ?_))))
  generalize hD : s2.heap.objs.size = D
  have hDn : H2 D = none := i2.hok.fresh (Nat.le_of_eq hD)
  generalize hs3 : ({ s2 with heap := s2.heap.push { cls := .type "list", data := .seq ([] : List Value).toArray } } : Shared) = s3
  have h3' : s3.heap = s2.heap.push { cls := .type "list", data := .seq ([] : List Value).toArray } := by rw [← hs3]
  have I3 : Inv X (pins ++ xs) σ (upd H2 D (.lst [])) (nog s3) := by
    rw [← hs3]
    refine I2.inv.laid (t' := s2.toks) (fun b o e => Heap.get?_push_of_some _ e) (Nat.le_of_eq hD) ⟨Nat.zero_le _, [], 0, .nil, ?_⟩
    rw [← hD]
    exact Heap.get?_push_size _ rfl
  have n2 : New P0 F2 e1 σ H2 D := r2.new hDn
  have rs3 : RS X.K (upd P0 D (.lst [])) F2 e1 σ (upd H2 D (.lst [])) := (r2.lay hDn).hold n2.lay upd_same
  have f3 : ∀ b ∈ fp, FpOk X (pins ++ xs) (upd H2 D (.lst [])) b ∧ b < (nog s3).heap.objs.size := fun b hb => by
    obtain ⟨o, e, _⟩ := T.obj _ _ st2 b hb
    have hlt : b < s2.heap.objs.size := Heap.lt_size e
    refine ⟨⟨?_, (f2 b hb).2⟩, by show b < s3.heap.objs.size; rw [h3', Heap.size_push]; exact Nat.lt_succ_of_lt hlt⟩
    rw [upd_ne (by rw [← hD]; exact Nat.ne_of_lt hlt)]
    exact (f2 b hb).1
  have st3 : tn 0 s3.heap := T.keep _ _ _ st2 fun b _ o e => by rw [h3']; exact Heap.get?_push_of_some _ e
  have I4 := block_start I3 ok hN f3
  have nfp : ∀ b ∈ fp, (upd H2 D (.lst [])) b = none := fun b hb => (f3 b hb).1.1
  generalize hH3 : upd H2 D (.lst []) = H3 at I3 I4 nfp f3 rs3
  have pgX := hg (nog s3) H3 s3.heap.objs.size (cellsFrom (s3.heap.objs.size + 1) scope.names (cloFrom X.env.cells scope.names [])) fp
  have ptX := ht (nog s3) H3 s3.heap.objs.size (cellsFrom (s3.heap.objs.size + 1) scope.names (cloFrom X.env.cells scope.names [])) fp
  have peX := he (nog s3) H3 s3.heap.objs.size (cellsFrom (s3.heap.objs.size + 1) scope.names (cloFrom X.env.cells scope.names [])) fp
  refine wp2_holding (wp2_bind (wp2_attempt (wp2_holding (wp2_run (hd := none) (by intro z; cases z) ?_))))
  rw [mark_none2]
  let ce : Env := compEnvC scope (cellsFrom (s3.heap.objs.size + 1) scope.names (cloFrom X.env.cells scope.names [])) s3.heap.objs.size X.env
  have hce : compEnvC scope (cellsFrom (s3.heap.objs.size + 1) scope.names (cloFrom X.env.cells scope.names [])) s3.heap.objs.size X.env = ce := rfl
  show code2 (model X.prog X.w) X.A (.compStart (.ListComp elt [⟨tg, iter, ifs, 0⟩] scope pos) 0 (.ref it) (.ref D) ce) _ { s3 with heap := pushCells (s3.heap.push { cls := .type "dict", data := .dict #[] }) scope.names }
  have cL : ce.locals = s3.heap.objs.size := rfl
  rw [hce] at I4 pgX ptX peX
  generalize hs4 : ({ s3 with heap := pushCells (s3.heap.push { cls := .type "dict", data := .dict #[] }) scope.names } : Shared) = s4
  let Xb : Cx := X.blk (nog s3) H3 scope ce fp
  have hxb : Xb.xe = fun _ _ => False := rfl
  have I4' : Inv Xb [] (L2.wipe σ (own.map (·.2))) H3 (nog s4) := by rw [← hs4]; exact I4
  have kp4 : ∀ b o, s3.heap.get? b = some o → s4.heap.get? b = some o := fun b o e => by rw [← hs4]; exact pushCells_keeps _ _ _ _ (Heap.get?_push_of_some _ e)
  have g4 : s4.gens = s2.gens := by rw [← hs4, ← hs3]
  have D4 : DI Xb ko [] (kl ++ kx) (L2.wipe σ (own.map (·.2))) H3 s4 := ⟨⟨I4', fun q hq => by rw [g4]; exact I2.kk q hq⟩, fun i x e => I2.tb i x (by rw [← g4]; exact e)⟩
  have st4 : tn 0 s4.heap := T.keep _ _ _ st3 fun b _ o e => kp4 b o e
  have sz4 : s2.heap.objs.size ≤ s4.heap.objs.size := by
    rw [← hs4]
    show s2.heap.objs.size ≤ (pushCells (s3.heap.push _) scope.names).objs.size
    refine Nat.le_trans ?_ (pushCells_size _ _)
    rw [Heap.size_push, h3', Heap.size_push]; omega
  let vs := own.map (·.2)
  let Qm : List LP.D → En → Prop := fun ds e => Q (.lst ds) e
  let Rr : Result → Shared → Prop := fun r s'' => r = .ok .next ∧ ∃ (x1 : List (Addr × Obj)) (k1 : List (Nat × GenState)) (H' F' : Hp) (en' : En) (acc : List LP.D) (as : List V), (∀ q ∈ k1, FairG q.2 x1) ∧ (∀ p ∈ x1, s4.heap.objs.size ≤ p.1) ∧ s4.heap.objs.size ≤ s''.heap.objs.size ∧ DI Xb ko x1 (kl ++ kx ++ k1) (L2.wipe σ vs) H' s'' ∧ RS X.K (upd P0 D (.lst as)) F' en' σ H' ∧ Rps X.K F' as acc ∧ Same F2 F' ∧ Qm acc en'
  have stat : ∀ (x1 : List (Addr × Obj)) (σ' : L2.St) (H' : Hp) (s' : Shared), (∀ p ∈ x1, s4.heap.objs.size ≤ p.1) → Inv Xb x1 σ' H' s' → (∀ b ∈ fp, H' b = none) → ∀ b ∈ fp, FpOk Xb x1 H' b := fun x1 σ' H' s' hx1 I' hn b hb =>
    ⟨hn b hb, (I'.ok.exf b hb).1, I'.ok.exfs b hb, .inl hb, fun x c e => (I'.ok.exf b hb).2 x c e, fun p hp z => by
      have hp : p ∈ ([] : List (Addr × Obj)) ++ x1 := hp
      rw [List.nil_append] at hp
      have h1 := hx1 p hp
      have h2 := (f3 b hb).2
      have h2 : b < s3.heap.objs.size := h2
      have h5 : s3.heap.objs.size ≤ s4.heap.objs.size := by
        rw [← hs4]
        refine Nat.le_trans ?_ (pushCells_size _ _)
        rw [Heap.size_push]; omega
      rw [z] at h1
      exact absurd (Nat.lt_of_lt_of_le (Nat.lt_of_lt_of_le h2 h5) h1) (Nat.lt_irrefl _)⟩
  obtain ⟨tgX, pgR, sgR⟩ := pgX
  have loop : ∀ (xd : List LP.D) (i : Nat) (acc : List LP.D) (as : List V) (x1 : List (Addr × Obj)) (k1 : List (Nat × GenState)) (s' : Shared) (H' F' : Hp) (en' : En), xd = ds.drop i → i ≤ ds.length → (∀ q ∈ k1, FairG q.2 x1) → (∀ p ∈ x1, s4.heap.objs.size ≤ p.1) → s4.heap.objs.size ≤ s'.heap.objs.size → DI Xb ko x1 (kl ++ kx ++ k1) (L2.wipe σ vs) H' s' → RS X.K (upd P0 D (.lst as)) F' en' σ H' → Rps X.K F' as acc → tn i s'.heap → (∀ b ∈ fp, H' b = none) → Same F2 F' → lcR mg mt me vs xd acc en' Qm →
      code2 (model X.prog X.w) X.A (.compLoop (.ListComp elt [⟨tg, iter, ifs, 0⟩] scope pos) 0 (.ref it) (.ref D) ce) Rr s' := by
    intro xd
    induction xd with
    | nil =>
      intro i acc as x1 k1 s' H' F' en' hxs hi' hk1 hx1 hsz I' rs' ra st' fr' sF' hq
      refine code2_compLoop ?_
      have hi2 : ds.length ≤ i := List.drop_eq_nil_iff.mp hxs.symm
      have hstop : J.stop i H' := by
        have z := ((okI.mono sF') H' rs'.same).2
        rw [Nat.le_antisymm hi' hi2]; exact z
      refine wp2_mono (wp2_hsz (inv_run2 (E := fun _ _ => False) (X := Xb) I'.inv (Q := fun r sE => r = none ∧ Inv Xb x1 (L2.wipe σ vs) H' sE) (fun s₁ i₁ e₁ => wpAny_compHead (thn (T.done Xb rfl rfl rfl hc i x1 s₁ (L2.wipe σ vs) H' _ i₁ (stat x1 _ H' s₁ hx1 i₁ fr') (by rw [e₁]; exact st') hstop) fun r s5 ⟨hr, i5⟩ => ?_)) (fun r sE q => ⟨⟨q.1, inv_nog q.2⟩, q.2.bare⟩))) (fun r sE q => ?_) fun _ _ z => z
      · subst hr; exact ⟨rfl, i5⟩
      · obtain ⟨hz5, ⟨rfl, i5⟩, sl5⟩ := q
        exact ⟨rfl, x1, k1, H', F', en', acc, as, hk1, hx1, Nat.le_trans hsz hz5, I'.to i5 sl5, rs', ra, sF', hq⟩
    | cons x xd ih =>
      intro i acc as x1 k1 s' H' F' en' hxs hi' hk1 hx1 hsz I' rs' ra st' fr' sF' hq
      refine code2_compLoop ?_
      have hlt : i < ds.length := by
        rcases Nat.lt_or_ge i ds.length with z | z
        · exact z
        · rw [List.drop_eq_nil_of_le z] at hxs; cases hxs
      rw [List.drop_eq_getElem_cons hlt] at hxs
      obtain ⟨ex, exs⟩ := List.cons.inj hxs
      have eg : ds[i]? = some x := by rw [List.getElem?_eq_getElem hlt, ex]
      have hgo : J.go i H' := (((okI.mono sF') H' rs'.same).1 i x eg).1
      let Qh : Option Unit → Shared → Prop := fun r' s6 => r' = some () ∧ ∃ (h5 : Heap) (σ6 : L2.St) (H6 F6 : Hp) (e6 : En), tn (i + 1) h5 ∧ Inv Xb (x1 ++ pinsAt fp h5) σ6 H6 s6 ∧ Same F' F6 ∧ RS X.K (upd P0 D (.lst as)) F6 e6 σ6 H6 ∧ σ6.length = (L2.wipe σ vs).length ∧ (∀ j, j ∉ ws → σ6[j]? = (L2.wipe σ vs)[j]?) ∧
        mt RF e6 fun b e7 => if b = true then me RF e7 fun y e8 => keepO vs 0 en'.sl e8.sl ∧ acc.length < sizeLine ∧ lcR mg mt me vs xd (acc ++ [y]) { en' with M := e8.M } Qm else keepO vs 0 en'.sl e7.sl ∧ lcR mg mt me vs xd acc { en' with M := e7.M } Qm
      have head : ∀ s₁, Inv Xb x1 (L2.wipe σ vs) H' s₁ → s₁.heap = s'.heap → wpAny (model X.prog X.w) X.A (compHead tg (.ref it) ce iter.pos) Qh (fun _ _ => False) s₁ := fun s₁ i₁ e₁ => by
        refine wpAny_compHead (thn (T.item Xb rfl rfl rfl hc i x1 s₁ (L2.wipe σ vs) H' _ i₁ (stat x1 _ H' s₁ hx1 i₁ fr') (by rw [e₁]; exact st') hgo) fun r4 s5 ⟨u, hr, h5⟩ => ?_)
        subst hr
        refine thn h5 fun _ s6 ⟨v, H5, I5, r5, y5, st5, fr5⟩ => ?_
        obtain ⟨F3, s3', rs3', rp3⟩ := (okI.mono sF').turn rs' eg y5
        have hq6 := sgR (upd P0 D (.lst as)) F3 _ (L2.wipe σ vs) H5 v x _ (fun σ6 H6 => ∃ F6 e6, Same F3 F6 ∧ RS X.K (upd P0 D (.lst as)) F6 e6 σ6 H6 ∧ σ6.length = (L2.wipe σ vs).length ∧ (∀ j, j ∉ ws → σ6[j]? = (L2.wipe σ vs)[j]?) ∧ mt RF e6 fun b e7 => if b = true then me RF e7 fun y e8 => keepO vs 0 en'.sl e8.sl ∧ acc.length < sizeLine ∧ lcR mg mt me vs xd (acc ++ [y]) { en' with M := e8.M } Qm else keepO vs 0 en'.sl e7.sl ∧ lcR mg mt me vs xd acc { en' with M := e7.M } Qm) (rs3'.wipe vs) rp3 hq fun F6 e6 σ6 H6 s6 rs6 l6 k6 q6 => ⟨F6, e6, s6, rs6, l6, k6, q6⟩
        have zz := pgR.run _ s6 (L2.wipe σ vs) H5 v u _ (I5.pinned (stat x1 _ H5 s6 hx1 I5 fr5) (T.obj _ _ st5)) r5 hq6
        refine thn zz fun _ s7 ⟨σ6, H6, I6, F6, e6, sm6, rs6, l6, k6, q6⟩ => ?_
        exact ⟨rfl, s6.heap, σ6, H6, F6, e6, st5, I6, s3'.trans sm6, rs6, l6, k6, q6⟩
      refine wp2_mono (wp2_hsz (inv_run2 (E := fun _ _ => False) (X := Xb) I'.inv head (fun r' s6 q => ?_))) (fun r' s6 q => ?_) fun _ _ z => z
      · obtain ⟨q0, h5, σ6, H6, F6, e6, q1, q2, q3⟩ := q
        exact ⟨⟨q0, h5, σ6, H6, F6, e6, q1, inv_nog q2, q3⟩, q2.bare⟩
      obtain ⟨hz6, ⟨rfl, h5, σ6, H6, F6, e6, st5, i6, sm6, rs6, l6, k6, q6⟩, sl6⟩ := q
      have I6 : DI Xb ko (x1 ++ pinsAt fp h5) (kl ++ kx ++ k1) σ6 H6 s6 := ⟨⟨i6, kp_stays I'.kk sl6⟩, tb_stays I'.tb sl6⟩
      have n6 : s4.heap.objs.size ≤ s6.heap.objs.size := Nat.le_trans hsz hz6
      have hσ : ∀ j, j ∉ vs → σ6[j]? = (L2.wipe σ vs)[j]? := fun j hj => k6 j fun z => hj (hw j z)
      have hww : L2.wipe σ6 vs = L2.wipe σ vs := (wipe_same l6 hσ).trans (wipe_twice σ vs)
      have hσ' : ∀ j, j ∉ vs → σ6[j]? = σ[j]? := fun j hj => (hσ j hj).trans (wipe_out hj)
      -- the end of a turn
      have fin : ∀ {x2 : List (Addr × Obj)} {k2 : List (Nat × GenState)} {s7 : Shared} {H7 F7 : Hp} {acc' : List LP.D} {as' : List V} {en7 : En}, (∀ q ∈ k2, FairG q.2 x2) → (∀ p ∈ x2, s6.heap.objs.size ≤ p.1) → s6.heap.objs.size ≤ s7.heap.objs.size → DI Xb ko ((x1 ++ pinsAt fp h5) ++ x2) ((kl ++ kx ++ k1) ++ k2) σ6 H7 s7 → RS X.K (upd P0 D (.lst as')) F7 en7 σ H7 → Rps X.K F7 as' acc' → Same F6 F7 → lcR mg mt me vs xd acc' en7 Qm → code2 (model X.prog X.w) X.A (.compLoop (.ListComp elt [⟨tg, iter, ifs, 0⟩] scope pos) 0 (.ref it) (.ref D) ce) Rr s7 := fun {x2 k2 s7 H7 F7 acc' as' en7} g1 g2 g3 I7 r7 ra7 sm7 q7 => by
        have pin7 : ∀ b ∈ fp, ∀ o, h5.get? b = some o → s7.heap.get? b = some o ∧ H7 b = none := fun b hb o e => by
          obtain ⟨a1, a2, _⟩ := I7.inv.pin (b, o) (List.mem_append_right _ (List.mem_append_left _ (List.mem_append_right _ (mem_pinsAt hb e))))
          exact ⟨a1, a2⟩
        have hl : (L2.wipe σ vs).length = σ6.length := l6.symm
        have I8 : DI Xb ko (x1 ++ x2) ((kl ++ kx ++ k1) ++ k2) σ6 H7 s7 := I7.sub fun p hp => by
          rcases List.mem_append.mp hp with z | z
          · exact List.mem_append_left _ (List.mem_append_left _ z)
          · exact List.mem_append_right _ z
        rw [List.append_assoc (kl ++ kx)] at I8
        have I9 : DI Xb ko (x1 ++ x2) (kl ++ kx ++ (k1 ++ k2)) (L2.wipe σ vs) H7 s7 := ⟨⟨I8.inv.weak hl fun j v e => by rw [← hww] at e; exact (wipe_some e).1, I8.kk⟩, I8.tb⟩
        refine ih (i + 1) acc' as' (x1 ++ x2) (k1 ++ k2) s7 H7 F7 en7 exs (Nat.succ_le_of_lt hlt) (fair2 hk1 g1) (new2 hx1 g2 n6) (Nat.le_trans n6 g3) I9 r7 ra7 (T.keep _ _ _ st5 fun b hb o e => (pin7 b hb o e).1) (fun b hb => ?_) ((sF'.trans sm6).trans sm7) q7
        obtain ⟨o, e, _⟩ := T.obj _ _ st5 b hb
        exact (pin7 b hb o e).2
      refine wp2_mono (ptX ko _ _ s6 σ6 H6 (upd P0 D (.lst as)) F6 e6 _ I6 rs6 q6) (fun b s7 q7 => ?_) fun _ _ z => z
      obtain ⟨x2, k2, H7, F7, e7, g1, g2, g3, I7, r7, sm7, q7⟩ := q7
      cases b with
      | false =>
        rw [if_neg Bool.false_ne_true] at q7 ⊢
        obtain ⟨ko7, q7⟩ := q7
        exact fin g1 g2 g3 I7 (rs'.back r7 (sm6.trans sm7) hσ' ko7) (ra.mono (sm6.trans sm7)) sm7 q7
      | true =>
        rw [if_pos rfl] at q7 ⊢
        refine wp2_mono (peX ko _ _ s7 σ6 H7 (upd P0 D (.lst as)) F7 e7 _ I7 r7 q7) (fun xv s8 q8 => ?_) fun _ _ z => z
        obtain ⟨x3, k3, H8, F8, e8, d1, d2, d3, I8, r8, sm8, v8, d8, ru8, rp8, q8⟩ := q8
        obtain ⟨ko8, hz8, q8⟩ := q8
        have ra8 := ra.mono ((sm6.trans sm7).trans sm8)
        have hD8 : H8 D = some (.lst as) := (r8.prv D _ upd_same).1
        refine wp2_mono (wp2_hsz (inv_run2 (E := fun _ _ => False) (X := Xb) I8.inv (Q := fun _ sE => Inv Xb _ σ6 (upd H8 D (.lst (as ++ [v8]))) sE) (fun s₁ i₁ _ => app_ok (X := Xb) i₁ hD8 (by rw [ra8.length]; exact hz8) ru8 fun s11 I11 => I11) (fun r sE q => ⟨inv_nog q, q.bare⟩))) (fun r s9 q => ?_) fun _ _ z => z
        obtain ⟨hz9, i9, sl9⟩ := q
        have I9 := I8.to i9 sl9
        rw [List.append_assoc, List.append_assoc (kl ++ kx ++ k1)] at I9
        refine fin (fair2 g1 d1) (new2 g2 d2 g3) (Nat.le_trans g3 (Nat.le_trans d3 hz9)) I9 ((rs'.back r8 ((sm6.trans sm7).trans sm8) hσ' ko8).held) (ra8.append (.cons rp8 .nil)) (sm7.trans sm8) q8
  have L0 := loop ds 0 [] [] [] [] s4 H3 F2 e1 rfl (Nat.zero_le _) (fun _ z => by cases z) (fun _ z => by cases z) (Nat.le_refl _) (by rw [List.append_nil]; exact D4) rs3 .nil st4 nfp (Same.refl F2) q
  refine code2_mono (code2_compStart (R := Rr) L0 (lift (T.self X.A 0 _ _ _ st4 L0))) fun r s5 q5 => ?_
  obtain ⟨rfl, x1, k1, H', F', en', acc, as, hk1, hx1, hsz, Ib, rs5, ra5, sF5, hq⟩ := q5
  have y : LP.Gn.Yng X s2.heap.objs.size := inv_yng I2.inv
  have s43 : s3.heap.objs.size < s4.heap.objs.size := by
    rw [← hs4]
    refine Nat.lt_of_lt_of_le ?_ (pushCells_size _ _)
    rw [Heap.size_push]; exact Nat.lt_succ_self _
  have nC : H' s3.heap.objs.size = none := by
    have z : H' ce.locals = none := Ib.inv.free
    rw [cL] at z
    exact z
  obtain ⟨m, hn, _⟩ := Ib.inv.loc
  have hn : s5.heap.Ns ce.locals m := hn
  have Iout : Inv X (pins ++ xs) σ H' (nog s5) := I3.call' (ch := fp) Ib.inv.os Ib.inv.base Ib.inv.hok Ib.inv.bare fun b hb => ⟨(f3 b hb).1.2.2.2.1, (f3 b hb).1.2.1, (f3 b hb).1.2.2.2.2.1, (f3 b hb).1.2.2.2.2.2⟩
  have Iout2 : Inv X (pins ++ (xs ++ x1)) σ H' (nog s5) := Iout.pins_of fun p hp => by
    rcases List.mem_append.mp hp with z | z
    · exact Iout.pin p (List.mem_append_right _ (List.mem_append_left _ z))
    · rcases List.mem_append.mp z with z | z
      · exact Iout.pin p (List.mem_append_right _ (List.mem_append_right _ z))
      · have z3 := hx1 p z
        obtain ⟨z1, z2, _, _, z4⟩ := Ib.inv.pin p (List.mem_append_right _ z)
        have nfr : p.1 ∉ frs X.stack := fun hm => absurd (Nat.lt_of_lt_of_le (Nat.lt_of_lt_of_le (y.frs I2.inv _ hm) sz4) z3) (Nat.lt_irrefl _)
        refine ⟨z1, z2, fun e => ?_, fun hm => ?_, z4⟩
        · have := Nat.lt_of_lt_of_le (Nat.lt_of_lt_of_le y.loc sz4) z3
          rw [e] at this; exact Nat.lt_irrefl _ this
        · rcases I2.inv.ok.stk with e | ⟨e, hf⟩
          · rw [e] at nfr; exact nfr hm
          · rw [e] at nfr
            refine nfr ?_
            unfold frs; rw [List.filterMap_cons, hf]; exact List.mem_cons_of_mem _ hm
  have D5 : DI X ko (pins ++ (xs ++ x1)) (kl ++ (kx ++ k1)) σ H' s5 := by
    have a := Ib.kk
    have b := Ib.tb
    rw [List.append_assoc kl] at a b
    exact ⟨⟨Iout2, a⟩, b⟩
  obtain ⟨f0, f1, f2', f3', f4, f5⟩ := I3.fpOk (b := s3.heap.objs.size) (Nat.le_refl _) nC
  have f6 : ∀ p ∈ X.pn ++ (pins ++ (xs ++ x1)), p.1 ≠ s3.heap.objs.size := fun p hp => by
    rcases List.mem_append.mp hp with z | z
    · exact f5 p (List.mem_append_left _ z)
    · rcases List.mem_append.mp z with z | z
      · exact f5 p (List.mem_append_right _ (List.mem_append_left _ z))
      · rcases List.mem_append.mp z with z | z
        · exact f5 p (List.mem_append_right _ (List.mem_append_right _ z))
        · exact fun e => absurd (Nat.lt_of_lt_of_le s43 (hx1 p z)) (by rw [e]; exact Nat.lt_irrefl _)
  have hv : ∀ z ∈ (scope.names.filter fun x => (x.2 == .local || x.2 == .cell) && x.1 != (".0" : Str)).reverse, z.2 = .local → Env.kindOf ce z.1 = some .local := fun z hz hl => lookup_relabel_local (by rw [ok.uniq z (List.mem_filter.mp (List.mem_reverse.mp hz)).1, hl])
  refine wp2_bind (wp2_holding (wp2_mono (wp2_hsz (inv_run2 (E := fun _ _ => False) (X := X) D5.inv (Q := fun _ sE => Inv X (pins ++ (xs ++ x1)) σ H' sE) (fun s₁ i₁ e₁ => wpAny_comp_letGo (cenv := ce) ok.kind _ s₁ m hv (by rw [e₁]; exact hn) fun h' m' _ hs' => i₁.turned (t' := s₁.toks) (fun b o hb e => (hs'.2 b hb).trans e) f0 f1 f3' f4 f6) (fun r sE q => ⟨inv_nog q, q.bare⟩))) (fun _ s6 q6 => ?_) fun _ _ z => z))
  obtain ⟨hz6, i6, sl6⟩ := q6
  have hDs : H' D = some (.lst as) := (rs5.prv D _ upd_same).1
  obtain ⟨rs6, nD⟩ := rs5.letgo n2.p0
  have sD : Same F' (upd F' D (.lst as)) := same_upd nD.f
  refine wp2_pure ⟨xs ++ x1, kx ++ k1, H', upd F' D (.lst as), en', fair2 h1 hk1, fun p hp => ?_, Nat.le_trans h3 (Nat.le_trans hz2 (Nat.le_trans sz4 (Nat.le_trans hsz hz6))), D5.to i6 sl6, rs6.give nD hDs, ((sm1.trans sm2).trans sF5).trans sD, .ref D, .lst acc, rfl, .lst upd_same (ra5.mono sD), hq⟩
  rcases List.mem_append.mp hp with z | z
  · exact h2 p z
  · exact Nat.le_trans h3 (Nat.le_trans hz2 (Nat.le_trans sz4 (hx1 p z)))
end
end LP.Lo
namespace LP.Lo
open PySem PySem.W PySem.Calls PyProof.Rows
/-- what the law's call must come to -/
def Good2 (c : ClaimW) (s₀ s₁ : Shared) (args : List WData) (v : Value) (s' : Shared) : Prop := GoodWG c (classAt s₀.heap) (ExcName.means s₀.heap) args s₁ (.ok (.ret v)) { s' with gens := #[] } ∧ Mild s'
abbrev Walk2 (q : Program) (loose : List Str) (XP : (Str → Option Value) → Heap → Prop) (YP : World → Heap → Prop) (r : RowW) (d : DefRec) (kwd : List (Str × Expr)) : Prop :=
  ∀ (w : World) (s₀ s₁ : Shared) (mg mb : Str → Option Value), Ground q loose r.records XP w s₀ mg mb s₁.heap → YP w s₁.heap → ∀ (a : Addr) (o : Obj) (pm cd doc dV kV : Value), s₁.heap.get? a = some o →
    o.data = .func { docDef d.name d.params d.body d.scope pm cd doc with defaults := dV, kwdefaults := kV } → s₁.heap.CodeRec cd d.name → Dflts mg s₁.heap d.params kwd dV kV → mg d.name = some (.ref a) → s₁.gens = #[] →
    ∀ (args : List WData) (vals : List Value) (as : List Addr), r.claim.pre args = true → WData.layableAll args = true → ReadsAllW r.records (classAt s₀.heap) s₁.heap vals args as → WellAll w.params s₁.heap vals args → (∀ a ∈ as, (a == sysModules) = false) →
      wp2 (model r.prog w) callerA (PySem.call (.ref a) vals) (fun v s' => Good2 r.claim s₀ s₁ args v s') (fun _ _ => False) s₁
theorem callFrom2 {c : ClaimW} {tree : List Value → Sem PySem.Fin} {w : World} {s : Shared} {free : Addr → Prop} {gens : Prop} {kept : Heap → Prop} (hz : s.asleep) (hgens : s.gens = #[])
    (hspec : ∀ args, c.pre args = true → WData.layableAll args = true → ∀ ord : List DictEntry → List DictEntry, (∀ l, (ord l).Perm l) →
      ∃ vs s₁, layAllW c.records (classAt s.heap) w.params ord args s = some (vs, s₁) ∧ wp2 (model c.prog w) callerA (tree vs) (fun fin s' => ∃ f, fin = .done f ∧ (c.Ends s args vs s₁ (.ok f) s' ∧ s'.os = s.os ∧ kept s'.heap) ∧ Mild s') (fun e s' => False) s₁) :
    c.CallFrom (fun vs => ⟨tree vs, .builtin "claim.caller" {}, default, []⟩) w free gens kept s := by
  intro args hpre hlay ord hord
  obtain ⟨vs, s₁, hlaid, hcode⟩ := hspec args hpre hlay ord hord
  have hal := layAllW_rest _ _ _ hlaid
  obtain ⟨k, r, s', s'', hsched, eh, eo, hl, hcase, hos, hkp⟩ := wp2_halts (prog := c.prog) (w := w) (t := tree vs) (s := s₁) (R := fun r s' => c.Ends s args vs s₁ r s' ∧ s'.os = s.os ∧ kept s'.heap)
    (Shared.asleep_of_life hal.2.2.2 hz) (wp2_mono hcode (fun fin s' h => h) fun e s' h => h.elim)
  have hcase := hcase.congr eh
  rw [← eh] at hkp
  rw [← eo] at hos
  have hlife : s''.heap.life = s.heap.life := hl.trans hal.2.2.2
  refine ⟨vs, s₁, hlaid, k, _, s'', hsched, ?_, (fun _ i x hx => by rw [hgens] at hx; simp at hx), hkp, by rw [hlife], Shared.rest_eq hos⟩
  rcases hcase with ⟨v, rfl, d1, d2, d3, d4, d5⟩ | ⟨e, ob, cls, rfl, d1, d2, d3, d4, d5⟩
  · exact .inl ⟨v, rfl, d1, d2, d3, fun b o y _ => d4 b o y, d5⟩
  · exact .inr ⟨e, ob, cls, rfl, d1, d2, d3, d4, fun b o y _ => d5 b o y⟩
section
open PySem.Spec L2
open PyProof.Rows hiding St
variable {P : Program} {w : World} {K : PySem.W.Frag} {mg mb : Str → Option Value} {a : Addr} {s : Shared} {vs : List Value} {ns : List Int}
/-- the scheduler may forget all that is left -/
theorem mild_of {kx : List (Nat × GenState)} {xs : List (Addr × Obj)} {s' : Shared} (kk : KpL kx s') (tb : TbL kx s') (fx : ∀ q ∈ kx, FairG q.2 xs) (px : ∀ p ∈ xs, s'.heap.get? p.1 = some p.2) : Mild s' := fun i x e => by
  rcases tb i x e with z | ⟨q, hq, rfl⟩
  · exact .inl z
  · have e2 := (kk q hq).1
    rw [e] at e2
    cases e2
    rcases fx q hq with z | ⟨k, l, it, r, kw, p, fs, o, n, e, h1, h2, h3⟩
    · exact .inl z
    · exact .inr ⟨k, l, it, r, kw, p, fs, o, n, e, h1, px _ h2, h3⟩
theorem lawL {k : Nat} {fa : Addr} {fd : FuncData} {x : Str} {n : Nat}
    (hK : K.In s.heap) (h1 : s.heap.Ns mainGlobals mg) (h2 : s.heap.Ns builtinsNs mb) (h3 : ∀ x : Str, x ≠ "__name__" → mb x = bootBuiltins x) (h4 : s.heap.NoLimit) (h5 : s.gens = #[])
    (ha : s.heap.get? a = some { cls := .type "list", data := .seq vs.toArray }) (hi : IntsAre vs ns) (hn : n ≤ sizeLine) (hl : ns.length ≤ n) (hr : Room k callerA)
    (G : ∀ base : Heap, K.In base → base.Ns mainGlobals mg → FnL P w K mg base k fa fd [x] (spLaw n)) (bd : ∀ (s : Shared) (u : Value), BindsTo s fd ⟨[u], []⟩ [(x, u)]) :
    code2 (model P w) callerA (.call (.ref fa) ⟨[.ref a], []⟩) (fun r s' => r = .ok (.ret (.bool true)) ∧ OldK s.heap s'.heap ∧ s'.os = s.os ∧ Mild s') s := by
  have rv : Vals (ns.map V.int) vs := vals_ints hi
  have el : vs.length = ns.length := by have := rv.length; simpa using this.symm
  generalize eH : scrH K a vs ns = H
  have ok : HOk P w H s.heap := by
    intro b u z
    rw [← eH] at z
    obtain ⟨_, rfl, rfl⟩ := scrH_some z
    exact ⟨ha, by rw [List.length_map]; exact Nat.le_trans hl hn, vs, _, rv, ha⟩
  have out : ∀ {b : Addr} {o : Obj}, s.heap.get? b = some o → H b = none → (hidT s.heap H).get? b = some o := fun e z => hidT_get e z
  have dict : ∀ {b : Addr} {o : Obj} {es : Array DictEntry} {ep : Nat}, s.heap.get? b = some o → o.data = .dict es ep → H b = none := by
    intro b o es ep e d
    rw [← eH]
    by_cases hb : b = a
    · subst hb
      rw [ha] at e
      cases e
      cases (show Data.seq vs.toArray _ = Data.dict es ep from d)
    · exact scrH_other hb
  have ns' : ∀ {b : Addr} {m : Str → Option Value}, s.heap.Ns b m → (hidT s.heap H).Ns b m := by
    rintro b m ⟨o, es, ep, e, d, r⟩
    exact ⟨o, es, ep, out e (dict e d), d, r⟩
  have KB : K.In (hidT s.heap H) := by
    intro b o e
    refine out (hK b o e) ?_
    rw [← eH]
    cases z : scrH K a vs ns b with
    | none => rfl
    | some u =>
      obtain ⟨e1, rfl, _⟩ := scrH_some z
      rw [e1] at e
      cases e
  have sq : SqL K H a (ns.map V.int) := by
    rw [← eH]
    cases z : K.lookup a with
    | some o =>
      have e := hK a o z
      rw [ha] at e
      cases e
      exact .inr ⟨_, vs.toArray, _, z, rfl, rfl, rfl, by rw [List.size_toArray, el]; exact Nat.le_trans hl hn, by simpa using rv⟩
    | none => exact .inl (.inr ⟨{ cls := .type "list", data := .seq vs.toArray }, by unfold scrH; rw [z]; exact if_pos rfl⟩)
  obtain ⟨mc, c1, c2⟩ := h4
  have md : Mod K mg (hidT s.heap H) := { kin := KB, glob := ns' h1, blt := ⟨mb, ns' h2, h3⟩, nolimit := ⟨mc, ns' c1, c2⟩ }
  have e0 : Env0 P w K mg (hidT s.heap H) callerA [] (nog s) H := { frames := rfl, mod := md, bs := fun b o e => of_hidT e, bsz := Nat.le_of_eq (hidT_size _ _), funs := trivial, frf := fun b z => absurd (show b ∈ ([] : List Addr) from z) List.not_mem_nil, hok := ok, bare := bare0 }
  have emp : ∀ (i : Nat) (x : GenState), s.gens[i]? = some x → False := fun i x e => by rw [h5] at e; simp at e
  have run := (G _ KB (ns' h1)).go callerA rfl hr [] [] s H H (fun _ => none) e0 (fun q hq => by cases hq) (fun i x e => (emp i x e).elim) ⟨[.ref a], []⟩ [.ref a] [.ref a] [.scr ns] (bd s (.ref a)) (.cons rfl .nil) (Same.refl H) (fun _ _ z => nomatch z) (.cons (.scr sq) .nil) (fun d _ => d = .bl true) ⟨ns, rfl, hl, fun M' => rfl⟩
  refine code2_mono run ?_
  intro res s' hs
  match res, hs with
  | .error e, z => exact z.elim
  | .ok .next, z => exact z.elim
  | .ok .brk, z => exact z.elim
  | .ok .cont, z => exact z.elim
  | .ok (.ret u), ⟨v, d, H', F', M', xs, kx, os, un, ok', ru, fin, rp, q, kk, tb, fx, px, _⟩ =>
    subst q
    cases rp
    obtain rfl : u = Value.bool true := ru
    refine ⟨rfl, OldK.of_keep ?_, os, mild_of kk tb fx fun p hp => (px p hp).1⟩
    intro b o e
    cases z : H b with
    | none => exact un.keep b o e z (fun y => absurd (show b ∈ ([] : List Addr) from y) List.not_mem_nil) (by simp)
    | some t =>
      have z0 := z
      rw [← eH] at z
      obtain ⟨_, rfl, rfl⟩ := scrH_some z
      have t2 := un.frzs b _ _ z0
      obtain ⟨p1, _⟩ := ok b _ z0
      obtain ⟨p2, _⟩ := ok' b _ t2
      rw [e] at p1
      cases p1
      exact p2
end
/-- a law's end by its loud def -/
theorem walkL {l : PySem.W.OpenLaw} {n k : Nat} {q : Program} {loose : List Str} {XP : (Str → Option Value) → Heap → Prop} {YP : World → Heap → Prop} {d : DefRec} {x : Str} (hn : l.most = some n) (hn2 : n ≤ sizeLine) (hd : d.params.defaults = []) (hr : L2.Room k callerA)
    (F : ∀ (w : World) (mg : Str → Option Value) (fa : Addr) (h : Heap), YP w h → h.Ns mainGlobals mg → mg d.name = some (.ref fa) → ∃ (K : PySem.W.Frag) (fd : FuncData), K.In h ∧ (∀ (s : Shared) (u : Value), BindsTo s fd ⟨[u], []⟩ [(x, u)]) ∧
      ∀ base : Heap, K.In base → base.Ns mainGlobals mg → FnL l.prog w K mg base k fa fd [x] (spLaw n)) : Walk2 q loose XP YP l.row.toRowW d [] := by
  intro w s₀ s₁ mg mb G Y fa o pm cd doc dV kV ho hd' hcd hD hmg hg args vals as hpre hlay hrd hwl hlo
  obtain ⟨a, vs, ns, rfl, rfl, hobj, hints, hlen⟩ := Att.script_of hn hpre hwl
  obtain ⟨K, fd, KX, bd, GG⟩ := F w mg fa _ Y G.T.g hmg
  refine wp2_call (code2_mono (lawL KX G.T.g G.T.b G.T.builtins G.T.nolimit hg hobj hints hn2 hlen hr GG bd) fun r s' hq => ?_)
  obtain ⟨rfl, h2, h3, h4⟩ := hq
  refine ⟨⟨.inl ⟨.bool true, .bool true, [], rfl, fun _ => rfl, .bool true, Att.post_true l _, fun _ => ⟨List.Pairwise.nil, fun _ hm => (nomatch hm)⟩⟩, h2, h3, bare0⟩, h4⟩
theorem open2 {r : RowW} {tree : List Value → Sem PySem.Fin} {q : Program} {loose defs kps : List Str} {writes : Bool} {Xt : Shared → Bool} {XP : (Str → Option Value) → Heap → Prop} {α : Type} {Yf : Shared → α} {Ya : World → α} {YP : World → Heap → Prop} {N : Nat}
    (left : LeftO r.prog q loose Xt Yf Ya N) (hY : ∀ w s, Yf s = Ya w → YP w s.heap) (hYk : ∀ w h h', YP w h → (∀ b o, h.get? b = some o → h'.get? b = some o) → YP w h') (hX : ∀ s, Xt s = true → XP (s.heap.nsMap mainGlobals) s.heap) (hXk : ∀ mg h h', XP mg h → (∀ b o, h.get? b = some o → h'.get? b = some o) → XP mg h')
    (hRf : ∀ s, Xt s = true → RecFacts r.records s.heap) (hwr : (!writes || r.records.isEmpty) = true) (ok : (chainsOk q && opensWell r.prog && (frees r && r.within.isEmpty)) = true) (hb : r.prog.bare) (hw : r.promised)
    (pin : ∀ w s, s.heap.isNs mainGlobals = true → Ground q loose [] XP w s (s.heap.nsMap mainGlobals) (s.heap.nsMap builtinsNs) s.heap → ∀ n ∈ defs, isTheDefsW r.prog s.heap n)
    (call : ∀ (w : World) (s₀ s₁ : Shared) (mg mb : Str → Option Value), Ground q loose r.records XP w s₀ mg mb s₁.heap → YP w s₁.heap → ∀ (args : List WData) (vs : List Value) (as : List Addr),
      r.claim.pre args = true → WData.layableAll args = true → Laid r.records w s₀ s₁ args vs as → sysModules < s₀.heap.objs.size → wp2 (model r.prog w) callerA (tree vs) (fun fin s' => ∃ v, fin = .done (.ret v) ∧ Good2 r.claim s₀ s₁ args v s') (fun _ _ => False) s₁) : r.claim.HoldsOpenBy (fun vs => ⟨tree vs, .builtin "claim.caller" {}, default, []⟩) defs kps writes := by
  obtain ⟨ok1, k5⟩ := Bool.and_eq_true_iff.mp ok
  obtain ⟨hch, o1⟩ := Bool.and_eq_true_iff.mp ok1
  obtain ⟨k5, k6⟩ := Bool.and_eq_true_iff.mp k5
  obtain ⟨hsame, hu, ha, hap, hm⟩ := frees_parts k5
  refine ⟨⟨hb, o1, by show r.makers.map _ = []; rw [hm]; rfl⟩, hw.witness, fun w => ⟨(left.behind hX hch w).1, fun s' hs' => ?_⟩⟩
  obtain ⟨s₀, hf, hg0, s, hT, hz, hgens, hg, G00, y⟩ := (left.behind (XP := fun mg h => XP mg h ∧ RecFacts r.records h) (fun s hs => ⟨hX s hs, hRf s hs⟩) hch w).2 s' hs'
  have G0 : Ground q loose [] XP w s (s.heap.nsMap mainGlobals) (s.heap.nsMap builtinsNs) s.heap := ⟨G00.T, G00.B, G00.D, G00.TE, G00.TD, G00.W, G00.X.1, G00.cls, G00.has, G00.apart, G00.once, G00.K⟩
  have RF := G00.X.2
  refine ⟨s₀, hf, hg0, s, hT, pin w s hg G0, RF.1, RF.2.1, ?_⟩
  have hgens : s.gens = #[] := Array.eq_empty_of_size_eq_zero (beq_iff_eq.mp hgens)
  have G : Ground q loose r.records XP w s _ _ s.heap := RF.ground G0
  refine callFrom2 (c := r.claim) hz hgens fun args hpre hlay ord hord => ?_
  obtain ⟨⟨vs, s₁⟩, hlaid⟩ := Option.isSome_iff_exists.mp (layAllW_isSome (P := w.params) (ord := ord) G.has args r.args s (pre_splitW hpre).1)
  have keeps := layAllW_keeps _ _ _ hlaid
  have hal := layAllW_rest _ _ _ hlaid
  obtain ⟨as, hrd, hin, hold⟩ := reads_layAllW hord _ _ _ hlaid hlay s₁.heap (fun _ _ e => e)
  have L : Laid r.records w s s₁ args vs as := ⟨⟨ord, hord, hlaid⟩, hrd, hin, hold, keeps, hal.1.trans hgens, hal.2.2.1⟩
  have hi := ident_freeW hu ha hap
  have hwi : r.claim.within = [] := List.isEmpty_iff.mp k6
  refine ⟨vs, s₁, hlaid, wp2_mono (call w s s₁ _ _ (G.keeps hXk keeps) (hYk _ _ _ (hY w s y) keeps) args vs as hpre hlay L G.low) (fun fin s' g => ?_) fun _ _ z => z⟩
  obtain ⟨v, rfl, g, hmild⟩ := g
  have z := GoodWG.laid (c := r.claim) hsame hwi hi L g
  exact ⟨_, rfl, ⟨z.1.congr rfl, z.2.1, fun q => ⟨namesKept_of hT hg kps keeps g.2.1.old, noTable hwr q⟩⟩, hmild⟩
theorem head2 {r : OpenRow} {q : Program} {H : Hook} {ob : SharedT → H.α} {M : Nat} {loose : List PySem.Str} {d : DefRec} {kwd : List (PySem.Str × PySem.Expr)} (ho : ∀ s : SharedT, ob s = H.obs s.abs)
    (e : opening r.prog = plainProg r.prog.main.scope.names) (f : ∀ s, fenceModules? r.prog s = some s) (run : ∀ w, HandSHeadRun.RunEq r q H ob M loose w)
    (hdef : defOf q r.name = some (d, kwd)) (hp : r.prog.theDef r.name = some (d.params, d.body, d.scope)) (hk : kwWritten? d.params.kwonlyargs d.params.kw_defaults = some kwd)
    (hwr : (!r.writes || r.records.isEmpty) = true) (k1 : r.wellSaid = true) (ok : (chainsOk q && opensWell r.prog && (frees r.toRowW && r.within.isEmpty)) = true) (hb : r.prog.bare) (hw : r.toRowW.promised)
    (call : Walk2 q loose (XL q []) H.says r.toRowW d kwd) : r.Holds := by
  have left : LeftO r.prog q loose (fun s => xlAt q [] s && recOk r.toRowW.records s) H.obs H.val (M + 600) true :=
    HandSHeadRun.left_one (M := M) e (Nat.ble_eq_true_of_le (by omega)) f (Nat.ble_eq_true_of_le (by omega)) fun w os => by
      have z := run w os
      have eo : ob = fun s => H.obs s.abs := funext ho
      rw [eo] at z
      simp only [HandSHeadRun.endQ_eq, HandSHeadRun.seenQ_eq]
      exact z
  refine ⟨k1, hw, open2 (r := r.toRowW) (tree := fun vs => do match ← nsGet mainNs r.name with
      | some f => do ret (← PySem.call f vs)
      | none => unsupported "claim.caller:no-such-global") left H.of H.keeps (fun s z => xl_of s (Bool.and_eq_true_iff.mp z).1) XL.keeps (fun s z => recFacts_of (Bool.and_eq_true_iff.mp z).2) hwr ok hb hw
    (fun w s hg G n hn => ?_) fun w s₀ s₁ mg mb G Y args vs as hpre hlay L low => ?_⟩
  · obtain rfl : n = r.name := by split at hn <;> simp_all
    exact pinned_of_view hg G hdef hp hk
  · obtain ⟨a, o, pm, cd, doc, dV, kV, h1, h2, h3, h4, h5⟩ := G.fn hdef
    have z := call w s₀ s₁ mg mb G Y a o pm cd doc dV kV h2 h3 h4 h5 (defOf_name hdef ▸ h1) L.gens args vs as hpre hlay L.reads L.well (L.low low)
    refine wp2_bind (lift (wpAny_nsGet G.T.g ?_))
    rw [h1]
    exact wp2_bind (wp2_mono z (fun v s' g => wp2_pure ⟨v, rfl, g⟩) fun _ _ z => z)
end LP.Lo
namespace K16
open PySem PySem.Spec L2 LP
open PyProof.Rows hiding St
local macro_rules | `(tactic| sleep 1) => `(tactic| set_option simprocs false in dsimp only [lcR, mLc, mLr1, mLr2, gN, gT, gsCons, gsNil, tupD, mB, mOp, mOpF, mV, mO, mL, mCall, mCons, mNil, mvCons, mvNil, mCB, mCF, mVar_dat, oV_v, oV_ol, oV_od, mC, mIf, mAnd, mOr, mNot, mAndV, mOrV, mNotV, mTup, mLst, mNeg, mYes, mSl, mPart, mNo, mSeq, mR1, mR2, mR3, mEnumS, mZip, mIdx, mStep, mApp, mPop, mPopAt, mExt, mChain, pV, pO, pNil, sSeq, sFor, sSet, sSetO, sDrop, sRet, sRetN, sIf, sNext, sAug, sSub, sAsg, sPar2, sPar3, sTupN, LP.putAll, It1.sl, p2, p3, gt, List.set, wipeE, rq2, rq1, asB, LP.intD, i1, i2, d2, one, seqD, addK, subK, ltK, leK, gtK, geK, lenK, slD, defEnds, cns, slK, min2K, max2K, intK, mStar, olD, isOl, seq1, lst1, tupleK])
local macro_rules | `(tactic| sleep 2) => `(tactic| (simp [keepO]; try simp [Sl.own]))
local macro_rules | `(tactic| sleep 3) => `(tactic| (rw [sizeLine_is]; simp only [List.length_map, List.length_append, List.length_cons, List.length_nil, List.length_set, nums_len, cls_len, rng_len, List.length_range, List.length_replicate]; omega))
local macro_rules | `(tactic| sleep 7) => `(tactic| simp only [Bool.false_eq_true, Bool.not_true, Bool.not_false, ↓reduceIte, if_true, if_false])
local macro_rules | `(tactic| sleep 6) => `(tactic| (sleep 1; try simp only [exSome, exOl, true_and, Bool.false_eq_true, Bool.not_true, Bool.not_false, ↓reduceIte, if_true, if_false]; try sleep 1))
local macro_rules | `(tactic| sleep 8) => `(tactic| repeat (refine szAnd (by (try simp only [List.length_cons, List.length_nil, List.length_append, List.length_map, List.length_take, List.length_drop, List.length_reverse, nums_len, cls_len, nats_len']); omega) ?_))
/-! law k16 -/
local macro_rules | `(tactic| sleep 10) => `(tactic| set_option simprocs false in dsimp only [LP.Gn.ySeq, LP.Gn.yPl, LP.Gn.yNil, LP.Gn.yIf, LP.Gn.yYield, LP.Gn.yTk, LP.Gn.yFor, LP.Gn.mTupG, LP.Gn.mListG, LP.Gn.mGn, LP.Gn.sForG, LP.Gn.allV])
abbrev sp__law_stream : ASp := spStream
abbrev sp__law_draw : ASp := spDraw
abbrev sp_law : ASp := spLaw 63
theorem sp_law_len (ds : List D) (M : Sto) (Q : D → Sto → Prop) (E : Exn → Sto → Prop) (h : sp_law ds M Q E) : ds.length = 1 := by obtain ⟨_, rfl, _⟩ := h; rfl
/-! trees, their entries, tree_shape -/
inductive T where
  | nil
  | node (l r : T)
def T.D : T → D
  | .nil => .tup []
  | .node l r => .tup [l.D, r.D]
def T.sz : T → Nat
  | .nil => 0
  | .node l r => l.sz + r.sz + 1
def T.ent : T → Int → List Int
  | .nil, _ => []
  | .node l r, e => l.ent (e + 1) ++ (e :: r.ent e)
theorem T.ent_len : ∀ (t : T) (e : Int), (t.ent e).length = t.sz
  | .nil, e => rfl
  | .node l r, e => by unfold T.ent T.sz; rw [List.length_append, List.length_cons, T.ent_len l, T.ent_len r]; omega
/-- a tree's text: its length, its depth -/
theorem bd_T : ∀ t : T, Bd (20 * t.sz + 10) (t.sz + 1) t.D
  | .nil => by
    unfold T.D T.sz
    exact (bd_tup (n := 0) (k := 0) (m := 0) (xs := []) (fun _ z => nomatch z) (Nat.le_refl 0)).mono (by omega) (by omega)
  | .node l r => by
    obtain ⟨e1, p1, a1, b1, c1, l1⟩ := bd_T l
    obtain ⟨e2, p2, a2, b2, c2, l2⟩ := bd_T r
    unfold T.D T.sz
    refine ⟨.tuple [e1, e2], ?_, ?_, ?_, ?_, ?_⟩
    · unfold D.py D.pys D.pys D.pys
      rw [p1, p2]; rfl
    · show PyData.showableAll [e1, e2] = true
      unfold PyData.showableAll PyData.showableAll PyData.showableAll
      rw [a1, a2]; rfl
    · show PyData.hasDictAll [e1, e2] = false
      unfold PyData.hasDictAll PyData.hasDictAll PyData.hasDictAll
      rw [b1, b2]; rfl
    · show PyData.depthAll [e1, e2] + 1 ≤ l.sz + r.sz + 1 + 1
      unfold PyData.depthAll PyData.depthAll PyData.depthAll
      have : max e1.depth (max e2.depth 0) ≤ l.sz + r.sz + 1 := Nat.max_le.mpr ⟨by omega, Nat.max_le.mpr ⟨by omega, by omega⟩⟩
      omega
    · show (tupleText (PyData.shownAll [e1, e2])).length ≤ _
      have t := tupleText_le (PyData.shownAll [e1, e2])
      have : piled (PyData.shownAll [e1, e2]) = e1.shown.length + 2 + (e2.shown.length + 2) := by
        unfold PyData.shownAll PyData.shownAll PyData.shownAll
        rw [piled_cons, piled_cons, piled_nil]
        try omega
      omega
def sp_entries_of : Nat → Gn.ASpG
  | 0 => fun _ _ => False
  | n + 1 => fun ds ys => ∃ (t : T) (e : Int), ds = [t.D, .int e] ∧ t.sz ≤ n ∧ ys = nums (t.ent e)
theorem sp_entries_of_len (n : Nat) (ds ys : List D) (h : sp_entries_of n ds ys) : ds.length = 2 := by
  cases n with
  | zero => exact h.elim
  | succ n => obtain ⟨_, _, rfl, _⟩ := h; rfl
def m_entries_of (n : Nat) : LP.Gn.MY := (Gn.ySeq (Gn.yIf (mB (mOp neX (mV (mVar 0)) (mV (mTup mNil)))) (Gn.ySeq (Gn.yPl (sAsg (mVar 0) (gT 2 (gsCons (gN 2) (gsCons (gN 3) gsNil))))) (Gn.ySeq (Lo.yFrom (Gn.mGn (sp_entries_of n) (mCons (mVar 2) (mCons (mOp addK (mV (mVar 1)) (mV (mC (.int 1)))) mNil)))) (Gn.ySeq (Gn.yYield (mVar 1)) (Gn.ySeq (Lo.yFrom (Gn.mGn (sp_entries_of n) (mCons (mVar 3) (mCons (mVar 1) mNil)))) Gn.yNil)))) Gn.yNil) Gn.yNil)
/-- the numbers of a delegate, handed on -/
theorem from_nums' {B : Gn.GEn} {sl : List Sl} {zs : List D} (hv : Gn.allV sl = true) (q : ∀ M, B.nx zs ⟨sl, M⟩) : ∀ (ys : List D) (M : Sto), Lo.fromY B ys (ys ++ zs) ⟨sl, M⟩
  | [], M => q M
  | y :: ys, M => ⟨hv, rfl, fun M' => from_nums' hv q ys M'⟩
theorem from_all {B : Gn.GEn} {sl : List Sl} (hv : Gn.allV sl = true) (q : ∀ M, B.nx [] ⟨sl, M⟩) (ys : List D) (M : Sto) : Lo.fromY B ys ys ⟨sl, M⟩ := by
  have := from_nums' (zs := []) hv q ys M
  rw [List.append_nil] at this
  exact this
theorem pure_entries_of (n : Nat) (ds ys : List D) (h : sp_entries_of (n + 1) ds ys) (M : Sto) : m_entries_of n { nx := fun r _ => r = [] } ys ⟨startA 4 ds, M⟩ := by
  obtain ⟨t, e, rfl, ht, rfl⟩ := h
  show m_entries_of n _ _ ⟨[.v t.D, .v (.int e), .un, .un], M⟩
  unfold m_entries_of
  sleep 10
  sleep 6
  cases t with
  | nil =>
    refine ⟨Nat.zero_le _, neX_tup ?_⟩
    sleep 6
    exact rfl
  | node l r =>
    refine ⟨Nat.zero_le _, neX_tup ?_⟩
    sleep 6
    have hn : ∃ m, n = m + 1 := by
      cases n with
      | zero => unfold T.sz at ht; omega
      | succ m => exact ⟨m, rfl⟩
    obtain ⟨m, rfl⟩ := hn
    unfold T.sz at ht
    unfold T.D T.ent
    sleep 6
    rw [List.isEmpty_cons]
    sleep 7
    refine ⟨rfl, ?_⟩
    dsimp only [Lo.yFrom]
    sleep 10
    sleep 6
    refine ⟨_, ⟨l, e + 1, rfl, by omega, rfl⟩, ?_⟩
    rw [nums_app]
    refine from_nums' rfl (fun M => ?_) _ _
    refine ⟨rfl, rfl, rfl, fun M' => ?_⟩
    refine ⟨_, ⟨r, e, rfl, by omega, rfl⟩, rfl, ?_⟩
    exact from_all rfl (fun M => rfl) _ _
def sp_tree_shape : ASp := fun ds M Q _ => ∃ t : T, ds = [t.D] ∧ t.sz ≤ 18 ∧ Q (.tup (nums (shapeL (t.ent 0)))) M
theorem sp_tree_shape_mono : sp_tree_shape.Mono := fun ds M Q Q' E E' hq he ⟨t, a, b, c⟩ => ⟨t, a, b, hq _ _ c⟩
theorem sp_tree_shape_len (ds : List D) (M : Sto) (Q : D → Sto → Prop) (E : Exn → Sto → Prop) (h : sp_tree_shape ds M Q E) : ds.length = 1 := by obtain ⟨_, rfl, _⟩ := h; rfl
theorem at_tree_shape {t : T} {M : Sto} {Q : D → Sto → Prop} {E : Exn → Sto → Prop} (h : t.sz ≤ 18) (q : Q (.tup (nums (shapeL (t.ent 0)))) M) : sp_tree_shape [t.D] M Q E := ⟨t, rfl, h, q⟩
def tree_shape_f0 : MS := (sSeq (sSet 5 (mL (mLc (mR1 (mCons (mVar 3) mNil)) (gN 6) (mB (mOp leK (mV (mOp ixK (mV (mVar 1)) (mV (mVar 6)))) (mV (mVar 4)))) (mVar 6) [6]))) (sDrop (mApp 2 (mIf (mB (mOp neK (mV (mVar 5)) (mV (mL (mLst mNil))))) (mOp subK (mV (mVar 3)) (mV (mCB maxK (mvCons (mV (mVar 5)) mvNil)))) (mC (.int 0))))))
theorem tree_shape_f0_eq (A : AEnds) (en : En) : tree_shape_f0 A en = (sSeq (sSet 5 (mL (mLc (mR1 (mCons (mVar 3) mNil)) (gN 6) (mB (mOp leK (mV (mOp ixK (mV (mVar 1)) (mV (mVar 6)))) (mV (mVar 4)))) (mVar 6) [6]))) (sDrop (mApp 2 (mIf (mB (mOp neK (mV (mVar 5)) (mV (mL (mLst mNil))))) (mOp subK (mV (mVar 3)) (mV (mCB maxK (mvCons (mV (mVar 5)) mvNil)))) (mC (.int 0)))))) A en := rfl
def m_tree_shape : MS := (sSeq (sSet 1 (Gn.mTupG (Gn.mGn (sp_entries_of 64) (mCons (mVar 0) (mCons (mC (.int 0)) mNil))))) (sSeq (sSetO 2 (mLst mNil)) (sSeq (sFor (mEnumS (mCons (mVar 1) mNil)) (gT 2 (gsCons (gN 3) (gsCons (gN 4) gsNil))) tree_shape_f0) (sRet (mCB tupleK (mvCons (mO 2) mvNil))))))
theorem m_tree_shape_eq (A : AEnds) (en : En) : m_tree_shape A en = (sSeq (sSet 1 (Gn.mTupG (Gn.mGn (sp_entries_of 64) (mCons (mVar 0) (mCons (mC (.int 0)) mNil))))) (sSeq (sSetO 2 (mLst mNil)) (sSeq (sFor (mEnumS (mCons (mVar 1) mNil)) (gT 2 (gsCons (gN 3) (gsCons (gN 4) gsNil))) tree_shape_f0) (sRet (mCB tupleK (mvCons (mO 2) mvNil)))))) A en := rfl
theorem loop_tree_shape {M : Sto} {A : AEnds} {s0 : Sl} {row : List Int} (hl : row.length ≤ 10000) (hA : ∀ s3 s4 s5, A.nx ⟨[s0, .v (.tup (nums row)), .ol (nums (shapeL row)), s3, s4, s5, .un], M⟩) : ∀ (rest : List Int) (i : Nat) (s3 s4 s5 : Sl), row.drop i = rest → i ≤ row.length →
    forR (gT 2 (gsCons (gN 3) (gsCons (gN 4) gsNil))) tree_shape_f0 A (enumD i (nums rest)) ⟨[s0, .v (.tup (nums row)), .ol (nums ((List.range i).map (distL row))), s3, s4, s5, .un], M⟩
  | [], i, s3, s4, s5, hd, hi => by
    have e : i = row.length := by
      have := congrArg List.length hd
      rw [List.length_drop, List.length_nil] at this
      omega
    subst e
    exact hA _ _ _
  | x :: rest, i, s3, s4, s5, hd, hi => by
    have hlt : i < row.length := by
      have := congrArg List.length hd
      rw [List.length_drop, List.length_cons] at this
      omega
    have hx : row.getD i 0 = x := by
      rw [List.drop_eq_getElem_cons hlt] at hd
      rw [List.getD_eq_getElem?_getD, List.getElem?_eq_getElem hlt]
      exact (List.cons.inj hd).1
    have hd' : row.drop (i + 1) = rest := by
      rw [List.drop_eq_getElem_cons hlt] at hd
      exact (List.cons.inj hd).2
    rw [enumD_nums_cons]
    refine ⟨rfl, ?_⟩
    dsimp only [tree_shape_f0_eq]
    sleep 6
    refine ⟨⟨by omega, by omega⟩, ?_⟩
    refine lcR_pure (fun d => match d with
      | .int j => decide (row.getD j.toNat 0 ≤ x)
      | _ => false) id (fun d => ⟨[s0, .v (.tup (nums row)), .ol (nums ((List.range i).map (distL row))), .v (.int i), .v (.int x), s5, .v d], M⟩) _ _ ?_ ?_ ?_ ?_ ?_ ?_ ?_
    · rw [List.length_map, rng_len, List.length_nil]
      exact Nat.le_trans (show 0 + (i : Int).toNat ≤ 10000 by omega) (by decide)
    · exact fun d hd C hc => hc
    · intro d hd C hc
      simp only [rngL, List.map_map, List.mem_map, List.mem_range, Function.comp] at hd
      obtain ⟨j, hj, rfl⟩ := hd
      rw [Int.zero_add] at hc ⊢
      exact oo_of (atI_getD (i := j) (by omega)) hc
    · exact fun d hd hp C hc => hc
    · intro d hd
      simp [keepO, Sl.own]
    · exact fun d hd => rfl
    · rw [List.nil_append, rng_filter]
      dsimp only
      have ef : (List.range (i : Int).toNat).filter (fun (j : Nat) => decide (row.getD ((j : Int)).toNat 0 ≤ x)) = (List.range i).filter (fun j => decide (row.getD j 0 ≤ x)) := by
        rw [Int.toNat_natCast]; rfl
      have sorted : ((List.range i).filter (fun j => decide (row.getD j 0 ≤ x))).Pairwise (· < ·) := List.pairwise_lt_range.filter _
      have lf := last_filter row x i
      have dl := distL_of (row := row) (i := i) (o := ((List.range i).filter (fun j => decide (row.getD j 0 ≤ x))).getLast?) (by rw [hx]; exact lf)
      rw [ef]
      generalize (List.range i).filter (fun j => decide (row.getD j 0 ≤ x)) = l at *
      refine ⟨trivial, Nat.zero_le _, ?_⟩
      refine ne_nums_nil (ns := l.map fun (j : Nat) => (j : Int)) ?_
      dsimp only
      have fin : ∀ s5 : Sl, forR (gT 2 (gsCons (gN 3) (gsCons (gN 4) gsNil))) tree_shape_f0 A (enumD (i + 1) (nums rest)) ⟨[s0, .v (.tup (nums row)), .ol (nums ((List.range i).map (distL row)) ++ [.int (distL row i)]), .v (.int i), .v (.int x), s5, .un], M⟩ := by
        intro s5
        rw [← nums_range_succ]
        exact loop_tree_shape hl hA rest (i + 1) _ _ _ hd' hlt
      cases l with
      | nil =>
        refine ⟨by rw [nums_len]; simp; exact Nat.lt_of_le_of_lt (show i ≤ 10000 by omega) (by decide), ?_⟩
        have := fin (.v (.lst []))
        rw [dl] at this
        exact this
      | cons n l =>
        refine ⟨(n : Int), l.map (fun (j : Nat) => (j : Int)), dints _, ?_⟩
        refine ⟨by rw [nums_len]; simp; exact Nat.lt_of_le_of_lt (show i ≤ 10000 by omega) (by decide), ?_⟩
        have := fin (.v (.lst (nums ((n :: l).map fun (j : Nat) => (j : Int)))))
        obtain ⟨j, hj⟩ : ∃ j, (n :: l).getLast? = some j := ⟨_, List.getLast?_eq_some_getLast (List.cons_ne_nil n l)⟩
        rw [hj] at dl
        have hm : PySem.W.maxOf (n : Int) (l.map fun (j : Nat) => (j : Int)) = (j : Int) := by
          refine maxOf_is ?_ ?_
          · rw [← List.map_cons (f := fun (j : Nat) => (j : Int))]
            exact List.mem_map.mpr ⟨j, List.mem_of_getLast? hj, rfl⟩
          · rw [← List.map_cons (f := fun (j : Nat) => (j : Int))]
            intro y hy
            obtain ⟨z, hz, rfl⟩ := List.mem_map.mp hy
            have := le_last sorted hj z hz
            omega
        rw [hm]
        rw [dl] at this
        exact this
theorem pure_tree_shape (ds : List D) (M : Sto) (Q : D → Sto → Prop) (E : Exn → Sto → Prop) (h : sp_tree_shape ds M Q E) : m_tree_shape (defEnds Q fun _ _ => False) ⟨startA 7 ds, M⟩ := by
  obtain ⟨t, rfl, ht, q⟩ := h
  show m_tree_shape _ ⟨[.v (t.D), .un, .un, .un, .un, .un, .un], _⟩
  dsimp only [m_tree_shape_eq]
  sleep 6
  sleep 10
  sleep 6
  have l := t.ent_len 0
  refine ⟨_, ⟨t, 0, rfl, Nat.le_trans ht (by decide), rfl⟩, ?_⟩
  refine ⟨by rw [nums_len, l]; exact szOk (by omega), Nat.zero_le _, ?_⟩
  refine loop_tree_shape (row := t.ent 0) (by omega) (fun s3 s4 s5 => ?_) (t.ent 0) 0 .un .un .un rfl (Nat.zero_le _)
  sleep 6
  exact q
def sp__law_drawn : Nat → ASp
  | 0 => fun _ _ _ _ => False
  | k + 1 => fun ds M Q _ => ∃ (sa : Addr) (c n : Nat) (M0 : Sto), ds = [.ref sa, .int n] ∧ M = setM M0 sa (.strm c) ∧ n ≤ k ∧ n ≤ 1000 ∧ c + 2 * n ≤ 1000000000 ∧ ∀ (t : T) (c' : Nat), t.sz = n → c' ≤ c + 2 * n → Q t.D (setM M0 sa (.strm c'))
theorem sp__law_drawn_mono : ∀ n, (sp__law_drawn n).Mono
  | 0 => fun _ _ _ _ _ _ _ _ h => h
  | k + 1 => fun ds M Q Q' E E' hq he ⟨sa, c, n, M0, a, b, d, e, f, g⟩ => ⟨sa, c, n, M0, a, b, d, e, f, fun t c' h1 h2 => hq _ _ (g t c' h1 h2)⟩
theorem sp__law_drawn_len (n : Nat) (ds : List D) (M : Sto) (Q : D → Sto → Prop) (E : Exn → Sto → Prop) (h : sp__law_drawn n ds M Q E) : ds.length = 2 := by
  cases n with
  | zero => exact h.elim
  | succ n => obtain ⟨_, _, _, _, rfl, _⟩ := h; rfl
theorem at_drawn {k : Nat} {sa : Addr} {c n : Nat} {M0 : Sto} {Q : D → Sto → Prop} {E : Exn → Sto → Prop} (h1 : n ≤ k) (h2 : n ≤ 1000) (h3 : c + 2 * n ≤ 1000000000) (q : ∀ (t : T) (c' : Nat), t.sz = n → c' ≤ c + 2 * n → Q t.D (setM M0 sa (.strm c'))) : sp__law_drawn (k + 1) [.ref sa, .int n] (setM M0 sa (.strm c)) Q E :=
  ⟨sa, c, n, M0, rfl, rfl, h1, h2, h3, q⟩
def m__law_drawn (n : Nat) : MS := (sSeq (sIf (mB (mOp eqK (mV (mVar 1)) (mV (mC (.int 0))))) (sRet (mTup mNil)) sNext) (sSeq (sSet 2 (mOp ixK (mV (mL (mLst (mCons (mCall sp__law_draw (mCons (mVar 0) (mCons (mVar 1) mNil))) (mCons (mC (.int 0)) (mCons (mOp subK (mV (mVar 1)) (mV (mC (.int 1)))) mNil)))))) (mV (mCall sp__law_draw (mCons (mVar 0) (mCons (mC (.int 3)) mNil)))))) (sRet (mTup (mCons (mCall (sp__law_drawn n) (mCons (mVar 0) (mCons (mVar 2) mNil))) (mCons (mCall (sp__law_drawn n) (mCons (mVar 0) (mCons (mOp subK (mV (mOp subK (mV (mVar 1)) (mV (mC (.int 1))))) (mV (mVar 2))) mNil))) mNil))))))
theorem m__law_drawn_eq (n : Nat) (A : AEnds) (en : En) : m__law_drawn n A en = (sSeq (sIf (mB (mOp eqK (mV (mVar 1)) (mV (mC (.int 0))))) (sRet (mTup mNil)) sNext) (sSeq (sSet 2 (mOp ixK (mV (mL (mLst (mCons (mCall sp__law_draw (mCons (mVar 0) (mCons (mVar 1) mNil))) (mCons (mC (.int 0)) (mCons (mOp subK (mV (mVar 1)) (mV (mC (.int 1)))) mNil)))))) (mV (mCall sp__law_draw (mCons (mVar 0) (mCons (mC (.int 3)) mNil)))))) (sRet (mTup (mCons (mCall (sp__law_drawn n) (mCons (mVar 0) (mCons (mVar 2) mNil))) (mCons (mCall (sp__law_drawn n) (mCons (mVar 0) (mCons (mOp subK (mV (mOp subK (mV (mVar 1)) (mV (mC (.int 1))))) (mV (mVar 2))) mNil))) mNil)))))) A en := rfl
theorem pure__law_drawn (k : Nat) (ds : List D) (M : Sto) (Q : D → Sto → Prop) (E : Exn → Sto → Prop) (h : sp__law_drawn (k + 1) ds M Q E) : m__law_drawn k (defEnds Q fun _ _ => False) ⟨startA 3 ds, M⟩ := by
  obtain ⟨sa, c, n, M0, rfl, rfl, hk, hn, hc, q⟩ := h
  show m__law_drawn _ _ ⟨[.v (.ref sa), .v (.int n), .un], _⟩
  dsimp only [m__law_drawn_eq]
  sleep 6
  refine ite2 (fun h => ?_) (fun h => ?_)
  · have h : (n : Int) = 0 := of_decide_eq_true h
    refine ⟨Nat.zero_le _, q .nil c ?_ (by omega)⟩
    show 0 = n
    omega
  · have h : (n : Int) ≠ 0 := fun z => h (decide_eq_true z)
    refine at_draw (by omega) (by omega) fun k1 a1 => ?_
    sleep 6
    refine ⟨size3, at_draw (by omega) ⟨by decide, by decide⟩ fun k2 a2 => ?_⟩
    obtain ⟨x, hx, ex⟩ := pick_small (xs := [(k1 : Int), 0, (n : Int) - 1]) (k := (k2 : Int)) (by omega) a2
    refine oo_of ex ?_
    obtain ⟨j, rfl, hj⟩ : ∃ j : Nat, x = (j : Int) ∧ j ≤ n - 1 := by
      simp only [List.mem_cons, List.not_mem_nil, or_false] at hx
      rcases hx with rfl | rfl | rfl
      · exact ⟨k1, rfl, by omega⟩
      · exact ⟨0, rfl, by omega⟩
      · exact ⟨n - 1, by omega, by omega⟩
    cases k with
    | zero => omega
    | succ k =>
      refine at_drawn (by omega) (by omega) (by omega) fun t1 c1 e1 f1 => ?_
      have ez : (n : Int) - 1 - (j : Int) = ((n - 1 - j : Nat) : Int) := by omega
      sleep 6
      rw [ez]
      refine at_drawn (by omega) (by omega) (by omega) fun t2 c2 e2 f2 => ⟨size2, q (.node t1 t2) c2 ?_ (by omega)⟩
      show t1.sz + t2.sz + 1 = n
      omega
def sp__law_entries : Nat → ASp
  | 0 => fun _ _ _ _ => False
  | n + 1 => fun ds M Q _ => ∃ (t : T) (e : Int), ds = [t.D, .int e] ∧ t.sz ≤ n ∧ t.sz ≤ 1000 ∧ Q (.tup (nums (t.ent e))) M
theorem sp__law_entries_mono : ∀ n, (sp__law_entries n).Mono
  | 0 => fun _ _ _ _ _ _ _ _ h => h
  | k + 1 => fun ds M Q Q' E E' hq he ⟨t, e, a, b, c, d⟩ => ⟨t, e, a, b, c, hq _ _ d⟩
theorem sp__law_entries_len (n : Nat) (ds : List D) (M : Sto) (Q : D → Sto → Prop) (E : Exn → Sto → Prop) (h : sp__law_entries n ds M Q E) : ds.length = 2 := by
  cases n with
  | zero => exact h.elim
  | succ n => obtain ⟨_, _, rfl, _⟩ := h; rfl
theorem at_entries {k : Nat} {t : T} {e : Int} {M : Sto} {Q : D → Sto → Prop} {E : Exn → Sto → Prop} (h1 : t.sz ≤ k) (h2 : t.sz ≤ 1000) (q : Q (.tup (nums (t.ent e))) M) : sp__law_entries (k + 1) [t.D, .int e] M Q E := ⟨t, e, rfl, h1, h2, q⟩
def m__law_entries (n : Nat) : MS := (sSeq (sIf (mB (mOp eqX (mV (mVar 0)) (mV (mTup mNil)))) (sRet (mTup mNil)) sNext) (sRet (mOp addK (mV (mOp addK (mV (mCall (sp__law_entries n) (mCons (mOp ixK (mV (mVar 0)) (mV (mC (.int 0)))) (mCons (mOp addK (mV (mVar 1)) (mV (mC (.int 1)))) mNil)))) (mV (mTup (mCons (mVar 1) mNil))))) (mV (mCall (sp__law_entries n) (mCons (mOp ixK (mV (mVar 0)) (mV (mC (.int 1)))) (mCons (mVar 1) mNil)))))))
theorem m__law_entries_eq (n : Nat) (A : AEnds) (en : En) : m__law_entries n A en = (sSeq (sIf (mB (mOp eqX (mV (mVar 0)) (mV (mTup mNil)))) (sRet (mTup mNil)) sNext) (sRet (mOp addK (mV (mOp addK (mV (mCall (sp__law_entries n) (mCons (mOp ixK (mV (mVar 0)) (mV (mC (.int 0)))) (mCons (mOp addK (mV (mVar 1)) (mV (mC (.int 1)))) mNil)))) (mV (mTup (mCons (mVar 1) mNil))))) (mV (mCall (sp__law_entries n) (mCons (mOp ixK (mV (mVar 0)) (mV (mC (.int 1)))) (mCons (mVar 1) mNil))))))) A en := rfl
theorem pure__law_entries (n : Nat) (ds : List D) (M : Sto) (Q : D → Sto → Prop) (E : Exn → Sto → Prop) (h : sp__law_entries (n + 1) ds M Q E) : m__law_entries n (defEnds Q fun _ _ => False) ⟨startA 2 ds, M⟩ := by
  obtain ⟨t, e, rfl, h1, h2, q⟩ := h
  show m__law_entries _ _ ⟨[.v (t.D), .v (.int e)], _⟩
  dsimp only [m__law_entries_eq]
  sleep 6
  cases t with
  | nil =>
    refine ⟨Nat.zero_le _, .inr ⟨[], rfl, rfl, ?_⟩⟩
    sleep 6
    exact ⟨Nat.zero_le _, q⟩
  | node l r =>
    refine ⟨Nat.zero_le _, .inr ⟨[l.D, r.D], rfl, rfl, ?_⟩⟩
    rw [List.isEmpty_cons]
    sleep 6
    unfold T.sz at h1 h2
    cases n with
    | zero => omega
    | succ n =>
      have la := l.ent_len (e + 1)
      have lb := r.ent_len e
      rw [show (T.node l r).D = .tup [l.D, r.D] from rfl]
      refine ix_tD (d := l.D) rfl ?_
      refine at_entries (t := l) (by omega) (by omega) ⟨size1, ?_⟩
      sleep 6
      have e1 : nums (l.ent (e + 1)) ++ [D.int e] = nums (l.ent (e + 1) ++ [e]) := by rw [nums_app]; rfl
      refine ⟨szOk (by rw [nums_len]; simp; omega), ix_tD (d := r.D) rfl (at_entries (t := r) (by omega) (by omega) ?_)⟩
      refine ⟨szOk (by simp [nums_len]; omega), ?_⟩
      rw [e1, ← nums_app, List.append_assoc]
      exact q
/-- rows whose entries stand in the same order have the same shape -/
theorem shape_iso {a b : List Int} (hl : a.length = b.length) (h : ∀ i j, j < i → i < a.length → (a.getD j 0 ≤ a.getD i 0 ↔ b.getD j 0 ≤ b.getD i 0)) : shapeL a = shapeL b := by
  unfold shapeL
  rw [← hl]
  apply List.map_congr_left
  intro i hi
  have hi := List.mem_range.mp hi
  have hd := dist_last a i
  rw [distL_of hd]
  generalize ((List.range i).filter fun j => decide (a.getD j 0 ≤ a.getD i 0)).getLast? = o at hd
  refine (distL_of ?_).symm
  have lt : ∀ j, j < i → (a.getD i 0 < a.getD j 0 ↔ b.getD i 0 < b.getD j 0) := fun j hj => by
    have := h i j hj hi
    omega
  cases o with
  | none => exact fun k hk => (lt k hk).mp (hd k hk)
  | some j =>
    obtain ⟨h1, h2, h3⟩ := hd
    exact ⟨h1, (h i j h1 hi).mp h2, fun k a b => (lt k b).mp (h3 k a b)⟩
def law_f0 : MS := (sSeq (sPar2 3 4 (pV (mCall sp__law_shape (mCons (mCall sp__law_row (mCons (mVar 1) (mCons (mC (.int 12)) mNil))) mNil)) (pV (mCall (sp__law_drawn 64) (mCons (mVar 1) (mCons (mOp addK (mV (mC (.int 1))) (mV (mCall sp__law_draw (mCons (mVar 1) (mCons (mC (.int 12)) mNil))))) mNil))) pNil))) (sSeq (sIf (mOr (mB (mOp isnotBK (mV (mCall sp_is_tree (mCons (mCall sp_tree_of (mCons (mVar 3) mNil)) mNil))) (mV (mC (.bl true))))) (mB (mOp neK (mV (mCB reprK (mvCons (mV (mCall sp_tree_shape (mCons (mCall sp_tree_of (mCons (mVar 3) mNil)) mNil))) mvNil))) (mV (mCB reprK (mvCons (mV (mVar 3)) mvNil)))))) (sRet (mC (.bl false))) sNext) (sIf (mOr (mB (mOp isnotBK (mV (mCall sp_is_shape (mCons (mCall sp_tree_shape (mCons (mVar 4) mNil)) mNil))) (mV (mC (.bl true))))) (mB (mOp neK (mV (mCB reprK (mvCons (mV (mCall sp_tree_of (mCons (mCall sp_tree_shape (mCons (mVar 4) mNil)) mNil))) mvNil))) (mV (mCB reprK (mvCons (mV (mVar 4)) mvNil)))))) (sRet (mC (.bl false))) sNext)))
theorem law_f0_eq (A : AEnds) (en : En) : law_f0 A en = (sSeq (sPar2 3 4 (pV (mCall sp__law_shape (mCons (mCall sp__law_row (mCons (mVar 1) (mCons (mC (.int 12)) mNil))) mNil)) (pV (mCall (sp__law_drawn 64) (mCons (mVar 1) (mCons (mOp addK (mV (mC (.int 1))) (mV (mCall sp__law_draw (mCons (mVar 1) (mCons (mC (.int 12)) mNil))))) mNil))) pNil))) (sSeq (sIf (mOr (mB (mOp isnotBK (mV (mCall sp_is_tree (mCons (mCall sp_tree_of (mCons (mVar 3) mNil)) mNil))) (mV (mC (.bl true))))) (mB (mOp neK (mV (mCB reprK (mvCons (mV (mCall sp_tree_shape (mCons (mCall sp_tree_of (mCons (mVar 3) mNil)) mNil))) mvNil))) (mV (mCB reprK (mvCons (mV (mVar 3)) mvNil)))))) (sRet (mC (.bl false))) sNext) (sIf (mOr (mB (mOp isnotBK (mV (mCall sp_is_shape (mCons (mCall sp_tree_shape (mCons (mVar 4) mNil)) mNil))) (mV (mC (.bl true))))) (mB (mOp neK (mV (mCB reprK (mvCons (mV (mCall sp_tree_of (mCons (mCall sp_tree_shape (mCons (mVar 4) mNil)) mNil))) mvNil))) (mV (mCB reprK (mvCons (mV (mVar 4)) mvNil)))))) (sRet (mC (.bl false))) sNext))) A en := rfl
def m_law : MS := (sSeq (sSet 1 (mCall sp__law_stream (mCons (mVar 0) mNil))) (sSeq (sFor (mR1 (mCons (mC (.int 10)) mNil)) (gN 2) law_f0) (sSeq (sSet 5 (mCall sp__law_all_shapes (mCons (mOp addK (mV (mC (.int 1))) (mV (mCall sp__law_draw (mCons (mVar 1) (mCons (mC (.int 6)) mNil))))) mNil))) (sSeq (sSet 6 (mL (mLc (mSeq (mVar 5)) (gN 3) mYes (mCall sp_tree_of (mCons (mVar 3) mNil)) [3]))) (sSeq (sIf (mB (mOp neK (mV (mL (mLc (mSeq (mVar 6)) (gN 4) mYes (mCall sp_tree_shape (mCons (mVar 4) mNil)) [4]))) (mV (mVar 5)))) (sRet (mC (.bl false))) sNext) (sRet (mOp eqK (mV (mLenSetS (mL (mLc (mSeq (mVar 6)) (gN 4) mYes (mCB reprK (mvCons (mV (mVar 4)) mvNil)) [4])))) (mV (mCB lenK (mvCons (mV (mVar 5)) mvNil))))))))))
theorem m_law_eq (A : AEnds) (en : En) : m_law A en = (sSeq (sSet 1 (mCall sp__law_stream (mCons (mVar 0) mNil))) (sSeq (sFor (mR1 (mCons (mC (.int 10)) mNil)) (gN 2) law_f0) (sSeq (sSet 5 (mCall sp__law_all_shapes (mCons (mOp addK (mV (mC (.int 1))) (mV (mCall sp__law_draw (mCons (mVar 1) (mCons (mC (.int 6)) mNil))))) mNil))) (sSeq (sSet 6 (mL (mLc (mSeq (mVar 5)) (gN 3) mYes (mCall sp_tree_of (mCons (mVar 3) mNil)) [3]))) (sSeq (sIf (mB (mOp neK (mV (mL (mLc (mSeq (mVar 6)) (gN 4) mYes (mCall sp_tree_shape (mCons (mVar 4) mNil)) [4]))) (mV (mVar 5)))) (sRet (mC (.bl false))) sNext) (sRet (mOp eqK (mV (mLenSetS (mL (mLc (mSeq (mVar 6)) (gN 4) mYes (mCB reprK (mvCons (mV (mVar 4)) mvNil)) [4])))) (mV (mCB lenK (mvCons (mV (mVar 5)) mvNil)))))))))) A en := rfl
/-! ### rows to trees and back -/
def shT : T → List Int
  | .nil => []
  | .node l r => glue (shT l) (shT r)
theorem T.ent_ge : ∀ (t : T) (e : Int), ∀ x ∈ t.ent e, e ≤ x
  | .nil, e, x, h => nomatch h
  | .node l r, e, x, h => by
    rcases List.mem_append.mp h with h | h
    · have := T.ent_ge l (e + 1) x h; omega
    · rcases List.mem_cons.mp h with h | h
      · exact h ▸ Int.le_refl _
      · exact T.ent_ge r e x h
theorem least_ent (l r : T) (e : Int) : leastP ((T.node l r).ent e) 0 (l.sz + r.sz) = l.sz := by
  have ll := l.ent_len (e + 1)
  have lr := r.ent_len e
  have at0 : ((T.node l r).ent e).getD l.sz 0 = e := by
    unfold T.ent
    rw [List.getD_eq_getElem?_getD, List.getElem?_append_right (by omega), ll, Nat.sub_self]; rfl
  refine leastP_eq ⟨Nat.zero_le _, Nat.le_add_right _ _, fun j _ hj => ?_, fun j hj hk => ?_⟩
  · rw [at0]
    unfold T.ent
    rw [List.getD_eq_getElem?_getD, List.getElem?_append_left (by omega), List.getElem?_eq_getElem (by omega)]
    have := T.ent_ge l (e + 1) _ (List.getElem_mem (l := l.ent (e + 1)) (n := j) (by omega))
    show e < (l.ent (e + 1))[j]
    omega
  · rw [at0]
    have h : j < ((T.node l r).ent e).length := by rw [T.ent_len]; unfold T.sz; omega
    rw [List.getD_eq_getElem?_getD, List.getElem?_eq_getElem h]
    exact T.ent_ge _ e _ (List.getElem_mem h)
theorem ent_take (l r : T) (e : Int) : ((T.node l r).ent e).take l.sz = l.ent (e + 1) := by
  show (l.ent (e + 1) ++ (e :: r.ent e)).take l.sz = _
  rw [List.take_left' (l.ent_len _)]
theorem ent_drop (l r : T) (e : Int) : ((T.node l r).ent e).drop (l.sz + 1) = r.ent e := by
  show (l.ent (e + 1) ++ (e :: r.ent e)).drop (l.sz + 1) = _
  rw [show l.ent (e + 1) ++ (e :: r.ent e) = (l.ent (e + 1) ++ [e]) ++ r.ent e by simp, List.drop_left' (by rw [List.length_append, T.ent_len]; rfl)]
theorem sh_ent : ∀ (t : T) (e : Int), shapeL (t.ent e) = shT t
  | .nil, e => rfl
  | .node l r, e => by
    have hl : ((T.node l r).ent e).length = (l.sz + r.sz) + 1 := by rw [T.ent_len]; rfl
    rw [shape_glue hl, least_ent, ent_take, ent_drop, sh_ent l, sh_ent r]
    rfl
def TF : Nat → List Int → T
  | 0, _ => .nil
  | k + 1, w => if w = [] then .nil else .node (TF k (w.take (leastP w 0 (w.length - 1)))) (TF k (w.drop (leastP w 0 (w.length - 1) + 1)))
theorem TF_sh : ∀ (k : Nat) (w : List Int), w.length < k → shT (TF k w) = shapeL w ∧ (TF k w).sz = w.length
  | 0, w, h => absurd h (Nat.not_lt_zero _)
  | k + 1, w, h => by
    unfold TF
    split
    · rename_i e
      subst e
      exact ⟨rfl, rfl⟩
    · rename_i e
      have h1 : w.length = (w.length - 1) + 1 := by
        cases w with
        | nil => exact absurd rfl e
        | cons _ _ => simp
      have L := leastP_is (row := w) (Nat.zero_le (w.length - 1))
      have := L.le
      obtain ⟨a1, a2⟩ := TF_sh k (w.take (leastP w 0 (w.length - 1))) (by rw [List.length_take]; omega)
      obtain ⟨b1, b2⟩ := TF_sh k (w.drop (leastP w 0 (w.length - 1) + 1)) (by rw [List.length_drop]; omega)
      refine ⟨?_, ?_⟩
      · rw [shape_glue h1]
        unfold shT
        rw [a1, b1]
      · unfold T.sz
        rw [a2, b2, List.length_take, List.length_drop]
        omega
theorem TF_ent : ∀ (k : Nat) (t : T) (e : Int), t.sz < k → TF k (t.ent e) = t
  | 0, t, e, h => absurd h (Nat.not_lt_zero _)
  | k + 1, .nil, e, h => rfl
  | k + 1, .node l r, e, h => by
    have hl : ((T.node l r).ent e).length = (l.sz + r.sz) + 1 := by rw [T.ent_len]; rfl
    unfold T.sz at h
    unfold TF
    rw [if_neg (fun z => by rw [z] at hl; cases hl), hl, Nat.add_sub_cancel, least_ent, ent_take, ent_drop, TF_ent k l _ (by omega), TF_ent k r _ (by omega)]
theorem treeF_TF (row : List Int) : ∀ (k f n : Nat), f + n ≤ row.length → n < k → treeF row k f n = (TF k ((row.drop f).take n)).D
  | 0, f, n, _, h => absurd h (Nat.not_lt_zero _)
  | k + 1, f, n, h, hn => by
    unfold treeF TF
    have wl : ((row.drop f).take n).length = n := by rw [List.length_take, List.length_drop]; omega
    by_cases h0 : n = 0
    · subst h0
      rfl
    · rw [if_neg h0, if_neg (fun z => by rw [z] at wl; exact h0 wl.symm), wl]
      have L := leastP_is (row := row) (f := f) (l := f + n - 1) (by omega)
      have g1 := L.le
      have g2 := L.ge
      have e : leastP ((row.drop f).take n) 0 (n - 1) = leastP row f (f + n - 1) - f := by
        rw [least_take (Nat.zero_le _) (by omega)]
        have h := least_drop (row := row) (m := f) (Nat.zero_le (n - 1))
        rw [show f + (n - 1) = f + n - 1 by omega, show f + 0 = f from rfl] at h
        omega
      unfold T.D
      rw [e]
      generalize leastP row f (f + n - 1) = p at *
      rw [treeF_TF row k f _ (by omega) (by omega), treeF_TF row k (p + 1) _ (by omega) (by omega), List.take_take, Nat.min_eq_left (by omega), List.drop_take, List.drop_drop]
      rw [show f + (p - f + 1) = p + 1 by omega, show n - (p - f + 1) = f + n - 1 - p by omega]
theorem tree_row {row : List Int} {m : Nat} (hm : m = row.length) (h : row.length < 64) : treeF row 64 0 m = (TF 64 row).D := by
  subst hm
  rw [treeF_TF row 64 0 _ (by omega) h, List.drop_zero, List.take_length]
theorem tree_back {t : T} {m : Nat} (hm : m = (t.ent 0).length) (h : t.sz < 64) : treeF (t.ent 0) 64 0 m = t.D := by
  rw [tree_row hm (by rw [T.ent_len]; exact h), TF_ent 64 t 0 h]
theorem shape_TF {row : List Int} (h : row.length < 64) : shapeL ((TF 64 row).ent 0) = shapeL row := by
  rw [sh_ent, (TF_sh 64 row h).1]
theorem TB_T : ∀ (t : T) (k : Nat), t.sz < k → TB k (20 * t.sz + 10) t.D
  | .nil, 0, h => absurd h (Nat.not_lt_zero _)
  | .nil, k + 1, h => ⟨0, trivial, by omega⟩
  | .node l r, 0, h => absurd h (Nat.not_lt_zero _)
  | .node l r, k + 1, h => by
    unfold T.sz at h ⊢
    exact ⟨_, ⟨_, _, TB_T l k (by omega), ⟨_, 0, TB_T r k (by omega), trivial, Nat.le_refl _⟩, Nat.le_refl _⟩, by omega⟩
theorem sz_T : ∀ (t : T) (k : Nat), t.sz < k → t.sz < 99 → szF k t.D = t.sz
  | .nil, 0, h, _ => absurd h (Nat.not_lt_zero _)
  | .nil, k + 1, h, _ => rfl
  | .node l r, 0, h, _ => absurd h (Nat.not_lt_zero _)
  | .node l r, k + 1, h, h9 => by
    unfold T.sz at h h9 ⊢
    unfold T.D
    rw [szF_tup, if_pos (.inr rfl)]
    simp only [sumF, List.length_cons, List.length_nil]
    rw [sz_T l k (by omega) (by omega), sz_T r k (by omega) (by omega)]
    omega
theorem tree_T {t : T} (h1 : 1 ≤ t.sz) (h2 : t.sz ≤ 12) : treeB (13 + 1) t.D = true := by
  unfold treeB
  rw [sz_T t 14 (by omega) (by omega), decide_eq_true (by omega), decide_eq_true (by omega)]
  rfl
theorem at_is_tree {t : T} {M : Sto} {Q : D → Sto → Prop} {E : Exn → Sto → Prop} (h1 : 1 ≤ t.sz) (h2 : t.sz ≤ 12) (q : Q (.bl true) M) : sp_is_tree [t.D] M Q E := ⟨t.D, 13, _, rfl, TB_T t 13 (by omega), by omega, by rw [tree_T h1 h2]; exact q⟩
theorem at_tree_of {row : List Int} {M : Sto} {Q : D → Sto → Prop} {E : Exn → Sto → Prop} (h : row.length ≤ 63) (q : Q (TF 64 row).D M) : sp_tree_of [.tup (nums (shapeL row))] M Q E := ⟨row, rfl, h, by rw [tree_row rfl (by omega)]; exact q⟩
theorem at_tree_of2 {t : T} {M : Sto} {Q : D → Sto → Prop} {E : Exn → Sto → Prop} (h : t.sz ≤ 63) (q : Q t.D M) : sp_tree_of [.tup (nums (shapeL (t.ent 0)))] M Q E := at_tree_of (by rw [T.ent_len]; exact h) (by rw [TF_ent 64 t 0 (by omega)]; exact q)
/-! ### texts of trees -/
def T.cp : T → List Nat
  | .nil => [40, 41]
  | .node l r => 40 :: (l.cp ++ (44 :: 32 :: (r.cp ++ [41])))
theorem rp_T (t : T) : (rp t.D).cps.toList = t.cp := by
  have key : ∀ t : T, ∃ e, D.py t.D = some e ∧ e.shown.cps.toList = t.cp := by
    intro t
    induction t with
    | nil => exact ⟨.tuple [], rfl, rfl⟩
    | node l r hl hr =>
      obtain ⟨e1, p1, s1⟩ := hl
      obtain ⟨e2, p2, s2⟩ := hr
      refine ⟨.tuple [e1, e2], ?_, ?_⟩
      · unfold T.D D.py D.pys D.pys D.pys
        rw [p1, p2]; rfl
      · unfold T.cp
        rw [← s1, ← s2]
        show (((("(" : String) : Str) ++ (e1.shown ++ ((", " : String) : Str) ++ e2.shown)) ++ ((")" : String) : Str)).cps.toList = _
        rw [Str.cps_append, Str.cps_append, Str.cps_append, Str.cps_append, Array.toList_append, Array.toList_append, Array.toList_append, Array.toList_append]
        rw [show (((("(" : String) : Str)).cps.toList) = [40] from rfl, show ((((", " : String) : Str)).cps.toList) = [44, 32] from rfl, show ((((")" : String) : Str)).cps.toList) = [41] from rfl]
        simp
  obtain ⟨e, h1, h2⟩ := key t
  rw [rp_py h1, h2]
theorem cp_head : ∀ t : T, ∃ r, t.cp = 40 :: r
  | .nil => ⟨_, rfl⟩
  | .node _ _ => ⟨_, rfl⟩
theorem cp_inj : ∀ (t u : T) (a b : List Nat), t.cp ++ a = u.cp ++ b → t = u ∧ a = b := by
  intro t
  induction t with
  | nil =>
    intro u a b h
    cases u with
    | nil => exact ⟨rfl, List.append_cancel_left h⟩
    | node l r =>
      obtain ⟨z, e⟩ := cp_head l
      simp [T.cp, e] at h
  | node l r hl hr =>
    intro u a b h
    cases u with
    | nil =>
      obtain ⟨z, e⟩ := cp_head l
      simp [T.cp, e] at h
    | node l' r' =>
      simp only [T.cp, List.cons_append, List.append_assoc, List.cons.injEq, true_and] at h
      obtain ⟨h1, h2⟩ := hl l' _ _ h
      simp only [List.cons.injEq, true_and] at h2
      obtain ⟨h3, h4⟩ := hr r' _ _ h2
      simp only [List.nil_append, List.cons.injEq, true_and] at h4
      subst h1 h3
      exact ⟨rfl, h4⟩
theorem rp_inj {t u : T} (h : rp t.D = rp u.D) : t = u := by
  refine (cp_inj t u [] [] ?_).1
  rw [List.append_nil, List.append_nil, ← rp_T, ← rp_T, h]
theorem dist_bnd {row : List Int} {p : Nat} (h : p < row.length) : 0 ≤ distL row p ∧ distL row p ≤ p := by
  have hd := dist_last row p
  rw [distL_of hd]
  generalize ((List.range p).filter fun j => decide (row.getD j 0 ≤ row.getD p 0)).getLast? = o at hd
  cases o with
  | none => exact ⟨Int.le_refl 0, by show (0 : Int) ≤ p; omega⟩
  | some j =>
    have := hd.1
    show 0 ≤ (p : Int) - j ∧ (p : Int) - j ≤ p
    omega
theorem vals_nums (v : List Int) : (nums v).map valI = v := by
  unfold nums
  rw [List.map_map]
  exact List.map_id v
theorem shape_shp {row : List Int} (h1 : 1 ≤ row.length) (h2 : row.length ≤ 12) : shpOf 12 (.tup (nums (shapeL row))) = true := by
  rw [shpOf_tup, hasB_tup, vals_nums, nums_len, shapeL_len, decide_eq_true (by omega), decide_eq_true (by omega), okFrom_iff.mpr fun q _ h => shape_ok row q h, dist_at]
  rw [Bool.and_true, Bool.true_and, Bool.true_and, List.all_eq_true]
  intro k hk
  have hk := List.mem_range.mp hk
  rw [nums_len, shapeL_len] at hk
  have e : (nums (shapeL row)).getD k .non = .int (distL row k) := by
    unfold nums shapeL
    rw [List.getD_eq_getElem?_getD, List.getElem?_map, List.getElem?_map, List.getElem?_range hk]
    rfl
  rw [e, Nat.zero_add]
  obtain ⟨a, b⟩ := dist_bnd hk
  show (decide ((0 : Int) ≤ distL row k) && decide (distL row k ≤ (k : Nat))) = true
  rw [decide_eq_true a, decide_eq_true b]
  rfl
theorem at_is_shape {row : List Int} {M : Sto} {Q : D → Sto → Prop} {E : Exn → Sto → Prop} (h1 : 1 ≤ row.length) (h2 : row.length ≤ 12) (q : Q (.bl true) M) : sp_is_shape [.tup (nums (shapeL row))] M Q E := ⟨_, rfl, fun x hx => by obtain ⟨i, _, rfl⟩ := List.mem_map.mp hx; rfl, by rw [shape_shp h1 h2]; exact q⟩
/-! ### the trees of all shapes -/
theorem suf_few : ∀ n ≤ 6, (sufF n [] 0).length ≤ 200 := by decide
theorem suf_nd : ∀ n ≤ 6, (sufF n [] 0).Nodup := by decide +kernel
theorem all_suf {n : Nat} : (allS n).map shD = (sufF n [] 0).map rowD := by rw [← allS_gen, List.map_map]; rfl
theorem at_all {n : Nat} {M : Sto} {Q : D → Sto → Prop} {E : Exn → Sto → Prop} (h : n ≤ 7) (q : Q (.lst ((sufF n [] 0).map rowD)) M) : sp__law_all_shapes [.int n] M Q E := ⟨n, rfl, h, by rw [all_suf]; exact q⟩
def shTree (v : List Int) : T := TF 64 (rowOf v)
theorem sht_sh {n : Nat} {v : List Int} (hn : n ≤ 6) (hv : v ∈ sufF n [] 0) : shapeL ((shTree v).ent 0) = v ∧ (rowOf v).length = n ∧ shapeL (rowOf v) = v ∧ (shTree v).sz = n := by
  obtain ⟨v1, v2⟩ := mem_suf2.mp hv
  have l : (rowOf v).length = n := by rw [rowOf_len, v1]
  have e := rowOf_shape v2
  exact ⟨by unfold shTree; rw [shape_TF (by omega), e], l, e, by unfold shTree; rw [(TF_sh 64 _ (by omega)).2, l]⟩
theorem texts_nd {n : Nat} (hn : n ≤ 6) : ((sufF n [] 0).map fun v => rp (shTree v).D).Nodup := by
  refine List.pairwise_map.mpr ((suf_nd n hn).imp_of_mem fun {a b} ha hb hab h => hab ?_)
  have := rp_inj h
  rw [← (sht_sh hn ha).1, ← (sht_sh hn hb).1, this]
theorem loop_law {sa : Addr} {M0 : Sto} {A : AEnds} {s0 s5 s6 : Sl} (hA : ∀ c s2 s3 s4, c ≤ 10000 → s3.own = false → s4.own = false → A.nx ⟨[s0, .v (.ref sa), s2, s3, s4, s5, s6], setM M0 sa (.strm c)⟩) : ∀ (k i c : Nat) (s2 s3 s4 : Sl), i + k = 10 → c ≤ 400 * i → s3.own = false → s4.own = false →
    forR (gN 2) law_f0 A ((rngL (i : Int) k).map D.int) ⟨[s0, .v (.ref sa), s2, s3, s4, s5, s6], setM M0 sa (.strm c)⟩
  | 0, i, c, s2, s3, s4, hk, hc, h3, h4 => hA _ _ _ _ (by omega) h3 h4
  | k + 1, i, c, s2, s3, s4, hk, hc, h3, h4 => by
    rw [rng_cons]
    dsimp only [forR, law_f0_eq]
    sleep 6
    refine at_row (by omega) ⟨by decide, by decide⟩ fun row c1 h1 h2 _ hc1 => ?_
    sleep 6
    refine ⟨row, rfl, by omega, ?_⟩
    refine at_draw (by omega) ⟨by decide, by decide⟩ fun n hn => ?_
    have en : (1 : Int) + (n : Int) = ((n + 1 : Nat) : Int) := by omega
    sleep 6
    rw [en]
    refine at_drawn (k := 63) (by omega) (by omega) (by omega) fun t c2 ht hc2 => ?_
    have l := t.ent_len 0
    obtain ⟨e1, e2⟩ := TF_sh 64 row (by omega)
    refine at_tree_of (row := row) (by omega) ?_
    refine at_is_tree (t := TF 64 row) (by omega) (by omega) ?_
    refine ⟨_, _, rfl, rfl, ?_⟩
    sleep 6
    rw [if_neg (by decide)]
    refine at_tree_of (row := row) (by omega) (at_tree_shape (t := TF 64 row) (by omega) ?_)
    rw [shape_TF (row := row) (by omega)]
    have bs := (bd_shape (row := row) (by omega)).ok
    have bt := ((bd_T t).mono (show _ ≤ 300 by omega) (show _ ≤ 14 by omega)).ok
    refine ⟨bs, ⟨bs, ?_⟩⟩
    sleep 6
    refine ne_same ?_
    refine at_tree_shape (t := t) (by omega) (at_is_shape (row := t.ent 0) (by omega) (by omega) ?_)
    refine ⟨_, _, rfl, rfl, ?_⟩
    sleep 6
    rw [if_neg (by decide)]
    refine at_tree_shape (t := t) (by omega) (at_tree_of2 (t := t) (by omega) ⟨bt, ⟨bt, ?_⟩⟩)
    sleep 6
    refine ne_same ?_
    exact loop_law hA k (i + 1) c2 _ _ _ (by omega) (by omega) rfl rfl
theorem eqok_shs (L : List (List Int)) : EqOk (.lst (L.map rowD)) := EqOk.lst fun x hx => by
  obtain ⟨v, _, rfl⟩ := List.mem_map.mp hx
  exact ⟨_, py_tup_nums v, lay_ints v, by show PyData.depthAll (v.map PyData.int) + 1 ≤ 50; rw [depth_nums]; decide⟩
theorem pure_law (ds : List D) (M : Sto) (Q : D → Sto → Prop) (E : Exn → Sto → Prop) (h : sp_law ds M Q E) : m_law (defEnds Q fun _ _ => False) ⟨startA 7 ds, M⟩ := by
  obtain ⟨ns, rfl, hl, q⟩ := h
  refine ⟨ns, rfl, hl, fun sa M' hm _ => ?_⟩
  sleep 6
  refine ⟨⟨by decide, by decide⟩, ?_⟩
  rw [← setM_self hm]
  refine loop_law (fun c s2 s3 s4 hc h3 h4 => ?_) 10 0 0 _ _ _ rfl (Nat.le_refl _) rfl rfl
  sleep 6
  refine at_draw (by omega) ⟨by decide, by decide⟩ fun n hn => ?_
  have en : (1 : Int) + (n : Int) = ((n + 1 : Nat) : Int) := by omega
  sleep 6
  rw [en]
  refine at_all (by omega) ?_
  have hn : n + 1 ≤ 6 := by omega
  generalize n + 1 = n at hn
  sleep 6
  have few := suf_few n hn
  have sh : ∀ v ∈ sufF n [] 0, rowD v = .tup (nums (shapeL (rowOf v))) := fun v hv => by rw [(sht_sh hn hv).2.2.1]; rfl
  refine lcR_map rowD (fun _ => true) (fun v => (shTree v).D) (fun v => [.v (.scr ns), .v (.ref sa), s2, .v (rowD v), s4, .v (.lst ((sufF n [] 0).map rowD)), .un]) (sufF n [] 0) _ ?_ ?_ ?_ ?_ ?_ ?_
  · exact szOk (by rw [List.length_nil]; omega)
  · exact fun v _ C hC => hC
  · exact fun v _ C hC => hC
  · intro v hv _ C hC
    obtain ⟨_, h2, _, _⟩ := sht_sh hn hv
    sleep 6
    rw [sh v hv] at hC ⊢
    exact at_tree_of (by omega) hC
  · intro v _
    cases s3 <;> first | (exact Bool.noConfusion h3) | simp [keepO, Sl.own]
  have fT : (sufF n [] 0).filter (fun _ => true) = sufF n [] 0 := List.filter_eq_self.mpr fun _ _ => rfl
  rw [fT, List.nil_append]
  sleep 6
  refine lcR_map (fun v => (shTree v).D) (fun _ => true) rowD (fun v => [.v (.scr ns), .v (.ref sa), s2, s3, .v (shTree v).D, .v (.lst ((sufF n [] 0).map rowD)), .v (.lst ((sufF n [] 0).map fun v => (shTree v).D))]) (sufF n [] 0) _ ?_ ?_ ?_ ?_ ?_ ?_
  · exact szOk (by rw [List.length_nil]; omega)
  · exact fun v _ C hC => hC
  · exact fun v _ C hC => hC
  · intro v hv _ C hC
    obtain ⟨h1, _, _, h2⟩ := sht_sh hn hv
    sleep 6
    refine at_tree_shape (t := shTree v) (by omega) ?_
    rw [h1]
    exact hC
  · intro v _
    cases s4 <;> first | (exact Bool.noConfusion h4) | simp [keepO, Sl.own]
  rw [fT, List.nil_append]
  sleep 6
  refine ne_self (eqok_shs _) ?_
  sleep 6
  refine lcR_map (fun v => (shTree v).D) (fun _ => true) (fun v => .str (rp (shTree v).D)) (fun v => [.v (.scr ns), .v (.ref sa), s2, s3, .v (shTree v).D, .v (.lst ((sufF n [] 0).map rowD)), .v (.lst ((sufF n [] 0).map fun v => (shTree v).D))]) (sufF n [] 0) _ ?_ ?_ ?_ ?_ ?_ ?_
  · exact szOk (by rw [List.length_nil]; omega)
  · exact fun v _ C hC => hC
  · exact fun v _ C hC => hC
  · intro v hv _ C hC
    obtain ⟨h1, _, _, h2⟩ := sht_sh hn hv
    sleep 6
    exact ⟨((bd_T (shTree v)).mono (show _ ≤ 300 by omega) (show _ ≤ 14 by omega)).ok, hC⟩
  · intro v _
    cases s4 <;> first | (exact Bool.noConfusion h4) | simp [keepO, Sl.own]
  rw [fT, List.nil_append]
  sleep 6
  refine ⟨(sufF n [] 0).map fun v => rp (shTree v).D, by rw [List.map_map]; rfl, by rw [List.length_map]; omega, texts_nd hn, ?_⟩
  show Q (.bl (decide ((((sufF n [] 0).map fun v => rp (shTree v).D).length : Int) = (((sufF n [] 0).map rowD).length : Int)))) _
  rw [List.length_map, List.length_map, decide_eq_true rfl]
  exact q _

abbrev top (i : Nat) : Stmt := PySem.Challenge.pw_leastplaces_k16_whole_trees_there_and_ba.main.body.getD i (.Pass ⟨0, 0, 0, 0⟩)
abbrev s_is_integer : Stmt := top 2
theorem sc_is_integer : FnScope ["value", "low", "high"] ["value", "low", "high"] (defScope s_is_integer) := ⟨rfl, rfl, rfl, by decide +kernel, rfl, by decide +kernel, by decide +kernel⟩
theorem b_is_integer {K : PySem.W.Frag} {f : Addr} {fd : FuncData} (F : FnD K "is_integer" "is_integer" s_is_integer [] [] f fd) : Binds K fd ["value", "low", "high"] [] := F.bindsN fun _ _ _ _ _ _ us hl => match us, hl with | [_, _, _], _ => rfl
abbrev s_open_after : Stmt := top 4
theorem sc_open_after : FnScope ["shape", "found", "place", "distance", "target"] ["shape"] (defScope s_open_after) := ⟨rfl, rfl, rfl, by decide +kernel, rfl, by decide +kernel, by decide +kernel⟩
theorem b_open_after {K : PySem.W.Frag} {f : Addr} {fd : FuncData} (F : FnD K "open_after" "open_after" s_open_after [] [] f fd) : Binds K fd ["shape"] [] := F.bindsN fun _ _ _ _ _ _ us hl => match us, hl with | [_], _ => rfl
abbrev s_has_distances : Stmt := top 5
theorem sc_has_distances : FnScope ["value", "most", "place", "distance"] ["value", "most"] (defScope s_has_distances) := ⟨rfl, rfl, rfl, by decide +kernel, rfl, by decide +kernel, by decide +kernel⟩
theorem b_has_distances {K : PySem.W.Frag} {f : Addr} {fd : FuncData} (F : FnD K "has_distances" "has_distances" s_has_distances [] [] f fd) : Binds K fd ["value", "most"] [] := F.bindsN fun _ _ _ _ _ _ us hl => match us, hl with | [_, _], _ => rfl
abbrev s_is_shape_of : Stmt := top 6
theorem sc_is_shape_of : FnScope ["value", "most"] ["value", "most"] (defScope s_is_shape_of) := ⟨rfl, rfl, rfl, by decide +kernel, rfl, by decide +kernel, by decide +kernel⟩
theorem b_is_shape_of {K : PySem.W.Frag} {f : Addr} {fd : FuncData} (F : FnD K "is_shape_of" "is_shape_of" s_is_shape_of [] [] f fd) : Binds K fd ["value", "most"] [] := F.bindsN fun _ _ _ _ _ _ us hl => match us, hl with | [_, _], _ => rfl
abbrev s_is_shape : Stmt := top 7
theorem sc_is_shape : FnScope ["value"] ["value"] (defScope s_is_shape) := ⟨rfl, rfl, rfl, by decide +kernel, rfl, by decide +kernel, by decide +kernel⟩
theorem b_is_shape {K : PySem.W.Frag} {f : Addr} {fd : FuncData} (F : FnD K "is_shape" "is_shape" s_is_shape [] [] f fd) : Binds K fd ["value"] [] := F.bindsN fun _ _ _ _ _ _ us hl => match us, hl with | [_], _ => rfl
abbrev s_is_head : Stmt := top 8
theorem sc_is_head : FnScope ["shape", "first", "place"] ["shape", "first", "place"] (defScope s_is_head) := ⟨rfl, rfl, rfl, by decide +kernel, rfl, by decide +kernel, by decide +kernel⟩
theorem b_is_head {K : PySem.W.Frag} {f : Addr} {fd : FuncData} (F : FnD K "is_head" "is_head" s_is_head [] [] f fd) : Binds K fd ["shape", "first", "place"] [] := F.bindsN fun _ _ _ _ _ _ us hl => match us, hl with | [_, _, _], _ => rfl
abbrev s_least_in : Stmt := top 9
theorem sc_least_in : FnScope ["shape", "first", "last", "place"] ["shape", "first", "last"] (defScope s_least_in) := ⟨rfl, rfl, rfl, by decide +kernel, rfl, by decide +kernel, by decide +kernel⟩
theorem b_least_in {K : PySem.W.Frag} {f : Addr} {fd : FuncData} (F : FnD K "least_in" "least_in" s_least_in [] [] f fd) : Binds K fd ["shape", "first", "last"] [] := F.bindsN fun _ _ _ _ _ _ us hl => match us, hl with | [_, _, _], _ => rfl
abbrev s_is_tree : Stmt := top 11
theorem sc_is_tree : FnScope ["value", "waiting", "size", "here"] ["value"] (defScope s_is_tree) := ⟨rfl, rfl, rfl, by decide +kernel, rfl, by decide +kernel, by decide +kernel⟩
theorem b_is_tree {K : PySem.W.Frag} {f : Addr} {fd : FuncData} (F : FnD K "is_tree" "is_tree" s_is_tree [] [] f fd) : Binds K fd ["value"] [] := F.bindsN fun _ _ _ _ _ _ us hl => match us, hl with | [_], _ => rfl
abbrev s_tree_from : Stmt := top 12
theorem sc_tree_from : FnScope ["shape", "first", "last", "root"] ["shape", "first", "last"] (defScope s_tree_from) := ⟨rfl, rfl, rfl, by decide +kernel, rfl, by decide +kernel, by decide +kernel⟩
theorem b_tree_from {K : PySem.W.Frag} {f : Addr} {fd : FuncData} (F : FnD K "tree_from" "tree_from" s_tree_from [] [] f fd) : Binds K fd ["shape", "first", "last"] [] := F.bindsN fun _ _ _ _ _ _ us hl => match us, hl with | [_, _, _], _ => rfl
abbrev s_tree_of : Stmt := top 13
theorem sc_tree_of : FnScope ["shape"] ["shape"] (defScope s_tree_of) := ⟨rfl, rfl, rfl, by decide +kernel, rfl, by decide +kernel, by decide +kernel⟩
theorem b_tree_of {K : PySem.W.Frag} {f : Addr} {fd : FuncData} (F : FnD K "tree_of" "tree_of" s_tree_of [] [] f fd) : Binds K fd ["shape"] [] := F.bindsN fun _ _ _ _ _ _ us hl => match us, hl with | [_], _ => rfl
abbrev s_entries_of : Stmt := top 14
theorem sc_entries_of : GScope ["tree", "entry", "left", "right"] ["tree", "entry"] (defScope s_entries_of) := ⟨rfl, rfl, rfl, by decide +kernel, rfl, by decide +kernel, by decide +kernel⟩
theorem b_entries_of {K : PySem.W.Frag} {f : Addr} {fd : FuncData} (F : FnD K "entries_of" "entries_of" s_entries_of [] [] f fd) : Binds K fd ["tree", "entry"] [] := F.bindsN fun _ _ _ _ _ _ us hl => match us, hl with | [_, _], _ => rfl
abbrev s_tree_shape : Stmt := top 15
theorem sc_tree_shape : FnScope ["tree", "entries", "found", "place", "entry", "earlier", "other"] ["tree"] (defScope s_tree_shape) := ⟨rfl, rfl, rfl, by decide +kernel, rfl, by decide +kernel, by decide +kernel⟩
theorem b_tree_shape {K : PySem.W.Frag} {f : Addr} {fd : FuncData} (F : FnD K "tree_shape" "tree_shape" s_tree_shape [] [] f fd) : Binds K fd ["tree"] [] := F.bindsN fun _ _ _ _ _ _ us hl => match us, hl with | [_], _ => rfl
abbrev s__law_stream : Stmt := top 17
theorem sc__law_stream : FnScope ["_law_script", "_law_cells", "_law_cell"] ["_law_script"] (defScope s__law_stream) := ⟨rfl, rfl, rfl, by decide +kernel, rfl, by decide +kernel, by decide +kernel⟩
theorem b__law_stream {K : PySem.W.Frag} {f : Addr} {fd : FuncData} (F : FnD K "_law_stream" "_law_stream" s__law_stream [] [] f fd) : Binds K fd ["_law_script"] [] := F.bindsN fun _ _ _ _ _ _ us hl => match us, hl with | [_], _ => rfl
abbrev s__law_draw : Stmt := top 18
theorem sc__law_draw : FnScope ["_law_stream_here", "_law_many", "_law_rest", "_law_turn", "_law_cell", "_law_mixed"] ["_law_stream_here", "_law_many"] (defScope s__law_draw) := ⟨rfl, rfl, rfl, by decide +kernel, rfl, by decide +kernel, by decide +kernel⟩
theorem b__law_draw {K : PySem.W.Frag} {f : Addr} {fd : FuncData} (F : FnD K "_law_draw" "_law_draw" s__law_draw [] [] f fd) : Binds K fd ["_law_stream_here", "_law_many"] [] := F.bindsN fun _ _ _ _ _ _ us hl => match us, hl with | [_, _], _ => rfl
abbrev s__law_pick : Stmt := top 19
theorem sc__law_pick : FnScope ["_law_stream_here", "_law_items"] ["_law_stream_here", "_law_items"] (defScope s__law_pick) := ⟨rfl, rfl, rfl, by decide +kernel, rfl, by decide +kernel, by decide +kernel⟩
theorem b__law_pick {K : PySem.W.Frag} {f : Addr} {fd : FuncData} (F : FnD K "_law_pick" "_law_pick" s__law_pick [] [] f fd) : Binds K fd ["_law_stream_here", "_law_items"] [] := F.bindsN fun _ _ _ _ _ _ us hl => match us, hl with | [_, _], _ => rfl
abbrev s__law_row : Stmt := top 20
theorem sc__law_row : FnScope ["_law_stream_here", "_law_most", "_law_size", "_law_way", "_law_width", "_law_entries", "_law_place", "_law_k", "_law_entry"] ["_law_stream_here", "_law_most"] (defScope s__law_row) := ⟨rfl, rfl, rfl, by decide +kernel, rfl, by decide +kernel, by decide +kernel⟩
theorem b__law_row {K : PySem.W.Frag} {f : Addr} {fd : FuncData} (F : FnD K "_law_row" "_law_row" s__law_row [] [] f fd) : Binds K fd ["_law_stream_here", "_law_most"] [] := F.bindsN fun _ _ _ _ _ _ us hl => match us, hl with | [_, _], _ => rfl
abbrev s__law_shape : Stmt := top 21
theorem sc__law_shape : FnScope ["_law_row_here", "_law_found", "_law_place", "_law_earlier", "_law_other"] ["_law_row_here"] (defScope s__law_shape) := ⟨rfl, rfl, rfl, by decide +kernel, rfl, by decide +kernel, by decide +kernel⟩
theorem b__law_shape {K : PySem.W.Frag} {f : Addr} {fd : FuncData} (F : FnD K "_law_shape" "_law_shape" s__law_shape [] [] f fd) : Binds K fd ["_law_row_here"] [] := F.bindsN fun _ _ _ _ _ _ us hl => match us, hl with | [_], _ => rfl
abbrev s__law_drawn : Stmt := top 22
theorem sc__law_drawn : FnScope ["_law_stream_here", "_law_many", "_law_left"] ["_law_stream_here", "_law_many"] (defScope s__law_drawn) := ⟨rfl, rfl, rfl, by decide +kernel, rfl, by decide +kernel, by decide +kernel⟩
theorem b__law_drawn {K : PySem.W.Frag} {f : Addr} {fd : FuncData} (F : FnD K "_law_drawn" "_law_drawn" s__law_drawn [] [] f fd) : Binds K fd ["_law_stream_here", "_law_many"] [] := F.bindsN fun _ _ _ _ _ _ us hl => match us, hl with | [_, _], _ => rfl
abbrev s__law_all_shapes : Stmt := top 23
theorem sc__law_all_shapes : FnScope ["_law_many", "_law_found", "_law_place", "_law_longer", "_law_shape_here", "_law_open_ones", "_law_k"] ["_law_many"] (defScope s__law_all_shapes) := ⟨rfl, rfl, rfl, by decide +kernel, rfl, by decide +kernel, by decide +kernel⟩
theorem b__law_all_shapes {K : PySem.W.Frag} {f : Addr} {fd : FuncData} (F : FnD K "_law_all_shapes" "_law_all_shapes" s__law_all_shapes [] [] f fd) : Binds K fd ["_law_many"] [] := F.bindsN fun _ _ _ _ _ _ us hl => match us, hl with | [_], _ => rfl
abbrev s_law : Stmt := top 24
theorem sc_law : FnScope ["_law_script", "_law_stream_here", "_law_turn", "_law_shape_here", "_law_tree", "_law_shapes", "_law_trees"] ["_law_script"] (defScope s_law) := ⟨rfl, rfl, rfl, by decide +kernel, rfl, by decide +kernel, by decide +kernel⟩
theorem b_law {K : PySem.W.Frag} {f : Addr} {fd : FuncData} (F : FnD K "law" "law" s_law [] [] f fd) : Binds K fd ["_law_script"] [] := F.bindsN fun _ _ _ _ _ _ us hl => match us, hl with | [_], _ => rfl
structure Env (K : PySem.W.Frag) (mg : Str → Option Value) where
  is_integer : Fn K mg "is_integer" s_is_integer
  open_after : Fn K mg "open_after" s_open_after
  has_distances : Fn K mg "has_distances" s_has_distances
  is_shape_of : Fn K mg "is_shape_of" s_is_shape_of
  is_shape : Fn K mg "is_shape" s_is_shape
  is_head : Fn K mg "is_head" s_is_head
  least_in : Fn K mg "least_in" s_least_in
  is_tree : Fn K mg "is_tree" s_is_tree
  tree_from : Fn K mg "tree_from" s_tree_from
  tree_of : Fn K mg "tree_of" s_tree_of
  entries_of : Fn K mg "entries_of" s_entries_of
  tree_shape : Fn K mg "tree_shape" s_tree_shape
  _law_stream : Fn K mg "_law_stream" s__law_stream
  _law_draw : Fn K mg "_law_draw" s__law_draw
  _law_pick : Fn K mg "_law_pick" s__law_pick
  _law_row : Fn K mg "_law_row" s__law_row
  _law_shape : Fn K mg "_law_shape" s__law_shape
  _law_drawn : Fn K mg "_law_drawn" s__law_drawn
  _law_all_shapes : Fn K mg "_law_all_shapes" s__law_all_shapes
  law : Fn K mg "law" s_law
  z_abs : mg "abs" = none
  z_all : mg "all" = none
  z_bool : mg "bool" = none
  z_enumerate : mg "enumerate" = none
  z_int : mg "int" = none
  z_isinstance : mg "isinstance" = none
  z_len : mg "len" = none
  z_max : mg "max" = none
  z_range : mg "range" = none
  z_repr : mg "repr" = none
  z_set : mg "set" = none
  z_sorted : mg "sorted" = none
  z_tuple : mg "tuple" = none
  i_MAX_PLACES : ∃ t, mg "MAX_PLACES" = some (.int 12 t)
theorem g_is_integer {P : Program} {w : World} {K : PySem.W.Frag} {mg : Str → Option Value} {base : Heap} (V : Env K mg) : FnG P w K mg base 1 V.is_integer.f V.is_integer.fd ["value", "low", "high"] (conc K sp_is_integer) :=
  def_ok (m := m_is_integer) V.is_integer.F sc_is_integer sp_is_integer_len (fun cdv A outer s H E hgd hr tk po => have hu := LP.Room.u100 hr; (ass_one (as_ret (ae_and (ae_cb c_isi (by rfl) V.z_isinstance (by rfl) (aav_cons (av (ae_var 0)) (aav_cons (av (ae_ty (by rfl) V.z_int (by rfl))) aav_nil))) (ae_and (ae_not (ae_cb c_isi (by rfl) V.z_isinstance (by rfl) (aav_cons (av (ae_var 0)) (aav_cons (av (ae_ty (by rfl) V.z_bool (by rfl))) aav_nil)))) (ae_one (ae_ch o_le o_le (av (ae_var 1)) (av (ae_var 0)) (av (ae_var 2))))))))) pure_is_integer
theorem g_open_after {P : Program} {w : World} {K : PySem.W.Frag} {mg : Str → Option Value} {base : Heap} (V : Env K mg) : FnG P w K mg base 1 V.open_after.f V.open_after.fd ["shape"] (conc K sp_open_after) :=
  def_ok (m := m_open_after) V.open_after.F sc_open_after sp_open_after_len (fun cdv A outer s H E hgd hr tk po => have hu := LP.Room.u100 hr; (ass_cons (as_set sc_open_after.nd (i := 1) rfl (.inl rfl) (ae_l (af_lst aa_nil))) (ass_cons (as_for po (by rfl) (ai_enum (by rfl) V.z_enumerate (aa_cons (ae_var 0) aa_nil)) (ag_tup (by rfl) (ags_cons (ag_name (i := 2) sc_open_after.nd rfl (.inl rfl)) (ags_cons (ag_name (i := 3) sc_open_after.nd rfl (.inl rfl)) ags_nil))) (ass_cons (as_set sc_open_after.nd (i := 4) rfl (.inl rfl) (ae_bin o_sub (av (ae_var 2)) (av (ae_var 3)))) (ass_one (as_if (at_cm (o_eq hu) (av (ae_var 3)) (av ae_int) (by rfl)) (ass_one (as_set sc_open_after.nd (i := 1) rfl (.inl rfl) (ae_l (af_lst (aa_cons (ae_var 2) aa_nil))))) (ass_one (as_if (at_cm (o_in2 hu) (av (ae_var 4)) (av (ae_var 1)) (by rfl)) (ass_one (as_set sc_open_after.nd (i := 1) rfl (.inl rfl) (ae_l (af_lst (aa_star (av (ae_sl (av (ae_var 1)) ao_none (ao_some (ae_bin o_add (av (ae_index hu (av (ae_var 1)) (ae_var 4))) (av ae_int))))) (aa_cons (ae_var 2) aa_nil)))))) (ass_one (as_ret ae_non)))))))) (ass_one (as_ret (ae_var 1)))))) pure_open_after
theorem g_is_head {P : Program} {w : World} {K : PySem.W.Frag} {mg : Str → Option Value} {base : Heap} (V : Env K mg) : FnG P w K mg base 1 V.is_head.f V.is_head.fd ["shape", "first", "place"] (conc K sp_is_head) :=
  def_ok (m := m_is_head) V.is_head.F sc_is_head sp_is_head_len (fun cdv A outer s H E hgd hr tk po => have hu := LP.Room.u100 hr; (ass_one (as_ret (ae_or (ae_cm (o_eq hu) (av (ae_ix (av (ae_var 0)) (av (ae_var 2)))) (av ae_int) (by rfl)) (ae_one (ae_cm o_lt (av (ae_bin o_sub (av (ae_var 2)) (av (ae_ix (av (ae_var 0)) (av (ae_var 2)))))) (av (ae_var 1)) (by rfl))))))) pure_is_head
theorem g_is_tree {P : Program} {w : World} {K : PySem.W.Frag} {mg : Str → Option Value} {base : Heap} (V : Env K mg) : FnG P w K mg base 1 V.is_tree.f V.is_tree.fd ["value"] (conc K sp_is_tree) :=
  def_ok (m := m_is_tree) V.is_tree.F sc_is_tree sp_is_tree_len (fun cdv A outer s H E hgd hr tk po => have hu := LP.Room.u100 hr; (ass_cons (as_par2 (i := 1) (j := 2) (by rfl) sc_is_tree.nd rfl rfl rfl rfl (ap_o (af_lst (aa_cons (ae_var 0) aa_nil)) (ap_v ae_int ap_nil))) (ass_cons (as_while po (at_cm (o_neX hu) (av_o 1) (av_l (af_lst aa_nil)) (by rfl)) (ass_cons (as_set sc_is_tree.nd (i := 3) rfl (.inl rfl) (ae_pop 1)) (ass_cons (as_if (AW.at (aw_or (at_not (at_val (ae_cb c_isi (by rfl) V.z_isinstance (by rfl) (aav_cons (av (ae_var 3)) (aav_cons (av (ae_ty (by rfl) V.z_tuple (by rfl))) aav_nil))))) (aw_or1 (at_cm (o_notin2 hu) (av (ae_cb c_len (by rfl) V.z_len (by rfl) (aav_cons (av (ae_var 3)) aav_nil))) (av (ae_tup (aa_cons ae_int (aa_cons ae_int aa_nil)))) (by rfl))))) (ass_one (as_ret ae_bl)) ass_nil) (ass_cons (as_aug ip_add sc_is_tree.nd (i := 2) rfl (.inl rfl) (ae_bin o_fdiv (av (ae_cb c_len (by rfl) V.z_len (by rfl) (aav_cons (av (ae_var 3)) aav_nil))) (av ae_int))) (ass_cons (as_if (at_cm o_gt (av (ae_var 2)) (av (ae_gint (by rfl) V.i_MAX_PLACES)) (by rfl)) (ass_one (as_ret ae_bl)) ass_nil) (ass_one (as_expr (ae_extendT 1 (ae_var 3))))))))) (ass_one (as_ret (ae_cm o_gt (av (ae_var 2)) (av ae_int) (by rfl))))))) pure_is_tree
theorem g__law_stream {P : Program} {w : World} {K : PySem.W.Frag} {mg : Str → Option Value} {base : Heap} (V : Env K mg) : FnG P w K mg base 1 V._law_stream.f V._law_stream.fd ["_law_script"] (conc K spStream) := by
  refine fng_of V._law_stream.F sc__law_stream (fun vs H Q E h => ?_) (fun cdv A outer s H E hgd hr vs Q h => ⟨tStream K, ?_, ?_⟩)
  · obtain ⟨F, M, ds, _, _, r, ns, rfl, _⟩ := h
    rw [r.length]; rfl
  · exact (pss_cons (ps_setLc (i := 1) rfl sc__law_stream.nd rfl rfl rfl (pi_list (pv 0)) (own := [("_law_cell", 2)]) (blk_of (N := ["_law_script", "_law_cells", "_law_cell"]) (sc := defScope s__law_stream) (by decide +kernel)) (fun s H C cl fp => pg_name (i := 2) sc__law_stream.nd rfl (.inl rfl)) (fun s H C cl fp => pts_nil) (fun s H C cl fp => pe_callB call_abs rfl V.z_abs boot_abs (pa_cons (pv 2) pa_nil)))
      (pss_one (ps_ret (pe_lst (pa_cons (pe_lc rfl sc__law_stream.nd (pi_list (pv 1)) (own := [("_law_cell", 2)]) (blk_of (N := ["_law_script", "_law_cells", "_law_cell"]) (sc := defScope s__law_stream) (by decide +kernel)) (fun s H C cl fp => pg_name (i := 2) sc__law_stream.nd rfl (.inl rfl)) (fun s H C cl fp => pts_one (pt_cmpR op_ge (pv 2) (pe_op op_pow pe_int pe_int) rfl)) (fun s H C cl fp => pv 2))
        (pa_cons (pe_op op_cat (pv 1) (pe_lst (pa_cons (pe_op op_add (pe_callB call_len_seq rfl V.z_len boot_len (pa_cons (pv 1) pa_nil)) pe_int) pa_nil))) (pa_cons pe_int pa_nil)))))))
  · have q := pure_stream h
    obtain ⟨F, M, ds, _, _, r, ns, rfl, _⟩ := h
    cases r with
    | cons r1 r2 => cases r2; exact q

theorem sp__law_stream_mono : spStream.Mono := spStream_mono
theorem g__law_draw {P : Program} {w : World} {K : PySem.W.Frag} {mg : Str → Option Value} {base : Heap} (V : Env K mg) : FnG P w K mg base 1 V._law_draw.f V._law_draw.fd ["_law_stream_here", "_law_many"] (conc K spDraw) := by
  refine fng_of V._law_draw.F sc__law_draw (fun vs H Q E h => ?_) (fun cdv A outer s H E hgd hr vs Q h => ⟨tDraw K, PSs.nox ?_, ?_⟩)
  · obtain ⟨F, M, ds, _, _, r, _, _, _, rfl, _⟩ := h
    rw [r.length]; rfl
  · have hu := LP.Room.u100 hr
    exact (pss_cons (ps_while PassesOwn.never (pt_cmpR (op_neM hu) (pe_ix ix_list (pv 0) pe_int (fun _ _ => rfl)) (pe_lst pa_nil) rfl)
      (pss_cons (ps_set (i := 2) sc__law_draw.nd rfl (.inl rfl) (pe_ix ix_list (pe_ix ix_list (pv 0) pe_int (fun _ _ => rfl)) pe_int (fun _ _ => rfl)))
        (pss_cons (ps_if (pt_cmpR op_gt (pv 2) pe_int rfl) (pss_cons (ps_asg (pe_op op_fdiv (pv 2) (pv 1)) (pg_sub (pe_ix ix_list (pv 0) pe_int (fun _ _ => rfl)) pe_int set_list (fun _ => rfl))) (pss_one (ps_ret (pe_op op_mod (pv 2) (pv 1))))) pss_nil)
          (pss_one (ps_expr (pe_bm PySem.F.plainAttrs_list PySem.F.slot_list_pop PySem.F.type_list_pop mt_popAt (pe_ix ix_list (pv 0) pe_int (fun _ _ => rfl)) (pa_cons pe_int pa_nil)))))))
      (pss_cons (ps_set (i := 3) sc__law_draw.nd rfl (.inl rfl) (pe_op op_add (pe_ix ix_list (pv 0) pe_int (fun _ _ => rfl)) pe_int))
      (pss_cons (ps_asg (pv 3) (pg_sub (pv 0) pe_int set_list (fun _ => rfl)))
      (pss_cons (ps_set (i := 4) sc__law_draw.nd rfl (.inl rfl) (pe_op op_mod (pe_ix ix_list (pe_ix ix_list (pv 0) pe_int (fun _ _ => rfl)) (pe_op op_mod (pv 3) (pe_callB call_len_seq rfl V.z_len boot_len (pa_cons (pe_ix ix_list (pv 0) pe_int (fun _ _ => rfl)) pa_nil))) (fun _ _ => rfl)) pe_int))
      (pss_cons (ps_set (i := 5) sc__law_draw.nd rfl (.inl rfl) (pe_op op_mod (pe_op op_add (pe_op op_add (pe_op op_mul (pv 4) (pe_op op_add pe_int (pe_op op_mul pe_int (pv 3)))) (pe_op op_mul (pe_op op_mul pe_int (pv 3)) (pv 3))) pe_int) pe_int))
      (pss_one (ps_ret (pe_op op_mod (pe_op op_fdiv (pe_op op_mod (pe_op op_mul (pv 5) (pv 5)) pe_int) pe_int) (pv 1)))))))))
  · have q := pure_draw h
    obtain ⟨F, M, ds, _, _, r, _, _, _, rfl, _⟩ := h
    cases r with
    | cons r1 r2 => cases r2 with
      | cons r2 r3 => cases r3; exact q

theorem sp__law_draw_mono : spDraw.Mono := spDraw_mono
theorem g__law_shape {P : Program} {w : World} {K : PySem.W.Frag} {mg : Str → Option Value} {base : Heap} (V : Env K mg) : FnG P w K mg base 1 V._law_shape.f V._law_shape.fd ["_law_row_here"] (conc K sp__law_shape) :=
  def_ok (m := m__law_shape) V._law_shape.F sc__law_shape sp__law_shape_len (fun cdv A outer s H E hgd hr tk po => have hu := LP.Room.u100 hr; (ass_cons (as_setO sc__law_shape.nd (i := 1) rfl (.inl rfl) (af_lst aa_nil)) (ass_cons (as_for po (by rfl) (ai_r1 (by rfl) V.z_range (aa_cons (ae_cb c_len (by rfl) V.z_len (by rfl) (aav_cons (av (ae_var 0)) aav_nil)) aa_nil)) (ag_name (i := 2) sc__law_shape.nd rfl (.inr rfl)) (ass_cons (as_lc (i := 3) (by rfl) sc__law_shape.nd rfl rfl (by rfl) (ai_r1 (by rfl) V.z_range (aa_cons (ae_var 2) aa_nil)) (own := [("_law_other", 4)]) (blk_of (N := ["_law_row_here", "_law_found", "_law_place", "_law_earlier", "_law_other"]) (sc := defScope s__law_shape) (by decide +kernel)) (fun s H C cl fp => (ag_name (i := 4) sc__law_shape.nd rfl (by first | exact .inl rfl | exact .inr rfl))) (fun s H C cl fp => (ats_one (at_cm o_le (av (ae_ix (av (ae_var 0)) (av (ae_var 4)))) (av (ae_ix (av (ae_var 0)) (av (ae_var 2)))) (by rfl)))) (fun s H C cl fp => (ae_var 4))) (ass_one (as_expr (ae_append 1 (ae_if (at_cm (o_ne hu) (av (ae_var 3)) (av_l (af_lst aa_nil)) (by rfl)) (ae_bin o_sub (av (ae_var 2)) (av (ae_cb (c_max (by rfl) hu) (by rfl) V.z_max (by rfl) (aav_cons (av (ae_var 3)) aav_nil)))) ae_int)))))) (ass_one (as_ret (ae_ct c_tuple (by rfl) V.z_tuple (by rfl) (aav_cons (av_o 1) aav_nil))))))) pure__law_shape
theorem g__law_all_shapes {P : Program} {w : World} {K : PySem.W.Frag} {mg : Str → Option Value} {base : Heap} (V : Env K mg) : FnG P w K mg base 1 V._law_all_shapes.f V._law_all_shapes.fd ["_law_many"] (conc K sp__law_all_shapes) :=
  def_ok (m := m__law_all_shapes) V._law_all_shapes.F sc__law_all_shapes sp__law_all_shapes_len (fun cdv A outer s H E hgd hr tk po => have hu := LP.Room.u100 hr; (ass_cons (as_set sc__law_all_shapes.nd (i := 1) rfl (.inl rfl) (ae_l (af_lst (aa_cons (ae_tup (aa_cons (ae_tup aa_nil) (aa_cons (ae_tup aa_nil) aa_nil))) aa_nil)))) (ass_cons (as_for po (by rfl) (ai_r1 (by rfl) V.z_range (aa_cons (ae_var 0) aa_nil)) (ag_name (i := 2) sc__law_all_shapes.nd rfl (.inl rfl)) (ass_cons (as_setO sc__law_all_shapes.nd (i := 3) rfl (.inl rfl) (af_lst aa_nil)) (ass_cons (as_for po (by rfl) (ai_seq (ae_var 1)) (ag_tup (by rfl) (ags_cons (ag_name (i := 4) sc__law_all_shapes.nd rfl (.inl rfl)) (ags_cons (ag_name (i := 5) sc__law_all_shapes.nd rfl (.inl rfl)) ags_nil))) (ass_cons (as_expr (ae_append 3 (ae_tup (aa_cons (ae_bin o_add (av (ae_var 4)) (av (ae_tup (aa_cons ae_int aa_nil)))) (aa_cons (ae_tup (aa_cons (ae_var 2) aa_nil)) aa_nil))))) (ass_one (as_for po (by rfl) (ai_r3 (by rfl) V.z_range (aa_cons (ae_bin o_sub (av (ae_cb c_len (by rfl) V.z_len (by rfl) (aav_cons (av (ae_var 5)) aav_nil))) (av ae_int)) (aa_cons (ae_neg ae_int) (aa_cons (ae_neg ae_int) aa_nil)))) (ag_name (i := 6) sc__law_all_shapes.nd rfl (.inl rfl)) (ass_one (as_expr (ae_append 3 (ae_tup (aa_cons (ae_bin o_add (av (ae_var 4)) (av (ae_tup (aa_cons (ae_bin o_sub (av (ae_var 2)) (av (ae_ix (av (ae_var 5)) (av (ae_var 6))))) aa_nil)))) (aa_cons (ae_bin o_add (av (ae_sl (av (ae_var 5)) ao_none (ao_some (ae_bin o_add (av (ae_var 6)) (av ae_int))))) (av (ae_tup (aa_cons (ae_var 2) aa_nil)))) aa_nil)))))))))) (ass_one (as_set sc__law_all_shapes.nd (i := 1) rfl (.inl rfl) (ae_var 3)))))) (ass_one (as_ret (ae_l (af_lc (by rfl) sc__law_all_shapes.nd (ai_seq (ae_var 1)) (own := [("_law_shape_here", 4), ("_law_open_ones", 5)]) (blk_of (N := ["_law_many", "_law_found", "_law_place", "_law_longer", "_law_shape_here", "_law_open_ones", "_law_k"]) (sc := defScope s__law_all_shapes) (by decide +kernel)) (fun s H C cl fp => (ag_tup (by rfl) (ags_cons (ag_name (i := 4) sc__law_all_shapes.nd rfl (by first | exact .inl rfl | exact .inr rfl)) (ags_cons (ag_name (i := 5) sc__law_all_shapes.nd rfl (by first | exact .inl rfl | exact .inr rfl)) ags_nil)))) (fun s H C cl fp => ats_nil) (fun s H C cl fp => (ae_var 4))))))))) pure__law_all_shapes
theorem g_has_distances {P : Program} {w : World} {K : PySem.W.Frag} {mg : Str → Option Value} {base : Heap} (V : Env K mg) : FnG P w K mg base 2 V.has_distances.f V.has_distances.fd ["value", "most"] (conc K sp_has_distances) :=
  def_ok (m := m_has_distances) V.has_distances.F sc_has_distances sp_has_distances_len (fun cdv A outer s H E hgd hr tk po => have hu := LP.Room.u100 hr; (ass_cons (as_if (AW.at (aw_or (at_not (at_val (ae_cb c_isi (by rfl) V.z_isinstance (by rfl) (aav_cons (av (ae_var 0)) (aav_cons (av (ae_ty (by rfl) V.z_tuple (by rfl))) aav_nil))))) (aw_or1 (at_not (at_ch o_le o_le (av ae_int) (av (ae_cb c_len (by rfl) V.z_len (by rfl) (aav_cons (av (ae_var 0)) aav_nil))) (av (ae_var 1))))))) (ass_one (as_ret ae_bl)) ass_nil) (ass_one (as_ret (ae_cb (c_all (by rfl)) (by rfl) V.z_all (by rfl) (aav_cons (av_l (af_lc (by rfl) sc_has_distances.nd (ai_enum (by rfl) V.z_enumerate (aa_cons (ae_var 0) aa_nil)) (own := [("place", 2), ("distance", 3)]) (blk_of (N := ["value", "most", "place", "distance"]) (sc := defScope s_has_distances) (by decide +kernel)) (fun s H C cl fp => (ag_tup (by rfl) (ags_cons (ag_name (i := 2) sc_has_distances.nd rfl (by first | exact .inl rfl | exact .inr rfl)) (ags_cons (ag_name (i := 3) sc_has_distances.nd rfl (by first | exact .inl rfl | exact .inr rfl)) ags_nil)))) (fun s H C cl fp => ats_nil) (fun s H C cl fp => (ae_cf V.is_integer (g_is_integer V) sp_is_integer_mono (b_is_integer V.is_integer.F) hr hgd takes0 (by rfl) (aa_cons (ae_var 3) (aa_cons ae_int (aa_cons (ae_var 2) aa_nil))) (by first | omega | (rw [Nat.add_eq]; omega)))))) aav_nil)))))) pure_has_distances
theorem g_least_in {P : Program} {w : World} {K : PySem.W.Frag} {mg : Str → Option Value} {base : Heap} (V : Env K mg) : FnG P w K mg base 2 V.least_in.f V.least_in.fd ["shape", "first", "last"] (conc K sp_least_in) :=
  def_ok (m := m_least_in) V.least_in.F sc_least_in sp_least_in_len (fun cdv A outer s H E hgd hr tk po => have hu := LP.Room.u100 hr; (ass_one (as_ret (ae_cb (c_max (by rfl) hu) (by rfl) V.z_max (by rfl) (aav_cons (av_l (af_lc (by rfl) sc_least_in.nd (ai_r2 (by rfl) V.z_range (aa_cons (ae_var 1) (aa_cons (ae_bin o_add (av (ae_var 2)) (av ae_int)) aa_nil))) (own := [("place", 3)]) (blk_of (N := ["shape", "first", "last", "place"]) (sc := defScope s_least_in) (by decide +kernel)) (fun s H C cl fp => (ag_name (i := 3) sc_least_in.nd rfl (by first | exact .inl rfl | exact .inr rfl))) (fun s H C cl fp => (ats_one (at_val (ae_cf V.is_head (g_is_head V) sp_is_head_mono (b_is_head V.is_head.F) hr hgd takes0 (by rfl) (aa_cons (ae_var 0) (aa_cons (ae_var 1) (aa_cons (ae_var 3) aa_nil))) (by first | omega | (rw [Nat.add_eq]; omega)))))) (fun s H C cl fp => (ae_var 3)))) aav_nil))))) pure_least_in
theorem g__law_pick {P : Program} {w : World} {K : PySem.W.Frag} {mg : Str → Option Value} {base : Heap} (V : Env K mg) : FnG P w K mg base 2 V._law_pick.f V._law_pick.fd ["_law_stream_here", "_law_items"] (conc K sp__law_pick) :=
  def_ok (m := m__law_pick) V._law_pick.F sc__law_pick sp__law_pick_len (fun cdv A outer s H E hgd hr tk po => have hu := LP.Room.u100 hr; (ass_one (as_ret (ae_ix (av (ae_var 1)) (av (ae_cf V._law_draw (g__law_draw V) sp__law_draw_mono (b__law_draw V._law_draw.F) hr hgd tk (by rfl) (aa_cons (ae_var 0) (aa_cons (ae_cb c_len (by rfl) V.z_len (by rfl) (aav_cons (av (ae_var 1)) aav_nil)) aa_nil)) (by first | omega | (rw [Nat.add_eq]; omega)))))))) pure__law_pick
theorem g__law_row {P : Program} {w : World} {K : PySem.W.Frag} {mg : Str → Option Value} {base : Heap} (V : Env K mg) : FnG P w K mg base 2 V._law_row.f V._law_row.fd ["_law_stream_here", "_law_most"] (conc K sp__law_row) :=
  def_ok (m := m__law_row) V._law_row.F sc__law_row sp__law_row_len (fun cdv A outer s H E hgd hr tk po => have hu := LP.Room.u100 hr; (ass_cons (as_tupN (by rfl) (an_cons (i := 2) sc__law_row.nd rfl (.inr rfl) (an_cons (i := 3) sc__law_row.nd rfl (.inl rfl) an_nil)) (ap_v (ae_bin o_add (av ae_int) (av (ae_cf V._law_draw (g__law_draw V) sp__law_draw_mono (b__law_draw V._law_draw.F) hr hgd tk (by rfl) (aa_cons (ae_var 0) (aa_cons (ae_var 1) aa_nil)) (by first | omega | (rw [Nat.add_eq]; omega))))) (ap_v (ae_cf V._law_draw (g__law_draw V) sp__law_draw_mono (b__law_draw V._law_draw.F) hr hgd tk (by rfl) (aa_cons (ae_var 0) (aa_cons ae_int aa_nil)) (by first | omega | (rw [Nat.add_eq]; omega))) ap_nil))) (ass_cons (as_set sc__law_row.nd (i := 4) rfl (.inr rfl) (ae_ix (av_l (af_lst (aa_cons ae_int (aa_cons ae_int (aa_cons ae_int (aa_cons ae_int (aa_cons ae_int (aa_cons (ae_bin o_pow (av ae_int) (av ae_int)) aa_nil)))))))) (av (ae_var 3)))) (ass_cons (as_lc (i := 5) (by rfl) sc__law_row.nd rfl rfl (by rfl) (ai_r1 (by rfl) V.z_range (aa_cons (ae_var 2) aa_nil)) (own := [("_law_place", 6)]) (blk_of (N := ["_law_stream_here", "_law_most", "_law_size", "_law_way", "_law_width", "_law_entries", "_law_place", "_law_k", "_law_entry"]) (sc := defScope s__law_row) (by decide +kernel)) (fun s H C cl fp => (ag_name (i := 6) sc__law_row.nd rfl (by first | exact .inl rfl | exact .inr rfl))) (fun s H C cl fp => ats_nil) (fun s H C cl fp => (ae_cf V._law_draw (g__law_draw V) sp__law_draw_mono (b__law_draw V._law_draw.F) hr hgd takes0 (by rfl) (aa_cons (ae_var 0) (aa_cons (ae_var 4) aa_nil)) (by first | omega | (rw [Nat.add_eq]; omega))))) (ass_cons (as_if (at_cm (o_eq hu) (av (ae_var 3)) (av ae_int) (by rfl)) (ass_one (as_lc (i := 5) (by rfl) sc__law_row.nd rfl rfl (by rfl) (ai_r1 (by rfl) V.z_range (aa_cons (ae_var 2) aa_nil)) (own := [("_law_k", 7)]) (blk_of (N := ["_law_stream_here", "_law_most", "_law_size", "_law_way", "_law_width", "_law_entries", "_law_place", "_law_k", "_law_entry"]) (sc := defScope s__law_row) (by decide +kernel)) (fun s H C cl fp => (ag_name (i := 7) sc__law_row.nd rfl (by first | exact .inl rfl | exact .inr rfl))) (fun s H C cl fp => ats_nil) (fun s H C cl fp => (ae_ix (av_l (af_lst (aa_cons (ae_var 7) (aa_cons (ae_bin o_sub (av (ae_var 2)) (av (ae_var 7))) (aa_cons ae_int aa_nil))))) (av (ae_cf V._law_draw (g__law_draw V) sp__law_draw_mono (b__law_draw V._law_draw.F) hr hgd takes0 (by rfl) (aa_cons (ae_var 0) (aa_cons ae_int aa_nil)) (by first | omega | (rw [Nat.add_eq]; omega)))))))) ass_nil) (ass_cons (as_if (at_cm (o_eq hu) (av (ae_var 3)) (av ae_int) (by rfl)) (ass_one (as_lc (i := 5) (by rfl) sc__law_row.nd rfl rfl (by rfl) (ai_seq (ae_var 5)) (own := [("_law_entry", 8)]) (blk_of (N := ["_law_stream_here", "_law_most", "_law_size", "_law_way", "_law_width", "_law_entries", "_law_place", "_law_k", "_law_entry"]) (sc := defScope s__law_row) (by decide +kernel)) (fun s H C cl fp => (ag_name (i := 8) sc__law_row.nd rfl (by first | exact .inl rfl | exact .inr rfl))) (fun s H C cl fp => ats_nil) (fun s H C cl fp => (ae_ix (av_l (af_lst (aa_cons (ae_var 8) (aa_cons (ae_bin o_sub (av ae_int) (av (ae_var 8))) (aa_cons (ae_bin o_pow (av ae_int) (av ae_int)) (aa_cons (ae_bin o_sub (av ae_int) (av (ae_bin o_pow (av ae_int) (av ae_int)))) aa_nil)))))) (av (ae_cf V._law_draw (g__law_draw V) sp__law_draw_mono (b__law_draw V._law_draw.F) hr hgd takes0 (by rfl) (aa_cons (ae_var 0) (aa_cons ae_int aa_nil)) (by first | omega | (rw [Nat.add_eq]; omega)))))))) ass_nil) (ass_cons (as_if (AW.at (aw_and (at_cm (o_eq hu) (av (ae_var 3)) (av ae_int) (by rfl)) (aw_and1 (at_cm (o_eq hu) (av (ae_cf V._law_draw (g__law_draw V) sp__law_draw_mono (b__law_draw V._law_draw.F) hr hgd tk (by rfl) (aa_cons (ae_var 0) (aa_cons ae_int aa_nil)) (by first | omega | (rw [Nat.add_eq]; omega)))) (av ae_int) (by rfl))))) (ass_one (as_set sc__law_row.nd (i := 5) rfl (.inl rfl) (ae_l (af_step (av_l (af_cb f_sorted (by rfl) V.z_sorted (by rfl) (aav_cons (av (ae_var 5)) aav_nil))) (ae_ix (av_l (af_lst (aa_cons ae_int (aa_cons (ae_neg ae_int) aa_nil)))) (av (ae_cf V._law_draw (g__law_draw V) sp__law_draw_mono (b__law_draw V._law_draw.F) hr hgd tk (by rfl) (aa_cons (ae_var 0) (aa_cons ae_int aa_nil)) (by first | omega | (rw [Nat.add_eq]; omega))))))))) ass_nil) (ass_one (as_ret (ae_ct c_tuple (by rfl) V.z_tuple (by rfl) (aav_cons (av (ae_var 5)) aav_nil))))))))))) pure__law_row
theorem g_is_shape_of {P : Program} {w : World} {K : PySem.W.Frag} {mg : Str → Option Value} {base : Heap} (V : Env K mg) : FnG P w K mg base 3 V.is_shape_of.f V.is_shape_of.fd ["value", "most"] (conc K sp_is_shape_of) :=
  def_ok (m := m_is_shape_of) V.is_shape_of.F sc_is_shape_of sp_is_shape_of_len (fun cdv A outer s H E hgd hr tk po => have hu := LP.Room.u100 hr; (ass_one (as_ret (ae_and (ae_cf V.has_distances (g_has_distances V) sp_has_distances_mono (b_has_distances V.has_distances.F) hr hgd tk (by rfl) (aa_cons (ae_var 0) (aa_cons (ae_var 1) aa_nil)) (by first | omega | (rw [Nat.add_eq]; omega))) (ae_one (ae_cm o_isnot (av (ae_cf V.open_after (g_open_after V) sp_open_after_mono (b_open_after V.open_after.F) hr hgd tk (by rfl) (aa_cons (ae_var 0) aa_nil) (by first | omega | (rw [Nat.add_eq]; omega)))) (av ae_non) (by rfl))))))) pure_is_shape_of
theorem g_is_shape {P : Program} {w : World} {K : PySem.W.Frag} {mg : Str → Option Value} {base : Heap} (V : Env K mg) : FnG P w K mg base 4 V.is_shape.f V.is_shape.fd ["value"] (conc K sp_is_shape) :=
  def_ok (m := m_is_shape) V.is_shape.F sc_is_shape sp_is_shape_len (fun cdv A outer s H E hgd hr tk po => have hu := LP.Room.u100 hr; (ass_one (as_ret (ae_cf V.is_shape_of (g_is_shape_of V) sp_is_shape_of_mono (b_is_shape_of V.is_shape_of.F) hr hgd tk (by rfl) (aa_cons (ae_var 0) (aa_cons (ae_gint (by rfl) V.i_MAX_PLACES) aa_nil)) (by first | omega | (rw [Nat.add_eq]; omega)))))) pure_is_shape
theorem g__law_drawn {P : Program} {w : World} {K : PySem.W.Frag} {mg : Str → Option Value} {base : Heap} (V : Env K mg) : ∀ n : Nat, FnG P w K mg base (2 + n) V._law_drawn.f V._law_drawn.fd ["_law_stream_here", "_law_many"] (conc K (sp__law_drawn n))
  | 0 => fng_never (sp__law_drawn 0) (by intro ds M Q E h; first | exact h | exact sp__law_drawn_0 ds M Q E h)
  | n + 1 => by
    have ih := g__law_drawn (P := P) (w := w) (base := base) V n
    exact def_ok (m := m__law_drawn n) V._law_drawn.F sc__law_drawn (sp__law_drawn_len (n + 1)) (fun cdv A outer s H E hgd hr tk po => have hu := LP.Room.u100 hr; (ass_cons (as_if (at_cm (o_eq hu) (av (ae_var 1)) (av ae_int) (by rfl)) (ass_one (as_ret (ae_tup aa_nil))) ass_nil) (ass_cons (as_set sc__law_drawn.nd (i := 2) rfl (.inl rfl) (ae_ix (av_l (af_lst (aa_cons (ae_cf V._law_draw (g__law_draw V) sp__law_draw_mono (b__law_draw V._law_draw.F) hr hgd tk (by rfl) (aa_cons (ae_var 0) (aa_cons (ae_var 1) aa_nil)) (by first | omega | (rw [Nat.add_eq]; omega))) (aa_cons ae_int (aa_cons (ae_bin o_sub (av (ae_var 1)) (av ae_int)) aa_nil))))) (av (ae_cf V._law_draw (g__law_draw V) sp__law_draw_mono (b__law_draw V._law_draw.F) hr hgd tk (by rfl) (aa_cons (ae_var 0) (aa_cons ae_int aa_nil)) (by first | omega | (rw [Nat.add_eq]; omega)))))) (ass_one (as_ret (ae_tup (aa_cons (ae_cf V._law_drawn ih (sp__law_drawn_mono n) (b__law_drawn V._law_drawn.F) hr hgd tk (by rfl) (aa_cons (ae_var 0) (aa_cons (ae_var 2) aa_nil)) (by first | omega | (rw [Nat.add_eq]; omega))) (aa_cons (ae_cf V._law_drawn ih (sp__law_drawn_mono n) (b__law_drawn V._law_drawn.F) hr hgd tk (by rfl) (aa_cons (ae_var 0) (aa_cons (ae_bin o_sub (av (ae_bin o_sub (av (ae_var 1)) (av ae_int))) (av (ae_var 2))) aa_nil)) (by first | omega | (rw [Nat.add_eq]; omega))) aa_nil)))))))) (pure__law_drawn n)
theorem g_tree_from {P : Program} {w : World} {K : PySem.W.Frag} {mg : Str → Option Value} {base : Heap} (V : Env K mg) : ∀ n : Nat, FnG P w K mg base (3 + n) V.tree_from.f V.tree_from.fd ["shape", "first", "last"] (conc K (sp_tree_from n))
  | 0 => fng_never (sp_tree_from 0) (by intro ds M Q E h; first | exact h | exact sp_tree_from_0 ds M Q E h)
  | n + 1 => by
    have ih := g_tree_from (P := P) (w := w) (base := base) V n
    exact def_ok (m := m_tree_from n) V.tree_from.F sc_tree_from (sp_tree_from_len (n + 1)) (fun cdv A outer s H E hgd hr tk po => have hu := LP.Room.u100 hr; (ass_cons (as_if (at_cm o_gt (av (ae_var 1)) (av (ae_var 2)) (by rfl)) (ass_one (as_ret (ae_tup aa_nil))) ass_nil) (ass_cons (as_set sc_tree_from.nd (i := 3) rfl (.inl rfl) (ae_cf V.least_in (g_least_in V) sp_least_in_mono (b_least_in V.least_in.F) hr hgd tk (by rfl) (aa_cons (ae_var 0) (aa_cons (ae_var 1) (aa_cons (ae_var 2) aa_nil))) (by first | omega | (rw [Nat.add_eq]; omega)))) (ass_one (as_ret (ae_tup (aa_cons (ae_cf V.tree_from ih (sp_tree_from_mono n) (b_tree_from V.tree_from.F) hr hgd tk (by rfl) (aa_cons (ae_var 0) (aa_cons (ae_var 1) (aa_cons (ae_bin o_sub (av (ae_var 3)) (av ae_int)) aa_nil))) (by first | omega | (rw [Nat.add_eq]; omega))) (aa_cons (ae_cf V.tree_from ih (sp_tree_from_mono n) (b_tree_from V.tree_from.F) hr hgd tk (by rfl) (aa_cons (ae_var 0) (aa_cons (ae_bin o_add (av (ae_var 3)) (av ae_int)) (aa_cons (ae_var 2) aa_nil))) (by first | omega | (rw [Nat.add_eq]; omega))) aa_nil)))))))) (pure_tree_from n)
theorem g_tree_of {P : Program} {w : World} {K : PySem.W.Frag} {mg : Str → Option Value} {base : Heap} (V : Env K mg) : FnG P w K mg base 68 V.tree_of.f V.tree_of.fd ["shape"] (conc K sp_tree_of) :=
  def_ok (m := m_tree_of) V.tree_of.F sc_tree_of sp_tree_of_len (fun cdv A outer s H E hgd hr tk po => have hu := LP.Room.u100 hr; (ass_one (as_ret (ae_cf V.tree_from (g_tree_from V 64) (sp_tree_from_mono 64) (b_tree_from V.tree_from.F) hr hgd tk (by rfl) (aa_cons (ae_var 0) (aa_cons ae_int (aa_cons (ae_bin o_sub (av (ae_cb c_len (by rfl) V.z_len (by rfl) (aav_cons (av (ae_var 0)) aav_nil))) (av ae_int)) aa_nil))) (by first | omega | (rw [Nat.add_eq]; omega)))))) pure_tree_of
theorem g_entries_of {P : Program} {w : World} {K : PySem.W.Frag} {mg : Str → Option Value} {base : Heap} (V : Env K mg) : ∀ n : Nat, Lo.GFnA P w K mg base (1 + 3 * n) V.entries_of.f V.entries_of.fd ["tree", "entry"] (sp_entries_of n)
  | 0 => Lo.gfn_never (sp_entries_of 0) (fun ds ys h => h)
  | n + 1 => by
    have ih := g_entries_of (P := P) (w := w) (base := base) V n
    exact Lo.gdef_ok (m := m_entries_of n) V.entries_of.F sc_entries_of (by decide +kernel) (sp_entries_of_len (n + 1)) (fun cdv outer n0 g => (Lo.y_cons (Lo.y_if (fun d hgd hr => have hr : Room (1 + 3 * n + 3) _ := hr; have hu := LP.Room.u100 hr; (at_cm (o_neX hu) (av (ae_var 0)) (av (ae_tup aa_nil)) (by rfl))) (Lo.y_cons (Lo.y_ps (fun d hgd hr => have hr : Room (1 + 3 * n + 3) _ := hr; have hu := LP.Room.u100 hr; (as_asg (ae_var 0) (ag_tup (by rfl) (ags_cons (ag_name (i := 2) sc_entries_of.nd rfl (.inl rfl)) (ags_cons (ag_name (i := 3) sc_entries_of.nd rfl (.inl rfl)) ags_nil)))))) (Lo.y_cons (Lo.y_from (by dsimp only; omega) (fun d hgd hr => have hr : Room (1 + 3 * n + 3) _ := hr; have hu := LP.Room.u100 hr; (Lo.agn_call (W := W0) ih (hr.mono (by omega)) hgd (by rfl) V.entries_of.g V.entries_of.F.kp (b_entries_of V.entries_of.F) (aa_cons (ae_var 2) (aa_cons (ae_bin o_add (av (ae_var 1)) (av ae_int)) aa_nil)))) (by rfl)) (Lo.y_cons (Lo.y_yield (fun d hgd hr => have hr : Room (1 + 3 * n + 3) _ := hr; have hu := LP.Room.u100 hr; (ae_var 1)) (by rfl) (by rfl)) (Lo.y_cons (Lo.y_from (by dsimp only; omega) (fun d hgd hr => have hr : Room (1 + 3 * n + 3) _ := hr; have hu := LP.Room.u100 hr; (Lo.agn_call (W := W0) ih (hr.mono (by omega)) hgd (by rfl) V.entries_of.g V.entries_of.F.kp (b_entries_of V.entries_of.F) (aa_cons (ae_var 3) (aa_cons (ae_var 1) aa_nil)))) (by rfl)) Lo.y_nil)))) Lo.y_nil) Lo.y_nil)) (pure_entries_of n)
theorem g_tree_shape {P : Program} {w : World} {K : PySem.W.Frag} {mg : Str → Option Value} {base : Heap} (V : Env K mg) : Lo.FnL P w K mg base 203 V.tree_shape.f V.tree_shape.fd ["tree"] sp_tree_shape :=
  Lo.ldef_ok (m := m_tree_shape) V.tree_shape.F sc_tree_shape sp_tree_shape_len (fun cdv A outer s H E hgd hr tk po => have hu := LP.Room.u100 hr; (Lo.ss2_cons (Lo.s2_set sc_tree_shape.nd (i := 1) rfl (.inr rfl) (Lo.e2_tupG rfl (Lo.agn_call (W := W0) (g_entries_of V 64) (hr.mono (by omega)) hgd (by rfl) V.entries_of.g V.entries_of.F.kp (b_entries_of V.entries_of.F) (aa_cons (ae_var 0) (aa_cons ae_int aa_nil))) (hr.mono (by omega)) hgd (by rfl) V.z_tuple)) (Lo.ss2_of rfl (ass_cons (as_setO sc_tree_shape.nd (i := 2) rfl (.inl rfl) (af_lst aa_nil)) (ass_cons (as_for po (by rfl) (ai_enum (by rfl) V.z_enumerate (aa_cons (ae_var 1) aa_nil)) (ag_tup (by rfl) (ags_cons (ag_name (i := 3) sc_tree_shape.nd rfl (.inl rfl)) (ags_cons (ag_name (i := 4) sc_tree_shape.nd rfl (.inr rfl)) ags_nil))) (ass_cons (as_lc (i := 5) (by rfl) sc_tree_shape.nd rfl rfl (by rfl) (ai_r1 (by rfl) V.z_range (aa_cons (ae_var 3) aa_nil)) (own := [("other", 6)]) (blk_of (N := ["tree", "entries", "found", "place", "entry", "earlier", "other"]) (sc := defScope s_tree_shape) (by decide +kernel)) (fun s H C cl fp => (ag_name (i := 6) sc_tree_shape.nd rfl (by first | exact .inl rfl | exact .inr rfl))) (fun s H C cl fp => (ats_one (at_cm o_le (av (ae_ix (av (ae_var 1)) (av (ae_var 6)))) (av (ae_var 4)) (by rfl)))) (fun s H C cl fp => (ae_var 6))) (ass_one (as_expr (ae_append 2 (ae_if (at_cm (o_ne hu) (av (ae_var 5)) (av_l (af_lst aa_nil)) (by rfl)) (ae_bin o_sub (av (ae_var 3)) (av (ae_cb (c_max (by rfl) hu) (by rfl) V.z_max (by rfl) (aav_cons (av (ae_var 5)) aav_nil)))) ae_int)))))) (ass_one (as_ret (ae_ct c_tuple (by rfl) V.z_tuple (by rfl) (aav_cons (av_o 2) aav_nil))))))))) (fun ds M Q h => pure_tree_shape ds M Q _ h)
theorem g_law {P : Program} {w : World} {K : PySem.W.Frag} {mg : Str → Option Value} {base : Heap} (V : Env K mg) : Lo.FnL P w K mg base 204 V.law.f V.law.fd ["_law_script"] sp_law :=
  Lo.ldef_ok (m := m_law) V.law.F sc_law sp_law_len (fun cdv A outer s H E hgd hr tk po => have hu := LP.Room.u100 hr; (Lo.ss2_cons (Lo.s2_of rfl (as_set sc_law.nd (i := 1) rfl (.inl rfl) (ae_cf V._law_stream (g__law_stream V) sp__law_stream_mono (b__law_stream V._law_stream.F) hr hgd tk (by rfl) (aa_cons (ae_var 0) aa_nil) (by first | omega | (rw [Nat.add_eq]; omega))))) (Lo.ss2_cons (Lo.s2_for rfl (by rfl) (ai_r1 (by rfl) V.z_range (aa_cons ae_int aa_nil)) (ag_name (i := 2) sc_law.nd rfl (.inl rfl)) (Lo.ss2_cons (Lo.s2_of rfl (as_par2 (i := 3) (j := 4) (by rfl) sc_law.nd rfl rfl rfl rfl (ap_v (ae_cf V._law_shape (g__law_shape V) sp__law_shape_mono (b__law_shape V._law_shape.F) hr hgd tk (by rfl) (aa_cons (ae_cf V._law_row (g__law_row V) sp__law_row_mono (b__law_row V._law_row.F) hr hgd tk (by rfl) (aa_cons (ae_var 1) (aa_cons ae_int aa_nil)) (by first | omega | (rw [Nat.add_eq]; omega))) aa_nil) (by first | omega | (rw [Nat.add_eq]; omega))) (ap_v (ae_cf V._law_drawn (g__law_drawn V 64) (sp__law_drawn_mono 64) (b__law_drawn V._law_drawn.F) hr hgd tk (by rfl) (aa_cons (ae_var 1) (aa_cons (ae_bin o_add (av ae_int) (av (ae_cf V._law_draw (g__law_draw V) sp__law_draw_mono (b__law_draw V._law_draw.F) hr hgd tk (by rfl) (aa_cons (ae_var 1) (aa_cons ae_int aa_nil)) (by first | omega | (rw [Nat.add_eq]; omega))))) aa_nil)) (by first | omega | (rw [Nat.add_eq]; omega))) ap_nil)))) (Lo.ss2_cons (Lo.s2_if (Lo.t2_w (Lo.w2_or (Lo.t2_of rfl (at_cm o_isnotB (av (ae_cf V.is_tree (g_is_tree V) sp_is_tree_mono (b_is_tree V.is_tree.F) hr hgd tk (by rfl) (aa_cons (ae_cf V.tree_of (g_tree_of V) sp_tree_of_mono (b_tree_of V.tree_of.F) hr hgd tk (by rfl) (aa_cons (ae_var 3) aa_nil) (by first | omega | (rw [Nat.add_eq]; omega))) aa_nil) (by first | omega | (rw [Nat.add_eq]; omega)))) (av ae_bl) (by rfl))) (Lo.w2_or1 (Lo.t2_cm rfl (o_ne hu) (Lo.v2_e (Lo.e2_cb rfl (c_repr hgd hu) (by rfl) V.z_repr (by rfl) (Lo.av2_cons (Lo.v2_e (Lo.e2_call (g_tree_shape V) (hr.mono (by omega)) hgd (by rfl) V.tree_shape.g V.tree_shape.F.kp (b_tree_shape V.tree_shape.F) (Lo.a2_of rfl (aa_cons (ae_cf V.tree_of (g_tree_of V) sp_tree_of_mono (b_tree_of V.tree_of.F) hr hgd tk (by rfl) (aa_cons (ae_var 3) aa_nil) (by first | omega | (rw [Nat.add_eq]; omega))) aa_nil)))) Lo.av2_nil))) (Lo.v2_of rfl (av (ae_cb (c_repr hgd hu) (by rfl) V.z_repr (by rfl) (aav_cons (av (ae_var 3)) aav_nil)))) (by rfl))))) (Lo.ss2_of rfl (ass_one (as_ret ae_bl))) (Lo.ss2_of rfl ass_nil)) (Lo.ss2_one (Lo.s2_if (Lo.t2_w (Lo.w2_or (Lo.t2_cm rfl o_isnotB (Lo.v2_e (Lo.e2_callQ rfl (g_is_shape V) sp_is_shape_mono (hr.mono (by omega)) hgd (by rfl) V.is_shape.g V.is_shape.F.kp (b_is_shape V.is_shape.F) (Lo.a2_cons (Lo.e2_call (g_tree_shape V) (hr.mono (by omega)) hgd (by rfl) V.tree_shape.g V.tree_shape.F.kp (b_tree_shape V.tree_shape.F) (Lo.a2_of rfl (aa_cons (ae_var 4) aa_nil))) Lo.a2_nil))) (Lo.v2_of rfl (av ae_bl)) (by rfl)) (Lo.w2_or1 (Lo.t2_cm rfl (o_ne hu) (Lo.v2_e (Lo.e2_cb rfl (c_repr hgd hu) (by rfl) V.z_repr (by rfl) (Lo.av2_cons (Lo.v2_e (Lo.e2_callQ rfl (g_tree_of V) sp_tree_of_mono (hr.mono (by omega)) hgd (by rfl) V.tree_of.g V.tree_of.F.kp (b_tree_of V.tree_of.F) (Lo.a2_cons (Lo.e2_call (g_tree_shape V) (hr.mono (by omega)) hgd (by rfl) V.tree_shape.g V.tree_shape.F.kp (b_tree_shape V.tree_shape.F) (Lo.a2_of rfl (aa_cons (ae_var 4) aa_nil))) Lo.a2_nil))) Lo.av2_nil))) (Lo.v2_of rfl (av (ae_cb (c_repr hgd hu) (by rfl) V.z_repr (by rfl) (aav_cons (av (ae_var 4)) aav_nil)))) (by rfl))))) (Lo.ss2_of rfl (ass_one (as_ret ae_bl))) (Lo.ss2_of rfl ass_nil)))))) (Lo.ss2_cons (Lo.s2_of rfl (as_set sc_law.nd (i := 5) rfl (.inl rfl) (ae_cf V._law_all_shapes (g__law_all_shapes V) sp__law_all_shapes_mono (b__law_all_shapes V._law_all_shapes.F) hr hgd tk (by rfl) (aa_cons (ae_bin o_add (av ae_int) (av (ae_cf V._law_draw (g__law_draw V) sp__law_draw_mono (b__law_draw V._law_draw.F) hr hgd tk (by rfl) (aa_cons (ae_var 1) (aa_cons ae_int aa_nil)) (by first | omega | (rw [Nat.add_eq]; omega))))) aa_nil) (by first | omega | (rw [Nat.add_eq]; omega))))) (Lo.ss2_cons (Lo.s2_of rfl (as_lc (i := 6) (by rfl) sc_law.nd rfl rfl (by rfl) (ai_seq (ae_var 5)) (own := [("_law_shape_here", 3)]) (blk_of (N := ["_law_script", "_law_stream_here", "_law_turn", "_law_shape_here", "_law_tree", "_law_shapes", "_law_trees"]) (sc := defScope s_law) (by decide +kernel)) (fun s H C cl fp => (ag_name (i := 3) sc_law.nd rfl (by first | exact .inl rfl | exact .inr rfl))) (fun s H C cl fp => ats_nil) (fun s H C cl fp => (ae_cf V.tree_of (g_tree_of V) sp_tree_of_mono (b_tree_of V.tree_of.F) hr hgd takes0 (by rfl) (aa_cons (ae_var 3) aa_nil) (by first | omega | (rw [Nat.add_eq]; omega)))))) (Lo.ss2_cons (Lo.s2_if (Lo.t2_cm rfl (o_ne hu) (Lo.v2_e (Lo.e2_lcl rfl (by rfl) sc_law.nd (Lo.i2_seq (Lo.e2_of rfl (ae_var 6))) (own := [("_law_tree", 4)]) (blk_of (N := ["_law_script", "_law_stream_here", "_law_turn", "_law_shape_here", "_law_tree", "_law_shapes", "_law_trees"]) (sc := defScope s_law) (by decide +kernel)) (fun s H C cl fp => (ag_name (i := 4) sc_law.nd rfl (by first | exact .inl rfl | exact .inr rfl))) (fun s H C cl fp => Lo.t2s_nil) (fun s H C cl fp => (Lo.e2_call (g_tree_shape V) (hr.mono (by omega)) hgd (by rfl) V.tree_shape.g V.tree_shape.F.kp (b_tree_shape V.tree_shape.F) (Lo.a2_of rfl (aa_cons (ae_var 4) aa_nil)))))) (Lo.v2_of rfl (av (ae_var 5))) (by rfl)) (Lo.ss2_of rfl (ass_one (as_ret ae_bl))) (Lo.ss2_of rfl ass_nil)) (Lo.ss2_of rfl (ass_one (as_ret (ae_cm (o_eq hu) (av (ae_lenSetS (by rfl) (by rfl) V.z_len (by rfl) V.z_set (ae_l (af_lc (by rfl) sc_law.nd (ai_seq (ae_var 6)) (own := [("_law_tree", 4)]) (blk_of (N := ["_law_script", "_law_stream_here", "_law_turn", "_law_shape_here", "_law_tree", "_law_shapes", "_law_trees"]) (sc := defScope s_law) (by decide +kernel)) (fun s H C cl fp => (ag_name (i := 4) sc_law.nd rfl (by first | exact .inl rfl | exact .inr rfl))) (fun s H C cl fp => ats_nil) (fun s H C cl fp => (ae_cb (c_repr hgd hu) (by rfl) V.z_repr (by rfl) (aav_cons (av (ae_var 4)) aav_nil))))))) (av (ae_cb c_len (by rfl) V.z_len (by rfl) (aav_cons (av (ae_var 5)) aav_nil))) (by rfl))))))))))) (fun ds M Q h => pure_law ds M Q _ h)
/-! the head -/
def dd_is_integer : He.DefD := ⟨("is_integer", none), "is_integer", "is_integer", defArgs s_is_integer, defBody s_is_integer, defScope s_is_integer, [], []⟩
def dd_open_after : He.DefD := ⟨("open_after", none), "open_after", "open_after", defArgs s_open_after, defBody s_open_after, defScope s_open_after, [], []⟩
def dd_has_distances : He.DefD := ⟨("has_distances", none), "has_distances", "has_distances", defArgs s_has_distances, defBody s_has_distances, defScope s_has_distances, [], []⟩
def dd_is_shape_of : He.DefD := ⟨("is_shape_of", none), "is_shape_of", "is_shape_of", defArgs s_is_shape_of, defBody s_is_shape_of, defScope s_is_shape_of, [], []⟩
def dd_is_shape : He.DefD := ⟨("is_shape", none), "is_shape", "is_shape", defArgs s_is_shape, defBody s_is_shape, defScope s_is_shape, [], []⟩
def dd_is_head : He.DefD := ⟨("is_head", none), "is_head", "is_head", defArgs s_is_head, defBody s_is_head, defScope s_is_head, [], []⟩
def dd_least_in : He.DefD := ⟨("least_in", none), "least_in", "least_in", defArgs s_least_in, defBody s_least_in, defScope s_least_in, [], []⟩
def dd_is_tree : He.DefD := ⟨("is_tree", none), "is_tree", "is_tree", defArgs s_is_tree, defBody s_is_tree, defScope s_is_tree, [], []⟩
def dd_tree_from : He.DefD := ⟨("tree_from", none), "tree_from", "tree_from", defArgs s_tree_from, defBody s_tree_from, defScope s_tree_from, [], []⟩
def dd_tree_of : He.DefD := ⟨("tree_of", none), "tree_of", "tree_of", defArgs s_tree_of, defBody s_tree_of, defScope s_tree_of, [], []⟩
def dd_entries_of : He.DefD := ⟨("entries_of", none), "entries_of", "entries_of", defArgs s_entries_of, defBody s_entries_of, defScope s_entries_of, [], []⟩
def dd_tree_shape : He.DefD := ⟨("tree_shape", none), "tree_shape", "tree_shape", defArgs s_tree_shape, defBody s_tree_shape, defScope s_tree_shape, [], []⟩
def dd__law_stream : He.DefD := ⟨("_law_stream", none), "_law_stream", "_law_stream", defArgs s__law_stream, defBody s__law_stream, defScope s__law_stream, [], []⟩
def dd__law_draw : He.DefD := ⟨("_law_draw", none), "_law_draw", "_law_draw", defArgs s__law_draw, defBody s__law_draw, defScope s__law_draw, [], []⟩
def dd__law_pick : He.DefD := ⟨("_law_pick", none), "_law_pick", "_law_pick", defArgs s__law_pick, defBody s__law_pick, defScope s__law_pick, [], []⟩
def dd__law_row : He.DefD := ⟨("_law_row", none), "_law_row", "_law_row", defArgs s__law_row, defBody s__law_row, defScope s__law_row, [], []⟩
def dd__law_shape : He.DefD := ⟨("_law_shape", none), "_law_shape", "_law_shape", defArgs s__law_shape, defBody s__law_shape, defScope s__law_shape, [], []⟩
def dd__law_drawn : He.DefD := ⟨("_law_drawn", none), "_law_drawn", "_law_drawn", defArgs s__law_drawn, defBody s__law_drawn, defScope s__law_drawn, [], []⟩
def dd__law_all_shapes : He.DefD := ⟨("_law_all_shapes", none), "_law_all_shapes", "_law_all_shapes", defArgs s__law_all_shapes, defBody s__law_all_shapes, defScope s__law_all_shapes, [], []⟩
def dd_law : He.DefD := ⟨("law", none), "law", "law", defArgs s_law, defBody s_law, defScope s_law, [], []⟩
def fn : List He.DefD := [dd_is_integer, dd_open_after, dd_has_distances, dd_is_shape_of, dd_is_shape, dd_is_head, dd_least_in, dd_is_tree, dd_tree_from, dd_tree_of, dd_entries_of, dd_tree_shape, dd__law_stream, dd__law_draw, dd__law_pick, dd__law_row, dd__law_shape, dd__law_drawn, dd__law_all_shapes, dd_law]
def fa : List He.Fa := [.glo "is_integer", .glo "open_after", .glo "has_distances", .glo "is_shape_of", .glo "is_shape", .glo "is_head", .glo "least_in", .glo "is_tree", .glo "tree_from", .glo "tree_of", .glo "entries_of", .glo "tree_shape", .glo "_law_stream", .glo "_law_draw", .glo "_law_pick", .glo "_law_row", .glo "_law_shape", .glo "_law_drawn", .glo "_law_all_shapes", .glo "law", .free "abs", .free "all", .free "bool", .free "enumerate", .free "int", .free "isinstance", .free "len", .free "max", .free "range", .free "repr", .free "set", .free "sorted", .free "tuple", .int "MAX_PLACES" 12]
abbrev R : PySem.W.OpenRow := PySem.W.OpenLaw.row PySem.Challenge.rw_leastplaces_k16_whole_trees_there_and_ba
abbrev hk : PySem.W.Hook := He.hookD 4 fa fn
def ob (s : PySem.W.SharedT) : He.AlD := He.obsDG 4 fa fn (HandSHeadRun.getT s)
theorem ob_eq (s : PySem.W.SharedT) : ob s = hk.obs s.abs := He.obsDG_eq (HandSHeadRun.getT_eq s)
theorem run (w : World) : HandSHeadRun.RunEq R (PySem.W.view R.prog [24]) hk ob 4000 ["is_integer", "open_after", "has_distances", "is_shape_of", "is_shape", "is_head", "least_in", "is_tree", "tree_from", "tree_of", "entries_of", "tree_shape", "_law_stream", "_law_draw", "_law_pick", "_law_row", "_law_shape", "_law_drawn", "_law_all_shapes", "MAX_PLACES"] w := by
  intro os
  kernel_rfl
theorem facts {P : Program} {w : World} {K : PySem.W.Frag} {hh : Heap} {mg : Str → Option Value} {f : Addr} (X : K.In hh) (G : hh.Ns mainGlobals mg) (hfa : mg ("law" : Str) = some (.ref f)) (c : He.SaysD fa fn K) :
    ∃ fd : FuncData, (∀ (s : Shared) (v : Value), BindsTo s fd ⟨[v], []⟩ [("_law_script", v)]) ∧ ∀ base : Heap, K.In base → base.Ns mainGlobals mg → Lo.FnL P w K mg base 204 f fd ["_law_script"] (spLaw 63) := by
  obtain ⟨fd0, F0⟩ := c.def_ 0 (d := dd_is_integer) rfl
  obtain ⟨fd1, F1⟩ := c.def_ 1 (d := dd_open_after) rfl
  obtain ⟨fd2, F2⟩ := c.def_ 2 (d := dd_has_distances) rfl
  obtain ⟨fd3, F3⟩ := c.def_ 3 (d := dd_is_shape_of) rfl
  obtain ⟨fd4, F4⟩ := c.def_ 4 (d := dd_is_shape) rfl
  obtain ⟨fd5, F5⟩ := c.def_ 5 (d := dd_is_head) rfl
  obtain ⟨fd6, F6⟩ := c.def_ 6 (d := dd_least_in) rfl
  obtain ⟨fd7, F7⟩ := c.def_ 7 (d := dd_is_tree) rfl
  obtain ⟨fd8, F8⟩ := c.def_ 8 (d := dd_tree_from) rfl
  obtain ⟨fd9, F9⟩ := c.def_ 9 (d := dd_tree_of) rfl
  obtain ⟨fd10, F10⟩ := c.def_ 10 (d := dd_entries_of) rfl
  obtain ⟨fd11, F11⟩ := c.def_ 11 (d := dd_tree_shape) rfl
  obtain ⟨fd12, F12⟩ := c.def_ 12 (d := dd__law_stream) rfl
  obtain ⟨fd13, F13⟩ := c.def_ 13 (d := dd__law_draw) rfl
  obtain ⟨fd14, F14⟩ := c.def_ 14 (d := dd__law_pick) rfl
  obtain ⟨fd15, F15⟩ := c.def_ 15 (d := dd__law_row) rfl
  obtain ⟨fd16, F16⟩ := c.def_ 16 (d := dd__law_shape) rfl
  obtain ⟨fd17, F17⟩ := c.def_ 17 (d := dd__law_drawn) rfl
  obtain ⟨fd18, F18⟩ := c.def_ 18 (d := dd__law_all_shapes) rfl
  obtain ⟨fd19, F19⟩ := c.def_ 19 (d := dd_law) rfl
  have e := hfa.symm.trans (He.glo_ok X G (c.fact 19 (f := .glo "law") rfl))
  cases e
  have b := FunD.bindsA (ps := ["_law_script"]) F19 fun _ _ _ _ _ _ us hl => match us, hl with | [_], _ => rfl
  let V : Env K mg := ⟨⟨_, fd0, F0, He.glo_ok X G (c.fact 0 (f := .glo "is_integer") rfl)⟩, ⟨_, fd1, F1, He.glo_ok X G (c.fact 1 (f := .glo "open_after") rfl)⟩, ⟨_, fd2, F2, He.glo_ok X G (c.fact 2 (f := .glo "has_distances") rfl)⟩, ⟨_, fd3, F3, He.glo_ok X G (c.fact 3 (f := .glo "is_shape_of") rfl)⟩, ⟨_, fd4, F4, He.glo_ok X G (c.fact 4 (f := .glo "is_shape") rfl)⟩, ⟨_, fd5, F5, He.glo_ok X G (c.fact 5 (f := .glo "is_head") rfl)⟩, ⟨_, fd6, F6, He.glo_ok X G (c.fact 6 (f := .glo "least_in") rfl)⟩, ⟨_, fd7, F7, He.glo_ok X G (c.fact 7 (f := .glo "is_tree") rfl)⟩, ⟨_, fd8, F8, He.glo_ok X G (c.fact 8 (f := .glo "tree_from") rfl)⟩, ⟨_, fd9, F9, He.glo_ok X G (c.fact 9 (f := .glo "tree_of") rfl)⟩, ⟨_, fd10, F10, He.glo_ok X G (c.fact 10 (f := .glo "entries_of") rfl)⟩, ⟨_, fd11, F11, He.glo_ok X G (c.fact 11 (f := .glo "tree_shape") rfl)⟩, ⟨_, fd12, F12, He.glo_ok X G (c.fact 12 (f := .glo "_law_stream") rfl)⟩, ⟨_, fd13, F13, He.glo_ok X G (c.fact 13 (f := .glo "_law_draw") rfl)⟩, ⟨_, fd14, F14, He.glo_ok X G (c.fact 14 (f := .glo "_law_pick") rfl)⟩, ⟨_, fd15, F15, He.glo_ok X G (c.fact 15 (f := .glo "_law_row") rfl)⟩, ⟨_, fd16, F16, He.glo_ok X G (c.fact 16 (f := .glo "_law_shape") rfl)⟩, ⟨_, fd17, F17, He.glo_ok X G (c.fact 17 (f := .glo "_law_drawn") rfl)⟩, ⟨_, fd18, F18, He.glo_ok X G (c.fact 18 (f := .glo "_law_all_shapes") rfl)⟩, ⟨_, fd19, F19, He.glo_ok X G (c.fact 19 (f := .glo "law") rfl)⟩, He.free_ok X G (c.fact 20 (f := .free "abs") rfl), He.free_ok X G (c.fact 21 (f := .free "all") rfl), He.free_ok X G (c.fact 22 (f := .free "bool") rfl), He.free_ok X G (c.fact 23 (f := .free "enumerate") rfl), He.free_ok X G (c.fact 24 (f := .free "int") rfl), He.free_ok X G (c.fact 25 (f := .free "isinstance") rfl), He.free_ok X G (c.fact 26 (f := .free "len") rfl), He.free_ok X G (c.fact 27 (f := .free "max") rfl), He.free_ok X G (c.fact 28 (f := .free "range") rfl), He.free_ok X G (c.fact 29 (f := .free "repr") rfl), He.free_ok X G (c.fact 30 (f := .free "set") rfl), He.free_ok X G (c.fact 31 (f := .free "sorted") rfl), He.free_ok X G (c.fact 32 (f := .free "tuple") rfl), He.int_ok X G (c.fact 33 (f := .int "MAX_PLACES" 12) rfl)⟩
  exact ⟨fd19, fun s v => b s [v] rfl, fun base _ _ => g_law V⟩
end K16
open PySem PySem.W PySem.Calls PyProof.Rows
theorem PySem.Challenge.cw_leastplaces_k16_whole_trees_there_and_ba_holds : PySem.Challenge.rw_leastplaces_k16_whole_trees_there_and_ba.Holds := by
  w_on; o_law
  refine LP.Lo.head2 (r := OpenLaw.row PySem.Challenge.rw_leastplaces_k16_whole_trees_there_and_ba) (q := view (OpenLaw.row PySem.Challenge.rw_leastplaces_k16_whole_trees_there_and_ba).prog [24]) (H := K16.hk) (ob := K16.ob) (M := 4000) (loose := ["is_integer", "open_after", "has_distances", "is_shape_of", "is_shape", "is_head", "least_in", "is_tree", "tree_from", "tree_of", "entries_of", "tree_shape", "_law_stream", "_law_draw", "_law_pick", "_law_row", "_law_shape", "_law_drawn", "_law_all_shapes", "MAX_PLACES"]) (d := HandSHeadRun.topDef (OpenLaw.row PySem.Challenge.rw_leastplaces_k16_whole_trees_there_and_ba).prog 24) (kwd := []) K16.ob_eq
    (by kernel_rfl) (fun s => by kernel_rfl) K16.run (by kernel_rfl) (by kernel_rfl) (by kernel_rfl) (by rfl) (by first | assumption | decide +kernel) (by decide +kernel) ⟨rfl, rfl, rfl, rfl, rfl, by decide +kernel⟩ ?hw ?hc
  case hw => w_witness2
  case hc =>
    refine LP.Lo.walkL (l := PySem.Challenge.rw_leastplaces_k16_whole_trees_there_and_ba) (n := 63) (k := 204) (x := "_law_script") rfl (by decide) (by kernel_rfl) ⟨rfl, by decide, by decide⟩ ?F
    intro w mg fa hh Y G hmg0
    obtain ⟨K, KX, c⟩ := Y
    have hmg : mg ("law" : PySem.Str) = some (.ref fa) := by
      have e : (HandSHeadRun.topDef (OpenLaw.row PySem.Challenge.rw_leastplaces_k16_whole_trees_there_and_ba).prog 24).name = ("law" : PySem.Str) := by kernel_rfl
      rw [← e]
      exact hmg0
    obtain ⟨fd, hb, hF⟩ := K16.facts (P := (PySem.Challenge.rw_leastplaces_k16_whole_trees_there_and_ba).prog) (w := w) KX G hmg c
    exact ⟨K, fd, KX, hb, hF⟩

