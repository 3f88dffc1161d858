import PyProof.Rows.All
import Wide.All
import OpenK.AllK
import Wide.FinOn
import HandS.ForMost
import KE.KeyNested
import KE.KDictKeyed
import KE.KExcIs
import HandS.Zip
import HandS.NoneIn
import HandS.More
import HandS.IsInst
import HandS.SortInts
import HandS.Conv
import HandS.Deep
import HandS.TupAny
import HandS.Style
import HandS.SortRule
import KE.KDictPairs
import HandS.TupMul
import HandS.WideBits
import PyProof.AutoSeq1
import PyProof.Rows.IntBool
import PyProof.Rows.FloatCmp
import KE.GoesEnum
import KE.GoesRev
import KE.DataMinMax
import KE.DataEq
import HandS.SortKw
import HandS.Text
import HandS.Iter
import KE.SortData
import HandS.SetFor
import HandS.Strs
import PyProof.DictUpdate
import HandS.WordsDict
import KE.KDictDisplayH
import KE.DataFind
import HandS.Call
import HandS.Exc
import HandS.ExcInit
import HandS.ExcOwn
import HandS.WordsExc
import HandS.TupLe
import KE.DataCmp
import PyProof.Transfer
import PySem.Challenge.RW_trainlanes_k11_ways_by_houses
set_option Elab.async false
set_option linter.all false
set_option maxRecDepth 100000
set_option maxHeartbeats 4000000
namespace Tl
open PySem PySem.Spec PyProof.Rows L2

abbrev D := PyData
def keyD : Key → D
  | .inl i => .int i
  | .inr x => .str x
abbrev NK := NestedKey
mutual
def tfree : NK → Bool
  | .none => true
  | .num _ => true
  | .text _ => false
  | .tup ks => tfreeL ks
def tfreeL : List NK → Bool
  | [] => true
  | k :: ks => tfree k && tfreeL ks
end
def okN : NK → Bool
  | .tup ks => tfreeL ks && decide ((NestedKey.tup ks).depth ≤ 8)
  | _ => false
mutual
def nhash : NK → Int
  | .none => reduceHash 0xFCA86420
  | .num i => hashInt i
  | .text _ => 0
  | .tup ks => reduceHash (Builtin.Tuple.tupleHashOf (nhashes ks))
def nhashes : List NK → List Int
  | [] => []
  | k :: ks => nhash k :: nhashes ks
end
theorem okN_free {k : NK} (h : okN k = true) : tfree k = true := by
  cases k with
  | tup ks =>
    have h' : (tfreeL ks && decide ((NestedKey.tup ks).depth ≤ 8)) = true := h
    rw [Bool.and_eq_true] at h'
    exact h'.1
  | _ => cases h
/-- a dict with such keys: its key tuples' addresses, its things -/
abbrev dnO (a : Addr) (kvs : List (NK × Addr × V)) : HO := .ext fun h => kvs.length ≤ sizeLine ∧ (a == sysModules) = false ∧ ∃ xs : List (NK × Addr × Value),
  Paired (fun (p : NK × Addr × V) (q : NK × Addr × Value) => p.1 = q.1 ∧ p.2.1 = q.2.1 ∧ RelV p.2.2 q.2.2) kvs xs ∧
  ∃ o es ep, h.get? a = some o ∧ o.ExactDict ∧ o.data = .dict es ep ∧ es.toList = xs.map (fun x => (⟨nhash x.1, .ref x.2.1, x.2.2⟩ : DictEntry)) ∧ (xs.map (·.1)).Nodup

/-- the built-in classes that isinstance asks data for -/
def btsX : List String := ["int", "bool", "str", "list", "tuple"]
/-- what the written part says of an exception class -/
structure XcC (K : PySem.W.Frag) (C : Addr) : Prop where
  cl : (PySem.W.clsIn K C).isSome = true
  ga : PySem.W.findIn K (.ref C) "__getattribute__" = some (some (.builtin "BaseException.__getattribute__"))
  gg : PySem.W.findIn K (.ref C) "__getattr__" = some none
  ex : PySem.W.subIn K (.ref C) (.type "BaseException") = some true
  hd : PySem.W.hasDictIn K C = true
  ca : PySem.W.findIn K (.ref C) "__class__" = some (some (.builtin "object.__class__"))
  sp : PySem.W.specialIn K (.builtin "object.__class__") "__get__" = some (some (.builtin "getset_descriptor.__get__"))
  tk : PySem.W.takesIn K (.builtin "object.__class__") = some true
  ob : PySem.W.mroIn K C (.type "object") = some true
  kb : ∀ n ∈ btsX, PySem.W.kitOne K (.ref C) (.type n) = some false
  ve : PySem.W.kitOne K (.ref C) (.type "ValueError") = some true
/-- what the written part says of a class whose things are objects with a dict -/
structure ObC (K : PySem.W.Frag) (C : Addr) : Prop where
  cl : Cls K C
  ca : PySem.W.findIn K (.ref C) "__class__" = some (some (.builtin "object.__class__"))
  sp : PySem.W.specialIn K (.builtin "object.__class__") "__get__" = some (some (.builtin "getset_descriptor.__get__"))
  tk : PySem.W.takesIn K (.builtin "object.__class__") = some true
  ob : PySem.W.mroIn K C (.type "object") = some true
  kb : ∀ n ∈ btsX, PySem.W.kitOne K (.ref C) (.type n) = some false
/-- an object's fields, as data -/
def fldD (ns : List Str) (ds : List D) : List (D × D) := (ns.zip ds).map fun p => (.str p.1, p.2)
/-- a caught exception: its class, its own dict -/
abbrev xcO (a C : Addr) (d : Option Addr) : HO := .ext fun h => ∃ oe vs, h.get? a = some oe ∧ oe.cls = .ref C ∧ oe.dict = d ∧ oe.data = .fields vs
section
variable (K : PySem.W.Frag) (F : Hp)
mutual
inductive Rep : V → D → Prop
  | non : Rep .non .none
  | bl (b : Bool) : Rep (.bl b) (.bool b)
  | int (i : Int) : Rep (.int i) (.int i)
  | str (x : Str) : Rep (.str x) (.str x)
  | lst {a : Addr} {xs : List V} {ds : List D} : F a = some (.lst xs) → xs.length ≤ sizeLine → RepL xs ds → Rep (.ref a) (.list ds)
  | tup {a : Addr} {xs : List V} {ds : List D} : SqT K F a xs → xs.length ≤ sizeLine → RepL xs ds → Rep (.ref a) (.tuple ds)
  | dk {a : Addr} {kvs : List (Key × V)} {es : List (D × D)} : F a = some (.dK kvs) → RepK kvs es → Rep (.ref a) (.dict es)
  | dn {a : Addr} {kvs : List (NK × Addr × V)} {es : List (D × D)} : F a = some (dnO a kvs) → RepN kvs es → Rep (.ref a) (.dict ((.none, .none) :: es))
  | dl {a : Addr} {o : Obj} {kvs : List (NK × Addr × V)} {es : List (D × D)} : F a = some (.frz o (dnO a kvs)) → RepN kvs es → Rep (.ref a) (.dict ((.none, .bool true) :: es))
  | xc {a C : Addr} {c : Str} : F a = some (xcO a C none) → XcC K C → PySem.W.nsIn K mainGlobals c = some (some (.ref C)) → Rep (.ref a) (.dict [(.none, .str c)])
  | xf {a C dx : Addr} {c f : Str} {v : V} {d : D} : F a = some (xcO a C (some dx)) → XcC K C → PySem.W.nsIn K mainGlobals c = some (some (.ref C)) → F dx = some (.xd [(f, v)]) → Rep v d → Rep (.ref a) (.dict [(.none, .str c), (.str f, d)])
  | ob {a C dx : Addr} {cn : Str} {ns : List Str} {vs : List V} {ds : List D} : PySem.W.nsIn K mainGlobals cn = some (some (.ref C)) → F a = some (.ins C dx (ns.zip vs)) → ObC K C → ns.length = ds.length → RepL vs ds → Rep (.ref a) (.dict ((.none, .tuple [.str cn]) :: fldD ns ds))
inductive RepL : List V → List D → Prop
  | nil : RepL [] []
  | cons {v : V} {vs : List V} {d : D} {ds : List D} : Rep v d → RepL vs ds → RepL (v :: vs) (d :: ds)
inductive RepK : List (Key × V) → List (D × D) → Prop
  | nil : RepK [] []
  | cons {k : Key} {v : V} {vs : List (Key × V)} {d : D} {ds : List (D × D)} : Rep v d → RepK vs ds → RepK ((k, v) :: vs) ((keyD k, d) :: ds)
inductive RepN : List (NK × Addr × V) → List (D × D) → Prop
  | nil : RepN [] []
  | cons {k : NK} {b : Addr} {v : V} {vs : List (NK × Addr × V)} {d : D} {ds : List (D × D)} : okN k = true → Rep (.ref b) k.data → Rep v d → RepN vs ds → RepN ((k, b, v) :: vs) ((k.data, d) :: ds)
end
end

section
variable {K : PySem.W.Frag} {F F' : Hp}
theorem sameT {K : PySem.W.Frag} {H H' : Hp} {a : Addr} {xs : List V} (e : Same H H') (h : SqT K H a xs) : SqT K H' a xs := by
  rcases h with h | h
  · rcases h with h | ⟨o, h⟩
    · exact .inl (.inl (e _ _ h))
    · exact .inl (.inr ⟨o, e _ _ h⟩)
  · exact .inr h
theorem Rep.monoAll (e : Same F F') :
    (∀ v d, Rep K F v d → Rep K F' v d) ∧ (∀ vs ds, RepL K F vs ds → RepL K F' vs ds) ∧ (∀ vs ds, RepK K F vs ds → RepK K F' vs ds) ∧ (∀ vs ds, RepN K F vs ds → RepN K F' vs ds) := by
  refine ⟨?_, ?_, ?_, ?_⟩ <;> intro v d h
  · exact Rep.rec (K := K) (F := F) (motive_1 := fun v d _ => Rep K F' v d) (motive_2 := fun v d _ => RepL K F' v d) (motive_3 := fun v d _ => RepK K F' v d) (motive_4 := fun v d _ => RepN K F' v d)
      .non .bl .int .str (fun h z _ r => .lst (e _ _ h) z r) (fun h z _ r => .tup (sameT e h) z r) (fun h _ r => .dk (e _ _ h) r) (fun h _ r => .dn (e _ _ h) r) (fun h _ r => .dl (e _ _ h) r) (fun h k n => .xc (e _ _ h) k n) (fun h k n g _ r => .xf (e _ _ h) k n (e _ _ g) r) (fun n h o z _ r => .ob n (e _ _ h) o z r)
      .nil (fun _ _ a b => .cons a b) .nil (fun _ _ a b => .cons a b) .nil (fun k _ _ _ a b c => .cons k a b c) h
  · exact RepL.rec (K := K) (F := F) (motive_1 := fun v d _ => Rep K F' v d) (motive_2 := fun v d _ => RepL K F' v d) (motive_3 := fun v d _ => RepK K F' v d) (motive_4 := fun v d _ => RepN K F' v d)
      .non .bl .int .str (fun h z _ r => .lst (e _ _ h) z r) (fun h z _ r => .tup (sameT e h) z r) (fun h _ r => .dk (e _ _ h) r) (fun h _ r => .dn (e _ _ h) r) (fun h _ r => .dl (e _ _ h) r) (fun h k n => .xc (e _ _ h) k n) (fun h k n g _ r => .xf (e _ _ h) k n (e _ _ g) r) (fun n h o z _ r => .ob n (e _ _ h) o z r)
      .nil (fun _ _ a b => .cons a b) .nil (fun _ _ a b => .cons a b) .nil (fun k _ _ _ a b c => .cons k a b c) h
  · exact RepK.rec (K := K) (F := F) (motive_1 := fun v d _ => Rep K F' v d) (motive_2 := fun v d _ => RepL K F' v d) (motive_3 := fun v d _ => RepK K F' v d) (motive_4 := fun v d _ => RepN K F' v d)
      .non .bl .int .str (fun h z _ r => .lst (e _ _ h) z r) (fun h z _ r => .tup (sameT e h) z r) (fun h _ r => .dk (e _ _ h) r) (fun h _ r => .dn (e _ _ h) r) (fun h _ r => .dl (e _ _ h) r) (fun h k n => .xc (e _ _ h) k n) (fun h k n g _ r => .xf (e _ _ h) k n (e _ _ g) r) (fun n h o z _ r => .ob n (e _ _ h) o z r)
      .nil (fun _ _ a b => .cons a b) .nil (fun _ _ a b => .cons a b) .nil (fun k _ _ _ a b c => .cons k a b c) h
  · exact RepN.rec (K := K) (F := F) (motive_1 := fun v d _ => Rep K F' v d) (motive_2 := fun v d _ => RepL K F' v d) (motive_3 := fun v d _ => RepK K F' v d) (motive_4 := fun v d _ => RepN K F' v d)
      .non .bl .int .str (fun h z _ r => .lst (e _ _ h) z r) (fun h z _ r => .tup (sameT e h) z r) (fun h _ r => .dk (e _ _ h) r) (fun h _ r => .dn (e _ _ h) r) (fun h _ r => .dl (e _ _ h) r) (fun h k n => .xc (e _ _ h) k n) (fun h k n g _ r => .xf (e _ _ h) k n (e _ _ g) r) (fun n h o z _ r => .ob n (e _ _ h) o z r)
      .nil (fun _ _ a b => .cons a b) .nil (fun _ _ a b => .cons a b) .nil (fun k _ _ _ a b c => .cons k a b c) h
theorem Rep.mono {v : V} {d : D} (h : Rep K F v d) (e : Same F F') : Rep K F' v d := (Rep.monoAll e).1 v d h
theorem RepL.mono {v : List V} {d : List D} (h : RepL K F v d) (e : Same F F') : RepL K F' v d := (Rep.monoAll e).2.1 v d h
theorem RepL.length : ∀ {vs : List V} {ds : List D}, RepL K F vs ds → vs.length = ds.length
  | _, _, .nil => rfl
  | _, _, .cons _ h => congrArg (· + 1) (RepL.length h)
theorem RepL.get : ∀ {vs : List V} {ds : List D} {i : Nat} {d : D}, RepL K F vs ds → ds[i]? = some d → ∃ v, vs[i]? = some v ∧ Rep K F v d
  | _, _, _, _, .nil, e => by simp at e
  | _, _, 0, _, .cons r _, e => by
    simp at e
    subst e
    exact ⟨_, rfl, r⟩
  | _, _, i + 1, d, .cons _ t, e => by
    obtain ⟨u, h1, h2⟩ := RepL.get (i := i) (d := d) t (by simpa using e)
    exact ⟨u, by simpa using h1, h2⟩
theorem RepL.append : ∀ {xs ys : List V} {ds es : List D}, RepL K F xs ds → RepL K F ys es → RepL K F (xs ++ ys) (ds ++ es)
  | _, _, _, _, .nil, s => s
  | _, _, _, _, .cons r t, s => .cons r (RepL.append t s)
theorem RepL.take : ∀ {xs : List V} {ds : List D} (n : Nat), RepL K F xs ds → RepL K F (xs.take n) (ds.take n)
  | _, _, 0, _ => .nil
  | _, _, _ + 1, .nil => .nil
  | _, _, n + 1, .cons r t => .cons r (RepL.take n t)
theorem RepL.drop : ∀ {xs : List V} {ds : List D} (n : Nat), RepL K F xs ds → RepL K F (xs.drop n) (ds.drop n)
  | _, _, 0, r => r
  | _, _, _ + 1, .nil => .nil
  | _, _, n + 1, .cons r t => RepL.drop n t
theorem RepL.set {x : V} {u : D} (r : Rep K F x u) : ∀ {xs : List V} {us : List D} (i : Nat), RepL K F xs us → RepL K F (xs.set i x) (us.set i u)
  | _, _, _, .nil => .nil
  | _, _, 0, .cons _ t => .cons r t
  | _, _, i + 1, .cons q t => .cons q (RepL.set r i t)
theorem RepL.eraseIdx : ∀ {xs : List V} {us : List D} (i : Nat), RepL K F xs us → RepL K F (xs.eraseIdx i) (us.eraseIdx i)
  | _, _, _, .nil => .nil
  | _, _, 0, .cons _ t => t
  | _, _, i + 1, .cons q t => .cons q (RepL.eraseIdx i t)
theorem RepL.dropLast : ∀ {xs : List V} {us : List D}, RepL K F xs us → RepL K F xs.dropLast us.dropLast
  | _, _, .nil => .nil
  | _, _, .cons _ .nil => .nil
  | _, _, .cons q (.cons q' t) => .cons q (RepL.dropLast (.cons q' t))
theorem RepL.reverse {xs : List V} {us : List D} (h : RepL K F xs us) : RepL K F xs.reverse us.reverse := by
  induction xs generalizing us with
  | nil =>
    cases h
    exact .nil
  | cons x xs ih =>
    cases h with
    | cons r t =>
      rw [List.reverse_cons, List.reverse_cons]
      exact (ih t).append (.cons r .nil)
theorem RepL.ofInts : ∀ (ns : List Int), RepL K F (ns.map V.int) (ns.map PyData.int)
  | [] => .nil
  | n :: ns => .cons (.int n) (RepL.ofInts ns)
theorem RepL.bools : ∀ {vs : List V} {ns : List Bool}, RepL K F vs (ns.map PyData.bool) → vs = ns.map V.bl
  | _, [], h => by
    cases h
    rfl
  | _, n :: ns, h => by
    cases h with
    | cons r t =>
      cases r
      rw [RepL.bools t]
      rfl
end

inductive T where
  | leaf (d : D)
  | fl (ds : List D)
  | ls (ts : List T)
  | tup (ts : List T)
  | dk (es : List (Key × D))
  | dn (es : List (NK × D))
  | dd (es : List (Key × List (Key × D)))
  | lk (es : List (Key × D))
  | scr (ds : List D)
  | ob (cn : Str) (ns : List Str) (ts : List T)
  | hole
/-- a dict of dicts, as data -/
abbrev ddD (es : List (Key × List (Key × D))) : List (D × D) := es.map fun p => (keyD p.1, .dict (p.2.map fun q => (keyD q.1, q.2)))
mutual
/-- the plain data of a tree -/
def T.fz : T → Option D
  | .leaf d => some d
  | .fl ds => some (.list ds)
  | .ls ts => (T.fzL ts).map .list
  | .tup ts => (T.fzL ts).map .tuple
  | .dk es => some (.dict (es.map fun p => (keyD p.1, p.2)))
  | .dn es => some (.dict ((.none, .none) :: es.map fun p => (p.1.data, p.2)))
  | .dd es => some (.dict (ddD es))
  | .lk _ => none
  | .scr _ => none
  | .ob cn ns ts => (T.fzL ts).map fun ds => .dict ((.none, .tuple [.str cn]) :: fldD ns ds)
  | .hole => none
def T.fzL : List T → Option (List D)
  | [] => some []
  | t :: ts => (T.fz t).bind fun d => (T.fzL ts).bind fun ds => some (d :: ds)
end
theorem fzL_len : ∀ {ts : List T} {ds : List D}, T.fzL ts = some ds → ts.length = ds.length
  | [], ds, h => by
    cases h
    rfl
  | t :: ts, ds, h => by
    have w' : (T.fz t).bind (fun d => (T.fzL ts).bind fun ds => some (d :: ds)) = some ds := h
    obtain ⟨d, e1, w2⟩ := Option.bind_eq_some_iff.mp w'
    obtain ⟨ds', e2, w3⟩ := Option.bind_eq_some_iff.mp w2
    cases w3
    rw [List.length_cons, List.length_cons, fzL_len e2]
/-- the entries of an owned dict -/
abbrev KvOk (K : PySem.W.Frag) (F : Hp) {κ : Type} : List (κ × V) → List (κ × D) → Prop := Paired fun p q => p.1 = q.1 ∧ Rep K F p.2 q.2
abbrev NvOk (K : PySem.W.Frag) (F : Hp) : List (NK × Addr × V) → List (NK × D) → Prop := Paired fun p q => p.1 = q.1 ∧ okN p.1 = true ∧ Rep K F (.ref p.2.1) p.1.data ∧ Rep K F p.2.2 q.2
/-- the entries of a dict of dicts, each owned -/
inductive OwnD (K : PySem.W.Frag) (F H : Hp) : List (Key × V) → List (Key × List (Key × D)) → List Addr → Prop
  | nil : OwnD K F H [] [] []
  | cons {k : Key} {b : Addr} {xs : List (Key × V)} {ys : List (Key × D)} {kvs : List (Key × V)} {es : List (Key × List (Key × D))} {A : List Addr} : H b = some (.dK xs) → KvOk K F xs ys → OwnD K F H kvs es A → OwnD K F H ((k, .ref b) :: kvs) ((k, ys) :: es) (b :: A)
section
variable (K : PySem.W.Frag) (F H : Hp)
mutual
inductive Own : V → T → List Addr → Prop
  | leaf {v : V} {d : D} : Rep K F v d → Own v (.leaf d) []
  | fl {a : Addr} {xs : List V} {ds : List D} : H a = some (.lst xs) → xs.length ≤ sizeLine → RepL K F xs ds → Own (.ref a) (.fl ds) [a]
  | ls {a : Addr} {xs : List V} {ts : List T} {A : List Addr} : H a = some (.lst xs) → xs.length ≤ sizeLine → OwnL xs ts A → Own (.ref a) (.ls ts) (a :: A)
  | tup {a : Addr} {xs : List V} {ts : List T} {A : List Addr} : SqT K F a xs → xs.length ≤ sizeLine → OwnL xs ts A → Own (.ref a) (.tup ts) A
  | dk {a : Addr} {kvs : List (Key × V)} {es : List (Key × D)} : H a = some (.dK kvs) → KvOk K F kvs es → Own (.ref a) (.dk es) [a]
  | dn {a : Addr} {kvs : List (NK × Addr × V)} {es : List (NK × D)} : H a = some (dnO a kvs) → NvOk K F kvs es → Own (.ref a) (.dn es) [a]
  | dd {a : Addr} {kvs : List (Key × V)} {es : List (Key × List (Key × D))} {A : List Addr} : H a = some (.dK kvs) → OwnD K F H kvs es A → Own (.ref a) (.dd es) (a :: A)
  | lk {a : Addr} {o : Obj} {kvs : List (Key × V)} {es : List (Key × D)} : F a = some (.frz o (.dK kvs)) → KvOk K F kvs es → Own (.ref a) (.lk es) []
  | scr {a : Addr} {xs : List V} {ds : List D} : SqL K F a xs → xs.length ≤ sizeLine → RepL K F xs ds → Own (.ref a) (.scr ds) []
  | ob {a C dx : Addr} {cn : Str} {ns : List Str} {vs : List V} {ts : List T} {A : List Addr} : PySem.W.nsIn K mainGlobals cn = some (some (.ref C)) → H a = some (.ins C dx (ns.zip vs)) → ObC K C → ns.length = ts.length → OwnL vs ts A → Own (.ref a) (.ob cn ns ts) (a :: A)
  | hole {v : V} : Own v .hole []
inductive OwnL : List V → List T → List Addr → Prop
  | nil : OwnL [] [] []
  | cons {v : V} {vs : List V} {t : T} {ts : List T} {A B : List Addr} : Own v t A → OwnL vs ts B → OwnL (v :: vs) (t :: ts) (A ++ B)
end
end
section
variable {K : PySem.W.Frag} {F F' H H' : Hp}
theorem KvOk.mono {κ : Type} (e : Same F F') {xs : List (κ × V)} {es : List (κ × D)} (h : KvOk K F xs es) : KvOk K F' xs es := Paired.mapP h fun _ _ z => ⟨z.1, z.2.mono e⟩
theorem KvOk.repK (e : Same F F') : ∀ {xs : List (Key × V)} {es : List (Key × D)}, KvOk K F xs es → RepK K F' xs (es.map fun p => (keyD p.1, p.2))
  | _, _, .nil => .nil
  | _, _, .cons (a := (k, v)) (b := (k', d)) h t => by
    obtain ⟨rfl, r⟩ := h
    exact .cons (r.mono e) (KvOk.repK e t)
theorem NvOk.mono (e : Same F F') {xs : List (NK × Addr × V)} {es : List (NK × D)} (h : NvOk K F xs es) : NvOk K F' xs es := Paired.mapP h fun _ _ z => ⟨z.1, z.2.1, z.2.2.1.mono e, z.2.2.2.mono e⟩
theorem NvOk.repN (e : Same F F') : ∀ {xs : List (NK × Addr × V)} {es : List (NK × D)}, NvOk K F xs es → RepN K F' xs (es.map fun p => (p.1.data, p.2))
  | _, _, .nil => .nil
  | _, _, .cons (a := (k, b, v)) (b := (k', d)) h t => by
    obtain ⟨rfl, o, r, q⟩ := h
    exact .cons o (r.mono e) (q.mono e) (NvOk.repN e t)
theorem OwnD.stay (e : Same F F') : ∀ {kvs : List (Key × V)} {es : List (Key × List (Key × D))} {A : List Addr}, OwnD K F H kvs es A → (∀ a ∈ A, ∀ o, H a = some o → H' a = some o) → OwnD K F' H' kvs es A
  | _, _, _, .nil, _ => .nil
  | _, _, _, .cons h r t, k => .cons (k _ List.mem_cons_self _ h) (r.mono e) (OwnD.stay e t fun a m => k a (List.mem_cons_of_mem _ m))
theorem OwnD.rep (e : Same F F') : ∀ {kvs : List (Key × V)} {es : List (Key × List (Key × D))} {A : List Addr}, OwnD K F H kvs es A → (∀ a ∈ A, ∀ o, H a = some o → F' a = some o) → RepK K F' kvs (ddD es)
  | _, _, _, .nil, _ => .nil
  | _, _, _, .cons h r t, k => .cons (.dk (k _ List.mem_cons_self _ h) (KvOk.repK e r)) (OwnD.rep e t fun a m => k a (List.mem_cons_of_mem _ m))
mutual
/-- an owned tree stands while its own cells stand and the frozen part grows -/
theorem Own.stay (e : Same F F') : ∀ {v : V} {t : T} {A : List Addr}, Own K F H v t A → (∀ a ∈ A, ∀ o, H a = some o → H' a = some o) → Own K F' H' v t A
  | _, .leaf d, _, h, k => by
    cases h with
    | leaf r => exact .leaf (r.mono e)
  | _, .fl ds, _, h, k => by
    cases h with
    | fl h z r => exact .fl (k _ (List.mem_singleton.mpr rfl) _ h) z (r.mono e)
  | _, .ls ts, _, h, k => by
    cases h with
    | ls h z r => exact .ls (k _ List.mem_cons_self _ h) z (OwnL.stay e r fun a m => k a (List.mem_cons_of_mem _ m))
  | _, .tup ts, _, h, k => by
    cases h with
    | tup h z r => exact .tup (sameT e h) z (OwnL.stay e r k)
  | _, .dk es, _, h, k => by
    cases h with
    | dk h r => exact .dk (k _ (List.mem_singleton.mpr rfl) _ h) (r.mono e)
  | _, .dn es, _, h, k => by
    cases h with
    | dn h r => exact .dn (k _ (List.mem_singleton.mpr rfl) _ h) (r.mono e)
  | _, .dd es, _, h, k => by
    cases h with
    | dd h r => exact .dd (k _ List.mem_cons_self _ h) (r.stay e fun a m => k a (List.mem_cons_of_mem _ m))
  | _, .lk es, _, h, k => by
    cases h with
    | lk h r => exact .lk (e _ _ h) (r.mono e)
  | _, .scr ds, _, h, k => by
    cases h with
    | scr h z r => exact .scr (e.seq h) z (r.mono e)
  | _, .ob cn ns ts, _, h, k => by
    cases h with
    | ob hc h o z r => exact .ob hc (k _ List.mem_cons_self _ h) o z (OwnL.stay e r fun a m => k a (List.mem_cons_of_mem _ m))
  | _, .hole, _, h, k => by
    cases h
    exact .hole
theorem OwnL.stay (e : Same F F') : ∀ {v : List V} {t : List T} {A : List Addr}, OwnL K F H v t A → (∀ a ∈ A, ∀ o, H a = some o → H' a = some o) → OwnL K F' H' v t A
  | _, [], _, h, k => by
    cases h
    exact .nil
  | _, t :: ts, _, h, k => by
    cases h with
    | cons h1 h2 => exact .cons (Own.stay e h1 fun a m => k a (List.mem_append_left _ m)) (OwnL.stay e h2 fun a m => k a (List.mem_append_right _ m))
end
mutual
/-- .. read as plain data, once its cells are frozen -/
theorem Own.rep (e : Same F F') : ∀ {v : V} {t : T} {A : List Addr} {d : D}, Own K F H v t A → (∀ a ∈ A, ∀ o, H a = some o → F' a = some o) → t.fz = some d → Rep K F' v d
  | _, .leaf d, _, _, h, k, w => by
    cases h with
    | leaf r =>
      cases w
      exact r.mono e
  | _, .fl ds, _, _, h, k, w => by
    cases h with
    | fl h z r =>
      cases w
      exact .lst (k _ (List.mem_singleton.mpr rfl) _ h) z (r.mono e)
  | _, .ls ts, _, _, h, k, w => by
    cases h with
    | ls h z r =>
      have w' : (T.fzL ts).map PyData.list = some _ := w
      obtain ⟨ds, e1, e2⟩ := Option.map_eq_some_iff.mp w'
      subst e2
      exact .lst (k _ List.mem_cons_self _ h) z (OwnL.rep e r (fun a m => k a (List.mem_cons_of_mem _ m)) e1)
  | _, .tup ts, _, _, h, k, w => by
    cases h with
    | tup h z r =>
      have w' : (T.fzL ts).map PyData.tuple = some _ := w
      obtain ⟨ds, e1, e2⟩ := Option.map_eq_some_iff.mp w'
      subst e2
      exact .tup (sameT e h) z (OwnL.rep e r k e1)
  | _, .dk es, _, _, h, k, w => by
    cases h with
    | dk h r =>
      cases w
      exact .dk (k _ (List.mem_singleton.mpr rfl) _ h) (KvOk.repK e r)
  | _, .dn es, _, _, h, k, w => by
    cases h with
    | dn h r =>
      cases w
      exact .dn (k _ (List.mem_singleton.mpr rfl) _ h) (r.repN e)
  | _, .dd es, _, _, h, k, w => by
    cases h with
    | dd h r =>
      cases w
      exact .dk (k _ List.mem_cons_self _ h) (r.rep e fun a m => k a (List.mem_cons_of_mem _ m))
  | _, .lk es, _, _, h, k, w => by cases w
  | _, .scr ds, _, _, h, k, w => by cases w
  | _, .ob cn ns ts, _, _, h, k, w => by
    cases h with
    | ob hc h o z r =>
      have w' : (T.fzL ts).map (fun ds => PyData.dict ((.none, .tuple [.str cn]) :: fldD ns ds)) = some _ := w
      obtain ⟨ds, e1, e2⟩ := Option.map_eq_some_iff.mp w'
      subst e2
      exact .ob hc (k _ List.mem_cons_self _ h) o (z.trans (fzL_len e1)) (OwnL.rep e r (fun a m => k a (List.mem_cons_of_mem _ m)) e1)
  | _, .hole, _, _, h, k, w => by cases w
theorem OwnL.rep (e : Same F F') : ∀ {v : List V} {t : List T} {A : List Addr} {d : List D}, OwnL K F H v t A → (∀ a ∈ A, ∀ o, H a = some o → F' a = some o) → T.fzL t = some d → RepL K F' v d
  | _, [], _, _, h, k, w => by
    cases h
    cases w
    exact .nil
  | _, t :: ts, _, _, h, k, w => by
    cases h with
    | cons h1 h2 =>
      have w' : (T.fz t).bind (fun d => (T.fzL ts).bind fun ds => some (d :: ds)) = some _ := w
      obtain ⟨d, e1, w2⟩ := Option.bind_eq_some_iff.mp w'
      obtain ⟨ds, e2, w3⟩ := Option.bind_eq_some_iff.mp w2
      cases w3
      exact .cons (Own.rep e h1 (fun a m => k a (List.mem_append_left _ m)) e1) (OwnL.rep e h2 (fun a m => k a (List.mem_append_right _ m)) e2)
end

structure Cn (F B H : Hp) (A : List Addr) : Prop where
  fh : Same F H
  bh : Same B H
  nd : A.Nodup
  fa : ∀ a ∈ A, F a = none
  ba : ∀ a ∈ A, B a = none
  ha : ∀ a ∈ A, H a ≠ none
structure Go (F H : Hp) (A : List Addr) (F' H' : Hp) (A' : List Addr) : Prop where
  ff : Same F F'
  keep : ∀ b o, b ∉ A → H b = some o → H' b = some o
  fresh : ∀ b, b ∉ A → H b ≠ none → F' b = F b
  sub : ∀ b ∈ A', b ∈ A ∨ H b = none
theorem some_ne {α : Type} {o : Option α} (h : o ≠ none) : ∃ x, o = some x := by
  cases o with
  | none => exact absurd rfl h
  | some x => exact ⟨x, rfl⟩
variable {B : Hp} {A A' A1 A2 C : List Addr} {F1 H1 F2 H2 : Hp}
theorem Cn.perm (c : Cn F B H A) (p : A.Perm A') : Cn F B H A' :=
  ⟨c.fh, c.bh, p.nodup c.nd, fun a m => c.fa a (p.mem_iff.mpr m), fun a m => c.ba a (p.mem_iff.mpr m), fun a m => c.ha a (p.mem_iff.mpr m)⟩
theorem Cn.sub (c : Cn F B H A) (n : A'.Nodup) (s : ∀ a ∈ A', a ∈ A) : Cn F B H A' :=
  ⟨c.fh, c.bh, n, fun a m => c.fa a (s a m), fun a m => c.ba a (s a m), fun a m => c.ha a (s a m)⟩
theorem Cn.right (c : Cn F B H (A1 ++ A2)) : Cn F B H A2 := c.sub (List.nodup_append.mp c.nd).2.1 fun a m => List.mem_append_right _ m
theorem Cn.left (c : Cn F B H (A1 ++ A2)) : Cn F B H A1 := c.sub (List.nodup_append.mp c.nd).1 fun a m => List.mem_append_left _ m
theorem Cn.apart (c : Cn F B H (A1 ++ A2)) : ∀ a ∈ A1, a ∉ A2 := fun a m m2 => (List.nodup_append.mp c.nd).2.2 a m a m2 rfl
theorem Go.refl : Go F H A F H A := ⟨Same.refl F, fun _ _ _ h => h, fun _ _ _ => rfl, fun _ m => .inl m⟩
theorem Go.less (s : ∀ a ∈ A', a ∈ A) : Go F H A F H A' := ⟨Same.refl F, fun _ _ _ h => h, fun _ _ _ => rfl, fun a m => .inl (s a m)⟩
theorem Go.perm (g : Go F H A F' H' A') {C C' : List Addr} (p : A.Perm C) (q : A'.Perm C') : Go F H C F' H' C' :=
  ⟨g.ff, fun b o n => g.keep b o fun m => n (p.mem_iff.mp m), fun b n => g.fresh b fun m => n (p.mem_iff.mp m), fun b m => (g.sub b (q.mem_iff.mpr m)).imp (fun z => p.mem_iff.mp z) id⟩
theorem Go.trans (g : Go F H A F1 H1 A1) (k : Go F1 H1 A1 F2 H2 A2) : Go F H A F2 H2 A2 := by
  have out : ∀ b, b ∉ A → H b ≠ none → b ∉ A1 := fun b n h m => (g.sub b m).elim n h
  refine ⟨g.ff.trans k.ff, fun b o n h => ?_, fun b n h => ?_, fun b m => ?_⟩
  · exact k.keep b o (out b n (by rw [h]; exact fun z => nomatch z)) (g.keep b o n h)
  · obtain ⟨o, e⟩ := some_ne h
    rw [k.fresh b (out b n h) (by rw [g.keep b o n e]; exact fun z => nomatch z)]
    exact g.fresh b n h
  · rcases k.sub b m with z | z
    · exact g.sub b z
    · by_cases hb : b ∈ A
      · exact .inl hb
      · refine .inr ?_
        cases e : H b with
        | none => rfl
        | some o =>
          rw [g.keep b o hb e] at z
          cases z
/-- what is owned beside stands -/
theorem Go.framed (c : Cn F B H (A1 ++ A2)) (g : Go F H A2 F' H' C) (d : Cn F' B H' C) : Go F H (A1 ++ A2) F' H' (A1 ++ C) ∧ Cn F' B H' (A1 ++ C) := by
  have ap := c.apart
  refine ⟨⟨g.ff, fun b o n => g.keep b o fun m => n (List.mem_append_right _ m), fun b n => g.fresh b fun m => n (List.mem_append_right _ m), fun b m => ?_⟩,
    ⟨d.fh, d.bh, ?_, fun b m => ?_, fun b m => ?_, fun b m => ?_⟩⟩
  · rcases List.mem_append.mp m with z | z
    · exact .inl (List.mem_append_left _ z)
    · exact (g.sub b z).imp (fun q => List.mem_append_right _ q) id
  · refine List.nodup_append.mpr ⟨(List.nodup_append.mp c.nd).1, d.nd, fun a m b m2 e => ?_⟩
    subst e
    rcases g.sub a m2 with z | z
    · exact ap a m z
    · exact c.ha a (List.mem_append_left _ m) z
  · rcases List.mem_append.mp m with z | z
    · rw [g.fresh b (ap b z) (c.ha b (List.mem_append_left _ z))]
      exact c.fa b (List.mem_append_left _ z)
    · exact d.fa b z
  · rcases List.mem_append.mp m with z | z
    · exact c.ba b (List.mem_append_left _ z)
    · exact d.ba b z
  · rcases List.mem_append.mp m with z | z
    · obtain ⟨o, e⟩ := some_ne (c.ha b (List.mem_append_left _ z))
      rw [g.keep b o (ap b z) e]
      exact fun q => nomatch q
    · exact d.ha b z
theorem Go.beside (c : Cn F B H (A1 ++ A2)) (g : Go F H A2 F' H' C) {v : V} {t : T} (o : Own K F H v t A1) : Own K F' H' v t A1 :=
  o.stay g.ff fun a m u e => g.keep a u (c.apart a m) e
/-- the frame's right -/
theorem Go.framedR (c : Cn F B H (A1 ++ A2)) (g : Go F H A1 F' H' C) (d : Cn F' B H' C) : Go F H (A1 ++ A2) F' H' (C ++ A2) ∧ Cn F' B H' (C ++ A2) := by
  obtain ⟨g2, d2⟩ := Go.framed (c.perm List.perm_append_comm) g d
  exact ⟨g2.perm List.perm_append_comm List.perm_append_comm, d2.perm List.perm_append_comm⟩
/-- cells frozen -/
def joinH (F H : Hp) (A : List Addr) : Hp := fun b => if b ∈ A then H b else F b
theorem Cn.freeze (c : Cn F B H (A1 ++ A2)) : Go F H (A1 ++ A2) (joinH F H A1) H A2 ∧ Cn (joinH F H A1) B H A2 ∧ Same F (joinH F H A1) ∧ ∀ a ∈ A1, ∀ o, H a = some o → joinH F H A1 a = some o := by
  have s : Same F (joinH F H A1) := fun b o e => by
    unfold joinH
    by_cases m : b ∈ A1
    · rw [c.fa b (List.mem_append_left _ m)] at e
      cases e
    · rw [if_neg m]
      exact e
  refine ⟨⟨s, fun _ _ _ h => h, fun b n _ => ?_, fun b m => .inl (List.mem_append_right _ m)⟩, ⟨fun b o e => ?_, c.bh, c.right.nd, fun b m => ?_, c.right.ba, c.right.ha⟩, s, fun a m o e => ?_⟩
  · unfold joinH
    rw [if_neg fun m => n (List.mem_append_left _ m)]
  · unfold joinH at e
    by_cases m : b ∈ A1
    · rw [if_pos m] at e
      exact e
    · rw [if_neg m] at e
      exact c.fh b o e
  · unfold joinH
    rw [if_neg fun z => c.apart b z m]
    exact c.right.fa b m
  · unfold joinH
    rw [if_pos m]
    exact e
/-- a new cell, frozen at once -/
theorem Cn.newF (c : Cn F B H A) {p : Addr} {o : HO} (h : H p = none) : Go F H A (upd F p o) (upd H p o) A ∧ Cn (upd F p o) B (upd H p o) A := by
  have fp : F p = none := Same.free c.fh h
  have s : Same F (upd F p o) := fun b u e => by
    rw [upd_ne (ne_of_none e fp)]
    exact e
  have sh : Same H (upd H p o) := fun b u e => by
    rw [upd_ne (ne_of_none e h)]
    exact e
  refine ⟨⟨s, fun b u _ e => sh b u e, fun b _ e => ?_, fun b m => .inl m⟩, ⟨fun b u e => ?_, c.bh.trans sh, c.nd, fun b m => ?_, c.ba, fun b m => ?_⟩⟩
  · obtain ⟨u, e'⟩ := some_ne e
    rw [upd_ne (ne_of_none e' h)]
  · by_cases q : b = p
    · subst q
      rw [upd_same] at e ⊢
      exact e
    · rw [upd_ne q] at e ⊢
      exact c.fh b u e
  · obtain ⟨u, e'⟩ := some_ne (c.ha b m)
    rw [upd_ne (ne_of_none e' h)]
    exact c.fa b m
  · obtain ⟨u, e'⟩ := some_ne (c.ha b m)
    rw [sh b u e']
    exact fun z => nomatch z
/-- a new cell, owned -/
theorem Cn.newO (c : Cn F B H A) {p : Addr} {o : HO} (h : H p = none) : Go F H A F (upd H p o) (p :: A) ∧ Cn F B (upd H p o) (p :: A) := by
  have sh : Same H (upd H p o) := fun b u e => by
    rw [upd_ne (ne_of_none e h)]
    exact e
  refine ⟨⟨Same.refl F, fun b u _ e => sh b u e, fun b _ _ => rfl, fun b m => ?_⟩, ⟨c.fh.trans sh, c.bh.trans sh, List.nodup_cons.mpr ⟨fun m => c.ha p m h, c.nd⟩, fun b m => ?_, fun b m => ?_, fun b m => ?_⟩⟩
  · rcases List.mem_cons.mp m with z | z
    · exact .inr (by rw [z]; exact h)
    · exact .inl z
  · rcases List.mem_cons.mp m with z | z
    · rw [z]
      exact Same.free c.fh h
    · exact c.fa b z
  · rcases List.mem_cons.mp m with z | z
    · rw [z]
      exact Same.free c.bh h
    · exact c.ba b z
  · rcases List.mem_cons.mp m with z | z
    · rw [z, upd_same]
      exact fun q => nomatch q
    · obtain ⟨u, e'⟩ := some_ne (c.ha b z)
      rw [sh b u e']
      exact fun q => nomatch q
/-- an owned cell written -/
theorem Cn.write (c : Cn F B H A) {p : Addr} {o : HO} (h : p ∈ A) : Go F H A F (upd H p o) A ∧ Cn F B (upd H p o) A := by
  have sh : ∀ b u, b ≠ p → H b = some u → upd H p o b = some u := fun b u n e => by
    rw [upd_ne n]
    exact e
  refine ⟨⟨Same.refl F, fun b u n e => sh b u (fun z => n (z ▸ h)) e, fun b _ _ => rfl, fun b m => .inl m⟩, ⟨fun b u e => sh b u ?_ (c.fh b u e), fun b u e => sh b u ?_ (c.bh b u e), c.nd, c.fa, c.ba, fun b m => ?_⟩⟩
  · intro z
    subst z
    rw [c.fa _ h] at e
    cases e
  · intro z
    subst z
    rw [c.ba _ h] at e
    cases e
  · by_cases q : b = p
    · rw [q, upd_same]
      exact fun z => nomatch z
    · rw [upd_ne q]
      exact c.ha b m
end
end Tl

namespace Tl
open PySem PySem.Spec PyProof.Rows L2

inductive R where
  | val (t : T)
  | vw (t : T)
def R.er : R → Option D
  | .val t => t.fz
  | .vw t => t.fz
/-- as a thing that is kept -/
def R.st : R → Option D
  | .val t => t.fz
  | .vw (.leaf d) => some d
  | .vw _ => none
def erL : List R → Option (List D)
  | [] => some []
  | r :: rs => r.er.bind fun d => (erL rs).bind fun ds => some (d :: ds)
def stL : List R → Option (List D)
  | [] => some []
  | r :: rs => r.st.bind fun d => (stL rs).bind fun ds => some (d :: ds)
/-- plain results -/
abbrev rd (d : D) : R := .val (.leaf d)
abbrev rInt (i : Int) : R := rd (.int i)
abbrev rBool (b : Bool) : R := rd (.bool b)
section
variable (K : PySem.W.Frag) (F B H : Hp)
def ROk : R → V → List Addr → Prop
  | .val t, v, A => Own K F H v t A
  | .vw t, v, A => A = [] ∧ ∃ A', Own K F B v t A'
inductive RsOk : List R → List V → List Addr → Prop
  | nil : RsOk [] [] []
  | cons {r : R} {rs : List R} {v : V} {vs : List V} {A A' : List Addr} : ROk K F B H r v A → RsOk rs vs A' → RsOk (r :: rs) (v :: vs) (A ++ A')
end
section
variable {K : PySem.W.Frag} {F F' B H H' : Hp} {A A1 A2 A3 : List Addr}
theorem ROk.rep {r : R} {v : V} {d : D} (o : ROk K F B H r v A) (f : Same F F') (b : Same B F') (h : ∀ a ∈ A, ∀ o, H a = some o → F' a = some o) (e : r.er = some d) : Rep K F' v d := by
  cases r with
  | val t => exact Own.rep f o h e
  | vw t =>
    obtain ⟨_, A', o⟩ := o
    exact Own.rep f o (fun a _ o q => b a o q) e
theorem RsOk.rep : ∀ {rs : List R} {vs : List V} {A : List Addr} {ds : List D}, RsOk K F B H rs vs A → Same F F' → Same B F' → (∀ a ∈ A, ∀ o, H a = some o → F' a = some o) → erL rs = some ds → RepL K F' vs ds
  | _, _, _, _, .nil, _, _, _, e => by
    cases e
    exact .nil
  | r :: rs, _, _, _, .cons o t, f, b, h, e => by
    have e' : r.er.bind (fun d => (erL rs).bind fun ds => some (d :: ds)) = some _ := e
    obtain ⟨d, e1, w2⟩ := Option.bind_eq_some_iff.mp e'
    obtain ⟨ds, e2, w3⟩ := Option.bind_eq_some_iff.mp w2
    cases w3
    exact .cons (o.rep f b (fun a m => h a (List.mem_append_left _ m)) e1) (RsOk.rep t f b (fun a m => h a (List.mem_append_right _ m)) e2)
theorem ROk.keep {r : R} {v : V} {d : D} (o : ROk K F B H r v A) (f : Same F F') (h : ∀ a ∈ A, ∀ o, H a = some o → F' a = some o) (e : r.st = some d) : Rep K F' v d := by
  cases r with
  | val t => exact Own.rep f o h e
  | vw t =>
    obtain ⟨_, A', o⟩ := o
    cases t with
    | leaf d =>
      cases e
      cases o with
      | leaf r => exact r.mono f
    | _ => cases e
theorem RsOk.keep : ∀ {rs : List R} {vs : List V} {A : List Addr} {ds : List D}, RsOk K F B H rs vs A → Same F F' → (∀ a ∈ A, ∀ o, H a = some o → F' a = some o) → stL rs = some ds → RepL K F' vs ds
  | _, _, _, _, .nil, _, _, e => by
    cases e
    exact .nil
  | r :: rs, _, _, _, .cons o t, f, h, e => by
    have e' : r.st.bind (fun d => (stL rs).bind fun ds => some (d :: ds)) = some _ := e
    obtain ⟨d, e1, w2⟩ := Option.bind_eq_some_iff.mp e'
    obtain ⟨ds, e2, w3⟩ := Option.bind_eq_some_iff.mp w2
    cases w3
    exact .cons (o.keep f (fun a m => h a (List.mem_append_left _ m)) e1) (RsOk.keep t f (fun a m => h a (List.mem_append_right _ m)) e2)
theorem RsOk.length : ∀ {rs : List R} {vs : List V} {A : List Addr}, RsOk K F B H rs vs A → vs.length = rs.length
  | _, _, _, .nil => rfl
  | _, _, _, .cons _ t => congrArg (· + 1) (RsOk.length t)
theorem ROk.stay {r : R} {v : V} (o : ROk K F B H r v A) (f : Same F F') (h : ∀ a ∈ A, ∀ o, H a = some o → H' a = some o) : ROk K F' B H' r v A := by
  cases r with
  | val t => exact Own.stay f o h
  | vw t =>
    obtain ⟨e, A', o⟩ := o
    exact ⟨e, A', Own.stay f o fun _ _ _ q => q⟩
theorem RsOk.stay : ∀ {rs : List R} {vs : List V} {A : List Addr}, RsOk K F B H rs vs A → Same F F' → (∀ a ∈ A, ∀ o, H a = some o → H' a = some o) → RsOk K F' B H' rs vs A
  | _, _, _, .nil, _, _ => .nil
  | _, _, _, .cons o t, f, h => .cons (o.stay f fun a m => h a (List.mem_append_left _ m)) (RsOk.stay t f fun a m => h a (List.mem_append_right _ m))
/-- a result frozen -/
theorem ROk.freeze {r : R} {v : V} {d : D} (c : Cn F B H (A1 ++ A2)) (o : ROk K F B H r v A1) (e : r.st = some d) : ∃ F', Go F H (A1 ++ A2) F' H A2 ∧ Cn F' B H A2 ∧ Same F F' ∧ Rep K F' v d := by
  obtain ⟨g, c', s, h⟩ := c.freeze
  exact ⟨_, g, c', s, o.keep s h e⟩
theorem RsOk.freeze {rs : List R} {vs : List V} {ds : List D} (c : Cn F B H (A1 ++ A2)) (o : RsOk K F B H rs vs A1) (e : stL rs = some ds) : ∃ F', Go F H (A1 ++ A2) F' H A2 ∧ Cn F' B H A2 ∧ Same F F' ∧ RepL K F' vs ds := by
  obtain ⟨g, c', s, h⟩ := c.freeze
  exact ⟨_, g, c', s, o.keep s h e⟩
end

abbrev Tau := List (Nat × T)
def tget : Tau → Nat → Option T
  | [], _ => none
  | (j, t) :: r, i => if j = i then some t else tget r i
def tdel : Tau → Nat → Tau
  | [], _ => []
  | (j, t) :: r, i => if j = i then tdel r i else (j, t) :: tdel r i
/-- put in place -/
def tset : Tau → Nat → T → Tau
  | [], i, t => [(i, t)]
  | (j, u) :: r, i, t => if j = i then (i, t) :: r else (j, u) :: tset r i t
abbrev Fz := List (Option D)
def fget : Fz → Nat → Option D
  | [], _ => none
  | x :: _, 0 => x
  | _ :: r, n + 1 => fget r n
def fset : Fz → Nat → Option D → Fz
  | [], _, _ => []
  | _ :: r, 0, d => d :: r
  | x :: r, n + 1, d => x :: fset r n d
theorem fset_length : ∀ (f : Fz) (i : Nat) (d : Option D), (fset f i d).length = f.length
  | [], _, _ => rfl
  | _ :: _, 0, _ => rfl
  | _ :: r, n + 1, d => congrArg (· + 1) (fset_length r n d)
theorem fget_set_same : ∀ {f : Fz} {i : Nat} {d : Option D} {e : D}, fget (fset f i d) i = some e → d = some e
  | _ :: _, 0, _, _, h => h
  | _ :: r, n + 1, d, e, h => fget_set_same (f := r) (i := n) h
theorem fget_set_ne : ∀ {f : Fz} {i j : Nat} {d : Option D}, j ≠ i → fget (fset f i d) j = fget f j
  | [], _, _, _, _ => rfl
  | _ :: _, 0, 0, _, h => absurd rfl h
  | _ :: _, 0, j + 1, _, _ => rfl
  | _ :: _, i + 1, 0, _, _ => rfl
  | _ :: r, i + 1, j + 1, d, h => fget_set_ne (f := r) fun e => h (congrArg (· + 1) e)
theorem fget_lt : ∀ {f : Fz} {i : Nat} {d : D}, fget f i = some d → i < f.length
  | _ :: _, 0, _, _ => Nat.succ_pos _
  | _ :: r, n + 1, d, h => Nat.succ_lt_succ (fget_lt (f := r) h)
structure Ro where
  fz : Fz
  vw : Tau
section
variable (K : PySem.W.Frag)
def FzOk (F : Hp) (σ : L2.St) (f : Fz) : Prop := f.length = σ.length ∧ ∀ i d, fget f i = some d → ∃ v, σ[i]? = some (some v) ∧ Rep K F v d
def VwOk (F B : Hp) (σ : L2.St) (τ : Tau) : Prop := ∀ p ∈ τ, ∃ v A, σ[p.1]? = some (some v) ∧ Own K F B v p.2 A
structure RoOk (F B : Hp) (σ : L2.St) (ro : Ro) : Prop where
  fz : FzOk K F σ ro.fz
  vw : VwOk K F B σ ro.vw
inductive TauOk (F H : Hp) (σ : L2.St) : Tau → List Addr → Prop
  | nil : TauOk F H σ [] []
  | cons {i : Nat} {t : T} {τ : Tau} {v : V} {A A' : List Addr} : σ[i]? = some (some v) → Own K F H v t A → TauOk F H σ τ A' → TauOk F H σ ((i, t) :: τ) (A ++ A')
structure At (F B H : Hp) (σ : L2.St) (ro : Ro) (τ : Tau) (A : List Addr) : Prop where
  cn : Cn F B H A
  ro : RoOk K F B σ ro
  tau : TauOk K F H σ τ A
end
section
variable {K : PySem.W.Frag} {F F' B H H' : Hp} {σ : L2.St} {A A1 A2 A3 C : List Addr}
theorem FzOk.mono {f : Fz} (o : FzOk K F σ f) (s : Same F F') : FzOk K F' σ f := ⟨o.1, fun i d e => let ⟨v, h, r⟩ := o.2 i d e; ⟨v, h, r.mono s⟩⟩
theorem VwOk.mono {f : Tau} (o : VwOk K F B σ f) (s : Same F F') : VwOk K F' B σ f := fun p m => let ⟨v, A, h, r⟩ := o p m; ⟨v, A, h, r.stay s fun _ _ _ q => q⟩
theorem RoOk.mono {ro : Ro} (o : RoOk K F B σ ro) (s : Same F F') : RoOk K F' B σ ro := ⟨o.fz.mono s, o.vw.mono s⟩
theorem TauOk.stay (s : Same F F') : ∀ {τ : Tau} {A : List Addr}, TauOk K F H σ τ A → (∀ a ∈ A, ∀ o, H a = some o → H' a = some o) → TauOk K F' H' σ τ A
  | _, _, .nil, _ => .nil
  | _, _, .cons h o t, k => .cons h (o.stay s fun a m => k a (List.mem_append_left _ m)) (TauOk.stay s t fun a m => k a (List.mem_append_right _ m))
theorem tget_mem : ∀ {τ : Tau} {i : Nat} {t : T}, tget τ i = some t → (i, t) ∈ τ
  | (j, u) :: r, i, t, h => by
    have h' : (if j = i then some u else tget r i) = some t := h
    by_cases q : j = i
    · rw [if_pos q] at h'
      cases h'
      rw [q]
      exact List.mem_cons_self
    · rw [if_neg q] at h'
      exact List.mem_cons_of_mem _ (tget_mem h')
theorem tdel_sub : ∀ {τ : Tau} {i : Nat} {p : Nat × T}, p ∈ tdel τ i → p ∈ τ ∧ p.1 ≠ i
  | (j, u) :: r, i, p, h => by
    have h' : p ∈ (if j = i then tdel r i else (j, u) :: tdel r i) := h
    by_cases q : j = i
    · rw [if_pos q] at h'
      have z := tdel_sub h'
      exact ⟨List.mem_cons_of_mem _ z.1, z.2⟩
    · rw [if_neg q] at h'
      rcases List.mem_cons.mp h' with e | m
      · rw [e]
        exact ⟨List.mem_cons_self, q⟩
      · have z := tdel_sub m
        exact ⟨List.mem_cons_of_mem _ z.1, z.2⟩
/-- the slot i dropped -/
theorem TauOk.del : ∀ {τ : Tau} {A : List Addr} (i : Nat), TauOk K F H σ τ A → A.Nodup → ∃ A', TauOk K F H σ (tdel τ i) A' ∧ A'.Nodup ∧ ∀ a ∈ A', a ∈ A
  | _, _, _, .nil, n => ⟨[], .nil, n, fun _ m => m⟩
  | (j, u) :: r, _, i, .cons (A := A) (A' := A0) h o t, n => by
    obtain ⟨A', t', n', s'⟩ := TauOk.del i t (List.nodup_append.mp n).2.1
    by_cases q : j = i
    · refine ⟨A', ?_, n', fun a m => List.mem_append_right _ (s' a m)⟩
      show TauOk K F H σ (if j = i then tdel r i else (j, u) :: tdel r i) A'
      rw [if_pos q]
      exact t'
    · refine ⟨A ++ A', ?_, List.nodup_append.mpr ⟨(List.nodup_append.mp n).1, n', fun a m b m2 => (List.nodup_append.mp n).2.2 a m b (s' b m2)⟩, fun a m => ?_⟩
      · show TauOk K F H σ (if j = i then tdel r i else (j, u) :: tdel r i) (A ++ A')
        rw [if_neg q]
        exact .cons h o t'
      · rcases List.mem_append.mp m with z | z
        · exact List.mem_append_left _ z
        · exact List.mem_append_right _ (s' a z)
/-- the slot i taken out -/
theorem TauOk.take : ∀ {τ : Tau} {A : List Addr} {i : Nat} {t : T}, TauOk K F H σ τ A → A.Nodup → tget τ i = some t →
    ∃ v A1 A2, σ[i]? = some (some v) ∧ Own K F H v t A1 ∧ TauOk K F H σ (tset τ i .hole) A2 ∧ (A1 ++ A2).Nodup ∧ ∀ a ∈ A1 ++ A2, a ∈ A
  | (j, u) :: r, _, i, t, .cons (v := v) (A := A) (A' := A0) h o tt, n, e => by
    have e' : (if j = i then some u else tget r i) = some t := e
    obtain ⟨n1, n2, n3⟩ := List.nodup_append.mp n
    by_cases q : j = i
    · rw [if_pos q] at e'
      cases e'
      refine ⟨v, A, [] ++ A0, q ▸ h, o, ?_, n, fun a m => m⟩
      show TauOk K F H σ (if j = i then (i, T.hole) :: r else (j, u) :: tset r i .hole) ([] ++ A0)
      rw [if_pos q]
      exact .cons (q ▸ h) .hole tt
    · rw [if_neg q] at e'
      obtain ⟨w, A1, A2, hw, ow, tw, nw, sw⟩ := TauOk.take tt n2 e'
      obtain ⟨m1, m2, m3⟩ := List.nodup_append.mp nw
      have in1 : ∀ a ∈ A1, a ∈ A0 := fun a m => sw a (List.mem_append_left _ m)
      have in2 : ∀ a ∈ A2, a ∈ A0 := fun a m => sw a (List.mem_append_right _ m)
      refine ⟨w, A1, A ++ A2, hw, ow, ?_, List.nodup_append.mpr ⟨m1, List.nodup_append.mpr ⟨n1, m2, fun a m b m' => n3 a m b (in2 b m')⟩, fun a m b m' => ?_⟩, fun a m => ?_⟩
      · show TauOk K F H σ (if j = i then (i, T.hole) :: r else (j, u) :: tset r i .hole) (A ++ A2)
        rw [if_neg q]
        exact .cons h o tw
      · rcases List.mem_append.mp m' with z | z
        · exact fun e => n3 b z a (in1 a m) e.symm
        · exact m3 a m b z
      · rcases List.mem_append.mp m with z | z
        · exact List.mem_append_right _ (in1 a z)
        · rcases List.mem_append.mp z with z | z
          · exact List.mem_append_left _ z
          · exact List.mem_append_right _ (in2 a z)
/-- the slot i put -/
theorem TauOk.put : ∀ {τ : Tau} {A2 : List Addr} {i : Nat} {t : T} {v : V} {A1 : List Addr}, TauOk K F H σ τ A2 → σ[i]? = some (some v) → Own K F H v t A1 → (A1 ++ A2).Nodup →
    ∃ A', TauOk K F H σ (tset τ i t) A' ∧ A'.Nodup ∧ ∀ a ∈ A', a ∈ A1 ++ A2
  | [], _, i, t, v, A1, .nil, hv, o, n => ⟨A1 ++ [], .cons hv o .nil, n, fun a m => m⟩
  | (j, u) :: r, _, i, t, v, A1, .cons (A := A) (A' := A0) h o' tt, hv, o, n => by
    obtain ⟨n1, n2, n3⟩ := List.nodup_append.mp n
    obtain ⟨m1, m2, m3⟩ := List.nodup_append.mp n2
    by_cases q : j = i
    · refine ⟨A1 ++ A0, ?_, List.nodup_append.mpr ⟨n1, m2, fun a m b m' => n3 a m b (List.mem_append_right _ m')⟩, fun a m => ?_⟩
      · show TauOk K F H σ (if j = i then (i, t) :: r else (j, u) :: tset r i t) (A1 ++ A0)
        rw [if_pos q]
        exact .cons hv o tt
      · rcases List.mem_append.mp m with z | z
        · exact List.mem_append_left _ z
        · exact List.mem_append_right _ (List.mem_append_right _ z)
    · have nn : (A1 ++ A0).Nodup := List.nodup_append.mpr ⟨n1, m2, fun a m b m' => n3 a m b (List.mem_append_right _ m')⟩
      obtain ⟨A', t', n', s'⟩ := TauOk.put tt hv o nn
      refine ⟨A ++ A', ?_, List.nodup_append.mpr ⟨m1, n', fun a m b m' => ?_⟩, fun a m => ?_⟩
      · show TauOk K F H σ (if j = i then (i, t) :: r else (j, u) :: tset r i t) (A ++ A')
        rw [if_neg q]
        exact .cons h o' t'
      · rcases List.mem_append.mp (s' b m') with z | z
        · exact fun e => n3 b z a (List.mem_append_left _ m) e.symm
        · exact m3 a m b z
      · rcases List.mem_append.mp m with z | z
        · exact List.mem_append_right _ (List.mem_append_left _ z)
        · rcases List.mem_append.mp (s' a z) with z | z
          · exact List.mem_append_left _ z
          · exact List.mem_append_right _ (List.mem_append_right _ z)
theorem Go.ros (c : Cn F B H (A1 ++ A2)) (g : Go F H A2 F' H' C) {r : R} {v : V} (o : ROk K F B H r v A1) : ROk K F' B H' r v A1 :=
  o.stay g.ff fun a m u e => g.keep a u (c.apart a m) e
end

section
variable (X : Cx)
def wpE (e : Expr) : TE := fun σ H Q => ∀ (pins : List (Addr × Obj)) (s : Shared), Inv X pins σ H s → wpAny (model X.prog X.w) X.A (eval e X.env) (EP X pins σ Q) X.xe s
def wpT (e : Expr) : TT := fun σ H Q => ∀ (pins : List (Addr × Obj)) (s : Shared), Inv X pins σ H s → wpAny (model X.prog X.w) X.A (isTrue e X.env (eval e X.env)) (TP X pins σ Q) X.xe s
def wpW (e : Expr) : TT := fun σ H Q => ∀ (whole : Sem Value) (pins : List (Addr × Obj)) (s : Shared), Inv X pins σ H s → wpAny (model X.prog X.w) X.A (isTrue e X.env whole) (TP X pins σ Q) X.xe s
def wpA (es : List Expr) : TA := fun σ H Q => ∀ (pos : Pos) (pins : List (Addr × Obj)) (s : Shared), Inv X pins σ H s → wpAny (model X.prog X.w) X.A (spliced (backTo pos (starEach es X.env))) (AP X pins σ Q) X.xe s
def wpS (st : Stmt) : TS := fun D σ H => ∀ (pins : List (Addr × Obj)) (s : Shared), Inv X pins σ H s → wpAny (model X.prog X.w) X.A (exec st X.env) (SP X pins D) X.xe s
def wpB (st : List Stmt) : TS := fun D σ H => ∀ (pins : List (Addr × Obj)) (s : Shared), Inv X pins σ H s → wpAny (model X.prog X.w) X.A (execs st X.env) (SP X pins D) X.xe s
def wpG (tg : Expr) : TG := fun v σ H Q => ∀ (pins : List (Addr × Obj)) (s : Shared) (u : Value), Inv X pins σ H s → RelV v u →
  wpAny (model X.prog X.w) X.A (assign tg X.env u) (fun _ s' => ∃ σ' H', Inv X pins σ' H' s' ∧ Q σ' H') X.xe s
def wpI (tg iter : Expr) : TI := fun σ H R => ∀ (pins : List (Addr × Obj)) (s : Shared), Inv X pins σ H s →
  wpAny (model X.prog X.w) X.A (eval iter X.env) (fun v s1 => wpAny (model X.prog X.w) X.A (pyIter v) (PIE X pins σ tg R) X.xe s1) X.xe s
end
section
variable {X : Cx} {e : Expr} {es : List Expr} {st : Stmt} {sts : List Stmt} {tg : Expr} {σ : L2.St} {H : Hp}
theorem peW : PE X e (wpE X e) := ⟨fun pins s σ H Q I h => h pins s I⟩
theorem ptW : PT X e (wpT X e) := ⟨fun pins s σ H Q I h => h pins s I⟩
theorem pwW : PW X e (wpW X e) := ⟨fun wh pins s σ H Q I h => h wh pins s I⟩
theorem paW : PA X es (wpA X es) := ⟨fun pos pins s σ H Q I h => h pos pins s I⟩
theorem psW : PS X st (wpS X st) := ⟨fun pins s σ H D I h => h pins s I⟩
theorem pssW : PSs X sts (wpB X sts) := ⟨fun pins s σ H D I h => h pins s I⟩
theorem pgW : PG X tg (wpG X tg) := ⟨fun pins s σ H v u Q I r h => h pins s u I r⟩
theorem piW : PI X tg e (wpI X tg e) := ⟨fun pins s σ H R I h => h pins s I⟩
theorem wE {t : TE} {Q : VK} (p : PE X e t) (h : t σ H Q) : wpE X e σ H Q := fun pins s I => p.run pins s σ H Q I h
theorem wT {t : TT} {Q : Bool → Hp → Prop} (p : PT X e t) (h : t σ H Q) : wpT X e σ H Q := fun pins s I => p.run pins s σ H Q I h
theorem wW {t : TT} {Q : Bool → Hp → Prop} (p : PW X e t) (h : t σ H Q) : wpW X e σ H Q := fun wh pins s I => p.run wh pins s σ H Q I h
theorem wA {t : TA} {Q : List V → Hp → Prop} (p : PA X es t) (h : t σ H Q) : wpA X es σ H Q := fun pos pins s I => p.run pos pins s σ H Q I h
theorem wS {t : TS} {D : Ends} (p : PS X st t) (h : t D σ H) : wpS X st D σ H := fun pins s I => p.run pins s σ H D I h
theorem wB {t : TS} {D : Ends} (p : PSs X sts t) (h : t D σ H) : wpB X sts D σ H := fun pins s I => p.run pins s σ H D I h
theorem wG {t : TG} {v : V} {Q : L2.St → Hp → Prop} (p : PG X tg t) (h : t v σ H Q) : wpG X tg v σ H Q := fun pins s u I r => p.run pins s σ H v u Q I r h
theorem wI {t : TI} {R : It → Hp → Prop} (p : PI X tg e t) (h : t σ H R) : wpI X tg e σ H R := fun pins s I => p.run pins s σ H R I h
end

abbrev MV := Ro → Tau → Option (R × Tau)
abbrev MB := Ro → Tau → Option (Bool × Tau)
abbrev ML := Ro → Tau → Option (List R × Tau)
section
variable (K : PySem.W.Frag)
structure EV (t : TE) (m : MV) : Prop where
  run : ∀ (ro : Ro) (τ : Tau) (r : R) (τ' : Tau), m ro τ = some (r, τ') → ∀ (F B H : Hp) (σ : L2.St) (A : List Addr) (Q : VK), At K F B H σ ro τ A →
    (∀ (F' H' : Hp) (v : V) (A1 A2 : List Addr), Go F H A F' H' (A1 ++ A2) → Cn F' B H' (A1 ++ A2) → ROk K F' B H' r v A1 → TauOk K F' H' σ τ' A2 → Q v H') → t σ H Q
structure TV (t : TT) (m : MB) : Prop where
  run : ∀ (ro : Ro) (τ : Tau) (r : Bool) (τ' : Tau), m ro τ = some (r, τ') → ∀ (F B H : Hp) (σ : L2.St) (A : List Addr) (Q : Bool → Hp → Prop), At K F B H σ ro τ A →
    (∀ (F' H' : Hp) (A2 : List Addr), Go F H A F' H' A2 → Cn F' B H' A2 → TauOk K F' H' σ τ' A2 → Q r H') → t σ H Q
end
abbrev ER (X : Cx) (e : Expr) (m : MV) : Prop := EV X.K (wpE X e) m
abbrev TR (X : Cx) (e : Expr) (m : MB) : Prop := TV X.K (wpT X e) m
abbrev TW (X : Cx) (e : Expr) (m : MB) : Prop := TV X.K (wpW X e) m
section
variable (X : Cx)
/-- several results, by whatever is run -/
structure AQ (K : PySem.W.Frag) (wp : L2.St → Hp → (List V → Hp → Prop) → Prop) (n : Nat) (m : ML) : Prop where
  len : ∀ (ro : Ro) (τ : Tau) (r : List R) (τ' : Tau), m ro τ = some (r, τ') → r.length = n
  run : ∀ (ro : Ro) (τ : Tau) (r : List R) (τ' : Tau), m ro τ = some (r, τ') → ∀ (F B H : Hp) (σ : L2.St) (A : List Addr) (Q : List V → Hp → Prop), At K F B H σ ro τ A →
    (∀ (F' H' : Hp) (v : List V) (A1 A2 : List Addr), Go F H A F' H' (A1 ++ A2) → Cn F' B H' (A1 ++ A2) → RsOk K F' B H' r v A1 → TauOk K F' H' σ τ' A2 → Q v H') → wp σ H Q
abbrev AR (es : List Expr) (m : ML) : Prop := AQ X.K (wpA X es) es.length m
end
section
variable {X : Cx} {K : PySem.W.Frag} {F F' B H H' : Hp} {σ : L2.St} {A A1 A2 A3 : List Addr} {ro : Ro} {τ τ' : Tau}
/-- the state for what comes behind -/
theorem At.next (a : At K F B H σ ro τ A) (g : Go F H A F' H' (A1 ++ A2)) (c : Cn F' B H' (A1 ++ A2)) (t : TauOk K F' H' σ τ' A2) : At K F' B H' σ ro τ' A2 := ⟨c.right, a.ro.mono g.ff, t⟩
theorem At.next0 (a : At K F B H σ ro τ A) (g : Go F H A F' H' A2) (c : Cn F' B H' A2) (t : TauOk K F' H' σ τ' A2) : At K F' B H' σ ro τ' A2 := ⟨c, a.ro.mono g.ff, t⟩

def VR (K : PySem.W.Frag) (run : List V → Hp → VK → Prop) (g : List R → Option R) : Prop :=
  ∀ (rs : List R) (z : R), g rs = some z → ∀ (F B H : Hp) (vs : List V) (A : List Addr) (Q : VK), Cn F B H A → RsOk K F B H rs vs A →
    (∀ (F' H' : Hp) (u : V) (A' : List Addr), Go F H A F' H' A' → Cn F' B H' A' → ROk K F' B H' z u A' → Q u H') → run vs H Q
/-- plain data in, a plain scalar out -/
def gp (p : List D → Option D) : List R → Option R := fun rs => (erL rs).bind fun ds => (p ds).map rd
theorem VR.plain {run : List V → Hp → VK → Prop} {p : List D → Option D}
    (h : ∀ (ds : List D) (d : D), p ds = some d → ∀ (H : Hp) (vs : List V) (Q : VK), RepL K H vs ds → (∀ v, (∀ F : Hp, Rep K F v d) → Q v H) → run vs H Q) : VR K run (gp p) := by
  intro rs z e F B H vs A Q c o k
  obtain ⟨ds, e1, e2⟩ := Option.bind_eq_some_iff.mp e
  obtain ⟨d, e3, e4⟩ := Option.map_eq_some_iff.mp e2
  subst e4
  refine h ds d e3 H vs Q (o.rep c.fh c.bh (fun _ _ _ q => q) e1) fun v r => ?_
  exact k F H v [] (Go.less fun _ m => nomatch m) (c.sub .nil fun _ m => nomatch m) (.leaf (r F))
/-- plain data in, frozen; a plain thing out -/
def gk (p : List D → Option D) : List R → Option R := fun rs => (stL rs).bind fun ds => (p ds).map rd
theorem VR.kept {run : List V → Hp → VK → Prop} {p : List D → Option D}
    (h : ∀ (ds : List D) (d : D), p ds = some d → ∀ (F H : Hp) (vs : List V) (Q : VK), Same F H → RepL K F vs ds →
      (∀ (F' H' : Hp) (v : V), (∀ B : Hp, Same B H → ∀ A : List Addr, Cn F B H A → Go F H A F' H' A ∧ Cn F' B H' A) → Rep K F' v d → Q v H') → run vs H Q) : VR K run (gk p) := by
  intro rs z e F B H vs A Q c o k
  obtain ⟨ds, e1, e2⟩ := Option.bind_eq_some_iff.mp e
  obtain ⟨d, e3, e4⟩ := Option.map_eq_some_iff.mp e2
  subst e4
  obtain ⟨F1, g, c1, s, r⟩ := RsOk.freeze (A2 := []) (by rw [List.append_nil]; exact c) o e1
  rw [List.append_nil] at g
  refine h ds d e3 F1 H vs Q c1.fh r fun F' H' v w r' => ?_
  obtain ⟨g2, c2⟩ := w B c1.bh [] c1
  exact k F' H' v [] (g.trans g2) c2 (.leaf r')

def mVar (i : Nat) : MV := fun ro τ => (fget ro.fz i).map fun d => (rd d, τ)
def mVw (i : Nat) : MV := fun ro τ => (tget ro.vw i).map fun t => (.vw t, τ)
def mTake (i : Nat) : MV := fun _ τ => (tget τ i).map fun t => (.val t, tset τ i .hole)
def mC (d : D) : MV := fun _ τ => some (rd d, τ)
variable {e a b : Expr} {pos : Pos} {i : Nat} {x : Str}
theorem er_var (h : PE X e (tVar i)) : ER X e (mVar i) := ⟨fun ro τ r τ' em F B H σ A Q a k => by
  obtain ⟨d, e1, e2⟩ := Option.map_eq_some_iff.mp em
  cases e2
  obtain ⟨v, hv, rv⟩ := a.ro.fz.2 i d e1
  exact wE h ⟨v, hv, k F H v [] A Go.refl a.cn (.leaf rv) a.tau⟩⟩
theorem er_vw (h : PE X e (tVar i)) : ER X e (mVw i) := ⟨fun ro τ r τ' em F B H σ A Q a k => by
  obtain ⟨t, e1, e2⟩ := Option.map_eq_some_iff.mp em
  cases e2
  obtain ⟨v, A', hv, rv⟩ := a.ro.vw _ (tget_mem e1)
  exact wE h ⟨v, hv, k F H v [] A Go.refl a.cn ⟨rfl, A', rv⟩ a.tau⟩⟩
theorem er_take (h : PE X e (tVar i)) : ER X e (mTake i) := ⟨fun ro τ r τ' em F B H σ A Q a k => by
  obtain ⟨t, e1, e2⟩ := Option.map_eq_some_iff.mp em
  cases e2
  obtain ⟨v, A1, A2, hv, o, t', n, s⟩ := a.tau.take a.cn.nd e1
  exact wE h ⟨v, hv, k F H v A1 A2 (Go.less s) (a.cn.sub n s) o t'⟩⟩
theorem er_c {v : V} {d : D} (h : PE X e (tC v)) (r : ∀ F : Hp, Rep X.K F v d) : ER X e (mC d) := ⟨fun ro τ r' τ' em F B H σ A Q a k => by
  cases em
  exact wE h (k F H v [] A Go.refl a.cn (.leaf (r F)) a.tau)⟩
theorem er_int {n : Int} {j : Nat} : ER X (.Constant (.int n) j pos) (mC (.int n)) := er_c pe_int fun _ => .int n
theorem er_bl {n : Bool} {j : Nat} : ER X (.Constant (.bool n) j pos) (mC (.bool n)) := er_c pe_bl fun _ => .bl n
theorem er_non {j : Nat} : ER X (.Constant .none j pos) (mC .none) := er_c pe_non fun _ => .non
/-- an owned name read through a glass: nothing of it is kept -/
def mBor (i : Nat) (m : MV) : MV := fun ro τ => (tget τ i).bind fun t => (m ⟨ro.fz, (i, t) :: ro.vw⟩ (tset τ i .hole)).bind fun p => match p.1 with
  | .val x => some (.val x, tset p.2 i t)
  | .vw (.leaf d) => some (rd d, tset p.2 i t)
  | .vw _ => none
theorem ROk.solid {r : R} {v : V} {A : List Addr} (o : ROk K F B H r v A) {x : T} (h : r = .val x ∨ ∃ d, r = .vw (.leaf d) ∧ x = .leaf d) : Own K F H v x A := by
  rcases h with rfl | ⟨d, rfl, rfl⟩
  · exact o
  · obtain ⟨rfl, A', o⟩ := o
    cases o with
    | leaf r => exact .leaf r
theorem ev_bor {t : TE} {m : MV} (h : EV K t m) : EV K t (mBor i m) := ⟨fun ro τ r τ' em F B H σ A Q a k => by
  obtain ⟨u, e1, em⟩ := Option.bind_eq_some_iff.mp em
  obtain ⟨⟨z, τ1⟩, e2, em⟩ := Option.bind_eq_some_iff.mp em
  obtain ⟨x, ex, er, et⟩ : ∃ x, (z = .val x ∨ ∃ d, z = .vw (.leaf d) ∧ x = .leaf d) ∧ r = .val x ∧ τ' = tset τ1 i u := by
    cases z with
    | val x =>
      cases em
      exact ⟨x, .inl rfl, rfl, rfl⟩
    | vw x =>
      cases x with
      | leaf d =>
        cases em
        exact ⟨_, .inr ⟨d, rfl, rfl⟩, rfl, rfl⟩
      | _ => cases em
  subst er
  subst et
  obtain ⟨v, A1, A2, hv, o, t', n, s⟩ := a.tau.take a.cn.nd e1
  have c := a.cn.sub n s
  -- the cells of the slot, seen beside B
  let B' : Hp := fun b => if b ∈ A1 then H b else B b
  have bs : Same B B' := fun b w e => by
    have nb : b ∉ A1 := fun z => by
      rw [c.ba b (List.mem_append_left _ z)] at e
      cases e
    show (if b ∈ A1 then H b else B b) = some w
    rw [if_neg nb]
    exact e
  have hb : ∀ b ∈ A1, ∀ w, H b = some w → B' b = some w := fun b m w e => by
    show (if b ∈ A1 then H b else B b) = some w
    rw [if_pos m]
    exact e
  have c2 : Cn F B' H A2 := ⟨c.fh, fun b w e => (by
      have e' : (if b ∈ A1 then H b else B b) = some w := e
      by_cases q : b ∈ A1
      · rw [if_pos q] at e'
        exact e'
      · rw [if_neg q] at e'
        exact c.bh b w e'), c.right.nd, c.right.fa, fun b m => (by
      show (if b ∈ A1 then H b else B b) = none
      rw [if_neg fun z => c.apart b z m]
      exact c.right.ba b m), c.right.ha⟩
  have vw' : VwOk K F B' σ ((i, u) :: ro.vw) := fun p m => by
    rcases List.mem_cons.mp m with e | m
    · subst e
      exact ⟨v, A1, hv, o.stay (Same.refl F) hb⟩
    · obtain ⟨w, A', hw, ow⟩ := a.ro.vw p m
      exact ⟨w, A', hw, ow.stay (Same.refl F) fun b m w e => bs b w e⟩
  refine h.run _ _ z τ1 e2 F B' H σ A2 Q ⟨c2, ⟨a.ro.fz, vw'⟩, t'⟩ fun F' H' w R1 R2 g' c' o' tt => ?_
  have c'' : Cn F' B H' (R1 ++ R2) := ⟨c'.fh, fun b w e => c'.bh b w (bs b w e), c'.nd, c'.fa, fun b m => (by
      cases e : B b with
      | none => rfl
      | some w =>
        have := c'.ba b m
        rw [bs b w e] at this
        cases this), c'.ha⟩
  obtain ⟨g3, c3⟩ := Go.framed c g' c''
  have ou : Own K F' H' v u A1 := Go.beside c g' o
  have n3 : (A1 ++ R2).Nodup := c3.nd.sublist (List.Sublist.append (List.Sublist.refl A1) (List.sublist_append_right R1 R2))
  obtain ⟨A3, t3, nd3, s3⟩ := tt.put hv ou n3
  have sub : ∀ b ∈ R1 ++ A3, b ∈ A1 ++ (R1 ++ R2) := fun b m => by
    rcases List.mem_append.mp m with q | q
    · exact List.mem_append_right _ (List.mem_append_left _ q)
    · rcases List.mem_append.mp (s3 b q) with q | q
      · exact List.mem_append_left _ q
      · exact List.mem_append_right _ (List.mem_append_right _ q)
  have nd4 : (R1 ++ A3).Nodup := by
    obtain ⟨q1, q2, q3⟩ := List.nodup_append.mp c3.nd
    obtain ⟨q4, q5, q6⟩ := List.nodup_append.mp q2
    refine List.nodup_append.mpr ⟨q4, nd3, fun b m b' m' => ?_⟩
    rcases List.mem_append.mp (s3 b' m') with q | q
    · exact fun e => q3 b' q b (List.mem_append_left _ m) e.symm
    · exact q6 b m b' q
  exact k F' H' w R1 A3 (((Go.less s).trans g3).trans (Go.less sub)) (c3.sub nd4 sub) (o'.solid ex) t3⟩

def mNil : ML := fun _ τ => some ([], τ)
def mCons (m : MV) (l : ML) : ML := fun ro τ => (m ro τ).bind fun p => (l ro p.2).bind fun q => some (p.1 :: q.1, q.2)
theorem ar_nil : AR X [] mNil := ⟨fun ro τ r τ' em => by cases em; rfl, fun ro τ r τ' em F B H σ A Q a k => by
  cases em
  exact wA pa_nil (k F H [] [] A Go.refl a.cn .nil a.tau)⟩
theorem ar_cons {es : List Expr} {m : MV} {l : ML} (h : ER X e m) (t : AR X es l) (hs : starEach (e :: es) X.env = (false, eval e X.env) :: starEach es X.env := by rfl) : AR X (e :: es) (mCons m l) := by
  have split : ∀ {ro : Ro} {τ : Tau} {r : List R} {τ' : Tau}, mCons m l ro τ = some (r, τ') → ∃ r1 τ1 rs, m ro τ = some (r1, τ1) ∧ l ro τ1 = some (rs, τ') ∧ r = r1 :: rs := fun {ro τ r τ'} em => by
    obtain ⟨⟨r1, τ1⟩, e1, e2⟩ := Option.bind_eq_some_iff.mp em
    obtain ⟨⟨rs, τ2⟩, e3, e4⟩ := Option.bind_eq_some_iff.mp e2
    cases e4
    exact ⟨r1, τ1, rs, e1, e3, rfl⟩
  refine ⟨fun ro τ r τ' em => ?_, fun ro τ r τ' em F B H σ A Q a k => ?_⟩
  · obtain ⟨r1, τ1, rs, e1, e2, rfl⟩ := split em
    show rs.length + 1 = es.length + 1
    rw [t.len _ _ _ _ e2]
  · obtain ⟨r1, τ1, rs, e1, e2, rfl⟩ := split em
    refine wA (pa_cons peW paW hs) (h.run ro τ r1 τ1 e1 F B H σ A _ a fun F1 H1 v A1 A2 g1 c1 o1 t1 => ?_)
    refine t.run ro τ1 rs τ' e2 F1 B H1 σ A2 _ (a.next g1 c1 t1) fun F2 H2 vs A3 A4 g2 c2 o2 t2 => ?_
    obtain ⟨g3, c3⟩ := Go.framed c1 g2 c2
    have q := Go.ros c1 g2 o1
    rw [← List.append_assoc] at g3 c3
    exact k F2 H2 (v :: vs) (A1 ++ A3) A4 (g1.trans g3) c3 (.cons q o2) t2

def wp2 (X : Cx) (a b : Expr) : L2.St → Hp → (List V → Hp → Prop) → Prop := fun σ H Q => wpE X a σ H fun x H1 => wpE X b σ H1 fun y H2 => Q [x, y] H2
theorem mCons_split {m : MV} {l : ML} {r : List R} (em : mCons m l ro τ = some (r, τ')) : ∃ r1 τ1 rs, m ro τ = some (r1, τ1) ∧ l ro τ1 = some (rs, τ') ∧ r = r1 :: rs := by
  obtain ⟨⟨r1, τ1⟩, e1, e2⟩ := Option.bind_eq_some_iff.mp em
  obtain ⟨⟨rs, τ2⟩, e3, e4⟩ := Option.bind_eq_some_iff.mp e2
  cases e4
  exact ⟨r1, τ1, rs, e1, e3, rfl⟩
theorem aq2 {m n : MV} (h : ER X a m) (h' : ER X b n) : AQ X.K (wp2 X a b) 2 (mCons m (mCons n mNil)) := by
  refine ⟨fun ro τ r τ' em => ?_, fun ro τ r τ' em F B H σ A Q a k => ?_⟩
  · obtain ⟨r1, τ1, rs, e1, e2, rfl⟩ := mCons_split em
    obtain ⟨r2, τ2, rs2, e3, e4, rfl⟩ := mCons_split e2
    cases e4
    rfl
  · obtain ⟨r1, τ1, rs, e1, e2, rfl⟩ := mCons_split em
    refine h.run ro τ r1 _ e1 F B H σ A _ a fun F1 H1 v A1 A2 g1 c1 o1 t1 => ?_
    obtain ⟨r2, τ2, rs2, e3, e4, rfl⟩ := mCons_split e2
    cases e4
    refine h'.run ro τ1 r2 _ e3 F1 B H1 σ A2 _ (a.next g1 c1 t1) fun F2 H2 w A3 A4 g2 c2 o2 t2 => ?_
    obtain ⟨g3, c3⟩ := Go.framed c1 g2 c2
    have q := Go.ros c1 g2 o1
    rw [← List.append_assoc] at g3 c3
    exact k F2 H2 _ (A1 ++ A3) A4 (g1.trans g3) c3 (by
      have q2 : RsOk X.K F2 B H2 [r1, r2] [v, w] (A1 ++ (A3 ++ [])) := .cons q (.cons o2 .nil)
      rw [List.append_nil] at q2
      exact q2) t2

/-- an operation on values behind a list of expressions -/
def mOp (g : List R → Option R) (l : ML) : MV := fun ro τ => (l ro τ).bind fun p => (g p.1).map fun r => (r, p.2)
theorem er_op' {wp : L2.St → Hp → (List V → Hp → Prop) → Prop} {n : Nat} {run : List V → Hp → VK → Prop} {g : List R → Option R} {l : ML} (hp : ∀ (σ : L2.St) (H : Hp) (Q : VK), wp σ H (fun vs H1 => run vs H1 Q) → wpE X e σ H Q)
    (vr : VR X.K run g) (ha : AQ X.K wp n l) : ER X e (mOp g l) := ⟨fun ro τ r τ' em F B H σ A Q a k => by
  obtain ⟨⟨rs, τ1⟩, e1, e2⟩ := Option.bind_eq_some_iff.mp em
  obtain ⟨z, e3, e4⟩ := Option.map_eq_some_iff.mp e2
  cases e4
  refine hp σ H Q (ha.run ro τ rs τ1 e1 F B H σ A _ a fun F1 H1 vs A1 A2 g1 c1 o1 t1 => ?_)
  refine vr rs _ e3 F1 B H1 vs A1 Q c1.left o1 fun F2 H2 u A' g2 c2 o2 => ?_
  obtain ⟨g3, c3⟩ := Go.framedR c1 g2 c2
  refine k F2 H2 u A' A2 (g1.trans g3) c3 o2 (t1.stay g2.ff fun a m w q => g2.keep a w (fun z => c1.apart a z m) q)⟩
/-- .. a test -/
def mOpB (g : List R → Option R) (l : ML) : MB := fun ro τ => (l ro τ).bind fun p => (g p.1).bind fun r => match r with
  | .val (.leaf (.bool b)) => some (b, p.2)
  | _ => none
theorem tr_op' {wp : L2.St → Hp → (List V → Hp → Prop) → Prop} {n : Nat} {run : List V → Hp → VK → Prop} {g : List R → Option R} {l : ML} (hp : ∀ (σ : L2.St) (H : Hp) (Q : Bool → Hp → Prop), wp σ H (fun vs H1 => run vs H1 fun x H2 => ∃ k, x = .bl k ∧ Q k H2) → wpT X e σ H Q)
    (vr : VR X.K run g) (ha : AQ X.K wp n l) : TR X e (mOpB g l) := ⟨fun ro τ r τ' em F B H σ A Q a k => by
  obtain ⟨⟨rs, τ1⟩, e1, e2⟩ := Option.bind_eq_some_iff.mp em
  obtain ⟨z, e3, e4⟩ := Option.bind_eq_some_iff.mp e2
  refine hp σ H Q (ha.run ro τ rs τ1 e1 F B H σ A _ a fun F1 H1 vs A1 A2 g1 c1 o1 t1 => ?_)
  refine vr rs z e3 F1 B H1 vs A1 _ c1.left o1 fun F2 H2 u A' g2 c2 o2 => ?_
  have t2 := t1.stay g2.ff fun a m w q => g2.keep a w (fun z => c1.apart a z m) q
  obtain ⟨g3, c3⟩ := Go.framedR c1 g2 c2
  cases z with
  | vw t => cases e4
  | val t =>
    cases t with
    | leaf d =>
      cases d with
      | bool q =>
        cases e4
        cases o2 with
        | leaf rr =>
          cases rr
          exact ⟨_, rfl, k F2 H2 A2 ((g1.trans g3).trans (Go.less fun _ m => List.mem_append_right _ m)) c3.right t2⟩
      | _ => cases e4
    | _ => cases e4⟩
def two (r : R2) : List V → Hp → VK → Prop := fun vs H Q => ∃ x y, vs = [x, y] ∧ r x y H Q
def one (r : V → Hp → VK → Prop) : List V → Hp → VK → Prop := fun vs H Q => ∃ x, vs = [x] ∧ r x H Q
theorem wpE_mono {Q Q' : VK} (h : ∀ v H, Q v H → Q' v H) (w : wpE X e σ H Q) : wpE X e σ H Q' := fun pins s I => thn (w pins s I) fun u s' ⟨v, H', I', r, q⟩ => ⟨v, H', I', r, h v H' q⟩
variable {r : R2} {g : List R → Option R} {ma mb : MV}
/-- a op b -/
abbrev mBin (g : List R → Option R) (ma mb : MV) : MV := mOp g (mCons ma (mCons mb mNil))
theorem er_op {op : Operator} (ho : OpR X (binaryOp op) r) (vr : VR X.K (two r) g) (ha : ER X a ma) (hb : ER X b mb) : ER X (.BinOp a op b pos) (mBin g ma mb) :=
  er_op' (wp := wp2 X a b) (run := two r) (fun σ H Q w => wE (pe_op ho peW peW) (wpE_mono (fun x H1 w => wpE_mono (fun y H2 ⟨_, _, e, q⟩ => by cases e; exact q) w) w)) vr (aq2 ha hb)
theorem er_cmp {op : CmpOp} (ho : OpR X (compareOp op) r) (vr : VR X.K (two r) g) (ha : ER X a ma) (hb : ER X b mb) (hm : behindInMarks op b = false) : ER X (.Compare a [op] [b] pos) (mBin g ma mb) :=
  er_op' (wp := wp2 X a b) (run := two r) (fun σ H Q w => wE (pe_cmpR ho peW peW hm) (wpE_mono (fun x H1 w => wpE_mono (fun y H2 ⟨_, _, e, q⟩ => by cases e; exact q) w) w)) vr (aq2 ha hb)
abbrev mBinB (g : List R → Option R) (ma mb : MV) : MB := mOpB g (mCons ma (mCons mb mNil))
theorem tr_cmp {op : CmpOp} (ho : OpR X (compareOp op) r) (vr : VR X.K (two r) g) (ha : ER X a ma) (hb : ER X b mb) (hm : behindInMarks op b = false) : TR X (.Compare a [op] [b] pos) (mBinB g ma mb) :=
  tr_op' (wp := wp2 X a b) (run := two r) (fun σ H Q w => wT (pt_cmpR ho peW peW hm) (wpE_mono (fun x H1 w => wpE_mono (fun y H2 ⟨_, _, e, q⟩ => by cases e; exact q) w) w)) vr (aq2 ha hb)
abbrev mUn (g : List R → Option R) (ma : MV) : MV := mOp g (mCons ma mNil)
theorem er_ix (ho : IxR X r) (vr : VR X.K (two r) g) (ha : ER X a ma) (hb : ER X b mb) (hs : PlainIx b) : ER X (.Subscript a b pos) (mBin g ma mb) :=
  er_op' (wp := wp2 X a b) (run := two r) (fun σ H Q w => wE (pe_ix ho peW peW hs) (wpE_mono (fun x H1 w => wpE_mono (fun y H2 ⟨_, _, e, q⟩ => by cases e; exact q) w) w)) vr (aq2 ha hb)
variable {p : Pos} {es : List Expr} {id Ty : String} {rc : List V → Hp → VK → Prop} {l : ML}
theorem er_callB (hc : CallR X (.builtin id) rc) (vr : VR X.K rc g) (hg : Gl X x) (hm : X.mg x = none) (hv : bootBuiltins x = some (.builtin id)) (ha : AR X (e :: es) l) (hn : x ≠ "__name__" := by decide) (hdb : (x == ("__debug__" : Str)) = false := by decide)
    (he : starEach (e :: es) X.env = (false, eval e X.env) :: starEach es X.env := by rfl) (hpl : (backTo pos (starEach es X.env)).any (·.1) = false := by rfl) : ER X (.Call (.Name x p) (e :: es) [] pos) (mOp g l) :=
  er_op' (wp := wpA X (e :: es)) (run := rc) (fun σ H Q w => wE (pe_callB hc hg hm hv paW hn hdb he hpl) w) vr ha
theorem er_callTy (hc : CallR X (.type Ty) rc) (vr : VR X.K rc g) (hg : Gl X x) (hm : X.mg x = none) (hv : bootBuiltins x = some (.type Ty)) (ha : AR X (e :: es) l) (hn : x ≠ "__name__" := by decide) (hdb : (x == ("__debug__" : Str)) = false := by decide)
    (he : starEach (e :: es) X.env = (false, eval e X.env) :: starEach es X.env := by rfl) (hpl : (backTo pos (starEach es X.env)).any (·.1) = false := by rfl) : ER X (.Call (.Name x p) (e :: es) [] pos) (mOp g l) :=
  er_op' (wp := wpA X (e :: es)) (run := rc) (fun σ H Q w => wE (pe_callTy hc hg hm hv paW hn hdb he hpl) w) vr ha

def gTupD : List R → Option R := fun rs => (stL rs).map fun ds => rd (.tuple ds)
def gLstD : List R → Option R := fun rs => (stL rs).map fun ds => .val (.fl ds)
theorem er_tup {es : List Expr} {l : ML} {x1 : Nat} (ha : AR X es l) (hl : es.length ≤ 1000 := by decide) : ER X (.Tuple es x1 pos) (mOp gTupD l) := ⟨fun ro τ r τ' em F B H σ A Q a k => by
  obtain ⟨⟨rs, τ1⟩, e1, e2⟩ := Option.bind_eq_some_iff.mp em
  obtain ⟨z, e3, e4⟩ := Option.map_eq_some_iff.mp e2
  obtain ⟨ds, e5, e6⟩ := Option.map_eq_some_iff.mp e3
  cases e4
  subst e6
  have hlen := ha.len _ _ _ _ e1
  refine wE (pe_tup paW) (ha.run ro τ rs τ1 e1 F B H σ A _ a fun F1 H1 vs A1 A2 g1 c1 o1 t1 => ⟨?_, fun p hp => ?_⟩)
  · rw [o1.length, hlen]
    exact Nat.le_of_lt (small1000 hl)
  · obtain ⟨F2, g2, c2, s2, rl⟩ := o1.freeze c1 e5
    have t2 : TauOk X.K F2 H1 σ τ1 A2 := t1.stay s2 fun _ _ _ q => q
    obtain ⟨g3, c3⟩ := c2.newF (o := .tup vs) hp
    refine k _ _ (.ref p) [] A2 ((g1.trans g2).trans g3) c3 (.leaf (.tup (.inl (.inl upd_same)) (by rw [o1.length, hlen]; exact Nat.le_of_lt (small1000 hl)) (rl.mono g3.ff))) (t2.stay g3.ff fun a m w q => ?_)
    rw [upd_ne (ne_of_none q hp)]
    exact q⟩
theorem er_lst {es : List Expr} {l : ML} (ha : AR X es l) (hl : es.length ≤ 1000 := by decide) : ER X (.List es pos) (mOp gLstD l) := ⟨fun ro τ r τ' em F B H σ A Q a k => by
  obtain ⟨⟨rs, τ1⟩, e1, e2⟩ := Option.bind_eq_some_iff.mp em
  obtain ⟨z, e3, e4⟩ := Option.map_eq_some_iff.mp e2
  obtain ⟨ds, e5, e6⟩ := Option.map_eq_some_iff.mp e3
  cases e4
  subst e6
  have hlen := ha.len _ _ _ _ e1
  refine wE (pe_lst paW) (ha.run ro τ rs τ1 e1 F B H σ A _ a fun F1 H1 vs A1 A2 g1 c1 o1 t1 => ⟨?_, fun p hp => ?_⟩)
  · rw [o1.length, hlen]
    exact Nat.le_of_lt (small1000 hl)
  · obtain ⟨F2, g2, c2, s2, rl⟩ := o1.freeze c1 e5
    have t2 : TauOk X.K F2 H1 σ τ1 A2 := t1.stay s2 fun _ _ _ q => q
    obtain ⟨g3, c3⟩ := c2.newO (o := .lst vs) hp
    refine k _ _ (.ref p) [p] A2 ((g1.trans g2).trans g3) c3 (.fl upd_same (by rw [o1.length, hlen]; exact Nat.le_of_lt (small1000 hl)) rl) (t2.stay g3.ff fun a m w q => ?_)
    rw [upd_ne (ne_of_none q hp)]
    exact q⟩

def asB : R → Option Bool
  | .val (.leaf (.bool b)) => some b
  | _ => none
theorem asB_of {r : R} {b : Bool} {v : V} (h : asB r = some b) (o : ROk K F B H r v A) : v = .bl b := by
  cases r with
  | vw t => cases h
  | val t =>
    cases t with
    | leaf d =>
      cases d with
      | bool c =>
        cases h
        cases o with
        | leaf r =>
          cases r
          rfl
      | _ => cases h
    | _ => cases h
/-- a value that is True or False, as a test -/
def mTst (m : MV) : MB := fun ro τ => (m ro τ).bind fun p => (asB p.1).map fun b => (b, p.2)
def mNotB (m : MB) : MB := fun ro τ => (m ro τ).map fun p => (!p.1, p.2)
theorem tr_not {m : MB} (h : TR X a m) : TR X (.UnaryOp .Not a pos) (mNotB m) := ⟨fun ro τ r τ' em F B H σ A Q a k => by
  obtain ⟨⟨z, τ1⟩, e1, e2⟩ := Option.map_eq_some_iff.mp em
  cases e2
  exact wT (pt_not ptW) (h.run ro τ z τ1 e1 F B H σ A _ a k)⟩
def mAndB (m n : MB) : MB := fun ro τ => (m ro τ).bind fun p => if p.1 = true then n ro p.2 else some (false, p.2)
def mOrB (m n : MB) : MB := fun ro τ => (m ro τ).bind fun p => if p.1 = true then some (true, p.2) else n ro p.2
theorem tr_w {m : MB} (h : TW X e m) : TR X e m := ⟨fun ro τ r τ' em F B H σ A Q a k pins s I => h.run ro τ r τ' em F B H σ A Q a k _ pins s I⟩
theorem tw_and1 {m : MB} (h : TR X a m) : TW X (.BoolOp .And [a] pos) m := ⟨fun ro τ r τ' em F B H σ A Q a k => wW (pw_and1 ptW) (h.run ro τ r τ' em F B H σ A Q a k)⟩
theorem tw_or1 {m : MB} (h : TR X a m) : TW X (.BoolOp .Or [a] pos) m := ⟨fun ro τ r τ' em F B H σ A Q a k => wW (pw_or1 ptW) (h.run ro τ r τ' em F B H σ A Q a k)⟩
theorem tw_and {m n : MB} {rest : List Expr} (h : TR X a m) (h' : TW X (.BoolOp .And (b :: rest) pos) n) : TW X (.BoolOp .And (a :: b :: rest) pos) (mAndB m n) := ⟨fun ro τ r τ' em F B H σ A Q a k => by
  obtain ⟨⟨z, τ1⟩, e1, e2⟩ := Option.bind_eq_some_iff.mp em
  refine wW (pw_and ptW pwW) (h.run ro τ z τ1 e1 F B H σ A _ a fun F1 H1 A2 g1 c1 t1 => ?_)
  cases z with
  | true =>
    rw [if_pos rfl] at e2 ⊢
    exact h'.run ro τ1 r τ' e2 F1 B H1 σ A2 Q (a.next0 g1 c1 t1) fun F2 H2 A3 g2 c2 t2 => k F2 H2 A3 (g1.trans g2) c2 t2
  | false =>
    rw [if_neg Bool.false_ne_true] at e2 ⊢
    cases e2
    exact k F1 H1 A2 g1 c1 t1⟩
theorem tw_or {m n : MB} {rest : List Expr} (h : TR X a m) (h' : TW X (.BoolOp .Or (b :: rest) pos) n) : TW X (.BoolOp .Or (a :: b :: rest) pos) (mOrB m n) := ⟨fun ro τ r τ' em F B H σ A Q a k => by
  obtain ⟨⟨z, τ1⟩, e1, e2⟩ := Option.bind_eq_some_iff.mp em
  refine wW (pw_or ptW pwW) (h.run ro τ z τ1 e1 F B H σ A _ a fun F1 H1 A2 g1 c1 t1 => ?_)
  cases z with
  | true =>
    rw [if_pos rfl] at e2 ⊢
    cases e2
    exact k F1 H1 A2 g1 c1 t1
  | false =>
    rw [if_neg Bool.false_ne_true] at e2 ⊢
    exact h'.run ro τ1 r τ' e2 F1 B H1 σ A2 Q (a.next0 g1 c1 t1) fun F2 H2 A3 g2 c2 t2 => k F2 H2 A3 (g1.trans g2) c2 t2⟩
/-- and, or, not as values -/
def mAnd (m n : MV) : MV := fun ro τ => (m ro τ).bind fun p => (asB p.1).bind fun c => if c = true then n ro p.2 else some (rBool false, p.2)
def mOr (m n : MV) : MV := fun ro τ => (m ro τ).bind fun p => (asB p.1).bind fun c => if c = true then some (rBool true, p.2) else n ro p.2
def mNot (m : MV) : MV := fun ro τ => (m ro τ).bind fun p => (asB p.1).map fun c => (rBool !c, p.2)
theorem er_one {op : BoolOp} {m : MV} (h : ER X a m) : ER X (.BoolOp op [a] pos) m := ⟨fun ro τ r τ' em F B H σ A Q a k => wE (pe_one peW) (h.run ro τ r τ' em F B H σ A Q a k)⟩
theorem er_and {m n : MV} {rest : List Expr} (h : ER X a m) (h' : ER X (.BoolOp .And (b :: rest) pos) n) : ER X (.BoolOp .And (a :: b :: rest) pos) (mAnd m n) := ⟨fun ro τ r τ' em F B H σ A Q a k => by
  obtain ⟨⟨z, τ1⟩, e1, e2⟩ := Option.bind_eq_some_iff.mp em
  obtain ⟨c, e3, e4⟩ := Option.bind_eq_some_iff.mp e2
  refine wE (pe_and peW peW) (h.run ro τ z τ1 e1 F B H σ A _ a fun F1 H1 v A1 A2 g1 c1 o1 t1 => ⟨c, asB_of e3 o1, ?_⟩)
  have g1' := g1.trans (Go.less fun _ m => List.mem_append_right A1 m)
  cases c with
  | true =>
    rw [if_pos rfl] at e4 ⊢
    exact h'.run ro τ1 r τ' e4 F1 B H1 σ A2 Q (a.next g1 c1 t1) fun F2 H2 v A3 A4 g2 c2 o2 t2 => k F2 H2 v A3 A4 (g1'.trans g2) c2 o2 t2
  | false =>
    rw [if_neg Bool.false_ne_true] at e4 ⊢
    cases e4
    exact k F1 H1 _ [] A2 g1' c1.right (.leaf (.bl _)) t1⟩
theorem er_not {m : MV} (h : ER X a m) : ER X (.UnaryOp .Not a pos) (mNot m) := ⟨fun ro τ r τ' em F B H σ A Q a k => by
  obtain ⟨⟨z, τ1⟩, e1, e2⟩ := Option.bind_eq_some_iff.mp em
  obtain ⟨c, e3, e4⟩ := Option.map_eq_some_iff.mp e2
  cases e4
  refine wE (pe_not peW) (h.run ro τ z τ1 e1 F B H σ A _ a fun F1 H1 v A1 A2 g1 c1 o1 t1 => ⟨c, asB_of e3 o1, ?_⟩)
  exact k F1 H1 _ [] A2 (g1.trans (Go.less fun _ m => List.mem_append_right A1 m)) c1.right (.leaf (.bl _)) t1⟩
def mIf (c : MB) (m n : MV) : MV := fun ro τ => (c ro τ).bind fun p => if p.1 = true then m ro p.2 else n ro p.2
theorem er_if {c : Expr} {mc : MB} {m n : MV} (hc : TR X c mc) (h : ER X a m) (h' : ER X b n) : ER X (.IfExp c a b pos) (mIf mc m n) := ⟨fun ro τ r τ' em F B H σ A Q a k => by
  obtain ⟨⟨z, τ1⟩, e1, e2⟩ := Option.bind_eq_some_iff.mp em
  refine wE (pe_ifExp ptW peW peW) (hc.run ro τ z τ1 e1 F B H σ A _ a fun F1 H1 A2 g1 c1 t1 => ?_)
  cases z with
  | true =>
    rw [if_pos rfl] at e2 ⊢
    exact h.run ro τ1 r τ' e2 F1 B H1 σ A2 Q (a.next0 g1 c1 t1) fun F2 H2 v A3 A4 g2 c2 o2 t2 => k F2 H2 v A3 A4 (g1.trans g2) c2 o2 t2
  | false =>
    rw [if_neg Bool.false_ne_true] at e2 ⊢
    exact h'.run ro τ1 r τ' e2 F1 B H1 σ A2 Q (a.next0 g1 c1 t1) fun F2 H2 v A3 A4 g2 c2 o2 t2 => k F2 H2 v A3 A4 (g1.trans g2) c2 o2 t2⟩
/-- the truth of any value -/
def truD : D → Option Bool
  | .none => some false
  | .bool b => some b
  | .int i => some (i != 0)
  | .str x => if x.length ≤ 16777216 then some ((x.length : Int) != 0) else none
  | .list ds => some (!ds.isEmpty)
  | .tuple ds => some (!ds.isEmpty)
  | .dict _ => none
def mTru (m : MV) : MB := fun ro τ => (m ro τ).bind fun p => p.1.er.bind fun d => (truD d).map fun b => (b, p.2)
theorem RepL.isEmpty {vs : List V} {ds : List D} (h : RepL K F vs ds) : vs.isEmpty = ds.isEmpty := by
  cases h <;> rfl
theorem truV_of {v : V} {d : D} {b : Bool} (r : Rep K H v d) (h : truD d = some b) : TruV K v H b := by
  cases r with
  | non => cases h; rfl
  | bl c => cases h; rfl
  | int i => cases h; rfl
  | str x =>
    have h' : (if x.length ≤ 16777216 then some ((x.length : Int) != 0) else none) = some b := h
    by_cases q : x.length ≤ 16777216
    · rw [if_pos q] at h'
      cases h'
      exact ⟨by rw [sizeLine_eq]; exact q, rfl⟩
    · rw [if_neg q] at h'
      cases h'
  | lst h1 _ h2 =>
    cases h
    exact .inl ⟨_, SqL.of h1, by rw [h2.isEmpty]⟩
  | tup h1 _ h2 =>
    cases h
    exact .inr (.inl ⟨_, h1, by rw [h2.isEmpty]⟩)
  | dk => cases h
  | dn => cases h
  | dl => cases h
  | xc => cases h
  | xf => cases h
  | ob => cases h
theorem tr_tru {m : MV} (h : ER X e m) (he : ∀ whole, isTrue e X.env whole = (do let v ← whole; standAt e.pos; holding [v] (truthy v)) := by intro _; rfl) : TR X e (mTru m) := ⟨fun ro τ r τ' em F B H σ A Q a k => by
  obtain ⟨⟨z, τ1⟩, e1, e2⟩ := Option.bind_eq_some_iff.mp em
  obtain ⟨d, e3, e4⟩ := Option.bind_eq_some_iff.mp e2
  obtain ⟨c, e5, e6⟩ := Option.map_eq_some_iff.mp e4
  cases e6
  refine wT (pt_truth peW he) (h.run ro τ z _ e1 F B H σ A _ a fun F1 H1 v A1 A2 g1 c1 o1 t1 => ?_)
  exact ⟨r, truV_of (o1.rep c1.fh c1.bh (fun _ _ _ q => q) e3) e5, k F1 H1 A2 (g1.trans (Go.less fun _ m => List.mem_append_right _ m)) c1.right t1⟩⟩
end
end Tl

namespace Tl
open PySem PySem.Spec PyProof.Rows L2

structure RmG (n : Nat) (Ar : Around) : Prop where
  rm : Room n Ar
  gd : Ar.guards = some []
theorem RmG.mono {m n : Nat} {Ar : Around} (h : RmG n Ar) (l : m ≤ n) : RmG m Ar := ⟨h.rm.mono l, h.gd⟩
structure FnG (P : Program) (w : World) (K : PySem.W.Frag) (mg : Str → Option Value) (base : Heap) (cx : CXT) (n : Nat) (f : Addr) (fd : FuncData) (ps : List Str) (sp : Sp) : Prop where
  len : ∀ vs H Q E, sp vs H Q E → vs.length = ps.length
  go : ∀ (Ar : Around) (up : List Env) (s : Shared) (H : Hp) (args : Args) (us : List Value) (vs : List V) (Q : VK) (E : XK), RmG n Ar → Env0 P w K mg base Ar up s H → BindsTo s fd args (ps.zip us) →
    Vals vs us → sp vs H Q E → codeAny (model P w) Ar (.call (.ref f) args) (CR cx up P w H s Q E) s
theorem FnG.mono {P : Program} {w : World} {K : PySem.W.Frag} {mg : Str → Option Value} {base : Heap} {cx : CXT} {m n : Nat} {f : Addr} {fd : FuncData} {ps : List Str} {sp : Sp} (F : FnG P w K mg base cx m f fd ps sp) (l : m ≤ n) : FnG P w K mg base cx n f fd ps sp :=
  ⟨F.len, fun Ar up s H args us vs Q E hr => F.go Ar up s H args us vs Q E (hr.mono l)⟩
section
variable {X : Cx} {cx : CXT} {n : Nat} {f : Addr} {fd : FuncData} {ps : List Str} {sp : Sp} {E : XK}
theorem callG {pins : List (Addr × Obj)} {σ : L2.St} {H : Hp} {s : Shared} {Q : VK} {us : List Value} {vs : List V} (F : FnG X.prog X.w X.K X.mg X.base cx n f fd ps sp) (hr : RmG n X.A) (hb : Binds X.K fd ps []) (hx : Passes cx X E)
    (I : Inv X pins σ H s) (r : Vals vs us) (h : sp vs H Q E) : wpAny (model X.prog X.w) X.A (call (.ref f) us) (EP X pins σ Q) X.xe s := by
  have hl : us.length = ps.length := r.length.symm.trans (F.len _ _ _ _ h)
  have hb' := hb s us I.kIn (by rw [List.append_nil]; exact hl)
  rw [List.append_nil] at hb'
  have run := F.go X.A X.stack s H ⟨us, []⟩ us vs Q E hr I.env0 hb' r h
  refine wpAny_call (codeAny_mono run fun res s' hq => ?_)
  match res, hq with
  | .error e, hq => exact hx pins σ H s e s' I hq
  | .ok (.ret u), hq => exact I.after hq
  | .ok .next, hq => exact hq.elim
  | .ok .brk, hq => exact hq.elim
  | .ok .cont, hq => exact hq.elim
variable {x : Str} {p pos : Pos} {e : Expr} {es : List Expr} {t : TA}
theorem peCallG (F : FnG X.prog X.w X.K X.mg X.base cx n f fd ps sp) (hr : RmG n X.A) (hg : Gl X x) (hm : X.mg x = some (.ref f)) (hk : PySem.W.keepIn X.K (.ref f) = true) (hb : Binds X.K fd ps []) (hx : Passes cx X E) (ha : PA X (e :: es) t)
    (hdb : (x == ("__debug__" : Str)) = false) (he : starEach (e :: es) X.env = (false, eval e X.env) :: starEach es X.env) (hpl : (backTo pos (starEach es X.env)).any (·.1) = false) :
    PE X (.Call (.Name x p) (e :: es) [] pos) fun σ H Q => t σ H fun vs H1 => sp vs H1 Q E :=
  ⟨fun pins s σ H Q I h => wpAny_Call_Name_kw (ld_glob I hg hm (PySem.W.callWith_K (h₀ := X.base) I.ok.mod.kin hk (thn (ha.run pos pins s σ H _ I h) fun us s1 ⟨vs, H1, I1, r, q⟩ => ⟨I1.kIn, callG F hr hb hx I1 r q⟩) he hpl) hdb)⟩
end

section
variable {P : Program} {w : World} {K : PySem.W.Frag} {mg : Str → Option Value} {base : Heap} {cx : CXT}
/-- a def by its body -/
theorem defG {x qual : Str} {st : Stmt} {f : Addr} {fd : FuncData} {N ps : List Str} {n : Nat} {sp : Sp} (F : Fun K x qual st f fd) (S : FnScope N ps (defScope st)) (len : ∀ vs H Q E, sp vs H Q E → vs.length = ps.length)
    (body : ∀ (cdv : Value) (Ar : Around) (up : List Env) (s : Shared) (H : Hp) (vs : List V) (Q : VK) (E : XK), RmG n (Ar.deeper (envOfC qual (defScope st) s.heap.objs.size f cdv)) → sp vs H Q E →
      wpB (cxOf cx P w K mg base N qual (defScope st) f cdv Ar up s H E) (defBody st) { nx := fun _ H' => Q .non H', rt := Q } (start N vs) H) : FnG P w K mg base cx (n + 1) f fd ps sp := by
  obtain ⟨oc, od, kV, doc, pm, an, cdv, ct, osl, rfl, lk, hcd⟩ := F.ex
  refine ⟨len, fun Ar up s H args us vs Q E hr e0 hb r hsp => ?_⟩
  have hl := len _ _ _ _ hsp
  have inn : K.In s.heap := e0.mod.kin.keeps fun b o z => (e0.bs b o z).1
  have lim : s.heap.NoLimit := e0.mod.nolimit.keeps fun b o z => (e0.bs b o z).1
  refine codeAny_call_function hr.rm.depth (inn _ _ lk) rfl S.co S.gen rfl (PySem.W.codeRec_of inn hcd) (hb _ _ _ _ ?_)
  refine wpAny_newFunctionEnv_cells S.kind (fun ⟨nm, v⟩ hy => (S.par nm (List.of_mem_zip hy).1).imp id fun q => ⟨q, PySem.W.cellsFrom_some _ _ _ (.inl q)⟩) fun env he s1 z => ?_
  subst he
  refine ⟨lim.keeps z.toInCall.keep, codeAny_func ?_⟩
  have I : Inv (cxOf cx P w K mg base N qual (defScope st) f cdv Ar up s H E) [] (start N vs) H s1 := inv_start S hr.rm.hd e0 hl r z
  have q := body cdv Ar up s H vs Q E ⟨hr.rm.deeper _, hr.gd⟩ hsp [] s1 I
  have fin : ∀ {σ' : L2.St} {H' : Hp} {v : V} {u : Value} {s' : Shared}, Inv (cxOf cx P w K mg base N qual (defScope st) f cdv Ar up s H E) [] σ' H' s' → RelV v u → Q v H' → CE up P w H s Q u s' :=
    fun {σ' H' v u s'} J rv z => ⟨v, H', J.os, J.bare, J.base, J.hok, rv, z⟩
  refine wpAny_mono q (fun fl s' hs => ?_) fun _ _ hs => hs
  match fl, hs with
  | .ret u, ⟨v, σ', H', J, rv, z⟩ => exact fin J rv z
  | .next, ⟨σ', H', J, z⟩ => exact fin (v := V.non) (u := Value.none) J rfl z
  | .brk, ⟨_, _, _, z⟩ => exact False.elim z
  | .cont, ⟨_, _, _, z⟩ => exact False.elim z
end

abbrev noH : Hp := fun _ => none
theorem same_noH {H : Hp} : Same noH H := fun _ _ e => nomatch e
end Tl

namespace Tl
open PySem PySem.Spec PyProof.Rows L2 RZ

structure Src (K : PySem.W.Frag) (F B : Hp) (J : It) (ds : List D) : Prop where
  small : ds.length ≤ sizeLine
  go : ∀ F1 H1 : Hp, Same F F1 → Same F1 H1 → Same B H1 → ∀ i d, ds[i]? = some d → J.go i H1
  yld : ∀ F1 H1 : Hp, Same F F1 → Same F1 H1 → Same B H1 → ∀ i d, ds[i]? = some d → ∀ x H2, J.yld i H1 x H2 →
    ∃ F2, (∀ (B' : Hp) (A : List Addr), Cn F1 B' H1 A → Go F1 H1 A F2 H2 A ∧ Cn F2 B' H2 A) ∧ Rep K F2 x d
  stop : ∀ F1 H1 : Hp, Same F F1 → Same F1 H1 → Same B H1 → ∀ i, ds.length ≤ i → J.stop i H1
abbrev MI := Ro → Tau → Option (List D × Tau)
structure IV (K : PySem.W.Frag) (t : TI) (m : MI) : Prop where
  run : ∀ (ro : Ro) (τ : Tau) (ds : List D) (τ' : Tau), m ro τ = some (ds, τ') → ∀ (F B H : Hp) (σ : L2.St) (A : List Addr) (Rr : It → Hp → Prop), At K F B H σ ro τ A →
    (∀ (F' H' : Hp) (A2 : List Addr) (J : It), Go F H A F' H' A2 → Cn F' B H' A2 → TauOk K F' H' σ τ' A2 → Src K F' B J ds → Rr J H') → t σ H Rr
abbrev IR (X : Cx) (tg iter : Expr) (m : MI) : Prop := IV X.K (wpI X tg iter) m

/-- the items of a list or tuple -/
def R.its : R → Option (Bool × List D)
  | .val t => match t.fz with
    | some (.list ds) => some (true, ds)
    | some (.tuple ds) => some (false, ds)
    | _ => none
  | .vw (.leaf (.list ds)) => some (true, ds)
  | .vw (.leaf (.tuple ds)) => some (false, ds)
  | .vw (.fl ds) => some (true, ds)
  | .vw (.scr ds) => some (true, ds)
  | .vw _ => none
section
variable {K : PySem.W.Frag} {F F' B H H' : Hp} {A A1 A2 : List Addr}
def SqAt (K : PySem.W.Frag) (H : Hp) (isL : Bool) (a : Addr) (xs : List V) : Prop := if isL = true then SqL K H a xs else SqT K H a xs
theorem its_of {r : R} {v : V} {isL : Bool} {ds : List D} (c : Cn F B H (A1 ++ A2)) (o : ROk K F B H r v A1) (e : r.its = some (isL, ds)) :
    ∃ F1 a xs, Go F H (A1 ++ A2) F1 H A2 ∧ Cn F1 B H A2 ∧ Same F F1 ∧ v = .ref a ∧ xs.length ≤ sizeLine ∧ RepL K F1 xs ds ∧ ∀ H1 : Hp, Same F1 H1 → Same B H1 → SqAt K H1 isL a xs := by
  cases r with
  | val t =>
    have e' : (match t.fz with
    | some (.list ds) => some (true, ds)
    | some (.tuple ds) => some (false, ds)
    | _ => none) = some (isL, ds) := e
    cases q : t.fz with
    | none =>
      rw [q] at e'
      cases e'
    | some d =>
      rw [q] at e'
      obtain ⟨F1, g, c1, s, rr⟩ := ROk.freeze c o q
      cases d with
      | list es =>
        cases e'
        cases rr with
        | lst h1 h2 h3 => exact ⟨F1, _, _, g, c1, s, rfl, h2, h3, fun H1 s1 _ => SqL.of (s1 _ _ h1)⟩
      | tuple es =>
        cases e'
        cases rr with
        | tup h1 h2 h3 => exact ⟨F1, _, _, g, c1, s, rfl, h2, h3, fun H1 s1 _ => sameT s1 h1⟩
      | _ => cases e'
  | vw t =>
    obtain ⟨e0, A', o⟩ := o
    subst e0
    have g : Go F H A2 F H A2 := Go.refl
    cases t with
    | leaf d =>
      cases o with
      | leaf rr =>
        cases d with
        | list es =>
          cases e
          cases rr with
          | lst h1 h2 h3 => exact ⟨F, _, _, g, c, Same.refl F, rfl, h2, h3, fun H1 s1 _ => SqL.of (s1 _ _ h1)⟩
        | tuple es =>
          cases e
          cases rr with
          | tup h1 h2 h3 => exact ⟨F, _, _, g, c, Same.refl F, rfl, h2, h3, fun H1 s1 _ => sameT s1 h1⟩
        | _ => cases e
    | fl es =>
      cases e
      cases o with
      | fl h1 h2 h3 => exact ⟨F, _, _, g, c, Same.refl F, rfl, h2, h3, fun H1 _ s2 => SqL.of (s2 _ _ h1)⟩
    | scr es =>
      cases e
      cases o with
      | scr h1 h2 h3 => exact ⟨F, _, _, g, c, Same.refl F, rfl, h2, h3, fun H1 s1 _ => s1.seq h1⟩
    | _ => cases e
theorem rep_at {xs : List V} {ds : List D} {i : Nat} {x : V} {d : D} (r : RepL K F xs ds) (e : ds[i]? = some d) (h : xs[i]? = some x) : Rep K F x d := by
  obtain ⟨v, e1, e2⟩ := r.get e
  rw [h] at e1
  cases e1
  exact e2
theorem src_list {a : Addr} {xs : List V} {ds : List D} (hz : xs.length ≤ sizeLine) (r : RepL K F xs ds) (h : ∀ H1 : Hp, Same F H1 → Same B H1 → SqL K H1 a xs) : Src K F B (Itl K a) ds where
  small := r.length ▸ hz
  go := fun F1 H1 s1 s2 s3 i d e => by
    obtain ⟨v, e1, e2⟩ := r.get e
    exact ⟨xs, v, h H1 (s1.trans s2) s3, e1⟩
  yld := fun F1 H1 s1 s2 s3 i d e x H2 y => by
    obtain ⟨e1, e2⟩ := y
    subst e1
    exact ⟨F1, fun B' A c => ⟨Go.refl, c⟩, (rep_at r e (e2 xs (h _ (s1.trans s2) s3))).mono s1⟩
  stop := fun F1 H1 s1 s2 s3 i l => ⟨xs, h H1 (s1.trans s2) s3, by rw [r.length]; exact l⟩
theorem src_tup {a : Addr} {xs : List V} {ds : List D} (hz : xs.length ≤ sizeLine) (r : RepL K F xs ds) (h : ∀ H1 : Hp, Same F H1 → Same B H1 → SqT K H1 a xs) : Src K F B (Itt K a) ds where
  small := r.length ▸ hz
  go := fun F1 H1 s1 s2 s3 i d e => by
    obtain ⟨v, e1, e2⟩ := r.get e
    exact ⟨xs, v, h H1 (s1.trans s2) s3, e1⟩
  yld := fun F1 H1 s1 s2 s3 i d e x H2 y => by
    obtain ⟨e1, e2⟩ := y
    subst e1
    exact ⟨F1, fun B' A c => ⟨Go.refl, c⟩, (rep_at r e (e2 xs (h _ (s1.trans s2) s3))).mono s1⟩
  stop := fun F1 H1 s1 s2 s3 i l => ⟨xs, h H1 (s1.trans s2) s3, by rw [r.length]; exact l⟩
/-- a pair made at each turn -/
theorem pair_new {F1 H1 : Hp} {p : Addr} {x y : V} {d e : D} (h : H1 p = none) (r : Rep K F1 x d) (r' : Rep K F1 y e) :
    ∃ F2, (∀ (B' : Hp) (A : List Addr), Cn F1 B' H1 A → Go F1 H1 A F2 (upd H1 p (.tup [x, y])) A ∧ Cn F2 B' (upd H1 p (.tup [x, y])) A) ∧ (Same F1 H1 → Rep K F2 (.ref p) (.tuple [d, e])) := by
  refine ⟨upd F1 p (.tup [x, y]), fun B' A c => c.newF h, fun s => ?_⟩
  have sm : Same F1 (upd F1 p (.tup [x, y])) := fun b u z => by
    rw [upd_ne (ne_of_none (s b u z) h)]
    exact z
  exact .tup (.inl (.inl upd_same)) (show 2 ≤ sizeLine by rw [sizeLine_eq]; decide) (.cons (r.mono sm) (.cons (r'.mono sm) .nil))
def enumFrom : Nat → List D → List D
  | _, [] => []
  | n, d :: ds => .tuple [.int (n : Nat), d] :: enumFrom (n + 1) ds
theorem enum_len : ∀ (n : Nat) (ds : List D), (enumFrom n ds).length = ds.length
  | _, [] => rfl
  | n, _ :: ds => congrArg (· + 1) (enum_len (n + 1) ds)
theorem enum_get : ∀ (ds : List D) (n i : Nat), (enumFrom n ds)[i]? = (ds[i]?).map fun d => .tuple [.int ((n + i : Nat) : Int), d]
  | [], _, _ => by simp [enumFrom]
  | d :: ds, n, 0 => by simp [enumFrom]
  | d :: ds, n, i + 1 => by
    have q := enum_get ds (n + 1) i
    simp only [enumFrom, List.getElem?_cons_succ, q]
    rw [show n + 1 + i = n + (i + 1) by omega]
theorem src_enum {a : Addr} {xs : List V} {ds : List D} (hz : xs.length ≤ sizeLine) (r : RepL K F xs ds) (h : ∀ H1 : Hp, Same F H1 → Same B H1 → SqL K H1 a xs) : Src K F B (Ite K a) (enumFrom 0 ds) where
  small := by rw [enum_len]; exact r.length ▸ hz
  go := fun F1 H1 s1 s2 s3 i d e => by
    rw [enum_get] at e
    obtain ⟨d', e1, e2⟩ := Option.map_eq_some_iff.mp e
    obtain ⟨v, e3, e4⟩ := r.get e1
    exact ⟨xs, v, h H1 (s1.trans s2) s3, e3⟩
  yld := fun F1 H1 s1 s2 s3 i d e x H2 y => by
    rw [enum_get] at e
    obtain ⟨d', e1, e2⟩ := Option.map_eq_some_iff.mp e
    subst e2
    obtain ⟨p, z, rfl, np, rfl, q⟩ := y
    have rz := (rep_at r e1 (q xs (h _ (s1.trans s2) s3))).mono s1
    obtain ⟨F2, w1, w2⟩ := pair_new np (Rep.int (K := K) (F := F1) ((i : Nat) : Int)) rz
    rw [Nat.zero_add]
    exact ⟨F2, w1, w2 s2⟩
  stop := fun F1 H1 s1 s2 s3 i l => ⟨xs, h H1 (s1.trans s2) s3, by rw [enum_len] at l; rw [r.length]; exact l⟩
def zipD : List D → List D → List D
  | d :: ds, e :: es => .tuple [d, e] :: zipD ds es
  | _, _ => []
theorem zipD_len : ∀ (ds es : List D), (zipD ds es).length = min ds.length es.length
  | [], _ => by simp [zipD]
  | _ :: _, [] => by simp [zipD]
  | d :: ds, e :: es => by simp only [zipD, zipD_len ds es, List.length_cons]; omega
theorem zipD_get : ∀ (ds es : List D) (i : Nat) (p : D), (zipD ds es)[i]? = some p → ∃ d e, ds[i]? = some d ∧ es[i]? = some e ∧ p = .tuple [d, e]
  | [], _, _, _, h => by simp [zipD] at h
  | _ :: _, [], _, _, h => by simp [zipD] at h
  | d :: ds, e :: es, 0, p, h => by
    simp [zipD] at h
    exact ⟨d, e, rfl, rfl, h.symm⟩
  | d :: ds, e :: es, i + 1, p, h => by
    simp only [zipD, List.getElem?_cons_succ] at h ⊢
    exact zipD_get ds es i p h
theorem src_zipL {a b : Addr} {xs ys : List V} {ds es : List D} (hz : xs.length ≤ sizeLine) (r : RepL K F xs ds) (r' : RepL K F ys es) (h : ∀ H1 : Hp, Same F H1 → Same B H1 → SqL K H1 a xs)
    (h' : ∀ H1 : Hp, Same F H1 → Same B H1 → SqL K H1 b ys) : Src K F B (Itz K a b) (zipD ds es) where
  small := by
    have := r.length
    rw [zipD_len]
    omega
  go := fun F1 H1 s1 s2 s3 i d e => by
    obtain ⟨d', e', e1, e2, e3⟩ := zipD_get _ _ _ _ e
    obtain ⟨v, f1, f2⟩ := r.get e1
    obtain ⟨v', f3, f4⟩ := r'.get e2
    exact ⟨xs, ys, v, v', h H1 (s1.trans s2) s3, h' H1 (s1.trans s2) s3, f1, f3⟩
  yld := fun F1 H1 s1 s2 s3 i d e x H2 y => by
    obtain ⟨d', e', e1, e2, rfl⟩ := zipD_get _ _ _ _ e
    obtain ⟨p, z, z', rfl, np, rfl, q, q'⟩ := y
    have rz := (rep_at r e1 (q xs (h _ (s1.trans s2) s3))).mono s1
    have rz' := (rep_at r' e2 (q' ys (h' _ (s1.trans s2) s3))).mono s1
    obtain ⟨F2, w1, w2⟩ := pair_new np rz rz'
    exact ⟨F2, w1, w2 s2⟩
  stop := fun F1 H1 s1 s2 s3 i l => ⟨xs, ys, h H1 (s1.trans s2) s3, h' H1 (s1.trans s2) s3, by
    have e1 := r.length
    have e2 := r'.length
    rw [zipD_len] at l
    omega⟩
theorem src_zipT {a b : Addr} {xs ys : List V} {ds es : List D} (hz : xs.length ≤ sizeLine) (r : RepL K F xs ds) (r' : RepL K F ys es) (h : ∀ H1 : Hp, Same F H1 → Same B H1 → SqT K H1 a xs)
    (h' : ∀ H1 : Hp, Same F H1 → Same B H1 → SqT K H1 b ys) : Src K F B (ItzT K a b) (zipD ds es) where
  small := by
    have := r.length
    rw [zipD_len]
    omega
  go := fun F1 H1 s1 s2 s3 i d e => by
    obtain ⟨d', e', e1, e2, e3⟩ := zipD_get _ _ _ _ e
    obtain ⟨v, f1, f2⟩ := r.get e1
    obtain ⟨v', f3, f4⟩ := r'.get e2
    exact ⟨xs, ys, v, v', h H1 (s1.trans s2) s3, h' H1 (s1.trans s2) s3, f1, f3⟩
  yld := fun F1 H1 s1 s2 s3 i d e x H2 y => by
    obtain ⟨d', e', e1, e2, rfl⟩ := zipD_get _ _ _ _ e
    obtain ⟨p, z, z', rfl, np, rfl, q, q'⟩ := y
    have rz := (rep_at r e1 (q xs (h _ (s1.trans s2) s3))).mono s1
    have rz' := (rep_at r' e2 (q' ys (h' _ (s1.trans s2) s3))).mono s1
    obtain ⟨F2, w1, w2⟩ := pair_new np rz rz'
    exact ⟨F2, w1, w2 s2⟩
  stop := fun F1 H1 s1 s2 s3 i l => ⟨xs, ys, h H1 (s1.trans s2) s3, h' H1 (s1.trans s2) s3, by
    have e1 := r.length
    have e2 := r'.length
    rw [zipD_len] at l
    omega⟩
/-- lo, lo + c, .. -/
def rangeD (lo c : Int) (n : Nat) : List D := (List.range n).map fun i => .int (lo + (i : Nat) * c)
theorem rangeD_get {lo c : Int} {n i : Nat} {d : D} (e : (rangeD lo c n)[i]? = some d) : i < n ∧ d = .int (lo + (i : Nat) * c) := by
  unfold rangeD at e
  rw [List.getElem?_map] at e
  obtain ⟨j, e1, e2⟩ := Option.map_eq_some_iff.mp e
  obtain ⟨h1, h2⟩ := List.getElem?_eq_some_iff.mp e1
  rw [List.getElem_range] at h2
  rw [List.length_range] at h1
  subst h2
  exact ⟨h1, e2.symm⟩
theorem rangeD_len (lo c : Int) (n : Nat) : (rangeD lo c n).length = n := by
  unfold rangeD
  rw [List.length_map, List.length_range]
theorem src_range {lo : Int} {n : Nat} (hz : n ≤ sizeLine) : Src K F B (Itr lo n) (rangeD lo 1 n) where
  small := by rw [rangeD_len]; exact hz
  go := fun F1 H1 s1 s2 s3 i d e => (rangeD_get e).1
  yld := fun F1 H1 s1 s2 s3 i d e x H2 y => by
    obtain ⟨_, rfl⟩ := rangeD_get e
    obtain ⟨rfl, rfl⟩ := y
    refine ⟨F1, fun B' A c => ⟨Go.refl, c⟩, ?_⟩
    rw [Int.mul_one]
    exact .int _
  stop := fun F1 H1 s1 s2 s3 i l => by
    rw [rangeD_len] at l
    exact l
end

section
variable {X : Cx} {tg e e2 : Expr}
/-- a list or a tuple -/
def iSeq (m : MV) : MI := fun ro τ => (m ro τ).bind fun p => p.1.its.map fun q => (q.2, p.2)
theorem ir_seq {m : MV} (h : ER X e m) : IR X tg e (iSeq m) := ⟨fun ro τ ds τ' em F B H σ A Rr a k => by
  obtain ⟨⟨r, τ1⟩, e1, e2⟩ := Option.bind_eq_some_iff.mp em
  obtain ⟨⟨isL, es⟩, e3, e4⟩ := Option.map_eq_some_iff.mp e2
  cases e4
  cases isL with
  | true =>
    refine wI (pi_list peW) (h.run ro τ r _ e1 F B H σ A _ a fun F1 H1 v A1 A2 g1 c1 o1 t1 => ?_)
    obtain ⟨F2, p, xs, g2, c2, s2, rfl, hz, rl, sq⟩ := its_of c1 o1 e3
    have sq' : ∀ H1 : Hp, Same F2 H1 → Same B H1 → SqL X.K H1 p xs := fun H1 a b => sq H1 a b
    exact ⟨p, rfl, ⟨xs, sq' H1 c2.fh c2.bh⟩, k F2 H1 A2 _ (g1.trans g2) c2 (t1.stay s2 fun _ _ _ q => q) (src_list hz rl sq')⟩
  | false =>
    refine wI (pi_tup peW) (h.run ro τ r _ e1 F B H σ A _ a fun F1 H1 v A1 A2 g1 c1 o1 t1 => ?_)
    obtain ⟨F2, p, xs, g2, c2, s2, rfl, hz, rl, sq⟩ := its_of c1 o1 e3
    have sq' : ∀ H1 : Hp, Same F2 H1 → Same B H1 → SqT X.K H1 p xs := fun H1 a b => sq H1 a b
    exact ⟨p, rfl, ⟨xs, sq' H1 c2.fh c2.bh⟩, k F2 H1 A2 _ (g1.trans g2) c2 (t1.stay s2 fun _ _ _ q => q) (src_tup hz rl sq')⟩⟩
/-- what one argument is, behind its evaluation -/
theorem ar1 {m : MV} (h : ER X e m) (hs : starEach [e] X.env = (false, eval e X.env) :: starEach [] X.env := by rfl) : AR X [e] (mCons m mNil) := ar_cons h ar_nil hs
theorem wpA1 {Q : List V → Hp → Prop} {m : MV} (h : ER X e m) (hs : starEach [e] X.env = (false, eval e X.env) :: starEach [] X.env) {ro : Ro} {τ τ' : Tau} {r : R} (em : m ro τ = some (r, τ')) {F B H : Hp} {σ : L2.St} {A : List Addr} (a : At X.K F B H σ ro τ A)
    (k : ∀ (F' H' : Hp) (v : V) (A1 A2 : List Addr), Go F H A F' H' (A1 ++ A2) → Cn F' B H' (A1 ++ A2) → ROk X.K F' B H' r v A1 → TauOk X.K F' H' σ τ' A2 → Q [v] H') : wpA X [e] σ H Q :=
  wA (pa_cons peW pa_nil hs) (h.run ro τ r τ' em F B H σ A _ a k)
variable {p pos tpos : Pos} {elts : List Expr} {kk : Nat}
def iEnumM (m : MV) : MI := fun ro τ => (m ro τ).bind fun p => p.1.its.bind fun q => if q.1 = true then some (enumFrom 0 q.2, p.2) else none
theorem ir_enum {m : MV} (h : ER X e m) (hg : Gl X "enumerate") (hm : X.mg "enumerate" = none) (hs : starEach [e] X.env = (false, eval e X.env) :: starEach [] X.env := by rfl) (hs' : starEach [e] X.env = [(false, eval e X.env)] := by rfl) :
    IR X (.Tuple elts kk tpos) (.Call (.Name "enumerate" p) [e] [] pos) (iEnumM m) := ⟨fun ro τ ds τ' em F B H σ A Rr a k => by
  obtain ⟨⟨r, τ1⟩, e1, e2⟩ := Option.bind_eq_some_iff.mp em
  obtain ⟨⟨isL, es⟩, e3, e4⟩ := Option.bind_eq_some_iff.mp e2
  cases isL with
  | false => cases e4
  | true =>
    cases e4
    refine wI (pi_enum hg hm paW hs') (wpA1 h hs e1 a fun F1 H1 v A1 A2 g1 c1 o1 t1 => ?_)
    obtain ⟨F2, b, xs, g2, c2, s2, rfl, hz, rl, sq⟩ := its_of c1 o1 e3
    have sq' : ∀ H1 : Hp, Same F2 H1 → Same B H1 → SqL X.K H1 b xs := fun H1 a b => sq H1 a b
    exact ⟨b, xs, rfl, sq' H1 c2.fh c2.bh, k F2 H1 A2 _ (g1.trans g2) c2 (t1.stay s2 fun _ _ _ q => q) (src_enum hz rl sq')⟩⟩
def iRevM (m : MV) : MI := fun ro τ => (m ro τ).bind fun p => p.1.its.bind fun q => if q.1 = true then some (q.2.reverse, p.2) else none
/-- zip of two lists, of two tuples -/
def iZipM (m n : MV) : MI := fun ro τ => (m ro τ).bind fun p => p.1.its.bind fun q => (n ro p.2).bind fun p' => p'.1.its.bind fun q' => if q.1 = q'.1 then some (zipD q.2 q'.2, p'.2) else none
theorem ir_zip {m n : MV} (h : ER X e m) (h' : ER X e2 n) (hg : Gl X "zip") (hm : X.mg "zip" = none)
    (hs : starEach [e, e2] X.env = (false, eval e X.env) :: starEach [e2] X.env := by rfl) (hs2 : starEach [e2] X.env = (false, eval e2 X.env) :: starEach [] X.env := by rfl) (hpl : (backTo pos (starEach [e2] X.env)).any (·.1) = false := by rfl) :
    IR X (.Tuple elts kk tpos) (.Call (.Name "zip" p) [e, e2] [] pos) (iZipM m n) := ⟨fun ro τ ds τ' em F B H σ A Rr a k => by
  obtain ⟨⟨r, τ1⟩, e1, em⟩ := Option.bind_eq_some_iff.mp em
  obtain ⟨⟨isL, es⟩, e3, em⟩ := Option.bind_eq_some_iff.mp em
  obtain ⟨⟨r', τ2⟩, e1', em⟩ := Option.bind_eq_some_iff.mp em
  obtain ⟨⟨isL', es'⟩, e3', em⟩ := Option.bind_eq_some_iff.mp em
  have em' : (if isL = isL' then some (zipD es es', τ2) else none) = some (ds, τ') := em
  by_cases q : isL = isL'
  · rw [if_pos q] at em'
    subst q
    cases em'
    refine wI (pi_zipA hg hm paW hs hpl) (wA (pa_cons peW (pa_cons peW pa_nil hs2) hs) (h.run ro τ r τ1 e1 F B H σ A _ a fun F1 H1 v A1 A2 g1 c1 o1 t1 => ?_))
    refine h'.run ro τ1 r' _ e1' F1 B H1 σ A2 _ (a.next g1 c1 t1) fun F2 H2 v' A3 A4 g2 c2 o2 t2 => ?_
    obtain ⟨g3, c3⟩ := Go.framed c1 g2 c2
    have o1' := Go.ros c1 g2 o1
    obtain ⟨F3, b, xs, g4, c4, s4, rfl, hz, rl, sq⟩ := its_of c3 o1' e3
    obtain ⟨F4, b', xs', g5, c5, s5, rfl, hz', rl', sq'⟩ := its_of c4 (o2.stay s4 fun _ _ _ q => q) e3'
    have t3 := t2.stay (s4.trans s5) fun _ _ _ q => q
    have gg := ((g1.trans g3).trans g4).trans g5
    cases isL with
    | true => exact ⟨b, b', xs, xs', rfl, .inl ⟨sq _ (s5.trans c5.fh) c5.bh, sq' _ c5.fh c5.bh, k F4 _ A4 _ gg c5 t3 (src_zipL hz (rl.mono s5) rl' (fun H1 a c => sq H1 (s5.trans a) c) fun H1 a c => sq' H1 a c)⟩⟩
    | false => exact ⟨b, b', xs, xs', rfl, .inr ⟨sq _ (s5.trans c5.fh) c5.bh, sq' _ c5.fh c5.bh, k F4 _ A4 _ gg c5 t3 (src_zipT hz (rl.mono s5) rl' (fun H1 a c => sq H1 (s5.trans a) c) fun H1 a c => sq' H1 a c)⟩⟩
  · rw [if_neg q] at em'
    cases em'⟩
/-- range -/
def asInts : List R → Option (List Int)
  | [] => some []
  | .val (.leaf (.int i)) :: rs => (asInts rs).map (i :: ·)
  | _ => none
theorem asInts_of {K : PySem.W.Frag} {F B H : Hp} : ∀ {rs : List R} {vs : List V} {A : List Addr} {ns : List Int}, RsOk K F B H rs vs A → asInts rs = some ns → vs = ns.map V.int
  | _, _, _, _, .nil, e => by
    cases e
    rfl
  | .val (.leaf (.int i)) :: rs, _, _, _, .cons o t, e => by
    have e' : (asInts rs).map (i :: ·) = some _ := e
    obtain ⟨ns, e1, e2⟩ := Option.map_eq_some_iff.mp e'
    subst e2
    rw [asInts_of t e1]
    cases o with
    | leaf r =>
      cases r
      rfl
  | .vw _ :: _, _, _, _, .cons _ _, e => by cases e
  | .val (.leaf .none) :: _, _, _, _, .cons _ _, e => by cases e
  | .val (.leaf (.bool _)) :: _, _, _, _, .cons _ _, e => by cases e
  | .val (.leaf (.str _)) :: _, _, _, _, .cons _ _, e => by cases e
  | .val (.leaf (.list _)) :: _, _, _, _, .cons _ _, e => by cases e
  | .val (.leaf (.tuple _)) :: _, _, _, _, .cons _ _, e => by cases e
  | .val (.leaf (.dict _)) :: _, _, _, _, .cons _ _, e => by cases e
  | .val (.fl _) :: _, _, _, _, .cons _ _, e => by cases e
  | .val (.ls _) :: _, _, _, _, .cons _ _, e => by cases e
  | .val (.tup _) :: _, _, _, _, .cons _ _, e => by cases e
  | .val (.dk _) :: _, _, _, _, .cons _ _, e => by cases e
  | .val (.dn _) :: _, _, _, _, .cons _ _, e => by cases e
  | .val (.scr _) :: _, _, _, _, .cons _ _, e => by cases e
  | .val (.ob _ _ _) :: _, _, _, _, .cons _ _, e => by cases e
def rngOf : List Int → Option (List D)
  | [j] => if -8000000 ≤ j ∧ j ≤ 8000000 then some (rangeD 0 1 j.toNat) else none
  | [i, j] => if (-8000000 ≤ i ∧ i ≤ 8000000) ∧ -8000000 ≤ j ∧ j ≤ 8000000 then some (rangeD i 1 (j - i).toNat) else none
  | [i, j, c] => if c = -1 ∧ (-8000000 ≤ i ∧ i ≤ 8000000) ∧ -8000000 ≤ j ∧ j ≤ 8000000 then some (rangeD i c (i - j).toNat) else none
  | _ => none
def iRng (l : ML) : MI := fun ro τ => (l ro τ).bind fun p => (asInts p.1).bind fun ns => (rngOf ns).map fun ds => (ds, p.2)
theorem small8 {n : Nat} (h : n ≤ 16000000) : n ≤ sizeLine := by
  rw [sizeLine_eq]
  omega
theorem ir_range1 {a : Expr} {l : ML} (ha : AR X [a] l) (hg : Gl X "range") (hm : X.mg "range" = none) (hs : starEach [a] X.env = [(false, eval a X.env)] := by rfl) : IR X tg (.Call (.Name "range" p) [a] [] pos) (iRng l) := ⟨fun ro τ ds τ' em F B H σ A Rr at_ k => by
  obtain ⟨⟨rs, τ1⟩, e1, em⟩ := Option.bind_eq_some_iff.mp em
  obtain ⟨ns, e2, em⟩ := Option.bind_eq_some_iff.mp em
  obtain ⟨es, e3, em⟩ := Option.map_eq_some_iff.mp em
  cases em
  refine wI (pi_range1 hg hm paW hs) (ha.run ro τ rs _ e1 F B H σ A _ at_ fun F1 H1 vs A1 A2 g1 c1 o1 t1 => ?_)
  have ev := asInts_of o1 e2
  have hl := ha.len _ _ _ _ e1
  match ns, e3 with
  | [j], e3 =>
    have e3' : (if -8000000 ≤ j ∧ j ≤ 8000000 then some (rangeD 0 1 j.toNat) else none) = some ds := e3
    by_cases q : -8000000 ≤ j ∧ j ≤ 8000000
    · rw [if_pos q] at e3'
      cases e3'
      obtain ⟨q1, q2⟩ := q
      exact ⟨j, ev, by omega, by omega, k F1 H1 A2 _ (g1.trans (Go.less fun _ m => List.mem_append_right _ m)) c1.right t1 (src_range (small8 (by omega)))⟩
    · rw [if_neg q] at e3'
      cases e3'
  | [i, j], e3 =>
    have := o1.length
    rw [ev] at this
    simp at this hl
    omega
  | [i, j, c], e3 =>
    have := o1.length
    rw [ev] at this
    simp at this hl
    omega⟩
theorem ir_range2 {a b : Expr} {l : ML} (ha : AR X [a, b] l) (hg : Gl X "range") (hm : X.mg "range" = none) (hs : starEach [a, b] X.env = [(false, eval a X.env), (false, eval b X.env)] := by rfl)
    (hs2 : starEach [b] X.env = [(false, eval b X.env)] := by rfl) : IR X tg (.Call (.Name "range" p) [a, b] [] pos) (iRng l) := ⟨fun ro τ ds τ' em F B H σ A Rr at_ k => by
  obtain ⟨⟨rs, τ1⟩, e1, em⟩ := Option.bind_eq_some_iff.mp em
  obtain ⟨ns, e2, em⟩ := Option.bind_eq_some_iff.mp em
  obtain ⟨es, e3, em⟩ := Option.map_eq_some_iff.mp em
  cases em
  refine wI (pi_range2 hg hm paW hs hs2) (ha.run ro τ rs _ e1 F B H σ A _ at_ fun F1 H1 vs A1 A2 g1 c1 o1 t1 => ?_)
  have ev := asInts_of o1 e2
  have hl := ha.len _ _ _ _ e1
  match ns, e3 with
  | [i, j], e3 =>
    have e3' : (if (-8000000 ≤ i ∧ i ≤ 8000000) ∧ -8000000 ≤ j ∧ j ≤ 8000000 then some (rangeD i 1 (j - i).toNat) else none) = some ds := e3
    by_cases q : (-8000000 ≤ i ∧ i ≤ 8000000) ∧ -8000000 ≤ j ∧ j ≤ 8000000
    · rw [if_pos q] at e3'
      cases e3'
      obtain ⟨⟨q1, q2⟩, q3, q4⟩ := q
      exact ⟨i, j, ev, ⟨by omega, by omega, by omega, by omega⟩, k F1 H1 A2 _ (g1.trans (Go.less fun _ m => List.mem_append_right _ m)) c1.right t1 (src_range (small8 (by omega)))⟩
    · rw [if_neg q] at e3'
      cases e3'
  | [j], e3 =>
    have := o1.length
    rw [ev] at this
    simp at this hl
    omega
  | [i, j, c], e3 =>
    have := o1.length
    rw [ev] at this
    simp at this hl
    omega⟩
end
end Tl

namespace Tl
open PySem PySem.Spec PyProof.Rows L2

abbrev MG := D → Fz → Option Fz
abbrev MGs := List D → Fz → Option Fz
section
variable (K : PySem.W.Frag)
structure GV (t : TG) (ws : List Nat) (m : MG) : Prop where
  run : ∀ (d : D) (fz fz' : Fz), m d fz = some fz' → ∀ (F H : Hp) (σ : L2.St) (v : V) (Q : L2.St → Hp → Prop), Rep K F v d → Same F H → FzOk K F σ fz →
    (∀ σ' : L2.St, FzOk K F σ' fz' → σ'.length = σ.length → (∀ j, j ∉ ws → σ'[j]? = σ[j]?) → Q σ' H) → t v σ H Q
structure GVs (n : Nat) (t : TGs) (ws : List Nat) (m : MGs) : Prop where
  len : ∀ (ds : List D) (fz fz' : Fz), m ds fz = some fz' → ds.length = n
  run : ∀ (ds : List D) (fz fz' : Fz), m ds fz = some fz' → ∀ (F H : Hp) (σ : L2.St) (vs : List V) (Q : L2.St → Hp → Prop), RepL K F vs ds → Same F H → FzOk K F σ fz →
    (∀ σ' : L2.St, FzOk K F σ' fz' → σ'.length = σ.length → (∀ j, j ∉ ws → σ'[j]? = σ[j]?) → Q σ' H) → t vs σ H Q
end
def wpGs (X : Cx) (ts : List Expr) : TGs := fun vs σ H Q => ∀ (pins : List (Addr × Obj)) (s : Shared) (us : List Value), Inv X pins σ H s → Vals vs us →
  wpAny (model X.prog X.w) X.A (assignInOrder ((assignEach ts X.env).map (·.2)) us) (fun _ s' => ∃ σ' H', Inv X pins σ' H' s' ∧ Q σ' H') X.xe s
abbrev GR (X : Cx) (tg : Expr) (ws : List Nat) (m : MG) : Prop := GV X.K (wpG X tg) ws m
abbrev GRs (X : Cx) (ts : List Expr) (ws : List Nat) (m : MGs) : Prop := GVs X.K ts.length (wpGs X ts) ws m
section
variable {X : Cx} {tg e : Expr} {es : List Expr} {i : Nat} {pos : Pos} {K : PySem.W.Frag} {F H : Hp}
theorem pgsW : PGs X es (wpGs X es) := ⟨fun pins s σ H vs us Q I r h => h pins s us I r⟩
theorem wGs {t : TGs} {vs : List V} {σ : L2.St} {Q : L2.St → Hp → Prop} (p : PGs X es t) (h : t vs σ H Q) : wpGs X es vs σ H Q := fun pins s us I r => p.run pins s σ H vs us Q I r h
theorem FzOk.set {σ : L2.St} {fz : Fz} {v : V} {d : D} (o : FzOk K F σ fz) (r : Rep K F v d) (i : Nat) : FzOk K F (σ.set i (some v)) (fset fz i (some d)) := by
  refine ⟨by rw [fset_length, List.length_set]; exact o.1, fun j e h => ?_⟩
  by_cases q : j = i
  · subst q
    cases fget_set_same h
    have l := fget_lt h
    rw [fset_length, o.1] at l
    exact ⟨v, by rw [List.getElem?_set_self l], r⟩
  · rw [fget_set_ne q] at h
    obtain ⟨u, h1, h2⟩ := o.2 j e h
    exact ⟨u, by rw [List.getElem?_set_ne (fun z => q z.symm)]; exact h1, h2⟩
def gtN (i : Nat) : MG := fun d fz => some (fset fz i (some d))
theorem gr_name (h : PG X tg (gName i)) : GR X tg [i] (gtN i) := ⟨fun d fz fz' em F H σ v Q r s o k => by
  cases em
  refine wG h (k _ (o.set r i) List.length_set fun j n => ?_)
  rw [List.getElem?_set_ne fun z => n (by rw [z]; exact List.mem_singleton.mpr rfl)]⟩
def gtNil : MGs := fun ds fz => match ds with
  | [] => some fz
  | _ => none
def gtCons (m : MG) (l : MGs) : MGs := fun ds fz => match ds with
  | d :: r => (m d fz).bind fun fz1 => l r fz1
  | [] => none
theorem grs_nil : GRs X [] [] gtNil := by
  refine ⟨fun ds fz fz' em => ?_, fun ds fz fz' em F H σ vs Q r s o k => ?_⟩
  · cases ds with
    | nil => rfl
    | cons d ds => cases em
  · cases ds with
    | cons d ds => cases em
    | nil =>
      cases em
      cases r
      exact wGs pgs_nil ⟨rfl, k σ o rfl fun _ _ => rfl⟩
theorem grs_cons {ws ws' : List Nat} {m : MG} {l : MGs} (h : GR X e ws m) (t : GRs X es ws' l) (hs : (assignEach (e :: es) X.env).map (·.2) = assign e X.env :: (assignEach es X.env).map (·.2) := by rfl) : GRs X (e :: es) (ws ++ ws') (gtCons m l) := by
  refine ⟨fun ds fz fz' em => ?_, fun ds fz fz' em F H σ vs Q r s o k => ?_⟩
  · cases ds with
    | nil => cases em
    | cons d ds =>
      obtain ⟨fz1, e1, e2⟩ := Option.bind_eq_some_iff.mp em
      show ds.length + 1 = es.length + 1
      rw [t.len _ _ _ e2]
  · cases ds with
    | nil => cases em
    | cons d ds =>
      obtain ⟨fz1, e1, e2⟩ := Option.bind_eq_some_iff.mp em
      cases r with
      | cons r1 r2 =>
        refine wGs (pgs_cons pgW pgsW hs) ⟨_, _, rfl, h.run d fz fz1 e1 F H σ _ _ r1 s o fun σ1 o1 l1 k1 => ?_⟩
        refine t.run ds fz1 fz' e2 F H σ1 _ Q r2 s o1 fun σ2 o2 l2 k2 => ?_
        exact k σ2 o2 (l2.trans l1) fun j n => (k2 j fun z => n (List.mem_append_right _ z)).trans (k1 j fun z => n (List.mem_append_left _ z))
def gtT (l : MGs) : MG := fun d fz => match d with
  | .tuple ds => l ds fz
  | .list ds => l ds fz
  | _ => none
theorem gr_tup {ws : List Nat} {l : MGs} {k : Nat} (hc : X.calm = true) (t : GRs X es ws l) (hn : (assignEach es X.env).length = es.length := by rfl) (hst : (assignEach es X.env).findIdx? (·.1) = none := by rfl) : GR X (.Tuple es k pos) ws (gtT l) :=
  ⟨fun d fz fz' em F H σ v Q r s o kk => by
  cases d with
  | tuple ds =>
    cases r with
    | tup h1 h2 h3 =>
      refine wG (pg_tup hc pgsW hn hst) ⟨_, _, rfl, sameT s h1, ?_, t.run ds fz fz' em F H σ _ Q h3 s o kk⟩
      rw [h3.length]
      exact t.len _ _ _ em
  | list ds =>
    cases r with
    | lst h1 h2 h3 =>
      refine wG (pg_unl hc pgsW hn hst) ⟨_, _, rfl, SqL.of (s _ _ h1), ?_, t.run ds fz fz' em F H σ _ Q h3 s o kk⟩
      rw [h3.length]
      exact t.len _ _ _ em
  | _ => cases em⟩
end

def inN : List Nat → Nat → Bool
  | [], _ => false
  | j :: r, i => if j = i then true else inN r i
def tout (ns : List Nat) : Tau → Tau
  | [] => []
  | (i, t) :: r => if inN ns i = true then tout ns r else (i, t) :: tout ns r
def fwipe (f : Fz) : List Nat → Fz
  | [] => f
  | v :: vs => fset (fwipe f vs) v none
theorem mem_inN : ∀ {ns : List Nat} {i : Nat}, i ∈ ns → inN ns i = true
  | j :: r, i, h => by
    show (if j = i then true else inN r i) = true
    by_cases q : j = i
    · rw [if_pos q]
    · rw [if_neg q]
      exact mem_inN ((List.mem_cons.mp h).resolve_left fun z => q z.symm)
theorem tout_sub : ∀ {ns : List Nat} {τ : Tau} {p : Nat × T}, p ∈ tout ns τ → p ∈ τ ∧ p.1 ∉ ns
  | ns, (i, t) :: r, p, h => by
    have h' : p ∈ (if inN ns i = true then tout ns r else (i, t) :: tout ns r) := h
    by_cases q : inN ns i = true
    · rw [if_pos q] at h'
      have z := tout_sub h'
      exact ⟨List.mem_cons_of_mem _ z.1, z.2⟩
    · rw [if_neg q] at h'
      rcases List.mem_cons.mp h' with e | m
      · rw [e]
        exact ⟨List.mem_cons_self, fun z => q (mem_inN z)⟩
      · have z := tout_sub m
        exact ⟨List.mem_cons_of_mem _ z.1, z.2⟩
section
variable {K : PySem.W.Frag} {F F' B H H' : Hp} {σ σ' : L2.St} {A A1 A2 : List Addr}
theorem fget_wipe : ∀ {vs : List Nat} {f : Fz} {i : Nat} {d : D}, fget (fwipe f vs) i = some d → fget f i = some d ∧ i ∉ vs
  | [], f, i, d, h => ⟨h, fun z => nomatch z⟩
  | v :: vs, f, i, d, h => by
    have h' : fget (fset (fwipe f vs) v none) i = some d := h
    by_cases q : i = v
    · subst q
      cases fget_set_same h'
    · rw [fget_set_ne q] at h'
      obtain ⟨h1, h2⟩ := fget_wipe h'
      exact ⟨h1, fun z => (List.mem_cons.mp z).elim q h2⟩
theorem fwipe_length (f : Fz) : ∀ vs : List Nat, (fwipe f vs).length = f.length
  | [] => rfl
  | v :: vs => by
    show (fset (fwipe f vs) v none).length = f.length
    rw [fset_length, fwipe_length f vs]
theorem FzOk.wipe {f : Fz} (o : FzOk K F σ f) (vs : List Nat) : FzOk K F (wipe σ vs) (fwipe f vs) := by
  refine ⟨by rw [fwipe_length, wipe_length]; exact o.1, fun i d h => ?_⟩
  obtain ⟨h1, h2⟩ := fget_wipe h
  obtain ⟨v, e1, e2⟩ := o.2 i d h1
  exact ⟨v, by rw [wipe_out h2]; exact e1, e2⟩
theorem VwOk.move {τ : Tau} (o : VwOk K F B σ τ) (h : ∀ p ∈ τ, σ'[p.1]? = σ[p.1]?) : VwOk K F B σ' τ := fun p m => by
  obtain ⟨v, A, e, r⟩ := o p m
  exact ⟨v, A, (h p m).trans e, r⟩
theorem TauOk.move : ∀ {τ : Tau} {A : List Addr}, TauOk K F H σ τ A → (∀ p ∈ τ, σ'[p.1]? = σ[p.1]?) → TauOk K F H σ' τ A
  | _, _, .nil, _ => .nil
  | _, _, .cons h o t, k => .cons ((k _ List.mem_cons_self).trans h) o (TauOk.move t fun p m => k p (List.mem_cons_of_mem _ m))
theorem TauOk.out : ∀ {τ : Tau} {A : List Addr} (ns : List Nat), TauOk K F H σ τ A → A.Nodup → ∃ A', TauOk K F H σ (tout ns τ) A' ∧ A'.Nodup ∧ ∀ a ∈ A', a ∈ A
  | _, _, _, .nil, n => ⟨[], .nil, n, fun _ m => m⟩
  | (j, u) :: r, _, ns, .cons (A := A) (A' := A0) h o t, n => by
    obtain ⟨n1, n2, n3⟩ := List.nodup_append.mp n
    obtain ⟨A', t', n', s'⟩ := TauOk.out ns t n2
    by_cases q : inN ns j = true
    · refine ⟨A', ?_, n', fun a m => List.mem_append_right _ (s' a m)⟩
      show TauOk K F H σ (if inN ns j = true then tout ns r else (j, u) :: tout ns r) A'
      rw [if_pos q]
      exact t'
    · refine ⟨A ++ A', ?_, List.nodup_append.mpr ⟨n1, n', fun a m b m2 => n3 a m b (s' b m2)⟩, fun a m => ?_⟩
      · show TauOk K F H σ (if inN ns j = true then tout ns r else (j, u) :: tout ns r) (A ++ A')
        rw [if_neg q]
        exact .cons h o t'
      · rcases List.mem_append.mp m with z | z
        · exact List.mem_append_left _ z
        · exact List.mem_append_right _ (s' a z)
/-- wiped again -/
theorem wipe_eq {vs : List Nat} {σ σ2 : L2.St} (hl : σ2.length = σ.length) (h : ∀ j, j ∉ vs → σ2[j]? = (wipe σ vs)[j]?) : wipe σ2 vs = wipe σ vs := by
  refine List.ext_getElem? fun j => ?_
  by_cases q : j ∈ vs
  · have none_at : ∀ τ : L2.St, j < τ.length → (wipe τ vs)[j]? = some none := fun τ hj => by
      have hj' : j < (wipe τ vs).length := by rw [wipe_length]; exact hj
      cases e : (wipe τ vs)[j]? with
      | none =>
        rw [List.getElem?_eq_none_iff] at e
        omega
      | some o =>
        cases o with
        | none => rfl
        | some x => exact absurd q (wipe_some e).2
    by_cases hj : j < σ.length
    · rw [none_at σ hj, none_at σ2 (hl ▸ hj)]
    · rw [List.getElem?_eq_none (by rw [wipe_length]; omega), List.getElem?_eq_none (by rw [wipe_length]; omega)]
  · rw [wipe_out q, h j q]
end
/-- the turns: the items to come, the items made -/
def lcLoop (vs : List Nat) (mt : MG) (mc : MB) (me : MV) (fw : Fz) (vw : Tau) : List D → List D → Tau → Option (List D × Tau)
  | [], acc, τ => some (acc, τ)
  | d :: ds, acc, τ => (mt d fw).bind fun fz => (mc ⟨fz, vw⟩ τ).bind fun p =>
      if p.1 = true then (me ⟨fz, vw⟩ p.2).bind fun q => q.1.st.bind fun y => lcLoop vs mt mc me fw vw ds (acc ++ [y]) (tout vs q.2) else lcLoop vs mt mc me fw vw ds acc (tout vs p.2)
def mLc (vs : List Nat) (mi : MI) (mt : MG) (mc : MB) (me : MV) : MV := fun ro τ => (mi ro τ).bind fun p => (lcLoop vs mt mc me (fwipe ro.fz vs) (tout vs ro.vw) p.1 [] (tout vs p.2)).map fun q => (.val (.fl q.1), q.2)
def mYes : MB := fun _ τ => some (true, τ)
section
variable {K : PySem.W.Frag}
/-- what holds at a turn -/
structure LcAt (K : PySem.W.Frag) (F1 B H1 : Hp) (A1 : List Addr) (σ : L2.St) (vs : List Nat) (p : Addr) (τ : Tau) (acc : List D) (i : Nat) (Fc Hc : Hp) (Ac : List Addr) (xs : List V) : Prop where
  go : Go F1 H1 A1 Fc Hc (p :: Ac)
  cn : Cn Fc B Hc (p :: Ac)
  at_ : Hc p = some (.lst xs)
  rl : RepL K Fc xs acc
  tau : TauOk K Fc Hc σ τ Ac
  out : ∀ q ∈ τ, q.1 ∉ vs
  len : xs.length ≤ i
theorem lc_ev {wi : TI} {g : TG} {tt : TT} {te : TE} {vs ws : List Nat} {mi : MI} {mt : MG} {mc : MB} {me : MV} (hi : IV K wi mi) (hg : GV K g ws mt) (hw : ∀ j ∈ ws, j ∈ vs) (ht : TV K tt mc) (he : EV K te me) :
    EV K (tLc wi g tt te vs) (mLc vs mi mt mc me) := ⟨fun ro τ r τ' em F B H σ A Q a k => by
  obtain ⟨⟨ds, τ1⟩, e1, em⟩ := Option.bind_eq_some_iff.mp em
  obtain ⟨⟨out, τ2⟩, e2, em⟩ := Option.map_eq_some_iff.mp em
  cases em
  refine hi.run ro τ ds τ1 e1 F B H σ A _ a fun F1 H1 A1 J g1 c1 t1 src => ?_
  intro p hp
  have ro1 := a.ro.mono g1.ff
  refine ⟨fun i m Hc => m = ds.length - i ∧ i ≤ ds.length ∧ ∃ (Fc : Hp) (τc : Tau) (acc : List D) (xs : List V) (Ac : List Addr), lcLoop vs mt mc me (fwipe ro.fz vs) (tout vs ro.vw) (ds.drop i) acc τc = some (out, τ2) ∧
      LcAt K F1 B H1 A1 σ vs p τc acc i Fc Hc Ac xs, ⟨ds.length, ?_⟩, ?_⟩
  · obtain ⟨A0, t0, n0, s0⟩ := t1.out vs c1.nd
    have g0 : Go F1 H1 A1 F1 H1 A0 := Go.less s0
    obtain ⟨g2, c2⟩ := (c1.sub n0 s0).newO (o := .lst []) hp
    refine ⟨by omega, Nat.zero_le _, F1, _, [], [], A0, e2, ⟨g0.trans g2, c2, upd_same, .nil, t0.stay g2.ff fun b m o q => ?_, fun q m => (tout_sub m).2, Nat.le_refl _⟩⟩
    rw [upd_ne (ne_of_none q hp)]
    exact q
  · rintro i m Hc ⟨rfl, hi', Fc, τc, acc, xs, Ac, el, L⟩
    have s1c : Same F1 Fc := L.go.ff
    have cc := L.cn
    by_cases hlt : i < ds.length
    · refine .inr ?_
      have ei : ds[i]? = some ds[i] := List.getElem?_eq_getElem hlt
      refine ⟨src.go Fc Hc s1c cc.fh cc.bh i _ ei, fun H' => ∃ (Fc : Hp) (τc : Tau) (acc : List D) (xs : List V) (Ac : List Addr), lcLoop vs mt mc me (fwipe ro.fz vs) (tout vs ro.vw) (ds.drop (i + 1)) acc τc = some (out, τ2) ∧
        LcAt K F1 B H1 A1 σ vs p τc acc (i + 1) Fc H' Ac xs, fun H' q => ⟨ds.length - (i + 1), by omega, rfl, hlt, q⟩, fun x H2 y => ?_⟩
      obtain ⟨F2, w1, rx⟩ := src.yld Fc Hc s1c cc.fh cc.bh i _ ei x H2 y
      obtain ⟨g2, c2⟩ := w1 B (p :: Ac) cc
      rw [List.drop_eq_getElem_cons hlt] at el
      obtain ⟨fz, f1, el⟩ := Option.bind_eq_some_iff.mp el
      obtain ⟨⟨b, τ3⟩, f2, el⟩ := Option.bind_eq_some_iff.mp el
      have stand : ∀ (b : Addr) (u : HO), Hc b = some u → H2 b = some u := fun b u q => (w1 noH [] ⟨cc.fh, same_noH, .nil, (fun _ z => nomatch z), (fun _ z => nomatch z), (fun _ z => nomatch z)⟩).1.keep b u (fun z => nomatch z) q
      have hp2 := stand _ _ L.at_
      have rl2 := L.rl.mono g2.ff
      have tc2 := L.tau.stay g2.ff fun b _ u q => stand b u q
      have ro2 := ro1.mono (s1c.trans g2.ff)
      refine hg.run _ _ fz f1 F2 H2 (wipe σ vs) x _ rx c2.fh (ro2.fz.wipe vs) fun σ2 o2 l2 k2 => ⟨?_, ?_⟩
      · exact wipe_eq (l2.trans (wipe_length _ _)) fun j n => k2 j fun z => n (hw j z)
      · have offslot : ∀ j, j ∉ vs → σ2[j]? = σ[j]? := fun j n => (k2 j fun z => n (hw j z)).trans (wipe_out n)
        have to2 : TauOk K F2 H2 σ2 τc Ac := tc2.move fun q m => offslot q.1 (L.out q m)
        have vw2 : VwOk K F2 B σ2 (tout vs ro.vw) := VwOk.move (fun q m => ro2.vw q (tout_sub m).1) fun q m => offslot q.1 (tout_sub m).2
        have back : ∀ {τ : Tau} {F' H' : Hp} {A : List Addr}, TauOk K F' H' σ2 τ A → A.Nodup → ∃ A', TauOk K F' H' σ (tout vs τ) A' ∧ A'.Nodup ∧ ∀ a ∈ A', a ∈ A := fun t n => by
          obtain ⟨A', t', n', s'⟩ := t.out vs n
          exact ⟨A', t'.move fun q m => (offslot q.1 (tout_sub m).2).symm, n', s'⟩
        refine ht.run ⟨fz, tout vs ro.vw⟩ τc b τ3 f2 F2 B H2 σ2 Ac _ ⟨Cn.right (A1 := [p]) c2, ⟨o2, vw2⟩, to2⟩ fun F3 H3 A3 g3 c3 t3 => ?_
        obtain ⟨g3', c3'⟩ := Go.framed (A1 := [p]) c2 g3 c3
        have pn2 : p ∉ Ac := Cn.apart (A1 := [p]) c2 p (List.mem_singleton.mpr rfl)
        have hp3 : H3 p = some (.lst xs) := g3.keep p _ pn2 hp2
        have g13 := (L.go.trans g2).trans g3'
        have keepin : ∀ {A A' : List Addr} {F H : Hp}, Cn F B H ([p] ++ A) → A'.Nodup → (∀ a ∈ A', a ∈ A) → Go F H ([p] ++ A) F H (p :: A') ∧ Cn F B H (p :: A') := fun {A A' F H} c n s => by
          have sub : ∀ b ∈ p :: A', b ∈ [p] ++ A := fun b m => (List.mem_cons.mp m).elim (fun z => z ▸ List.mem_cons_self) fun z => List.mem_cons_of_mem _ (s b z)
          exact ⟨Go.less sub, c.sub (List.nodup_cons.mpr ⟨fun z => (List.nodup_cons.mp c.nd).1 (s p z), n⟩) sub⟩
        cases b with
        | false =>
          rw [if_neg Bool.false_ne_true] at el ⊢
          obtain ⟨A', t', n', s'⟩ := back t3 c3.nd
          obtain ⟨g4, c4⟩ := keepin c3' n' s'
          exact ⟨F3, tout vs τ3, acc, xs, A', el, ⟨g13.trans g4, c4, hp3, rl2.mono g3.ff, t', fun q m => (tout_sub m).2, Nat.le_succ_of_le L.len⟩⟩
        | true =>
          rw [if_pos rfl] at el ⊢
          obtain ⟨⟨z, τ4⟩, f3, el⟩ := Option.bind_eq_some_iff.mp el
          obtain ⟨yd, f4, el⟩ := Option.bind_eq_some_iff.mp el
          have ro3 : RoOk K F3 B σ2 ⟨fz, tout vs ro.vw⟩ := ⟨o2.mono g3.ff, vw2.mono g3.ff⟩
          refine he.run ⟨fz, tout vs ro.vw⟩ τ3 z τ4 f3 F3 B H3 σ2 A3 _ ⟨c3, ro3, t3⟩ fun F4 H4 u A4 A5 g4 c4 o4 t4 => ?_
          obtain ⟨g4', c4'⟩ := Go.framed (A1 := [p]) c3' g4 c4
          have pn3 : p ∉ A3 := Cn.apart (A1 := [p]) c3' p (List.mem_singleton.mpr rfl)
          have hp4 : H4 p = some (.lst xs) := g4.keep p _ pn3 hp3
          obtain ⟨F5, g5, c5, s5, ry⟩ := o4.freeze c4 f4
          obtain ⟨g5', c5'⟩ := Go.framed (A1 := [p]) c4' g5 c5
          have t5 := t4.stay s5 fun _ _ _ q => q
          obtain ⟨A', t', n', s'⟩ := back t5 c5.nd
          obtain ⟨g6, c6⟩ := keepin c5' n' s'
          obtain ⟨g7, c7⟩ := c6.write (o := .lst (xs ++ [u])) (p := p) List.mem_cons_self
          refine ⟨xs, hp4, Nat.lt_of_le_of_lt L.len (Nat.lt_of_lt_of_le hlt src.small), F5, tout vs τ4, acc ++ [yd], xs ++ [u], A', el, ⟨((((g13.trans g4').trans g5').trans g6).trans g7), c7, upd_same, ?_, t'.stay g7.ff fun b m o q => ?_, fun q m => (tout_sub m).2, ?_⟩⟩
          · exact (((rl2.mono g3.ff).mono g4.ff).mono s5).append (.cons ry .nil)
          · have nb : b ≠ p := fun z => (List.nodup_cons.mp c6.nd).1 (by rw [← z]; exact m)
            rw [upd_ne nb]
            exact q
          · rw [List.length_append]
            exact Nat.succ_le_succ L.len
    · have e : i = ds.length := by omega
      subst e
      rw [List.drop_length] at el
      cases el
      refine .inl ⟨src.stop Fc Hc s1c cc.fh cc.bh _ (Nat.le_refl _), ?_⟩
      exact k Fc Hc (.ref p) [p] Ac (g1.trans L.go) cc (.fl L.at_ (Nat.le_trans L.len src.small) L.rl) L.tau⟩
theorem tv_yes : TV K tYes mYes := ⟨fun ro τ r τ' em F B H σ A Q a k => by
  cases em
  exact k F H A Go.refl a.cn a.tau⟩
end
section
variable (X : Cx) (scope : Scope)
def bE (e : Expr) : TE := fun σ H Q => ∀ (s : Shared) (H0 : Hp) (C : Addr) (cl : List (Str × Addr)) (fp : List Addr), wpE (X.blk s H0 scope (compEnvC scope cl C X.env) fp) e σ H Q
def bT (e : Expr) : TT := fun σ H Q => ∀ (s : Shared) (H0 : Hp) (C : Addr) (cl : List (Str × Addr)) (fp : List Addr), wpT (X.blk s H0 scope (compEnvC scope cl C X.env) fp) e σ H Q
def bG (e : Expr) : TG := fun v σ H Q => ∀ (s : Shared) (H0 : Hp) (C : Addr) (cl : List (Str × Addr)) (fp : List Addr), wpG (X.blk s H0 scope (compEnvC scope cl C X.env) fp) e v σ H Q
end
section
variable {X : Cx} {scope : Scope} {elt tg iter c : Expr} {own : List (Str × Nat)} {pos : Pos} {ws : List Nat} {mi : MI} {mt : MG} {mc : MB} {me : MV}
theorem bE_of (h : ∀ (s : Shared) (H0 : Hp) (C : Addr) (cl : List (Str × Addr)) (fp : List Addr), ER (X.blk s H0 scope (compEnvC scope cl C X.env) fp) elt me) : EV X.K (bE X scope elt) me :=
  ⟨fun ro τ r τ' em F B H σ A Q a k s H0 C cl fp => (h s H0 C cl fp).run ro τ r τ' em F B H σ A Q a k⟩
theorem bT_of (h : ∀ (s : Shared) (H0 : Hp) (C : Addr) (cl : List (Str × Addr)) (fp : List Addr), TR (X.blk s H0 scope (compEnvC scope cl C X.env) fp) c mc) : TV X.K (bT X scope c) mc :=
  ⟨fun ro τ r τ' em F B H σ A Q a k s H0 C cl fp => (h s H0 C cl fp).run ro τ r τ' em F B H σ A Q a k⟩
theorem bG_of (h : ∀ (s : Shared) (H0 : Hp) (C : Addr) (cl : List (Str × Addr)) (fp : List Addr), GR (X.blk s H0 scope (compEnvC scope cl C X.env) fp) tg ws mt) : GV X.K (bG X scope tg) ws mt :=
  ⟨fun d fz fz' em F H σ v Q r s o k s H0 C cl fp => (h s H0 C cl fp).run d fz fz' em F H σ v Q r ‹_› o k⟩
theorem bE_pe (s : Shared) (H0 : Hp) (C : Addr) (cl : List (Str × Addr)) (fp : List Addr) : PE (X.blk s H0 scope (compEnvC scope cl C X.env) fp) elt (bE X scope elt) := ⟨fun pins s' σ H Q I h => h s H0 C cl fp pins s' I⟩
theorem bT_pt (s : Shared) (H0 : Hp) (C : Addr) (cl : List (Str × Addr)) (fp : List Addr) : PT (X.blk s H0 scope (compEnvC scope cl C X.env) fp) c (bT X scope c) := ⟨fun pins s' σ H Q I h => h s H0 C cl fp pins s' I⟩
theorem bG_pg (s : Shared) (H0 : Hp) (C : Addr) (cl : List (Str × Addr)) (fp : List Addr) : PG (X.blk s H0 scope (compEnvC scope cl C X.env) fp) tg (bG X scope tg) := ⟨fun pins s' σ H v u Q I r h => h s H0 C cl fp pins s' u I r⟩
/-- its reading, with no test, with one -/
abbrev tLc0 (X : Cx) (scope : Scope) (tg iter elt : Expr) (vs : List Nat) : TE := tLc (wpI X tg iter) (bG X scope tg) tYes (bE X scope elt) vs
abbrev tLc1 (X : Cx) (scope : Scope) (tg iter c elt : Expr) (vs : List Nat) : TE := tLc (wpI X tg iter) (bG X scope tg) (bT X scope c) (bE X scope elt) vs
theorem ev_lc0 (hi : IR X tg iter mi) (hg : ∀ (s : Shared) (H0 : Hp) (C : Addr) (cl : List (Str × Addr)) (fp : List Addr), GR (X.blk s H0 scope (compEnvC scope cl C X.env) fp) tg ws mt) (hw : ∀ j ∈ ws, j ∈ own.map (·.2))
    (he : ∀ (s : Shared) (H0 : Hp) (C : Addr) (cl : List (Str × Addr)) (fp : List Addr), ER (X.blk s H0 scope (compEnvC scope cl C X.env) fp) elt me) : EV X.K (tLc0 X scope tg iter elt (own.map (·.2))) (mLc (own.map (·.2)) mi mt mYes me) :=
  lc_ev hi (bG_of hg) hw tv_yes (bE_of he)
theorem ev_lc1 (hi : IR X tg iter mi) (hg : ∀ (s : Shared) (H0 : Hp) (C : Addr) (cl : List (Str × Addr)) (fp : List Addr), GR (X.blk s H0 scope (compEnvC scope cl C X.env) fp) tg ws mt) (hw : ∀ j ∈ ws, j ∈ own.map (·.2))
    (hc : ∀ (s : Shared) (H0 : Hp) (C : Addr) (cl : List (Str × Addr)) (fp : List Addr), TR (X.blk s H0 scope (compEnvC scope cl C X.env) fp) c mc)
    (he : ∀ (s : Shared) (H0 : Hp) (C : Addr) (cl : List (Str × Addr)) (fp : List Addr), ER (X.blk s H0 scope (compEnvC scope cl C X.env) fp) elt me) : EV X.K (tLc1 X scope tg iter c elt (own.map (·.2))) (mLc (own.map (·.2)) mi mt mc me) :=
  lc_ev hi (bG_of hg) hw (bT_of hc) (bE_of he)
theorem pe_lc0 (hc : X.calm = true) (hN : X.N.Nodup) (ok : BlkOk X.N X.env.scope scope own) (hs : ∀ x, foldedSetIterable iter X.env x = pure x := by intro _; rfl) : PE X (.ListComp elt [⟨tg, iter, [], 0⟩] scope pos) (tLc0 X scope tg iter elt (own.map (·.2))) :=
  pe_lc hc hN piW ok bG_pg (fun _ _ _ _ _ => pts_nil) bE_pe hs
theorem pe_lc1 (hc : X.calm = true) (hN : X.N.Nodup) (ok : BlkOk X.N X.env.scope scope own) (hs : ∀ x, foldedSetIterable iter X.env x = pure x := by intro _; rfl) : PE X (.ListComp elt [⟨tg, iter, [c], 0⟩] scope pos) (tLc1 X scope tg iter c elt (own.map (·.2))) :=
  pe_lc hc hN piW ok bG_pg (fun s H0 C cl fp => pts_one (bT_pt s H0 C cl fp)) bE_pe hs
theorem ev_er {e : Expr} {t : TE} {m : MV} (p : PE X e t) (h : EV X.K t m) : ER X e m := ⟨fun ro τ r τ' em F B H σ A Q a k => wE p (h.run ro τ r τ' em F B H σ A Q a k)⟩
end
end Tl

namespace Tl
open PySem PySem.Spec PyProof.Rows L2

structure SS where
  fz : Fz
  ow : Tau
inductive Out where
  | nx (s : SS)
  | rt (t : T) (s : SS)
  | bk (s : SS)
  | ct (s : SS)
abbrev MS := SS → Option Out
abbrev MX := SS → Option (T × SS)
abbrev MXB := SS → Option (Bool × SS)
abbrev MXI := SS → Option (List D × SS)
structure SAt (K : PySem.W.Frag) (F H : Hp) (σ : L2.St) (s : SS) (A : List Addr) : Prop where
  cn : Cn F noH H A
  fz : FzOk K F σ s.fz
  ow : TauOk K F H σ s.ow A
/-- the kept slots (a def's parameters that are handed back) -/
def Agree (Pr : List Nat) (σ σ' : L2.St) : Prop := ∀ i ∈ Pr, σ'[i]? = σ[i]?
/-- what is wanted where a piece ends so -/
def OutOk (K : PySem.W.Frag) (Pr : List Nat) (F H : Hp) (σ : L2.St) (A : List Addr) (D : Ends) : Out → Prop
  | .nx s => ∀ (F' H' : Hp) (σ' : L2.St) (A' : List Addr), Go F H A F' H' A' → SAt K F' H' σ' s A' → Agree Pr σ σ' → D.nx σ' H'
  | .bk s => ∀ (F' H' : Hp) (σ' : L2.St) (A' : List Addr), Go F H A F' H' A' → SAt K F' H' σ' s A' → Agree Pr σ σ' → D.bk σ' H'
  | .ct s => ∀ (F' H' : Hp) (σ' : L2.St) (A' : List Addr), Go F H A F' H' A' → SAt K F' H' σ' s A' → Agree Pr σ σ' → D.ct σ' H'
  | .rt t s => ∀ (F' H' : Hp) (σ' : L2.St) (v : V) (A1 A2 : List Addr), Go F H A F' H' (A1 ++ A2) → Cn F' noH H' (A1 ++ A2) → Own K F' H' v t A1 → FzOk K F' σ' s.fz → TauOk K F' H' σ' s.ow A2 → Agree Pr σ σ' → D.rt v H'
section
variable (K : PySem.W.Frag)
structure SV (Pr : List Nat) (t : TS) (m : MS) : Prop where
  run : ∀ (s : SS) (o : Out), m s = some o → ∀ (F H : Hp) (σ : L2.St) (A : List Addr) (D : Ends), SAt K F H σ s A → OutOk K Pr F H σ A D o → t D σ H
structure XV (t : TE) (m : MX) : Prop where
  run : ∀ (s : SS) (x : T) (s' : SS), m s = some (x, s') → ∀ (F H : Hp) (σ : L2.St) (A : List Addr) (Q : VK), SAt K F H σ s A →
    (∀ (F' H' : Hp) (v : V) (A1 A2 : List Addr), Go F H A F' H' (A1 ++ A2) → Cn F' noH H' (A1 ++ A2) → Own K F' H' v x A1 → FzOk K F' σ s'.fz → TauOk K F' H' σ s'.ow A2 → Q v H') → t σ H Q
structure XB (t : TT) (m : MXB) : Prop where
  run : ∀ (s : SS) (b : Bool) (s' : SS), m s = some (b, s') → ∀ (F H : Hp) (σ : L2.St) (A : List Addr) (Q : Bool → Hp → Prop), SAt K F H σ s A →
    (∀ (F' H' : Hp) (A' : List Addr), Go F H A F' H' A' → SAt K F' H' σ s' A' → Q b H') → t σ H Q
structure XI (t : TI) (m : MXI) : Prop where
  run : ∀ (s : SS) (ds : List D) (s' : SS), m s = some (ds, s') → ∀ (F H : Hp) (σ : L2.St) (A : List Addr) (Rr : It → Hp → Prop), SAt K F H σ s A →
    (∀ (F' H' : Hp) (A' : List Addr) (J : It), Go F H A F' H' A' → SAt K F' H' σ s' A' → Src K F' noH J ds → Rr J H') → t σ H Rr
end
abbrev SR (X : Cx) (Pr : List Nat) (st : Stmt) (m : MS) : Prop := SV X.K Pr (wpS X st) m
abbrev SRs (X : Cx) (Pr : List Nat) (st : List Stmt) (m : MS) : Prop := SV X.K Pr (wpB X st) m
section
variable {K : PySem.W.Frag} {Pr : List Nat} {F F' H H' F1 H1 : Hp} {σ σ1 : L2.St} {A A' A1 A2 : List Addr}
theorem SAt.at_ {s : SS} (a : SAt K F H σ s A) : At K F noH H σ ⟨s.fz, []⟩ s.ow A := ⟨a.cn, ⟨a.fz, fun _ m => nomatch m⟩, a.ow⟩
theorem OutOk.behind {D : Ends} {o : Out} (k : OutOk K Pr F H σ A D o) (g : Go F H A F1 H1 A1) (e : Agree Pr σ σ1) : OutOk K Pr F1 H1 σ1 A1 D o := by
  cases o with
  | nx s => exact fun F' H' σ' A' g' a e' => k F' H' σ' A' (g.trans g') a fun i m => (e' i m).trans (e i m)
  | bk s => exact fun F' H' σ' A' g' a e' => k F' H' σ' A' (g.trans g') a fun i m => (e' i m).trans (e i m)
  | ct s => exact fun F' H' σ' A' g' a e' => k F' H' σ' A' (g.trans g') a fun i m => (e' i m).trans (e i m)
  | rt t s => exact fun F' H' σ' v A1 A2 g' c o f t e' => k F' H' σ' v A1 A2 (g.trans g') c o f t fun i m => (e' i m).trans (e i m)
theorem Agree.refl : Agree Pr σ σ := fun _ _ => rfl

def mX (m : MV) : MX := fun s => (m ⟨s.fz, []⟩ s.ow).bind fun p => match p.1 with
  | .val x => some (x, ⟨s.fz, p.2⟩)
  | .vw (.leaf d) => some (.leaf d, ⟨s.fz, p.2⟩)
  | .vw _ => none
theorem xv {t : TE} {m : MV} (h : EV K t m) : XV K t (mX m) := ⟨fun s x s' em F H σ A Q a k => by
  obtain ⟨⟨z, τ1⟩, e1, em⟩ := Option.bind_eq_some_iff.mp em
  obtain ⟨ex, es⟩ : (z = .val x ∨ ∃ d, z = .vw (.leaf d) ∧ x = .leaf d) ∧ s' = ⟨s.fz, τ1⟩ := by
    cases z with
    | val y =>
      cases em
      exact ⟨.inl rfl, rfl⟩
    | vw y =>
      cases y with
      | leaf d =>
        cases em
        exact ⟨.inr ⟨d, rfl, rfl⟩, rfl⟩
      | _ => cases em
  subst es
  exact h.run _ _ z τ1 e1 F noH H σ A Q a.at_ fun F' H' v A1 A2 g c o t => k F' H' v A1 A2 g c (o.solid ex) (a.fz.mono g.ff) t⟩
def mXB (m : MB) : MXB := fun s => (m ⟨s.fz, []⟩ s.ow).map fun p => (p.1, ⟨s.fz, p.2⟩)
theorem xb {t : TT} {m : MB} (h : TV K t m) : XB K t (mXB m) := ⟨fun s b s' em F H σ A Q a k => by
  obtain ⟨⟨z, τ1⟩, e1, em⟩ := Option.map_eq_some_iff.mp em
  cases em
  exact h.run _ _ _ τ1 e1 F noH H σ A Q a.at_ fun F' H' A2 g c t => k F' H' A2 g ⟨c, a.fz.mono g.ff, t⟩⟩
def mXI (m : MI) : MXI := fun s => (m ⟨s.fz, []⟩ s.ow).map fun p => (p.1, ⟨s.fz, p.2⟩)
theorem xi {t : TI} {m : MI} (h : IV K t m) : XI K t (mXI m) := ⟨fun s b s' em F H σ A Q a k => by
  obtain ⟨⟨z, τ1⟩, e1, em⟩ := Option.map_eq_some_iff.mp em
  cases em
  exact h.run _ _ _ τ1 e1 F noH H σ A _ a.at_ fun F' H' A2 J g c t src => k F' H' A2 J g ⟨c, a.fz.mono g.ff, t⟩ src⟩

variable {X : Cx} {st : Stmt} {sts : List Stmt} {e : Expr} {pos : Pos} {i : Nat}
def mSeq (m n : MS) : MS := fun s => (m s).bind fun o => match o with
  | .nx s' => n s'
  | .rt t s' => some (.rt t s')
  | .bk s' => some (.bk s')
  | .ct s' => some (.ct s')
def mNx : MS := fun s => some (.nx s)
theorem sr_nil : SRs X Pr [] mNx := ⟨fun s o em F H σ A D a k => by
  cases em
  exact wB pss_nil (k F H σ A Go.refl a Agree.refl)⟩
theorem sr_cons {m n : MS} (h : SR X Pr st m) (t : SRs X Pr sts n) : SRs X Pr (st :: sts) (mSeq m n) := ⟨fun s o em F H σ A D a k => by
  obtain ⟨o1, e1, em⟩ := Option.bind_eq_some_iff.mp em
  refine wB (pss_cons psW pssW) (h.run s o1 e1 F H σ A _ a ?_)
  cases o1 with
  | nx s1 => exact fun F' H' σ' A' g' a' e' => t.run s1 o em F' H' σ' A' D a' (k.behind g' e')
  | rt t s1 =>
    cases em
    exact k
  | bk s1 =>
    cases em
    exact k
  | ct s1 =>
    cases em
    exact k⟩
def mBrk : MS := fun s => some (.bk s)
def mCnt : MS := fun s => some (.ct s)
def mIfS (c : MXB) (m n : MS) : MS := fun s => (c s).bind fun p => if p.1 = true then m p.2 else n p.2
theorem sr_if {c : Expr} {as bs : List Stmt} {mc : MB} {m n : MS} (hc : TR X c mc) (h : SRs X Pr as m) (h' : SRs X Pr bs n) : SR X Pr (.If c as bs pos) (mIfS (mXB mc) m n) := ⟨fun s o em F H σ A D a k => by
  obtain ⟨⟨b, s1⟩, e1, em⟩ := Option.bind_eq_some_iff.mp em
  refine wS (ps_if ptW pssW pssW) ((xb hc).run s b s1 e1 F H σ A _ a fun F1 H1 A1 g1 a1 => ?_)
  cases b with
  | true =>
    rw [if_pos rfl] at em ⊢
    exact h.run s1 o em F1 H1 σ A1 D a1 (k.behind g1 Agree.refl)
  | false =>
    rw [if_neg Bool.false_ne_true] at em ⊢
    exact h'.run s1 o em F1 H1 σ A1 D a1 (k.behind g1 Agree.refl)⟩
def mRet (m : MX) : MS := fun s => (m s).map fun p => .rt p.1 p.2
theorem sr_ret {m : MV} (h : ER X e m) : SR X Pr (.Return (some e) pos) (mRet (mX m)) := ⟨fun s o em F H σ A D a k => by
  obtain ⟨⟨x, s1⟩, e1, em⟩ := Option.map_eq_some_iff.mp em
  cases em
  exact wS (ps_ret peW) ((xv h).run s x s1 e1 F H σ A _ a fun F' H' v A1 A2 g c o f t => k F' H' σ v A1 A2 g c o f t Agree.refl)⟩
def mRetN : MS := fun s => some (.rt (.leaf .none) s)
/-- an expression for what it does -/
def mDo (m : MX) : MS := fun s => (m s).map fun p => .nx p.2
theorem sr_do {m : MV} (h : ER X e m) (hs : swapsWith e none pos.line X.env = pure false := by rfl) : SR X Pr (.Expr e pos) (mDo (mX m)) := ⟨fun s o em F H σ A D a k => by
  obtain ⟨⟨x, s1⟩, e1, em⟩ := Option.map_eq_some_iff.mp em
  cases em
  exact wS (ps_expr peW hs) ((xv h).run s x s1 e1 F H σ A _ a fun F' H' v A1 A2 g c o f t => k F' H' σ A2 (g.trans (Go.less fun _ m => List.mem_append_right _ m)) ⟨c.right, f, t⟩ Agree.refl)⟩
/-- x = e, kept as plain data -/
def mSet (i : Nat) (m : MX) : MS := fun s => (m s).bind fun p => p.1.fz.map fun d => .nx ⟨fset p.2.fz i (some d), tdel p.2.ow i⟩
theorem agree_set {v : V} (hi : i ∉ Pr) : Agree Pr σ (σ.set i (some v)) := fun j m => by
  have nb : i ≠ j := fun z => hi (by rw [z]; exact m)
  rw [List.getElem?_set_ne nb]
theorem TauOk.setD {τ : Tau} {A : List Addr} (t : TauOk K F H σ τ A) (n : A.Nodup) (i : Nat) (v : V) : ∃ A', TauOk K F H (σ.set i (some v)) (tdel τ i) A' ∧ A'.Nodup ∧ ∀ a ∈ A', a ∈ A := by
  obtain ⟨A', t', n', s'⟩ := t.del i n
  exact ⟨A', t'.move fun p m => by rw [List.getElem?_set_ne fun z => (tdel_sub m).2 z.symm], n', s'⟩
theorem sv_set {t : TE} {m : MV} (h : EV K t m) (hi : i ∉ Pr) : SV K Pr (tAsg t (gName i)) (mSet i (mX m)) := ⟨fun s o em F H σ A D a k => by
  obtain ⟨⟨x, s1⟩, e1, em⟩ := Option.bind_eq_some_iff.mp em
  obtain ⟨d, e2, em⟩ := Option.map_eq_some_iff.mp em
  cases em
  refine (xv h).run s x s1 e1 F H σ A _ a fun F1 H1 v A1 A2 g1 c1 o1 f1 t1 => ?_
  obtain ⟨g2, c2, s2, h2⟩ := c1.freeze
  obtain ⟨A3, t3, n3, s3⟩ := (t1.stay s2 fun _ _ _ q => q).setD c2.nd i v
  exact k _ H1 _ A3 ((g1.trans g2).trans (Go.less s3)) ⟨c2.sub n3 s3, (f1.mono s2).set (Own.rep s2 o1 h2 e2) i, t3⟩ (agree_set hi)⟩
theorem sr_set {t : TE} {m : MV} (p : PS X st (tAsg t (gName i))) (h : EV X.K t m) (hi : i ∉ Pr := by decide) : SR X Pr st (mSet i (mX m)) := ⟨fun s o em F H σ A D a k => wS p ((sv_set h hi).run s o em F H σ A D a k)⟩
theorem FzOk.drop {fz : Fz} (o : FzOk K F σ fz) (i : Nat) (v : V) : FzOk K F (σ.set i (some v)) (fset fz i none) := by
  refine ⟨by rw [fset_length, List.length_set]; exact o.1, fun j e h => ?_⟩
  by_cases q : j = i
  · subst q
    cases fget_set_same h
  · rw [fget_set_ne q] at h
    obtain ⟨u, h1, h2⟩ := o.2 j e h
    exact ⟨u, by rw [List.getElem?_set_ne (fun z => q z.symm)]; exact h1, h2⟩
theorem tset_eq : ∀ (τ : Tau) (i : Nat) (t : T), tset τ i t = tset (tset τ i .hole) i t
  | [], i, t => by
    show [(i, t)] = (if i = i then (i, t) :: [] else _)
    rw [if_pos rfl]
  | (j, u) :: r, i, t => by
    show (if j = i then (i, t) :: r else (j, u) :: tset r i t) = tset (if j = i then (i, T.hole) :: r else (j, u) :: tset r i .hole) i t
    by_cases q : j = i
    · rw [if_pos q, if_pos q]
      show _ = (if i = i then (i, t) :: r else _)
      rw [if_pos rfl]
    · rw [if_neg q, if_neg q]
      show _ = (if j = i then (i, t) :: tset r i .hole else (j, u) :: tset (tset r i .hole) i t)
      rw [if_neg q, tset_eq r i t]
/-- a slot overwritten by an owned thing; other entries of the slot must not be (the list holds each slot once) -/
def once : Tau → Bool
  | [] => true
  | (j, _) :: r => (tget r j).isNone && once r
theorem tget_none : ∀ {τ : Tau} {i : Nat}, tget τ i = none → ∀ p ∈ τ, p.1 ≠ i
  | (j, u) :: r, i, h, p, m => by
    have h' : (if j = i then some u else tget r i) = none := h
    by_cases q : j = i
    · rw [if_pos q] at h'
      cases h'
    · rw [if_neg q] at h'
      rcases List.mem_cons.mp m with e | m
      · rw [e]
        exact q
      · exact tget_none h' p m
theorem TauOk.setO : ∀ {τ : Tau} {A2 : List Addr} {i : Nat} {t : T} {v : V} {A1 : List Addr}, once τ = true → TauOk K F H σ τ A2 → i < σ.length → Own K F H v t A1 → (A1 ++ A2).Nodup →
    ∃ A', TauOk K F H (σ.set i (some v)) (tset τ i t) A' ∧ A'.Nodup ∧ ∀ a ∈ A', a ∈ A1 ++ A2
  | [], _, i, t, v, A1, _, .nil, hv, o, n => ⟨A1 ++ [], .cons (by rw [List.getElem?_set_self hv]) o .nil, n, fun a m => m⟩
  | (j, u) :: r, _, i, t, v, A1, w, .cons (A := A) (A' := A0) h o' tt, hv, o, n => by
    obtain ⟨n1, n2, n3⟩ := List.nodup_append.mp n
    obtain ⟨m1, m2, m3⟩ := List.nodup_append.mp n2
    have w' : ((tget r j).isNone && once r) = true := w
    rw [Bool.and_eq_true, Option.isNone_iff_eq_none] at w'
    by_cases q : j = i
    · refine ⟨A1 ++ A0, ?_, List.nodup_append.mpr ⟨n1, m2, fun a m b m' => n3 a m b (List.mem_append_right _ m')⟩, fun a m => ?_⟩
      · show TauOk K F H (σ.set i (some v)) (if j = i then (i, t) :: r else (j, u) :: tset r i t) (A1 ++ A0)
        rw [if_pos q]
        exact .cons (by rw [List.getElem?_set_self hv]) o (tt.move fun p m => by rw [List.getElem?_set_ne fun z => tget_none w'.1 p m (z.symm.trans q.symm)])
      · rcases List.mem_append.mp m with z | z
        · exact List.mem_append_left _ z
        · exact List.mem_append_right _ (List.mem_append_right _ z)
    · have nn : (A1 ++ A0).Nodup := List.nodup_append.mpr ⟨n1, m2, fun a m b m' => n3 a m b (List.mem_append_right _ m')⟩
      obtain ⟨A', t', n', s'⟩ := TauOk.setO w'.2 tt hv o nn
      refine ⟨A ++ A', ?_, List.nodup_append.mpr ⟨m1, n', fun a m b m' => ?_⟩, fun a m => ?_⟩
      · show TauOk K F H (σ.set i (some v)) (if j = i then (i, t) :: r else (j, u) :: tset r i t) (A ++ A')
        rw [if_neg q]
        exact .cons (by rw [List.getElem?_set_ne fun z => q z.symm]; exact h) o' t'
      · rcases List.mem_append.mp (s' b m') with z | z
        · exact fun e => n3 b z a (List.mem_append_left _ m) e.symm
        · exact m3 a m b z
      · rcases List.mem_append.mp m with z | z
        · exact List.mem_append_right _ (List.mem_append_left _ z)
        · rcases List.mem_append.mp (s' a z) with z | z
          · exact List.mem_append_left _ z
          · exact List.mem_append_right _ (List.mem_append_right _ z)
def mSetO (i : Nat) (m : MX) : MS := fun s => (m s).bind fun p => if once p.2.ow = true ∧ i < p.2.fz.length then some (.nx ⟨fset p.2.fz i none, tset p.2.ow i p.1⟩) else none
theorem sv_setO {t : TE} {m : MV} (h : EV K t m) (hi : i ∉ Pr) : SV K Pr (tAsg t (gName i)) (mSetO i (mX m)) := ⟨fun s o em F H σ A D a k => by
  obtain ⟨⟨x, s1⟩, e1, em⟩ := Option.bind_eq_some_iff.mp em
  by_cases q : once s1.ow = true ∧ i < s1.fz.length
  · rw [if_pos q] at em
    cases em
    refine (xv h).run s x s1 e1 F H σ A _ a fun F1 H1 v A1 A2 g1 c1 o1 f1 t1 => ?_
    obtain ⟨A3, t3, n3, s3⟩ := t1.setO q.1 (by rw [← f1.1]; exact q.2) o1 c1.nd
    exact k F1 H1 _ A3 (g1.trans (Go.less s3)) ⟨c1.sub n3 s3, f1.drop i v, t3⟩ (agree_set hi)
  · rw [if_neg q] at em
    cases em⟩
theorem sr_setO {t : TE} {m : MV} (p : PS X st (tAsg t (gName i))) (h : EV X.K t m) (hi : i ∉ Pr := by decide) : SR X Pr st (mSetO i (mX m)) := ⟨fun s o em F H σ A D a k => wS p ((sv_setO h hi).run s o em F H σ A D a k)⟩
/-- target = e -/
def mAsg (ws : List Nat) (mt : MG) (m : MX) : MS := fun s => (m s).bind fun p => p.1.fz.bind fun d => (mt d p.2.fz).map fun fz => .nx ⟨fz, tout ws p.2.ow⟩
theorem TauOk.offs {τ : Tau} {A : List Addr} {σ' : L2.St} (t : TauOk K F H σ τ A) (n : A.Nodup) (ws : List Nat) (h : ∀ j, j ∉ ws → σ'[j]? = σ[j]?) : ∃ A', TauOk K F H σ' (tout ws τ) A' ∧ A'.Nodup ∧ ∀ a ∈ A', a ∈ A := by
  obtain ⟨A', t', n', s'⟩ := t.out ws n
  exact ⟨A', t'.move fun p m => h p.1 (tout_sub m).2, n', s'⟩
theorem sr_asg {ws : List Nat} {tg : Expr} {m : MV} {mt : MG} (p : PS X st (tAsg (wpE X e) (wpG X tg))) (h : ER X e m) (hg : GR X tg ws mt) (hi : ∀ j ∈ ws, j ∉ Pr := by decide) : SR X Pr st (mAsg ws mt (mX m)) := ⟨fun s o em F H σ A D a k => by
  obtain ⟨⟨x, s1⟩, e1, em⟩ := Option.bind_eq_some_iff.mp em
  obtain ⟨d, e2, em⟩ := Option.bind_eq_some_iff.mp em
  obtain ⟨fz, e3, em⟩ := Option.map_eq_some_iff.mp em
  cases em
  refine wS p ((xv h).run s x s1 e1 F H σ A _ a fun F1 H1 v A1 A2 g1 c1 o1 f1 t1 => ?_)
  obtain ⟨g2, c2, s2, h2⟩ := c1.freeze
  refine hg.run d _ fz e3 _ H1 σ v _ (Own.rep s2 o1 h2 e2) c2.fh (f1.mono s2) fun σ' f' l' k' => ?_
  obtain ⟨A3, t3, n3, s3⟩ := (t1.stay s2 fun _ _ _ q => q).offs c2.nd ws k'
  exact k _ H1 _ A3 ((g1.trans g2).trans (Go.less s3)) ⟨c2.sub n3 s3, f', t3⟩ fun j m => k' j fun z => hi j z m⟩
/-- x, y = e, e' -/
def mPar (i j : Nat) (l : ML) : MS := fun s => (l ⟨s.fz, []⟩ s.ow).bind fun p => (stL p.1).bind fun ds => match ds with
  | [d, e] => some (.nx ⟨fset (fset s.fz i (some d)) j (some e), tdel (tdel p.2 i) j⟩)
  | _ => none
theorem sr_par {a b : Expr} {j : Nat} {l : ML} (p : PS X st (tPar i j (wpA X [a, b]))) (h : AR X [a, b] l) (hi : i ∉ Pr := by decide) (hj : j ∉ Pr := by decide) : SR X Pr st (mPar i j l) := ⟨fun s o em F H σ A D at_ k => by
  obtain ⟨⟨rs, τ1⟩, e1, em⟩ := Option.bind_eq_some_iff.mp em
  obtain ⟨ds, e2, em⟩ := Option.bind_eq_some_iff.mp em
  refine wS p (h.run _ _ rs τ1 e1 F noH H σ A _ at_.at_ fun F1 H1 vs A1 A2 g1 c1 o1 t1 => ?_)
  obtain ⟨F2, g2, c2, s2, rl⟩ := o1.freeze c1 e2
  have t2 := t1.stay s2 fun _ _ _ q => q
  have f2 := (at_.fz.mono g1.ff).mono s2
  match ds, em with
  | [d, e], em =>
    cases em
    cases rl with
    | cons r1 r2 =>
      cases r2 with
      | cons r2 r3 =>
        cases r3
        obtain ⟨A3, t3, n3, s3⟩ := t2.setD c2.nd i _
        obtain ⟨A4, t4, n4, s4⟩ := t3.setD n3 j _
        refine ⟨_, _, rfl, k F2 H1 _ A4 ((g1.trans g2).trans (Go.less fun a m => s3 a (s4 a m))) ⟨c2.sub n4 fun a m => s3 a (s4 a m), (f2.set r1 i).set r2 j, t4⟩ fun q m => ?_⟩
        rw [agree_set hj q m, agree_set hi q m]⟩
/-- x op= e -/
def mAug (i : Nat) (g : List R → Option R) (m : MV) : MS := fun s => (fget s.fz i).bind fun d => (m ⟨s.fz, []⟩ s.ow).bind fun p => (g [rd d, p.1]).bind fun r => r.st.map fun z => .nx ⟨fset s.fz i (some z), tdel p.2 i⟩
/-- a slot's thing frozen, by the proof alone -/
def mFrz (i : Nat) : SS → Option SS := fun s => (tget s.ow i).bind fun t => t.fz.map fun d => ⟨fset s.fz i (some d), tdel s.ow i⟩
def mPre (f : SS → Option SS) (m : MS) : MS := fun s => (f s).bind m
theorem sr_frz {m : MS} (h : SR X Pr st m) (i : Nat) : SR X Pr st (mPre (mFrz i) m) := ⟨fun s o em F H σ A D a k => by
  obtain ⟨s1, e1, em⟩ := Option.bind_eq_some_iff.mp em
  obtain ⟨t, e2, e3⟩ := Option.bind_eq_some_iff.mp e1
  obtain ⟨d, e4, e5⟩ := Option.map_eq_some_iff.mp e3
  subst e5
  obtain ⟨v, A1, A2, hv, ov, t', n, sb⟩ := a.ow.take a.cn.nd e2
  have c := a.cn.sub n sb
  obtain ⟨g2, c2, s2, h2⟩ := c.freeze
  have same : σ.set i (some v) = σ := by
    refine List.ext_getElem? fun j => ?_
    by_cases q : j = i
    · subst q
      obtain ⟨hl, _⟩ := List.getElem?_eq_some_iff.mp hv
      rw [List.getElem?_set_self hl, hv]
    · rw [List.getElem?_set_ne fun z => q z.symm]
  have rv := Own.rep s2 ov h2 e4
  obtain ⟨A3, t3, n3, s3⟩ := (t'.stay s2 fun _ _ _ q => q).del i c2.nd
  have td : ∀ (τ : Tau), tdel (tset τ i .hole) i = tdel τ i := fun τ => by
    induction τ with
    | nil =>
      show (if i = i then ([] : Tau) else _) = []
      rw [if_pos rfl]
    | cons p r ih =>
      obtain ⟨j, u⟩ := p
      show tdel (if j = i then (i, T.hole) :: r else (j, u) :: tset r i .hole) i = (if j = i then tdel r i else (j, u) :: tdel r i)
      by_cases q : j = i
      · rw [if_pos q, if_pos q]
        show (if i = i then tdel r i else _) = tdel r i
        rw [if_pos rfl]
      · rw [if_neg q, if_neg q]
        show (if j = i then tdel (tset r i .hole) i else (j, u) :: tdel (tset r i .hole) i) = _
        rw [if_neg q, ih]
  rw [td] at t3
  have f2 := (a.fz.mono s2).set rv i
  rw [same] at f2
  exact h.run _ o em _ H σ A3 D ⟨c2.sub n3 s3, f2, t3⟩ (k.behind (((Go.less sb).trans g2).trans (Go.less s3)) Agree.refl)⟩

def forL (ws : List Nat) (mt : MG) (body : MS) : List D → SS → Option Out
  | [], s => some (.nx s)
  | d :: ds, s => (mt d s.fz).bind fun fz => (body ⟨fz, tout ws s.ow⟩).bind fun o => match o with
    | .nx s1 => forL ws mt body ds s1
    | .ct s1 => forL ws mt body ds s1
    | .bk s1 => some (.nx s1)
    | .rt t s1 => some (.rt t s1)
def mFor (ws : List Nat) (mi : MXI) (mt : MG) (body : MS) : MS := fun s => (mi s).bind fun p => forL ws mt body p.1 p.2
theorem sr_for {ws : List Nat} {tg iter : Expr} {body : List Stmt} {mi : MI} {mt : MG} {mb : MS} (hp : PassesOwn (model X.prog X.w) X.A X.env X.xe) (hc : X.calm = true) (hi : IR X tg iter mi) (hg : GR X tg ws mt) (hb : SRs X Pr body mb)
    (hw : ∀ j ∈ ws, j ∉ Pr := by decide) (hs : ∀ x, foldedSetIterable iter X.env x = pure x := by intro _; rfl) : SR X Pr (.For tg iter body [] pos) (mFor ws (mXI mi) mt mb) := ⟨fun s o em F H σ A D a k => by
  obtain ⟨⟨ds, s1⟩, e1, em⟩ := Option.bind_eq_some_iff.mp em
  refine wS (ps_for hp hc piW pgW pssW hs) ((xi hi).run s ds s1 e1 F H σ A _ a fun F1 H1 A1 J g1 a1 src => ?_)
  have k1 := k.behind g1 (Agree.refl (σ := σ))
  refine ⟨fun i m σi Hi => m = ds.length - i ∧ i ≤ ds.length ∧ ∃ (Fi : Hp) (si : SS) (Ai : List Addr), forL ws mt mb (ds.drop i) si = some o ∧ Go F1 H1 A1 Fi Hi Ai ∧ SAt X.K Fi Hi σi si Ai ∧ Agree Pr σ σi,
    ⟨ds.length, by omega, Nat.zero_le _, F1, s1, A1, em, Go.refl, a1, Agree.refl⟩, ?_⟩
  rintro i m σi Hi ⟨rfl, hi', Fi, si, Ai, el, gi, ai, ag⟩
  have ki := k1.behind gi ag
  by_cases hlt : i < ds.length
  · refine .inr ?_
    have ei : ds[i]? = some ds[i] := List.getElem?_eq_getElem hlt
    refine ⟨src.go Fi Hi gi.ff ai.cn.fh same_noH i _ ei, fun σ' H' => ∃ (Fi : Hp) (si : SS) (Ai : List Addr), forL ws mt mb (ds.drop (i + 1)) si = some o ∧ Go F1 H1 A1 Fi H' Ai ∧ SAt X.K Fi H' σ' si Ai ∧ Agree Pr σ σ',
      fun σ' H' q => ⟨ds.length - (i + 1), by omega, rfl, hlt, q⟩, fun x H2 y => ?_⟩
    obtain ⟨F2, w1, rx⟩ := src.yld Fi Hi gi.ff ai.cn.fh same_noH i _ ei x H2 y
    obtain ⟨g2, c2⟩ := w1 noH Ai ai.cn
    have stand : ∀ (b : Addr) (u : HO), Hi b = some u → H2 b = some u := fun b u q => (w1 noH [] ⟨ai.cn.fh, same_noH, .nil, (fun _ z => nomatch z), (fun _ z => nomatch z), (fun _ z => nomatch z)⟩).1.keep b u (fun z => nomatch z) q
    have t2 := ai.ow.stay g2.ff fun b _ u q => stand b u q
    rw [List.drop_eq_getElem_cons hlt] at el
    obtain ⟨fz, f1, el⟩ := Option.bind_eq_some_iff.mp el
    obtain ⟨ob, f2, el⟩ := Option.bind_eq_some_iff.mp el
    refine hg.run _ _ fz f1 F2 H2 σi x _ rx c2.fh (ai.fz.mono g2.ff) fun σ2 o2 l2 k2 => ?_
    obtain ⟨A3, t3, n3, s3⟩ := t2.offs c2.nd ws k2
    have ag2 : Agree Pr σi σ2 := fun j m => k2 j fun z => hw j z m
    have g3 : Go Fi Hi Ai F2 H2 A3 := g2.trans (Go.less s3)
    refine hb.run _ ob f2 F2 H2 σ2 A3 _ ⟨c2.sub n3 s3, o2, t3⟩ ?_
    have k2' := ki.behind g3 ag2
    cases ob with
    | nx s4 => exact fun F' H' σ' A' g' a' e' => ⟨F', s4, A', el, (gi.trans g3).trans g', a', fun j m => ((e' j m).trans (ag2 j m)).trans (ag j m)⟩
    | ct s4 => exact fun F' H' σ' A' g' a' e' => ⟨F', s4, A', el, (gi.trans g3).trans g', a', fun j m => ((e' j m).trans (ag2 j m)).trans (ag j m)⟩
    | bk s4 =>
      cases el
      exact fun F' H' σ' A' g' a' e' => k2' F' H' σ' A' g' a' e'
    | rt t s4 =>
      cases el
      exact fun F' H' σ' v A1 A2 g' c o f t e' => k2' F' H' σ' v A1 A2 g' c o f t e'
  · have e : i = ds.length := by omega
    subst e
    rw [List.drop_length] at el
    cases el
    exact .inl ⟨src.stop Fi Hi gi.ff ai.cn.fh same_noH _ (Nat.le_refl _), ki Fi Hi σi Ai Go.refl ai Agree.refl⟩⟩
/-- while, so many turns at most -/
def whL (mc : MXB) (body : MS) : Nat → SS → Option Out
  | 0, _ => none
  | n + 1, s => (mc s).bind fun p => if p.1 = true then (body p.2).bind fun o => match o with
      | .nx s1 => whL mc body n s1
      | .ct s1 => whL mc body n s1
      | .bk s1 => some (.nx s1)
      | .rt t s1 => some (.rt t s1)
    else some (.nx p.2)
def mWhile (n : Nat) (mc : MXB) (body : MS) : MS := fun s => whL mc body n s
theorem sr_while {c : Expr} {body : List Stmt} {mc : MB} {mb : MS} (n : Nat) (hp : PassesOwn (model X.prog X.w) X.A X.env X.xe) (hc : TR X c mc) (hb : SRs X Pr body mb) : SR X Pr (.While c body [] pos) (mWhile n (mXB mc) mb) := ⟨fun s o em F H σ A D a k => by
  refine wS (ps_while hp ptW pssW) ?_
  refine ⟨fun m σi Hi => ∃ (Fi : Hp) (si : SS) (Ai : List Addr), whL (mXB mc) mb m si = some o ∧ Go F H A Fi Hi Ai ∧ SAt X.K Fi Hi σi si Ai ∧ Agree Pr σ σi, ⟨n, F, s, A, em, Go.refl, a, Agree.refl⟩, ?_⟩
  rintro m σi Hi ⟨Fi, si, Ai, el, gi, ai, ag⟩
  have ki := k.behind gi ag
  cases m with
  | zero => cases el
  | succ m =>
    obtain ⟨⟨b, s1⟩, e1, el⟩ := Option.bind_eq_some_iff.mp el
    refine (xb hc).run si b s1 e1 Fi Hi σi Ai _ ai fun F1 H1 A1 g1 a1 => ?_
    cases b with
    | false =>
      rw [if_neg Bool.false_ne_true] at el ⊢
      cases el
      exact ki F1 H1 σi A1 g1 a1 Agree.refl
    | true =>
      rw [if_pos rfl] at el ⊢
      obtain ⟨ob, f2, el⟩ := Option.bind_eq_some_iff.mp el
      refine ⟨fun σ' H' => ∃ (Fi : Hp) (si : SS) (Ai : List Addr), whL (mXB mc) mb m si = some o ∧ Go F H A Fi H' Ai ∧ SAt X.K Fi H' σ' si Ai ∧ Agree Pr σ σ', fun σ' H' q => ⟨m, Nat.lt_succ_self m, q⟩, ?_⟩
      refine hb.run _ ob f2 F1 H1 σi A1 _ a1 ?_
      have k2' := ki.behind g1 (Agree.refl (σ := σi))
      cases ob with
      | nx s4 => exact fun F' H' σ' A' g' a' e' => ⟨F', s4, A', el, (gi.trans g1).trans g', a', fun j m => (e' j m).trans (ag j m)⟩
      | ct s4 => exact fun F' H' σ' A' g' a' e' => ⟨F', s4, A', el, (gi.trans g1).trans g', a', fun j m => (e' j m).trans (ag j m)⟩
      | bk s4 =>
        cases el
        exact fun F' H' σ' A' g' a' e' => k2' F' H' σ' A' g' a' e'
      | rt t s4 =>
        cases el
        exact fun F' H' σ' v A1 A2 g' c o f t e' => k2' F' H' σ' v A1 A2 g' c o f t e'⟩
end
end Tl

namespace Tl
open PySem PySem.Spec PyProof.Rows L2

/-- a def's mirror: its arguments, the result and the arguments as they are behind -/
abbrev MF := List T → Option (T × List T)
def spM (K : PySem.W.Frag) (n : Nat) (m : MF) : Sp := fun vs H Q _ => vs.length = n ∧ ∃ (F : Hp) (A : List Addr) (ts : List T) (r : T) (ts' : List T), Cn F noH H A ∧ OwnL K F H vs ts A ∧ m ts = some (r, ts') ∧
  ∀ (F' H' : Hp) (v : V) (A1 A2 : List Addr), Go F H A F' H' (A1 ++ A2) → Cn F' noH H' (A1 ++ A2) → Own K F' H' v r A1 → OwnL K F' H' vs ts' A2 → Q v H'
def inFz : List Bool → List T → Option Fz
  | [], [] => some []
  | true :: ks, _ :: ts => (inFz ks ts).map (none :: ·)
  | false :: ks, .leaf d :: ts => (inFz ks ts).map (some d :: ·)
  | _, _ => none
def inTau : Nat → List Bool → List T → Tau
  | i, true :: ks, t :: ts => (i, t) :: inTau (i + 1) ks ts
  | i, false :: ks, _ :: ts => inTau (i + 1) ks ts
  | _, _, _ => []
def outT : Nat → List Bool → List T → Tau → Option (List T)
  | _, [], [], _ => some []
  | i, true :: ks, _ :: ts, τ => (tget τ i).bind fun t => (outT (i + 1) ks ts (tset τ i .hole)).map (t :: ·)
  | i, false :: ks, t :: ts, τ => (outT (i + 1) ks ts τ).map (t :: ·)
  | _, _, _, _ => none
def outP : Nat → List Bool → List Nat
  | _, [] => []
  | i, true :: ks => i :: outP (i + 1) ks
  | i, false :: ks => outP (i + 1) ks
def mFn (ks : List Bool) (n : Nat) (body : MS) : MF := fun ts => (inFz ks ts).bind fun fz => (body ⟨fz ++ List.replicate (n - ks.length) none, inTau 0 ks ts⟩).bind fun o => match o with
  | .rt t s => (outT 0 ks ts s.ow).map fun ts' => (t, ts')
  | .nx s => (outT 0 ks ts s.ow).map fun ts' => (.leaf .none, ts')
  | _ => none
section
variable {K : PySem.W.Frag} {F F' H H' : Hp} {σ : L2.St}
theorem inFz_ok : ∀ {ks : List Bool} {vs : List V} {ts : List T} {A : List Addr} {fz : Fz}, OwnL K F H vs ts A → inFz ks ts = some fz → fz.length = vs.length ∧ ks.length = vs.length ∧ ∀ i d, fget fz i = some d → ∃ v, vs[i]? = some v ∧ Rep K F v d
  | [], _, _, _, _, .nil, e => by
    cases e
    exact ⟨rfl, rfl, fun i d h => nomatch h⟩
  | [], _, _, _, _, .cons _ _, e => nomatch e
  | true :: _, _, _, _, _, .nil, e => nomatch e
  | false :: _, _, _, _, _, .nil, e => nomatch e
  | true :: ks, _, t :: ts, _, _, .cons o tt, e => by
    have e' : (inFz ks ts).map (none :: ·) = some _ := e
    obtain ⟨f, e1, e2⟩ := Option.map_eq_some_iff.mp e'
    subst e2
    obtain ⟨h1, h2, h3⟩ := inFz_ok tt e1
    refine ⟨congrArg (· + 1) h1, congrArg (· + 1) h2, fun i d h => ?_⟩
    cases i with
    | zero => cases h
    | succ i => exact h3 i d h
  | false :: ks, _, t :: ts, _, _, .cons o tt, e => by
    cases t with
    | leaf d0 =>
      have e' : (inFz ks ts).map (some d0 :: ·) = some _ := e
      obtain ⟨f, e1, e2⟩ := Option.map_eq_some_iff.mp e'
      subst e2
      obtain ⟨h1, h2, h3⟩ := inFz_ok tt e1
      refine ⟨congrArg (· + 1) h1, congrArg (· + 1) h2, fun i d h => ?_⟩
      cases i with
      | zero =>
        cases h
        cases o with
        | leaf r => exact ⟨_, rfl, r⟩
      | succ i => exact h3 i d h
    | _ => cases e
theorem inTau_ok : ∀ {ks : List Bool} {vs : List V} {ts : List T} {A : List Addr} {fz : Fz} (j : Nat), OwnL K F H vs ts A → inFz ks ts = some fz → (∀ i v, vs[i]? = some v → σ[j + i]? = some (some v)) → TauOk K F H σ (inTau j ks ts) A
  | [], _, _, _, _, j, .nil, e, h => .nil
  | [], _, _, _, _, j, .cons _ _, e, h => nomatch e
  | true :: _, _, _, _, _, j, .nil, e, h => nomatch e
  | false :: _, _, _, _, _, j, .nil, e, h => nomatch e
  | true :: ks, v :: vs, t :: ts, _, _, j, .cons o tt, e, h => by
    have e' : (inFz ks ts).map (none :: ·) = some _ := e
    obtain ⟨f, e1, e2⟩ := Option.map_eq_some_iff.mp e'
    exact .cons (h 0 v rfl) o (inTau_ok (j + 1) tt e1 fun i w q => by
      rw [show j + 1 + i = j + (i + 1) by omega]
      exact h (i + 1) w q)
  | false :: ks, v :: vs, t :: ts, _, _, j, .cons o tt, e, h => by
    cases t with
    | leaf d0 =>
      have e' : (inFz ks ts).map (some d0 :: ·) = some _ := e
      obtain ⟨f, e1, e2⟩ := Option.map_eq_some_iff.mp e'
      cases o with
      | leaf r =>
        exact inTau_ok (j + 1) tt e1 fun i w q => by
          rw [show j + 1 + i = j + (i + 1) by omega]
          exact h (i + 1) w q
    | _ => cases e
theorem outT_ok : ∀ {ks : List Bool} {vs : List V} {ts ts' : List T} {A A0 : List Addr} {F0 H0 : Hp} {fz : Fz} {τ : Tau} (j : Nat), OwnL K F0 H0 vs ts A0 → Same F0 F → inFz ks ts = some fz → TauOk K F H σ τ A → A.Nodup →
    (∀ i v, vs[i]? = some v → j + i ∈ outP j ks → σ[j + i]? = some (some v)) → outT j ks ts τ = some ts' → ∃ A', OwnL K F H vs ts' A' ∧ A'.Nodup ∧ ∀ a ∈ A', a ∈ A
  | [], _, _, _, _, _, _, _, _, _, j, .nil, s, e, t, n, h, w => by
    cases w
    exact ⟨[], .nil, .nil, fun _ m => nomatch m⟩
  | [], _, _, _, _, _, _, _, _, _, j, .cons _ _, s, e, t, n, h, w => nomatch e
  | true :: _, _, _, _, _, _, _, _, _, _, j, .nil, s, e, t, n, h, w => nomatch e
  | false :: _, _, _, _, _, _, _, _, _, _, j, .nil, s, e, t, n, h, w => nomatch e
  | true :: ks, v :: vs, t0 :: ts, _, _, _, _, _, _, τ, j, .cons o tt, s, e, t, n, h, w => by
    have e' : (inFz ks ts).map (none :: ·) = some _ := e
    obtain ⟨f, e1, e2⟩ := Option.map_eq_some_iff.mp e'
    have w' : (tget τ j).bind (fun t => (outT (j + 1) ks ts (tset τ j .hole)).map (t :: ·)) = some _ := w
    obtain ⟨t1, e3, w'⟩ := Option.bind_eq_some_iff.mp w'
    obtain ⟨ts1, e4, e5⟩ := Option.map_eq_some_iff.mp w'
    subst e5
    obtain ⟨u, A1, A2, hu, ou, t2, n2, s2⟩ := t.take n e3
    have hv : σ[j]? = some (some v) := h 0 v rfl (by show j ∈ j :: outP (j + 1) ks; exact List.mem_cons_self)
    rw [hu] at hv
    cases hv
    obtain ⟨A3, o3, n3, s3⟩ := outT_ok (j + 1) tt s e1 t2 (List.nodup_append.mp n2).2.1 (fun i x q m => by
      have := h (i + 1) x q (by
        show j + (i + 1) ∈ j :: outP (j + 1) ks
        rw [show j + (i + 1) = j + 1 + i by omega]
        exact List.mem_cons_of_mem _ m)
      rw [show j + 1 + i = j + (i + 1) by omega]
      exact this) e4
    refine ⟨A1 ++ A3, .cons ou o3, List.nodup_append.mpr ⟨(List.nodup_append.mp n2).1, n3, fun a m b m' => (List.nodup_append.mp n2).2.2 a m b (s3 b m')⟩, fun a m => ?_⟩
    rcases List.mem_append.mp m with z | z
    · exact s2 a (List.mem_append_left _ z)
    · exact s2 a (List.mem_append_right _ (s3 a z))
  | false :: ks, v :: vs, t0 :: ts, _, _, _, _, _, _, τ, j, .cons o tt, s, e, t, n, h, w => by
    cases t0 with
    | leaf d0 =>
      have e' : (inFz ks ts).map (some d0 :: ·) = some _ := e
      obtain ⟨f, e1, e2⟩ := Option.map_eq_some_iff.mp e'
      have w' : (outT (j + 1) ks ts τ).map (T.leaf d0 :: ·) = some _ := w
      obtain ⟨ts1, e4, e5⟩ := Option.map_eq_some_iff.mp w'
      subst e5
      obtain ⟨A3, o3, n3, s3⟩ := outT_ok (j + 1) tt s e1 t n (fun i x q m => by
        have := h (i + 1) x q (by
          show j + (i + 1) ∈ outP (j + 1) ks
          rw [show j + (i + 1) = j + 1 + i by omega]
          exact m)
        rw [show j + 1 + i = j + (i + 1) by omega]
        exact this) e4
      cases o with
      | leaf r => exact ⟨[] ++ A3, .cons (.leaf (r.mono s)) o3, n3, s3⟩
    | _ => cases e
end
/-- a def that is called by its name -/
structure Fm (P : Program) (w : World) (K : PySem.W.Frag) (mg : Str → Option Value) (base : Heap) (k : Nat) (x : Str) (n : Nat) (m : MF) : Prop where
  ex : ∃ (f : Addr) (fd : FuncData) (ps : List Str), FnG P w K mg base CX0 k f fd ps (spM K n m) ∧ mg x = some (.ref f) ∧ PySem.W.keepIn K (.ref f) = true ∧ Binds K fd ps []
theorem fget_rep : ∀ {k i : Nat} {d : D}, fget (List.replicate k none) i = some d → False
  | 0, i, d, h => nomatch h
  | k + 1, 0, d, h => nomatch (show (none : Option D) = some d from h)
  | k + 1, i + 1, d, h => fget_rep (k := k) (i := i) h
theorem fgetA : ∀ {f : Fz} {k i : Nat} {d : D}, fget (f ++ List.replicate k none) i = some d → fget f i = some d
  | [], k, i, d, h => (fget_rep (k := k) (i := i) h).elim
  | x :: r, k, 0, d, h => h
  | x :: r, k, i + 1, d, h => fgetA (f := r) (k := k) (i := i) h
section
variable {P : Program} {w : World} {K : PySem.W.Frag} {mg : Str → Option Value} {base : Heap}
theorem wpB_nox {X : Cx} {sts : List Stmt} {D : Ends} {σ : L2.St} {H : Hp} (h : wpB X.nox sts D σ H) : wpB X sts D σ H := wB (PSs.nox pssW) h
theorem fm_of {x : Str} {st : Stmt} {f : Addr} {fd : FuncData} {N ps : List Str} {k : Nat} (F : Fun K x x st f fd) (S : FnScope N ps (defScope st)) (hb : Binds K fd ps []) (hm : mg x = some (.ref f)) (ks : List Bool) (hk : ks.length = ps.length)
    {mb : MS} (body : ∀ (cdv : Value) (Ar : Around) (up : List Env) (s : Shared) (H : Hp) (E : XK), RmG k (Ar.deeper (envOfC x (defScope st) s.heap.objs.size f cdv)) →
      SRs (cxOf CX0 P w K mg base N x (defScope st) f cdv Ar up s H E).nox (outP 0 ks) (defBody st) mb) : Fm P w K mg base (k + 1) x ps.length (mFn ks N.length mb) := by
  refine ⟨f, fd, ps, defG F S (fun vs H Q E h => h.1) fun cdv Ar up s H vs Q E hr h => ?_, hm, F.kp, hb⟩
  obtain ⟨hl, Fz0, A, ts, r, ts', c, o, em, kk⟩ := h
  obtain ⟨fz, e1, em⟩ := Option.bind_eq_some_iff.mp em
  obtain ⟨out, e2, em⟩ := Option.bind_eq_some_iff.mp em
  obtain ⟨l1, l2, l3⟩ := inFz_ok o e1
  have hN : ps.length ≤ N.length := by
    have := congrArg List.length S.pre
    rw [List.length_take] at this
    omega
  have slen : (L2.start N vs).length = N.length := by
    unfold L2.start
    rw [List.length_append, List.length_map, List.length_replicate]
    omega
  have sat : ∀ i v, vs[i]? = some v → (L2.start N vs)[i]? = some (some v) := fun i v q => by
    have hi : i < vs.length := (List.getElem?_eq_some_iff.mp q).1
    unfold L2.start
    rw [List.getElem?_append_left (by rw [List.length_map]; exact hi), List.getElem?_map, q]
    rfl
  have fok : FzOk K Fz0 (L2.start N vs) (fz ++ List.replicate (N.length - ks.length) none) := by
    refine ⟨by rw [List.length_append, List.length_replicate, slen]; omega, fun i d q => ?_⟩
    obtain ⟨v, q1, q2⟩ := l3 i d (fgetA q)
    exact ⟨v, sat i v q1, q2⟩
  have tok : TauOk K Fz0 H (L2.start N vs) (inTau 0 ks ts) A := inTau_ok 0 o e1 fun i v q => by
    rw [Nat.zero_add]
    exact sat i v q
  have back : ∀ {F' H' : Hp} {σ' : L2.St} {τ : Tau} {A1 A2 : List Addr} {v : V} {r0 : T}, Go Fz0 H A F' H' (A1 ++ A2) → Cn F' noH H' (A1 ++ A2) → Own K F' H' v r0 A1 → TauOk K F' H' σ' τ A2 → Agree (outP 0 ks) (L2.start N vs) σ' →
      r = r0 → outT 0 ks ts τ = some ts' → Q v H' := fun {F' H' σ' τ A1 A2 v r0} g c' ov t ag er eo => by
    subst er
    obtain ⟨A3, o3, n3, s3⟩ := outT_ok 0 o g.ff e1 t c'.right.nd (fun i u q m => by
      rw [Nat.zero_add] at m ⊢
      rw [ag i m]
      exact sat i u q) eo
    have sub : ∀ a ∈ A1 ++ A3, a ∈ A1 ++ A2 := fun a m => (List.mem_append.mp m).elim (fun z => List.mem_append_left _ z) fun z => List.mem_append_right _ (s3 a z)
    have nd : (A1 ++ A3).Nodup := List.nodup_append.mpr ⟨c'.left.nd, n3, fun a m b m' e => c'.apart a m (e ▸ s3 b m')⟩
    exact kk F' H' v A1 A3 (g.trans (Go.less sub)) (c'.sub nd sub) ov o3
  refine wpB_nox ((body cdv Ar up s H E hr).run _ out e2 Fz0 H (L2.start N vs) A _ ⟨c, fok, tok⟩ ?_)
  cases out with
  | nx s1 =>
    obtain ⟨t1, e3, e4⟩ := Option.map_eq_some_iff.mp em
    cases e4
    exact fun F' H' σ' A' g a' ag => back (A1 := []) (A2 := A') g a'.cn (.leaf .non) a'.ow ag rfl e3
  | rt t s1 =>
    obtain ⟨t1, e3, e4⟩ := Option.map_eq_some_iff.mp em
    cases e4
    exact fun F' H' σ' v A1 A2 g c' ov f' t' ag => back g c' ov t' ag rfl e3
  | bk s1 => cases em
  | ct s1 => cases em
end

inductive CArg where
  | d (d : D)
  | io (j : Nat)
  | ow (t : T)
abbrev MCA := Ro → Tau → Option (List CArg × Tau)
section
variable (K : PySem.W.Frag)
/-- G: where what is handed frozen lies -/
inductive CsOk (G F H : Hp) (σ : L2.St) : List CArg → List V → List Addr → Prop
  | nil : CsOk G F H σ [] [] []
  | d {v : V} {d : D} {cs : List CArg} {vs : List V} {A : List Addr} : Rep K G v d → CsOk G F H σ cs vs A → CsOk G F H σ (.d d :: cs) (v :: vs) A
  | io {v : V} {j : Nat} {cs : List CArg} {vs : List V} {A : List Addr} : σ[j]? = some (some v) → CsOk G F H σ cs vs A → CsOk G F H σ (.io j :: cs) (v :: vs) A
  | ow {v : V} {t : T} {cs : List CArg} {vs : List V} {A A' : List Addr} : Own K F H v t A' → CsOk G F H σ cs vs A → CsOk G F H σ (.ow t :: cs) (v :: vs) (A' ++ A)
structure CAV (bor : Bool) (wp : L2.St → Hp → (List V → Hp → Prop) → Prop) (n : Nat) (m : MCA) : Prop where
  len : ∀ (ro : Ro) (τ : Tau) (r : List CArg) (τ' : Tau), m ro τ = some (r, τ') → r.length = n
  run : ∀ (ro : Ro) (τ : Tau) (r : List CArg) (τ' : Tau), m ro τ = some (r, τ') → ∀ (F B H : Hp) (σ : L2.St) (A : List Addr) (Q : List V → Hp → Prop), At K F B H σ ro τ A →
    (∀ (F' H' : Hp) (v : List V) (A1 A2 : List Addr), Go F H A F' H' (A1 ++ A2) → Cn F' B H' (A1 ++ A2) → CsOk K (if bor = true then H' else F') F' H' σ r v A1 → TauOk K F' H' σ τ' A2 → Q v H') → wp σ H Q
end
theorem CsOk.stay {K : PySem.W.Frag} {G G' F F' H H' : Hp} {σ : L2.St} (g : Same G G') (s : Same F F') : ∀ {cs : List CArg} {vs : List V} {A : List Addr}, CsOk K G F H σ cs vs A → (∀ a ∈ A, ∀ o, H a = some o → H' a = some o) → CsOk K G' F' H' σ cs vs A
  | _, _, _, .nil, _ => .nil
  | _, _, _, .d r t, k => .d (r.mono g) (CsOk.stay g s t k)
  | _, _, _, .io r t, k => .io r (CsOk.stay g s t k)
  | _, _, _, .ow o t, k => .ow (o.stay s fun a m => k a (List.mem_append_left _ m)) (CsOk.stay g s t fun a m => k a (List.mem_append_right _ m))
theorem CsOk.length {K : PySem.W.Frag} {G F H : Hp} {σ : L2.St} : ∀ {cs : List CArg} {vs : List V} {A : List Addr}, CsOk K G F H σ cs vs A → vs.length = cs.length
  | _, _, _, .nil => rfl
  | _, _, _, .d r t => congrArg (· + 1) (CsOk.length t)
  | _, _, _, .io r t => congrArg (· + 1) (CsOk.length t)
  | _, _, _, .ow r t => congrArg (· + 1) (CsOk.length t)
abbrev CA (X : Cx) (bor : Bool) (es : List Expr) (m : MCA) : Prop := CAV X.K bor (wpA X es) es.length m
section
variable {X : Cx} {e : Expr} {es : List Expr} {bor : Bool}
def cNil : MCA := fun _ τ => some ([], τ)
def cCons (m : MV) (l : MCA) : MCA := fun ro τ => (m ro τ).bind fun p => p.1.st.bind fun d => (l ro p.2).map fun q => (.d d :: q.1, q.2)
/-- .. seen through a glass -/
def cSee (m : MV) (l : MCA) : MCA := fun ro τ => (m ro τ).bind fun p => p.1.er.bind fun d => (l ro p.2).map fun q => (.d d :: q.1, q.2)
def cIo (j : Nat) (l : MCA) : MCA := fun ro τ => (tget τ j).bind fun _ => (l ro τ).map fun q => (.io j :: q.1, q.2)
/-- a new thing, handed over -/
def cOw (m : MV) (l : MCA) : MCA := fun ro τ => (m ro τ).bind fun p => match p.1 with
  | .val t => (l ro p.2).map fun q => (.ow t :: q.1, q.2)
  | .vw _ => none
theorem ca_nil : CA X bor [] cNil := ⟨fun ro τ r τ' em => by cases em; rfl, fun ro τ r τ' em F B H σ A Q a k => by
  cases em
  exact wA pa_nil (k F H [] [] A Go.refl a.cn .nil a.tau)⟩
theorem ca_cons {m : MV} {l : MCA} (h : ER X e m) (t : CA X bor es l) (hs : starEach (e :: es) X.env = (false, eval e X.env) :: starEach es X.env := by rfl) : CA X bor (e :: es) (cCons m l) := by
  refine ⟨fun ro τ r τ' em => ?_, fun ro τ r τ' em F B H σ A Q a k => ?_⟩
  · obtain ⟨⟨z, τ1⟩, e1, em⟩ := Option.bind_eq_some_iff.mp em
    obtain ⟨d, e2, em⟩ := Option.bind_eq_some_iff.mp em
    obtain ⟨⟨cs, τ2⟩, e3, em⟩ := Option.map_eq_some_iff.mp em
    cases em
    show cs.length + 1 = es.length + 1
    rw [t.len _ _ _ _ e3]
  · obtain ⟨⟨z, τ1⟩, e1, em⟩ := Option.bind_eq_some_iff.mp em
    obtain ⟨d, e2, em⟩ := Option.bind_eq_some_iff.mp em
    obtain ⟨⟨cs, τ2⟩, e3, em⟩ := Option.map_eq_some_iff.mp em
    cases em
    refine wA (pa_cons peW paW hs) (h.run ro τ z τ1 e1 F B H σ A _ a fun F1 H1 v A1 A2 g1 c1 o1 t1 => ?_)
    obtain ⟨F2, g2, c2, s2, rv⟩ := o1.freeze c1 e2
    refine t.run ro τ1 cs _ e3 F2 B H1 σ A2 _ (a.next0 (g1.trans g2) c2 (t1.stay s2 fun _ _ _ q => q)) fun F3 H3 vs A3 A4 g3 c3 o3 t3 => ?_
    refine k F3 H3 (v :: vs) A3 A4 ((g1.trans g2).trans g3) c3 (.d ?_ o3) t3
    cases bor with
    | true => exact (rv.mono g3.ff).mono c3.fh
    | false => exact rv.mono g3.ff
theorem ca_own {m : MV} {l : MCA} (h : ER X e m) (t : CA X false es l) (hs : starEach (e :: es) X.env = (false, eval e X.env) :: starEach es X.env := by rfl) : CA X false (e :: es) (cOw m l) := by
  refine ⟨fun ro τ r τ' em => ?_, fun ro τ r τ' em F B H σ A Q a k => ?_⟩
  · obtain ⟨⟨z, τ1⟩, e1, em⟩ := Option.bind_eq_some_iff.mp em
    cases z with
    | vw z => cases em
    | val z =>
      obtain ⟨⟨cs, τ2⟩, e3, em⟩ := Option.map_eq_some_iff.mp (show (l ro τ1).map (fun q => (CArg.ow z :: q.1, q.2)) = some (r, τ') from em)
      cases em
      show cs.length + 1 = es.length + 1
      rw [t.len _ _ _ _ e3]
  · obtain ⟨⟨z, τ1⟩, e1, em⟩ := Option.bind_eq_some_iff.mp em
    cases z with
    | vw z => cases em
    | val z =>
      obtain ⟨⟨cs, τ2⟩, e3, em⟩ := Option.map_eq_some_iff.mp (show (l ro τ1).map (fun q => (CArg.ow z :: q.1, q.2)) = some (r, τ') from em)
      cases em
      refine wA (pa_cons peW paW hs) (h.run ro τ _ τ1 e1 F B H σ A _ a fun F1 H1 v A1 A2 g1 c1 o1 t1 => ?_)
      refine t.run ro τ1 cs _ e3 F1 B H1 σ A2 _ (a.next g1 c1 t1) fun F3 H3 vs A3 A4 g3 c3 o3 t3 => ?_
      obtain ⟨g4, c4⟩ := Go.framed c1 g3 c3
      have o4 : Own X.K F1 H1 v z A1 := o1
      rw [← List.append_assoc] at g4 c4
      exact k F3 H3 (v :: vs) (A1 ++ A3) A4 (g1.trans g4) c4 (.ow (Go.beside c1 g3 o4) o3) t3
/-- what is not owned stands -/
theorem same_of {F B H H' F' : Hp} {A A2 : List Addr} (g : Go F H A F' H' A2) {G : Hp} (s : Same G H) (n : ∀ a ∈ A, G a = none) : Same G H' := fun b o q => g.keep b o (fun m => by rw [n b m] at q; cases q) (s b o q)
theorem ca_see {m : MV} {l : MCA} (h : ER X e m) (t : CA X true es l) (hs : starEach (e :: es) X.env = (false, eval e X.env) :: starEach es X.env := by rfl) : CA X true (e :: es) (cSee m l) := by
  refine ⟨fun ro τ r τ' em => ?_, fun ro τ r τ' em F B H σ A Q a k => ?_⟩
  · obtain ⟨⟨z, τ1⟩, e1, em⟩ := Option.bind_eq_some_iff.mp em
    obtain ⟨d, e2, em⟩ := Option.bind_eq_some_iff.mp em
    obtain ⟨⟨cs, τ2⟩, e3, em⟩ := Option.map_eq_some_iff.mp em
    cases em
    show cs.length + 1 = es.length + 1
    rw [t.len _ _ _ _ e3]
  · obtain ⟨⟨z, τ1⟩, e1, em⟩ := Option.bind_eq_some_iff.mp em
    obtain ⟨d, e2, em⟩ := Option.bind_eq_some_iff.mp em
    obtain ⟨⟨cs, τ2⟩, e3, em⟩ := Option.map_eq_some_iff.mp em
    cases em
    refine wA (pa_cons peW paW hs) (h.run ro τ z τ1 e1 F B H σ A _ a fun F1 H1 v A1 A2 g1 c1 o1 t1 => ?_)
    -- what is read lies in G: all that A2 does not own
    let G : Hp := fun b => if b ∈ A2 then none else H1 b
    have inG : ∀ b o, b ∉ A2 → H1 b = some o → G b = some o := fun b o n q => by
      show (if b ∈ A2 then none else H1 b) = some o
      rw [if_neg n]
      exact q
    have gH : Same G H1 := fun b o q => by
      have q' : (if b ∈ A2 then none else H1 b) = some o := q
      by_cases n : b ∈ A2
      · rw [if_pos n] at q'
        cases q'
      · rw [if_neg n] at q'
        exact q'
    have nG : ∀ b ∈ A2, G b = none := fun b m => by
      show (if b ∈ A2 then none else H1 b) = none
      rw [if_pos m]
    have rv : Rep X.K G v d := o1.rep (fun b o q => inG b o (fun m => by rw [c1.fa b (List.mem_append_right _ m)] at q; cases q) (c1.fh b o q))
      (fun b o q => inG b o (fun m => by rw [c1.ba b (List.mem_append_right _ m)] at q; cases q) (c1.bh b o q)) (fun b m o q => inG b o (c1.apart b m) q) e2
    refine t.run ro τ1 cs _ e3 F1 B H1 σ A2 _ (a.next g1 c1 t1) fun F3 H3 vs A3 A4 g3 c3 o3 t3 => ?_
    exact k F3 H3 (v :: vs) A3 A4 ((g1.trans (Go.less fun _ m => List.mem_append_right _ m)).trans g3) c3 (.d (rv.mono (same_of (B := B) g3 gH nG)) o3) t3
theorem ca_io {j : Nat} {l : MCA} (h : PE X e (tVar j)) (t : CA X false es l) (hs : starEach (e :: es) X.env = (false, eval e X.env) :: starEach es X.env := by rfl) : CA X false (e :: es) (cIo j l) := by
  refine ⟨fun ro τ r τ' em => ?_, fun ro τ r τ' em F B H σ A Q a k => ?_⟩
  · obtain ⟨u, e0, em⟩ := Option.bind_eq_some_iff.mp em
    obtain ⟨⟨cs, τ2⟩, e3, em⟩ := Option.map_eq_some_iff.mp em
    cases em
    show cs.length + 1 = es.length + 1
    rw [t.len _ _ _ _ e3]
  · obtain ⟨u, e0, em⟩ := Option.bind_eq_some_iff.mp em
    obtain ⟨⟨cs, τ2⟩, e3, em⟩ := Option.map_eq_some_iff.mp em
    cases em
    obtain ⟨v, A1, A2, hv, _⟩ := a.tau.take a.cn.nd e0
    refine wA (pa_cons h paW hs) ⟨v, hv, t.run ro τ cs _ e3 F B H σ A _ a fun F3 H3 vs A3 A4 g3 c3 o3 t3 => ?_⟩
    exact k F3 H3 (v :: vs) A3 A4 g3 c3 (.io hv o3) t3
def buildT : List CArg → Tau → Option (List T × Tau)
  | [], τ => some ([], τ)
  | .d d :: cs, τ => (buildT cs τ).map fun p => (.leaf d :: p.1, p.2)
  | .ow t :: cs, τ => (buildT cs τ).map fun p => (t :: p.1, p.2)
  | .io j :: cs, τ => (tget τ j).bind fun t => (buildT cs (tset τ j .hole)).map fun p => (t :: p.1, p.2)
def backT : List CArg → List T → Tau → Option Tau
  | [], [], τ => some τ
  | .d _ :: cs, _ :: ts, τ => backT cs ts τ
  | .ow _ :: cs, _ :: ts, τ => backT cs ts τ
  | .io j :: cs, t :: ts, τ => (backT cs ts τ).map fun τ' => tset τ' j t
  | _, _, _ => none
variable {K : PySem.W.Frag} {F H : Hp} {σ : L2.St}
theorem buildT_ok : ∀ {cs : List CArg} {vs : List V} {τ τ1 : Tau} {ts : List T} {A0 A : List Addr}, CsOk K F F H σ cs vs A0 → TauOk K F H σ τ A → (A0 ++ A).Nodup → buildT cs τ = some (ts, τ1) →
    ∃ A1 A2, OwnL K F H vs ts A1 ∧ TauOk K F H σ τ1 A2 ∧ (A1 ++ A2).Nodup ∧ ∀ a ∈ A1 ++ A2, a ∈ A0 ++ A
  | _, _, τ, _, _, _, A, .nil, t, n, e => by
    cases e
    exact ⟨[], A, .nil, t, n, fun _ m => m⟩
  | .d d :: cs, _, τ, _, _, _, A, .d r c, t, n, e => by
    obtain ⟨⟨ts, τ2⟩, e1, e2⟩ := Option.map_eq_some_iff.mp (show (buildT cs τ).map _ = some _ from e)
    cases e2
    obtain ⟨A1, A2, o, t', n', s'⟩ := buildT_ok c t n e1
    exact ⟨[] ++ A1, A2, .cons (.leaf r) o, t', n', s'⟩
  | .ow u :: cs, _, τ, _, _, _, A, .ow (A := Ab) (A' := Aa) r c, t, n, e => by
    obtain ⟨⟨ts, τ2⟩, e1, e2⟩ := Option.map_eq_some_iff.mp (show (buildT cs τ).map _ = some _ from e)
    cases e2
    rw [List.append_assoc] at n
    obtain ⟨n1, n2, n3⟩ := List.nodup_append.mp n
    obtain ⟨A1, A2, o, t', n', s'⟩ := buildT_ok c t n2 e1
    refine ⟨Aa ++ A1, A2, .cons r o, t', ?_, fun a m => ?_⟩
    · rw [List.append_assoc]
      exact List.nodup_append.mpr ⟨n1, n', fun a m b m' => n3 a m b (s' b m')⟩
    · rw [List.append_assoc] at m ⊢
      rcases List.mem_append.mp m with z | z
      · exact List.mem_append_left _ z
      · exact List.mem_append_right _ (s' a z)
  | .io j :: cs, v :: vs, τ, _, _, A0, A, .io hv c, t, n, e => by
    obtain ⟨u, e0, e⟩ := Option.bind_eq_some_iff.mp (show (tget τ j).bind _ = some _ from e)
    obtain ⟨⟨ts, τ2⟩, e1, e2⟩ := Option.map_eq_some_iff.mp e
    cases e2
    obtain ⟨m1, m2, m3⟩ := List.nodup_append.mp n
    obtain ⟨w, A1, A2, hw, o, t2, n2, s2⟩ := t.take m2 e0
    rw [hv] at hw
    cases hw
    obtain ⟨n3, n4, n5⟩ := List.nodup_append.mp n2
    obtain ⟨A3, A4, o4, t4, n6, s4⟩ := buildT_ok c t2 (List.nodup_append.mpr ⟨m1, n4, fun a m b m' => m3 a m b (s2 b (List.mem_append_right _ m'))⟩) e1
    have in1 : ∀ a ∈ A1, a ∈ A := fun a m => s2 a (List.mem_append_left _ m)
    refine ⟨A1 ++ A3, A4, .cons o o4, t4, ?_, fun a m => ?_⟩
    · rw [List.append_assoc]
      refine List.nodup_append.mpr ⟨n3, n6, fun a m b m' => ?_⟩
      rcases List.mem_append.mp (s4 b m') with z | z
      · exact fun q => m3 b z a (in1 a m) q.symm
      · exact n5 a m b z
    · rw [List.append_assoc] at m
      rcases List.mem_append.mp m with z | z
      · exact List.mem_append_right _ (in1 a z)
      · rcases List.mem_append.mp (s4 a z) with z | z
        · exact List.mem_append_left _ z
        · exact List.mem_append_right _ (s2 a (List.mem_append_right _ z))
theorem backT_ok : ∀ {cs : List CArg} {G0 F0 H0 : Hp} {vs : List V} {τ τ' : Tau} {ts : List T} {A0 A1 A2 : List Addr}, CsOk K G0 F0 H0 σ cs vs A0 → OwnL K F H vs ts A1 → TauOk K F H σ τ A2 → (A1 ++ A2).Nodup → backT cs ts τ = some τ' → ∃ A', TauOk K F H σ τ' A' ∧ A'.Nodup ∧ ∀ a ∈ A', a ∈ A1 ++ A2
  | _, _, _, _, _, τ, _, _, _, _, A2, .nil, .nil, t, n, e => by
    cases e
    exact ⟨A2, t, n, fun _ m => m⟩
  | .d d :: cs, _, _, _, _, τ, _, t0 :: ts, _, _, A2, .d r c, .cons (A := Aa) (B := Ab) o os, t, n, e => by
    rw [List.append_assoc] at n
    obtain ⟨A', t', n', s'⟩ := backT_ok c os t (List.nodup_append.mp n).2.1 (show backT cs ts τ = some _ from e)
    refine ⟨A', t', n', fun a m => ?_⟩
    rw [List.append_assoc]
    exact List.mem_append_right _ (s' a m)
  | .ow d :: cs, _, _, _, _, τ, _, t0 :: ts, _, _, A2, .ow r c, .cons (A := Aa) (B := Ab) o os, t, n, e => by
    rw [List.append_assoc] at n
    obtain ⟨A', t', n', s'⟩ := backT_ok c os t (List.nodup_append.mp n).2.1 (show backT cs ts τ = some _ from e)
    refine ⟨A', t', n', fun a m => ?_⟩
    rw [List.append_assoc]
    exact List.mem_append_right _ (s' a m)
  | .io j :: cs, _, _, _, _, τ, _, t0 :: ts, _, _, A2, .io hv c, .cons (A := Aa) (B := Ab) o os, t, n, e => by
    obtain ⟨τ2, e1, e2⟩ := Option.map_eq_some_iff.mp (show (backT cs ts τ).map _ = some _ from e)
    subst e2
    rw [List.append_assoc] at n
    obtain ⟨n1, n2, n3⟩ := List.nodup_append.mp n
    obtain ⟨A', t', n', s'⟩ := backT_ok c os t n2 e1
    obtain ⟨A3, t3, n4, s3⟩ := t'.put hv o (List.nodup_append.mpr ⟨n1, n', fun a m b m' => n3 a m b (s' b m')⟩)
    refine ⟨A3, t3, n4, fun a m => ?_⟩
    rw [List.append_assoc]
    rcases List.mem_append.mp (s3 a m) with z | z
    · exact List.mem_append_left _ z
    · exact List.mem_append_right _ (s' a z)
/-- f(..), f a def of the text -/
def mCall (m : MF) (l : MCA) : MV := fun ro τ => (l ro τ).bind fun p => (buildT p.1 p.2).bind fun q => (m q.1).bind fun r => (backT p.1 r.2 q.2).map fun τ' => (.val r.1, τ')
def isScal : T → Bool
  | .leaf .none => true
  | .leaf (.bool _) => true
  | .leaf (.int _) => true
  | .leaf (.str _) => true
  | _ => false
def leafs : List CArg → Option (List T)
  | [] => some []
  | .d d :: cs => (leafs cs).map (.leaf d :: ·)
  | .io _ :: _ => none
  | .ow _ :: _ => none
/-- .. that only looks at its arguments and tells a scalar -/
def mLook (m : MF) (l : MCA) : MV := fun ro τ => (l ro τ).bind fun p => (leafs p.1).bind fun ts => (m ts).bind fun r => if isScal r.1 = true then some (.val r.1, p.2) else none
theorem scal_rep {v : V} {t : T} {A : List Addr} (h : isScal t = true) (o : Own K F H v t A) : A = [] ∧ ∀ F' H' : Hp, Own K F' H' v t [] := by
  cases o with
  | leaf r =>
    cases r with
    | non => exact ⟨rfl, fun _ _ => .leaf .non⟩
    | bl b => exact ⟨rfl, fun _ _ => .leaf (.bl b)⟩
    | int i => exact ⟨rfl, fun _ _ => .leaf (.int i)⟩
    | str x => exact ⟨rfl, fun _ _ => .leaf (.str x)⟩
    | _ => cases h
  | _ => cases h
variable {x : Str} {p pos : Pos} {k n : Nat} {m : MF} {l : MCA}
theorem er_call (c : Fm X.prog X.w X.K X.mg X.base k x n m) {j : Nat} (hr : RmG j X.A) (ha : CA X false (e :: es) l) (hkj : k ≤ j := by decide) (hn : (e :: es).length = n := by rfl) (hg : Gl X x := by rfl) (hdb : (x == ("__debug__" : Str)) = false := by decide)
    (he : starEach (e :: es) X.env = (false, eval e X.env) :: starEach es X.env := by rfl) (hpl : (backTo pos (starEach es X.env)).any (·.1) = false := by rfl) : ER X (.Call (.Name x p) (e :: es) [] pos) (mCall m l) := ⟨fun ro τ r τ' em F B H σ A Q a kk => by
  obtain ⟨f, fd, ps, G, hm, hk, hb⟩ := c.ex
  obtain ⟨⟨cs, τ1⟩, e1, em⟩ := Option.bind_eq_some_iff.mp em
  obtain ⟨⟨ts, τ2⟩, e2, em⟩ := Option.bind_eq_some_iff.mp em
  obtain ⟨⟨z, ts'⟩, e3, em⟩ := Option.bind_eq_some_iff.mp em
  obtain ⟨τ3, e4, em⟩ := Option.map_eq_some_iff.mp em
  cases em
  refine wE (peCallG (E := E0) G (hr.mono hkj) hg hm hk hb pass0 paW hdb he hpl) (ha.run ro τ cs τ1 e1 F B H σ A _ a fun F1 H1 vs A0 A1 g1 c1 o1 t1 => ?_)
  have hl : vs.length = n := o1.length.trans ((ha.len _ _ _ _ e1).trans hn)
  obtain ⟨A2, A3, o2, t2, n2, s2⟩ := buildT_ok o1 t1 c1.nd e2
  have c2 := c1.sub n2 s2
  refine ⟨hl, F1, A2, ts, z, ts', ⟨c2.fh, same_noH, c2.left.nd, c2.left.fa, fun _ _ => rfl, c2.left.ha⟩, o2, e3, fun F4 H4 v A4 A5 g4 c4 o4 os4 => ?_⟩
  have c4' : Cn F4 B H4 (A4 ++ A5) := by
    refine ⟨c4.fh, same_of (B := B) g4 c2.bh c2.left.ba, c4.nd, c4.fa, fun b m => ?_, c4.ha⟩
    cases q : B b with
    | none => rfl
    | some o =>
      rcases g4.sub b m with z | z
      · rw [c2.left.ba b z] at q
        cases q
      · rw [c2.bh b o q] at z
        cases z
  obtain ⟨g5, c5⟩ := Go.framedR c2 g4 c4'
  have t3 := t2.stay g4.ff fun b m w q => g4.keep b w (fun z => c2.apart b z m) q
  rw [List.append_assoc] at g5 c5
  obtain ⟨A6, t6, n6, s6⟩ := backT_ok o1 os4 t3 c5.right.nd e4
  have sub : ∀ b ∈ A4 ++ A6, b ∈ A4 ++ (A5 ++ A3) := fun b m => (List.mem_append.mp m).elim (fun z => List.mem_append_left _ z) fun z => List.mem_append_right _ (s6 b z)
  have nd : (A4 ++ A6).Nodup := List.nodup_append.mpr ⟨c5.left.nd, n6, fun b m b' m' q => c5.apart b m (q ▸ s6 b' m')⟩
  exact kk F4 H4 v A4 A6 (((g1.trans (Go.less s2)).trans g5).trans (Go.less sub)) (c5.sub nd sub) o4 t6⟩
theorem leafs_ok {G F H : Hp} : ∀ {cs : List CArg} {vs : List V} {ts : List T} {A : List Addr}, CsOk K G F H σ cs vs A → leafs cs = some ts → OwnL K G G vs ts []
  | _, _, _, _, .nil, e => by
    cases e
    exact .nil
  | .d d :: cs, _, _, _, .d r c, e => by
    obtain ⟨ts, e1, e2⟩ := Option.map_eq_some_iff.mp (show (leafs cs).map _ = some _ from e)
    subst e2
    exact .cons (A := []) (.leaf r) (leafs_ok c e1)
  | .io _ :: _, _, _, _, .io _ _, e => nomatch e
  | .ow _ :: _, _, _, _, .ow _ _, e => nomatch e
theorem er_look (c : Fm X.prog X.w X.K X.mg X.base k x n m) {j : Nat} (hr : RmG j X.A) (ha : CA X true (e :: es) l) (hkj : k ≤ j := by decide) (hn : (e :: es).length = n := by rfl) (hg : Gl X x := by rfl) (hdb : (x == ("__debug__" : Str)) = false := by decide)
    (he : starEach (e :: es) X.env = (false, eval e X.env) :: starEach es X.env := by rfl) (hpl : (backTo pos (starEach es X.env)).any (·.1) = false := by rfl) : ER X (.Call (.Name x p) (e :: es) [] pos) (mLook m l) := ⟨fun ro τ r τ' em F B H σ A Q a kk => by
  obtain ⟨f, fd, ps, G, hm, hk, hb⟩ := c.ex
  obtain ⟨⟨cs, τ1⟩, e1, em⟩ := Option.bind_eq_some_iff.mp em
  obtain ⟨ts, e2, em⟩ := Option.bind_eq_some_iff.mp em
  obtain ⟨⟨z, ts'⟩, e3, em⟩ := Option.bind_eq_some_iff.mp em
  have em' : (if isScal z = true then some (R.val z, τ1) else none) = some (r, τ') := em
  by_cases q : isScal z = true
  · rw [if_pos q] at em'
    cases em'
    refine wE (peCallG (E := E0) G (hr.mono hkj) hg hm hk hb pass0 paW hdb he hpl) (ha.run ro τ cs _ e1 F B H σ A _ a fun F1 H1 vs A0 A1 g1' c1' o1 t1 => ?_)
    have hl : vs.length = n := o1.length.trans ((ha.len _ _ _ _ e1).trans hn)
    have g1 : Go F H A F1 H1 A1 := g1'.trans (Go.less fun _ m => List.mem_append_right _ m)
    have c1 : Cn F1 B H1 A1 := c1'.right
    -- all that stands and is not owned is frozen for the callee
    refine ⟨hl, H1, [], ts, z, ts', ⟨Same.refl H1, same_noH, .nil, (fun _ m => nomatch m), (fun _ _ => rfl), (fun _ m => nomatch m)⟩, leafs_ok o1 e2, e3, fun F4 H4 v A4 A5 g4 c4 o4 os4 => ?_⟩
    obtain ⟨_, sc⟩ := scal_rep q o4
    have sm : Same H1 H4 := fun b o z => g4.keep b o (fun m => nomatch m) z
    refine kk F1 H4 v [] A1 (g1.trans ⟨Same.refl F1, fun b o _ z => sm b o z, fun _ _ _ => rfl, fun b m => .inl m⟩) ⟨c1.fh.trans sm, c1.bh.trans sm, c1.nd, c1.fa, c1.ba, fun b m => ?_⟩ (sc F1 H4) (t1.stay (Same.refl F1) fun b _ o z => sm b o z)
    obtain ⟨o, z⟩ := some_ne (c1.ha b m)
    rw [sm b o z]
    exact fun z => nomatch z
  · rw [if_neg q] at em'
    cases em'⟩
end
end Tl

namespace Tl
open PySem PySem.Spec PyProof.Rows L2

section
variable {K : PySem.W.Frag} {F F1 B H : Hp} {A : List Addr} {X : Cx}
theorem RepL.two {vs : List V} {a b : D} (r : RepL K F vs [a, b]) : ∃ v w, vs = [v, w] ∧ Rep K F v a ∧ Rep K F w b := by
  cases r with
  | cons r1 r2 =>
    cases r2 with
    | cons r2 r3 =>
      cases r3
      exact ⟨_, _, rfl, r1, r2⟩
theorem RepL.one {vs : List V} {a : D} (r : RepL K F vs [a]) : ∃ v, vs = [v] ∧ Rep K F v a := by
  cases r with
  | cons r1 r2 =>
    cases r2
    exact ⟨_, rfl, r1⟩
theorem Rep.toInt {v : V} {i : Int} (r : Rep K F v (.int i)) : v = .int i := by
  cases r
  rfl
theorem Rep.toStr {v : V} {i : Str} (r : Rep K F v (.str i)) : v = .str i := by
  cases r
  rfl
theorem Rep.toBl {v : V} {i : Bool} (r : Rep K F v (.bool i)) : v = .bl i := by
  cases r
  rfl
theorem Rep.toNon {v : V} (r : Rep K F v .none) : v = .non := by
  cases r
  rfl

def pI2 (ok : Int → Int → Bool) (f : Int → Int → Int) : List D → Option D
  | [.int a, .int b] => if ok a b = true then some (.int (f a b)) else none
  | _ => none
theorem vr_i2 {C : Int → Int → Prop} {ok : Int → Int → Bool} {f : Int → Int → Int} (h : ∀ a b, ok a b = true → C a b) : VR K (two (rI C fun i j => .int (f i j))) (gp (pI2 ok f)) :=
  VR.plain fun ds d e H vs Q r k => by
  match ds, e with
  | [.int a, .int b], e =>
    have e' : (if ok a b = true then some (PyData.int (f a b)) else none) = some d := e
    by_cases q : ok a b = true
    · rw [if_pos q] at e'
      cases e'
      obtain ⟨v, w, rfl, r1, r2⟩ := r.two
      exact ⟨v, w, rfl, a, b, r1.toInt, r2.toInt, h a b q, k _ fun F => .int _⟩
    · rw [if_neg q] at e'
      cases e'
def pC2 (f : Int → Int → Bool) : List D → Option D
  | [.int a, .int b] => some (.bool (f a b))
  | _ => none
theorem vr_c2 {f : Int → Int → Bool} : VR K (two (rI0 fun i j => .bl (f i j))) (gp (pC2 f)) :=
  VR.plain fun ds d e H vs Q r k => by
  match ds, e with
  | [.int a, .int b], e =>
    cases e
    obtain ⟨v, w, rfl, r1, r2⟩ := r.two
    exact ⟨v, w, rfl, a, b, r1.toInt, r2.toInt, k _ fun F => .bl _⟩
def okMul (a b : Int) : Bool := decide ((-(2 ^ 64) < a ∧ a < 2 ^ 64) ∨ (-(2 ^ 64) < b ∧ b < 2 ^ 64))
def okPow (a b : Int) : Bool := decide (0 ≤ b ∧ b ≤ 1000000 ∧ a.natAbs < 2 ^ 64)
abbrev gSub : List R → Option R := gp (pI2 (fun _ _ => true) fun a b => a - b)
abbrev gMod : List R → Option R := gp (pI2 (fun _ b => decide (0 < b)) fun a b => a % b)
abbrev gDiv : List R → Option R := gp (pI2 (fun _ b => decide (0 < b ∧ b < 1073741824)) fun a b => a / b)
abbrev gPow : List R → Option R := gp (pI2 okPow fun a b => a ^ b.toNat)
abbrev gLt : List R → Option R := gp (pC2 fun a b => decide (a < b))
abbrev gLe : List R → Option R := gp (pC2 fun a b => decide (a ≤ b))
abbrev gGt : List R → Option R := gp (pC2 fun a b => decide (b < a))
abbrev gGe : List R → Option R := gp (pC2 fun a b => decide (b ≤ a))
theorem op_sub' : OpR X (binaryOp .Sub) (rI (fun _ _ => True) fun i j => .int (i - j)) := opI fun _ _ _ _ _ _ _ _ q => sub_int q
theorem vr_sub : VR K (two (rI (fun _ _ => True) fun i j => .int (i - j))) gSub := vr_i2 fun _ _ _ => True.intro
theorem vr_mod : VR K (two (rI (fun _ j => 0 < j) fun i j => .int (i % j))) gMod := vr_i2 fun _ _ h => of_decide_eq_true h
theorem vr_div : VR K (two (rI CDiv fun i j => .int (i / j))) gDiv := vr_i2 fun a b h => by
  have h' : 0 < b ∧ b < 1073741824 := of_decide_eq_true h
  exact h'
theorem vr_pow : VR K (two (rI CPow fun i j => .int (i ^ j.toNat))) gPow := vr_i2 fun a b h => by
  have h' : 0 ≤ b ∧ b ≤ 1000000 ∧ a.natAbs < 2 ^ 64 := of_decide_eq_true h
  exact h'
def pNeg : List D → Option D
  | [.int a] => some (.int (-a))
  | _ => none
def R.lst? : R → Option (List D)
  | .val t => match t.fz with
    | some (.list ds) => some ds
    | _ => none
  | .vw (.leaf (.list ds)) => some ds
  | .vw (.fl ds) => some ds
  | .vw _ => none
theorem lst_of {r : R} {v : V} {ds : List D} (o : ROk K F B H r v A) (e : r.lst? = some ds) (h : ∀ a ∈ A, ∀ o, H a = some o → F1 a = some o) (s : Same F F1) (f : Same F1 H) (b : Same B H) :
    ∃ a xs, v = .ref a ∧ H a = some (.lst xs) ∧ xs.length ≤ sizeLine ∧ RepL K F1 xs ds := by
  cases r with
  | val t =>
    have e' : (match t.fz with
    | some (.list ds) => some ds
    | _ => none) = some ds := e
    cases q : t.fz with
    | none =>
      rw [q] at e'
      cases e'
    | some d =>
      rw [q] at e'
      have rr := Own.rep s o h q
      cases d with
      | list es =>
        cases e'
        cases rr with
        | lst h1 h2 h3 => exact ⟨_, _, rfl, f _ _ h1, h2, h3⟩
      | _ => cases e'
  | vw t =>
    obtain ⟨e0, A', o⟩ := o
    cases t with
    | leaf d =>
      cases o with
      | leaf rr =>
        cases d with
        | list es =>
          cases e
          cases rr with
          | lst h1 h2 h3 => exact ⟨_, _, rfl, f _ _ (s _ _ h1), h2, h3.mono s⟩
        | _ => cases e
    | fl es =>
      cases e
      cases o with
      | fl h1 h2 h3 => exact ⟨_, _, rfl, b _ _ h1, h2, h3.mono s⟩
    | _ => cases e
theorem seq_of {r : R} {v : V} {isL : Bool} {ds : List D} (o : ROk K F B H r v A) (e : r.its = some (isL, ds)) (h : ∀ a ∈ A, ∀ o, H a = some o → F1 a = some o) (s : Same F F1) (f : Same F1 H) (b : Same B H) :
    ∃ a xs, v = .ref a ∧ SqAt K H isL a xs ∧ xs.length ≤ sizeLine ∧ RepL K F1 xs ds := by
  cases r with
  | val t =>
    have e' : (match t.fz with
    | some (.list ds) => some (true, ds)
    | some (.tuple ds) => some (false, ds)
    | _ => none) = some (isL, ds) := e
    cases q : t.fz with
    | none =>
      rw [q] at e'
      cases e'
    | some d =>
      rw [q] at e'
      have rr := Own.rep s o h q
      cases d with
      | list es =>
        cases e'
        cases rr with
        | lst h1 h2 h3 => exact ⟨_, _, rfl, SqL.of (f _ _ h1), h2, h3⟩
      | tuple es =>
        cases e'
        cases rr with
        | tup h1 h2 h3 => exact ⟨_, _, rfl, sameT f h1, h2, h3⟩
      | _ => cases e'
  | vw t =>
    obtain ⟨e0, A', o⟩ := o
    cases t with
    | leaf d =>
      cases o with
      | leaf rr =>
        cases d with
        | list es =>
          cases e
          cases rr with
          | lst h1 h2 h3 => exact ⟨_, _, rfl, SqL.of (f _ _ (s _ _ h1)), h2, h3.mono s⟩
        | tuple es =>
          cases e
          cases rr with
          | tup h1 h2 h3 => exact ⟨_, _, rfl, sameT f (sameT s h1), h2, h3.mono s⟩
        | _ => cases e
    | fl es =>
      cases e
      cases o with
      | fl h1 h2 h3 => exact ⟨_, _, rfl, SqL.of (b _ _ h1), h2, h3.mono s⟩
    | scr es =>
      cases e
      cases o with
      | scr h1 h2 h3 => exact ⟨_, _, rfl, f.seq (s.seq h1), h2, h3.mono s⟩
    | _ => cases e
/-- one and two arguments, all that they own frozen -/
theorem rs_two {x y : R} {vs : List V} (c : Cn F B H A) (o : RsOk K F B H [x, y] vs A) : ∃ v w A1 A2, vs = [v, w] ∧ ROk K F B H x v A1 ∧ ROk K F B H y w A2 ∧ Go F H A (joinH F H A) H [] ∧ Cn (joinH F H A) B H [] ∧ Same F (joinH F H A) ∧
    (∀ a ∈ A1, ∀ o, H a = some o → joinH F H A a = some o) ∧ (∀ a ∈ A2, ∀ o, H a = some o → joinH F H A a = some o) := by
  have c' : Cn F B H (A ++ []) := by
    rw [List.append_nil]
    exact c
  obtain ⟨g, c1, s, h⟩ := c'.freeze
  rw [List.append_nil] at g
  cases o with
  | cons o1 o2 =>
    cases o2 with
    | cons o2 o3 =>
      cases o3
      exact ⟨_, _, _, _, rfl, o1, o2, g, c1, s, fun a m => h a (List.mem_append_left _ m), fun a m => h a (List.mem_append_right _ (List.mem_append_left _ m))⟩
theorem rs_one {x : R} {vs : List V} (c : Cn F B H A) (o : RsOk K F B H [x] vs A) : ∃ v A1, vs = [v] ∧ ROk K F B H x v A1 ∧ Go F H A (joinH F H A) H [] ∧ Cn (joinH F H A) B H [] ∧ Same F (joinH F H A) ∧
    (∀ a ∈ A1, ∀ o, H a = some o → joinH F H A a = some o) := by
  have c' : Cn F B H (A ++ []) := by
    rw [List.append_nil]
    exact c
  obtain ⟨g, c1, s, h⟩ := c'.freeze
  rw [List.append_nil] at g
  cases o with
  | cons o1 o2 =>
    cases o2
    exact ⟨_, _, rfl, o1, g, c1, s, fun a m => h a (List.mem_append_left _ m)⟩
theorem small16 {n : Nat} (h : n ≤ 16000000) : n ≤ sizeLine := by
  rw [sizeLine_eq]
  omega
/-- a new list at the end -/
theorem new_list {Q : VK} {xs : List V} {ds : List D} (g : Go F H A F1 H []) (c : Cn F1 B H []) (hz : xs.length ≤ sizeLine) (r : RepL K F1 xs ds)
    (k : ∀ (F' H' : Hp) (u : V) (A' : List Addr), Go F H A F' H' A' → Cn F' B H' A' → ROk K F' B H' (.val (.fl ds)) u A' → Q u H') : ∀ p, H p = none → Q (.ref p) (upd H p (.lst xs)) := fun p hp => by
  obtain ⟨g2, c2⟩ := c.newO (o := .lst xs) hp
  exact k _ _ (.ref p) [p] (g.trans g2) c2 (.fl upd_same hz r)
/-- a new tuple at the end -/
theorem new_tup {Q : VK} {xs : List V} {ds : List D} (g : Go F H A F1 H []) (c : Cn F1 B H []) (hz : xs.length ≤ sizeLine) (r : RepL K F1 xs ds)
    (k : ∀ (F' H' : Hp) (u : V) (A' : List Addr), Go F H A F' H' A' → Cn F' B H' A' → ROk K F' B H' (rd (.tuple ds)) u A' → Q u H') : ∀ p, H p = none → Q (.ref p) (upd H p (.tup xs)) := fun p hp => by
  obtain ⟨g2, c2⟩ := c.newF (o := .tup xs) hp
  exact k _ _ (.ref p) [] (g.trans g2) c2 (.leaf (.tup (.inl (.inl upd_same)) hz (r.mono g2.ff)))

def gAdd : List R → Option R
  | [x, y] => match x.er, y.er with
    | some (.int a), some (.int b) => some (rInt (a + b))
    | some (.str a), some (.str b) => if a.length + b.length ≤ 16000000 then some (rd (.str (a ++ b))) else none
    | _, _ => match x.st, y.st with
      | some (.tuple ds), some (.tuple es) => if ds.length + es.length ≤ 16000000 then some (rd (.tuple (ds ++ es))) else none
      | _, _ => x.lst?.bind fun ds => y.lst?.bind fun es => if ds.length + es.length ≤ 16000000 then some (.val (.fl (ds ++ es))) else none
  | _ => none
def rAddS : R2 := fun x y H Q => ∃ i j, x = .str i ∧ y = .str j ∧ i.length + j.length ≤ sizeLine ∧ Q (.str (i ++ j)) H
def rAddAll : R2 := fun x y H Q => (rI0 fun i j => .int (i + j)) x y H Q ∨ rAddS x y H Q ∨ rCat x y H Q
def rAddAllT (K : PySem.W.Frag) : R2 := fun x y H Q => rAddAll x y H Q ∨ rCatA K x y H Q
theorem op_addAll : OpR X (binaryOp .Add) (rAddAllT X.K) := OpR.or (r := rAddAll) (OpR.or op_add (OpR.or (r := rAddS) op_add_str op_cat)) op_catA
theorem add_lists {x y z : R} {vs : List V} {Q : VK} (e : (x.lst?.bind fun ds => y.lst?.bind fun es => if ds.length + es.length ≤ 16000000 then some (R.val (.fl (ds ++ es))) else none) = some z) (c : Cn F B H A) (o : RsOk K F B H [x, y] vs A)
    (k : ∀ (F' H' : Hp) (u : V) (A' : List Addr), Go F H A F' H' A' → Cn F' B H' A' → ROk K F' B H' z u A' → Q u H') : two rAddAll vs H Q := by
  obtain ⟨ds, e1, e⟩ := Option.bind_eq_some_iff.mp e
  obtain ⟨es, e2, e⟩ := Option.bind_eq_some_iff.mp e
  by_cases q : ds.length + es.length ≤ 16000000
  · rw [if_pos q] at e
    cases e
    obtain ⟨v, w, A1, A2, rfl, o1, o2, g, c1, s, h1, h2⟩ := rs_two c o
    obtain ⟨a, xs, rfl, ha, za, ra⟩ := lst_of o1 e1 h1 s c1.fh c1.bh
    obtain ⟨b, ys, rfl, hb, zb, rb⟩ := lst_of o2 e2 h2 s c1.fh c1.bh
    have hz : xs.length + ys.length ≤ sizeLine := by
      rw [ra.length, rb.length]
      exact small16 q
    exact ⟨_, _, rfl, .inr (.inr ⟨a, b, xs, ys, rfl, rfl, ha, hb, hz, new_list g c1 (by rw [List.length_append]; exact hz) (ra.append rb) k⟩)⟩
  · rw [if_neg q] at e
    cases e
theorem plain_two {x y : R} {vs : List V} {a b : D} (c : Cn F B H A) (o : RsOk K F B H [x, y] vs A) (e1 : x.er = some a) (e2 : y.er = some b) : ∃ v w, vs = [v, w] ∧ Rep K H v a ∧ Rep K H w b := by
  have e : erL [x, y] = some [a, b] := by
    show x.er.bind (fun d => (y.er.bind fun d => (some []).bind fun ds => some (d :: ds)).bind fun ds => some (d :: ds)) = _
    rw [e1, e2]
    rfl
  exact (o.rep c.fh c.bh (fun _ _ _ q => q) e).two
/-- a scalar at the end -/
theorem end_scal {Q : VK} {z : D} {u : V} (c : Cn F B H A) (k : ∀ (F' H' : Hp) (u : V) (A' : List Addr), Go F H A F' H' A' → Cn F' B H' A' → ROk K F' B H' (rd z) u A' → Q u H') (r : ∀ F : Hp, Rep K F u z) : Q u H :=
  k F H u [] (Go.less fun _ m => nomatch m) (c.sub .nil fun _ m => nomatch m) (.leaf (r F))
theorem two_l {vs : List V} {Q : VK} (h : two rAddAll vs H Q) : two (rAddAllT K) vs H Q := by
  obtain ⟨v, w, e, q⟩ := h
  exact ⟨v, w, e, .inl q⟩
theorem add_tups {x y : R} {vs : List V} {ds es : List D} {Q : VK} (e1 : x.st = some (.tuple ds)) (e2 : y.st = some (.tuple es)) (hz : ds.length + es.length ≤ 16000000) (c : Cn F B H A) (o : RsOk K F B H [x, y] vs A)
    (k : ∀ (F' H' : Hp) (u : V) (A' : List Addr), Go F H A F' H' A' → Cn F' B H' A' → ROk K F' B H' (rd (.tuple (ds ++ es))) u A' → Q u H') : two (rAddAllT K) vs H Q := by
  have e : stL [x, y] = some [.tuple ds, .tuple es] := by
    show x.st.bind (fun d => (y.st.bind fun d => (some []).bind fun ds => some (d :: ds)).bind fun ds => some (d :: ds)) = _
    rw [e1, e2]
    rfl
  have c' : Cn F B H (A ++ []) := by
    rw [List.append_nil]
    exact c
  obtain ⟨F1, g, c1, s, rl⟩ := o.freeze c' e
  rw [List.append_nil] at g
  obtain ⟨v, w, rfl, r1, r2⟩ := rl.two
  cases r1 with
  | tup h1 h2 h3 =>
    cases r2 with
    | tup h4 h5 h6 =>
      rename_i a xs b ys
      have hl : xs.length + ys.length ≤ sizeLine := by
        rw [h3.length, h6.length]
        exact small16 hz
      refine ⟨_, _, rfl, .inr ⟨a, b, xs, ys, rfl, rfl, sameT c1.fh h1, sameT c1.fh h4, hl, fun z => ?_, fun _ z => ?_, fun _ _ => new_tup g c1 (by rw [List.length_append]; exact hl) (h3.append h6) k⟩⟩
      · subst z
        cases h3
        exact k F1 H (.ref b) [] g c1 (.leaf (.tup h4 h5 h6))
      · subst z
        cases h6
        rw [List.append_nil] at k
        exact k F1 H (.ref a) [] g c1 (.leaf (.tup h1 h2 h3))
theorem vr_add : VR K (two (rAddAllT K)) gAdd := by
  intro rs z e F B H vs A Q c o k
  match rs, e with
  | [x, y], e =>
    have e' : (match x.er, y.er with
    | some (.int a), some (.int b) => some (rInt (a + b))
    | some (.str a), some (.str b) => if a.length + b.length ≤ 16000000 then some (rd (.str (a ++ b))) else none
    | _, _ => match x.st, y.st with
      | some (.tuple ds), some (.tuple es) => if ds.length + es.length ≤ 16000000 then some (rd (.tuple (ds ++ es))) else none
      | _, _ => x.lst?.bind fun ds => y.lst?.bind fun es => if ds.length + es.length ≤ 16000000 then some (.val (.fl (ds ++ es))) else none) = some z := e
    split at e'
    · rename_i a b e1 e2
      cases e'
      obtain ⟨v, w, rfl, r1, r2⟩ := plain_two c o e1 e2
      exact two_l ⟨v, w, rfl, .inl ⟨a, b, r1.toInt, r2.toInt, end_scal c k fun F => .int _⟩⟩
    · rename_i a b e1 e2
      by_cases q : a.length + b.length ≤ 16000000
      · rw [if_pos q] at e'
        cases e'
        obtain ⟨v, w, rfl, r1, r2⟩ := plain_two c o e1 e2
        exact two_l ⟨v, w, rfl, .inr (.inl ⟨a, b, r1.toStr, r2.toStr, small16 q, end_scal c k fun F => .str _⟩)⟩
      · rw [if_neg q] at e'
        cases e'
    · split at e'
      · rename_i ds es e1 e2
        by_cases q : ds.length + es.length ≤ 16000000
        · rw [if_pos q] at e'
          cases e'
          exact add_tups e1 e2 q c o k
        · rw [if_neg q] at e'
          cases e'
      · exact two_l (add_lists e' c o k)
def repD (ds : List D) (n : Nat) : List D := (List.replicate n ds).flatten
def gMul : List R → Option R
  | [x, y] => match x.er, y.er with
    | some (.int a), some (.int b) => if okMul a b = true then some (rInt (a * b)) else none
    | _, some (.int k) => x.lst?.bind fun ds => if (-4000000 ≤ k ∧ k ≤ 4000000) ∧ ds.length * k.toNat ≤ 16000000 then some (.val (.fl (repD ds k.toNat))) else none
    | _, _ => none
  | _ => none
def rMulAll : R2 := fun x y H Q => (rI CMul fun i j => .int (i * j)) x y H Q ∨ rRep x y H Q
theorem op_mulAll : OpR X (binaryOp .Mult) rMulAll := OpR.or op_mul op_rep
theorem RepL.repn {xs : List V} {ds : List D} (r : RepL K F xs ds) : ∀ n : Nat, RepL K F (List.replicate n xs).flatten (List.replicate n ds).flatten
  | 0 => .nil
  | n + 1 => by
    rw [List.replicate_succ, List.replicate_succ, List.flatten_cons, List.flatten_cons]
    exact r.append (RepL.repn r n)
theorem vr_mul : VR K (two rMulAll) gMul := by
  intro rs z e F B H vs A Q c o k
  match rs, e with
  | [x, y], e =>
    have e' : (match x.er, y.er with
    | some (.int a), some (.int b) => if okMul a b = true then some (rInt (a * b)) else none
    | _, some (.int k) => x.lst?.bind fun ds => if (-4000000 ≤ k ∧ k ≤ 4000000) ∧ ds.length * k.toNat ≤ 16000000 then some (.val (.fl (repD ds k.toNat))) else none
    | _, _ => none) = some z := e
    split at e'
    · rename_i a b e1 e2
      by_cases q : okMul a b = true
      · rw [if_pos q] at e'
        cases e'
        obtain ⟨v, w, rfl, r1, r2⟩ := plain_two c o e1 e2
        have q' : (-(2 ^ 64) < a ∧ a < 2 ^ 64) ∨ (-(2 ^ 64) < b ∧ b < 2 ^ 64) := of_decide_eq_true q
        exact ⟨v, w, rfl, .inl ⟨a, b, r1.toInt, r2.toInt, q', end_scal c k fun F => .int _⟩⟩
      · rw [if_neg q] at e'
        cases e'
    · rename_i n e2 _
      obtain ⟨ds, e1, e'⟩ := Option.bind_eq_some_iff.mp e'
      by_cases q : (-4000000 ≤ n ∧ n ≤ 4000000) ∧ ds.length * n.toNat ≤ 16000000
      · rw [if_pos q] at e'
        cases e'
        obtain ⟨v, w, A1, A2, rfl, o1, o2, g, c1, s, h1, h2⟩ := rs_two c o
        obtain ⟨a, xs, rfl, ha, za, ra⟩ := lst_of o1 e1 h1 s c1.fh c1.bh
        have rw' : Rep K H w (.int n) := o2.rep c.fh c.bh (fun _ _ _ q => q) e2
        have hz : xs.length * n.toNat ≤ sizeLine := by
          rw [ra.length]
          exact small16 q.2
        have hz' : ((List.replicate n.toNat xs).flatten).length ≤ sizeLine := by
          rw [List.length_flatten, List.map_replicate, List.sum_replicate_nat, Nat.mul_comm]
          exact hz
        exact ⟨_, _, rfl, .inr ⟨a, n, xs, rfl, rw'.toInt, ha, by omega, by omega, hz, new_list g c1 hz' (ra.repn _) k⟩⟩
      · rw [if_neg q] at e'
        cases e'
    · cases e'

mutual
theorem Rep.dp : ∀ (d : D) {v : V}, d.canLay0 = true → Rep K H v d → Dp K H v d
  | .none, _, _, r => by
    cases r
    exact .non
  | .bool b, _, _, r => by
    cases r
    exact .bl b
  | .int i, _, _, r => by
    cases r
    exact .int i
  | .str x, _, _, r => by
    cases r
    exact .str x
  | .list ds, _, e, r => by
    cases r with
    | lst h1 h2 h3 => exact .lst (SqL.of h1) (RepL.dp ds (by simpa only [PyData.canLay0] using e) h3)
  | .tuple ds, _, e, r => by
    cases r with
    | tup h1 h2 h3 => exact .tup h1 (RepL.dp ds (by simpa only [PyData.canLay0] using e) h3)
  | .dict es, _, e, r => by simp only [PyData.canLay0] at e; cases e
theorem RepL.dp : ∀ (ds : List D) {vs : List V}, PyData.canLayAll0 ds = true → RepL K H vs ds → DpAll K H vs ds
  | [], _, _, r => by
    cases r
    exact .nil
  | d :: ds, _, e, r => by
    cases r with
    | cons r1 r2 =>
      have e' : (d.canLay0 && PyData.canLayAll0 ds) = true := by simpa only [PyData.canLayAll0] using e
      rw [Bool.and_eq_true] at e'
      exact .cons (Rep.dp d e'.1 r1) (RepL.dp ds e'.2 r2)
end
theorem shaped_lay {d : D} (h : SeqAt.shaped d = true) : d.canLay0 = true := by
  have h' : (d.canLay0 && decide (d.depth ≤ 64)) = true := h
  rw [Bool.and_eq_true] at h'
  exact h'.1
def pEq : List D → Option D
  | [a, b] => if SeqAt.shaped a = true ∧ SeqAt.shaped b = true then some (.bool (PyData.eqv a b)) else none
  | _ => none
def pNe : List D → Option D
  | [a, b] => if SeqAt.shaped a = true ∧ SeqAt.shaped b = true then some (.bool (!PyData.eqv a b)) else none
  | _ => none
theorem vr_eq : VR K (two (rEqD K)) (gp pEq) := VR.plain fun ds d e H vs Q r k => by
  match ds, e with
  | [a, b], e =>
    have e' : (if SeqAt.shaped a = true ∧ SeqAt.shaped b = true then some (PyData.bool (PyData.eqv a b)) else none) = some d := e
    by_cases q : SeqAt.shaped a = true ∧ SeqAt.shaped b = true
    · rw [if_pos q] at e'
      cases e'
      obtain ⟨v, w, rfl, r1, r2⟩ := r.two
      exact ⟨v, w, rfl, a, b, r1.dp a (shaped_lay q.1), r2.dp b (shaped_lay q.2), q.1, q.2, k _ fun F => .bl _⟩
    · rw [if_neg q] at e'
      cases e'
theorem vr_ne : VR K (two (rNeD K)) (gp pNe) := VR.plain fun ds d e H vs Q r k => by
  match ds, e with
  | [a, b], e =>
    have e' : (if SeqAt.shaped a = true ∧ SeqAt.shaped b = true then some (PyData.bool (!PyData.eqv a b)) else none) = some d := e
    by_cases q : SeqAt.shaped a = true ∧ SeqAt.shaped b = true
    · rw [if_pos q] at e'
      cases e'
      obtain ⟨v, w, rfl, r1, r2⟩ := r.two
      exact ⟨v, w, rfl, a, b, r1.dp a (shaped_lay q.1), r2.dp b (shaped_lay q.2), q.1, q.2, k _ fun F => .bl _⟩
    · rw [if_neg q] at e'
      cases e'
def isNone : D → Bool
  | .none => true
  | _ => false
def pIsN : List D → Option D
  | [a, .none] => some (.bool (isNone a))
  | _ => none
def pNotN : List D → Option D
  | [a, .none] => some (.bool (!isNone a))
  | _ => none
theorem isNone_of {v : V} {a : D} (r : Rep K H v a) : decide (v = V.non) = isNone a := by
  cases r <;> simp [isNone]
theorem vr_isN : VR K (two fun x y H Q => y = .non ∧ Q (.bl (decide (x = .non))) H) (gp pIsN) := VR.plain fun ds d e H vs Q r k => by
  match ds, e with
  | [a, .none], e =>
    cases e
    obtain ⟨v, w, rfl, r1, r2⟩ := r.two
    refine ⟨v, w, rfl, r2.toNon, ?_⟩
    rw [isNone_of r1]
    exact k _ fun F => .bl _
theorem RepL.atI {xs : List V} {ds : List D} {i : Int} {d : D} (r : RepL K F xs ds) (e : atI ds i = some d) : ∃ v, L2.atI xs i = some v ∧ Rep K F v d := by
  obtain ⟨j, e1, e2⟩ := Option.bind_eq_some_iff.mp (show (ixN ds.length i).bind (fun j => ds[j]?) = some d from e)
  obtain ⟨v, e3, e4⟩ := r.get e2
  refine ⟨v, ?_, e4⟩
  show (ixN xs.length i).bind (fun j => xs[j]?) = some v
  rw [r.length, e1]
  exact e3
theorem OwnL.get : ∀ {vs : List V} {ts : List T} {A : List Addr} {i : Nat} {t : T}, OwnL K F H vs ts A → ts[i]? = some t → ∃ v A', vs[i]? = some v ∧ Own K F H v t A'
  | _, _, _, i, _, .nil, e => by simp at e
  | _, _, _, 0, _, .cons o _, e => by
    simp at e
    subst e
    exact ⟨_, _, rfl, o⟩
  | _, _, _, i + 1, t, .cons _ os, e => by
    obtain ⟨v, A', h1, h2⟩ := OwnL.get (i := i) (t := t) os (by simpa using e)
    exact ⟨v, A', by simpa using h1, h2⟩
theorem OwnL.length : ∀ {vs : List V} {ts : List T} {A : List Addr}, OwnL K F H vs ts A → vs.length = ts.length
  | _, _, _, .nil => rfl
  | _, _, _, .cons _ os => congrArg (· + 1) (OwnL.length os)
theorem OwnL.atI {xs : List V} {ts : List T} {i : Int} {t : T} (r : OwnL K F H xs ts A) (e : L2.atI ts i = some t) : ∃ v A', L2.atI xs i = some v ∧ Own K F H v t A' := by
  obtain ⟨j, e1, e2⟩ := Option.bind_eq_some_iff.mp (show (ixN ts.length i).bind (fun j => ts[j]?) = some t from e)
  obtain ⟨v, A', e3, e4⟩ := r.get e2
  refine ⟨v, A', ?_, e4⟩
  show (ixN xs.length i).bind (fun j => xs[j]?) = some v
  rw [r.length, e1]
  exact e3
/-- the pieces of a thing seen through a glass -/
def R.parts : R → Option (Bool × List T)
  | .vw (.ls ts) => some (true, ts)
  | .vw (.tup ts) => some (false, ts)
  | _ => none
def gIx : List R → Option R
  | [x, y] => match y.er with
    | some (.int i) => match x.its with
      | some (_, ds) => (atI ds i).map rd
      | none => match x.parts with
        | some (_, ts) => (atI ts i).map .vw
        | none => match x.er with
          | some (.str z) => if z.length ≤ 16000000 then (atI z.cps.toList i).map fun c => rd (.str ⟨#[c]⟩) else none
          | _ => none
    | _ => none
  | _ => none
theorem vr_ix : VR K (two (rIx K)) gIx := by
  intro rs z e F B H vs A Q c o k
  match rs, e with
  | [x, y], e =>
    have e' : (match y.er with
    | some (.int i) => match x.its with
      | some (_, ds) => (atI ds i).map rd
      | none => match x.parts with
        | some (_, ts) => (atI ts i).map .vw
        | none => match x.er with
          | some (.str z) => if z.length ≤ 16000000 then (atI z.cps.toList i).map fun c => rd (.str ⟨#[c]⟩) else none
          | _ => none
    | _ => none) = some z := e
    obtain ⟨v, w, A1, A2, rfl, o1, o2, g, c1, s, h1, h2⟩ := rs_two c o
    split at e'
    · rename_i i ey
      have rw' : Rep K H w (.int i) := o2.rep c.fh c.bh (fun _ _ _ q => q) ey
      split at e'
      · rename_i isL ds ex
        obtain ⟨d, e1, e2⟩ := Option.map_eq_some_iff.mp e'
        subst e2
        obtain ⟨a, xs, rfl, ha, za, ra⟩ := seq_of o1 ex h1 s c1.fh c1.bh
        obtain ⟨u, e3, e4⟩ := ra.atI e1
        have q : Q u H := k _ H u [] g c1 (.leaf e4)
        refine ⟨_, _, rfl, ?_⟩
        cases isL with
        | true => exact .inl ⟨a, xs, i, u, rfl, rw'.toInt, ha, e3, q⟩
        | false => exact .inr (.inl ⟨a, xs, i, u, rfl, rw'.toInt, ha, e3, q⟩)
      · split at e'
        · rename_i isL ts ex
          obtain ⟨t, e1, e2⟩ := Option.map_eq_some_iff.mp e'
          subst e2
          cases x with
          | val t => cases ex
          | vw t0 =>
            obtain ⟨e0, A', ow⟩ := o1
            cases t0 with
            | ls ts0 =>
              cases ex
              cases ow with
              | ls h3 h4 h5 =>
                obtain ⟨u, A3, e3, e4⟩ := h5.atI e1
                exact ⟨_, _, rfl, .inl ⟨_, _, i, u, rfl, rw'.toInt, SqL.of (c.bh _ _ h3), e3, k F H u [] (Go.less fun _ m => nomatch m) (c.sub .nil fun _ m => nomatch m) ⟨rfl, A3, e4⟩⟩⟩
            | tup ts0 =>
              cases ex
              cases ow with
              | tup h3 h4 h5 =>
                obtain ⟨u, A3, e3, e4⟩ := h5.atI e1
                exact ⟨_, _, rfl, .inr (.inl ⟨_, _, i, u, rfl, rw'.toInt, sameT c.fh h3, e3, k F H u [] (Go.less fun _ m => nomatch m) (c.sub .nil fun _ m => nomatch m) ⟨rfl, A3, e4⟩⟩)⟩
            | _ => cases ex
        · split at e'
          · rename_i y ex
            by_cases q : y.length ≤ 16000000
            · rw [if_pos q] at e'
              obtain ⟨ch, e1, e2⟩ := Option.map_eq_some_iff.mp e'
              subst e2
              have rv : Rep K H v (.str y) := o1.rep c.fh c.bh (fun _ _ _ q => q) ex
              exact ⟨_, _, rfl, .inr (.inr ⟨y, i, ch, rv.toStr, rw'.toInt, small16 q, e1, end_scal c k fun F => .str _⟩)⟩
            · rw [if_neg q] at e'
              cases e'
          · cases e'
    · cases e'

def gLen : List R → Option R
  | [x] => match x.its with
    | some (_, ds) => some (rInt ds.length)
    | none => match x.parts with
      | some (_, ts) => some (rInt ts.length)
      | none => match x.er with
        | some (.str z) => if z.length ≤ 16000000 then some (rInt z.length) else none
        | _ => none
  | _ => none
theorem vr_len : VR K (fun xs H Q => ∃ x n, xs = [x] ∧ LenV K x H n ∧ Q (.int (n : Nat)) H) gLen := by
  intro rs z e F B H vs A Q c o k
  match rs, e with
  | [x], e =>
    have e' : (match x.its with
    | some (_, ds) => some (rInt ds.length)
    | none => match x.parts with
      | some (_, ts) => some (rInt ts.length)
      | none => match x.er with
        | some (.str z) => if z.length ≤ 16000000 then some (rInt z.length) else none
        | _ => none) = some z := e
    obtain ⟨v, A1, rfl, o1, g, c1, s, h1⟩ := rs_one c o
    split at e'
    · rename_i isL ds ex
      cases e'
      obtain ⟨a, xs, rfl, ha, za, ra⟩ := seq_of o1 ex h1 s c1.fh c1.bh
      rw [← ra.length] at k
      refine ⟨_, xs.length, rfl, ?_, end_scal c k fun F => .int _⟩
      cases isL with
      | true => exact .inl ⟨xs, ha, rfl⟩
      | false => exact .inr ⟨xs, ha, rfl⟩
    · split at e'
      · rename_i isL ts ex
        cases e'
        cases x with
        | val t => cases ex
        | vw t0 =>
          obtain ⟨e0, A', ow⟩ := o1
          cases t0 with
          | ls ts0 =>
            cases ex
            cases ow with
            | ls h3 h4 h5 =>
              rw [← h5.length] at k
              exact ⟨_, _, rfl, .inl ⟨_, SqL.of (c.bh _ _ h3), rfl⟩, end_scal c k fun F => .int _⟩
          | tup ts0 =>
            cases ex
            cases ow with
            | tup h3 h4 h5 =>
              rw [← h5.length] at k
              exact ⟨_, _, rfl, .inr ⟨_, sameT c.fh h3, rfl⟩, end_scal c k fun F => .int _⟩
          | _ => cases ex
      · split at e'
        · rename_i y ex
          by_cases q : y.length ≤ 16000000
          · rw [if_pos q] at e'
            cases e'
            have rv : Rep K H v (.str y) := o1.rep c.fh c.bh (fun _ _ _ q => q) ex
            cases rv.toStr
            exact ⟨_, y.length, rfl, ⟨small16 q, rfl⟩, end_scal c k fun F => .int _⟩
          · rw [if_neg q] at e'
            cases e'
        · cases e'
def pAbs : List D → Option D
  | [.int a] => some (.int (if a < 0 then -a else a))
  | _ => none
theorem vr_abs : VR K (fun xs H Q => ∃ i, xs = [.int i] ∧ Q (.int (if i < 0 then -i else i)) H) (gp pAbs) := VR.plain fun ds d e H vs Q r k => by
  match ds, e with
  | [.int a], e =>
    cases e
    obtain ⟨v, rfl, r1⟩ := r.one
    cases r1.toInt
    exact ⟨a, rfl, k _ fun F => .int _⟩
def pMin2 : List D → Option D
  | [.int a, .int b] => some (.int (if b < a then b else a))
  | _ => none
def pMax2 : List D → Option D
  | [.int a, .int b] => some (.int (if b > a then b else a))
  | _ => none
theorem vr_min2 : VR K (fun xs H Q => ∃ i j, xs = [.int i, .int j] ∧ Q (.int (if j < i then j else i)) H) (gp pMin2) := VR.plain fun ds d e H vs Q r k => by
  match ds, e with
  | [.int a, .int b], e =>
    cases e
    obtain ⟨v, w, rfl, r1, r2⟩ := r.two
    cases r1.toInt
    cases r2.toInt
    exact ⟨a, b, rfl, k _ fun F => .int _⟩
theorem vr_max2 : VR K (fun xs H Q => ∃ i j, xs = [.int i, .int j] ∧ Q (.int (if j > i then j else i)) H) (gp pMax2) := VR.plain fun ds d e H vs Q r k => by
  match ds, e with
  | [.int a, .int b], e =>
    cases e
    obtain ⟨v, w, rfl, r1, r2⟩ := r.two
    cases r1.toInt
    cases r2.toInt
    exact ⟨a, b, rfl, k _ fun F => .int _⟩
def pInt : List D → Option D
  | [.int a] => some (.int a)
  | [.bool b] => some (.int (if b = true then 1 else 0))
  | _ => none
theorem vr_int : VR K (fun xs H Q => (∃ i, xs = [.int i] ∧ Q (.int i) H) ∨ ∃ k, xs = [.bl k] ∧ Q (.int (if k then 1 else 0)) H) (gp pInt) := VR.plain fun ds d e H vs Q r k => by
  match ds, e with
  | [.int a], e =>
    cases e
    obtain ⟨v, rfl, r1⟩ := r.one
    cases r1.toInt
    exact .inl ⟨a, rfl, k _ fun F => .int _⟩
  | [.bool a], e =>
    cases e
    obtain ⟨v, rfl, r1⟩ := r.one
    cases r1.toBl
    exact .inr ⟨a, rfl, k _ fun F => .int _⟩
/-- list(..) of a list, a tuple -/
def gList : List R → Option R
  | [x] => x.its.map fun p => .val (.fl p.2)
  | _ => none
theorem vr_list : VR K (fun xs H Q => ∃ p ys, xs = [.ref p] ∧ (SqL K H p ys ∨ SqT K H p ys) ∧ ∀ l, H l = none → Q (.ref l) (upd H l (.lst ys))) gList := by
  intro rs z e F B H vs A Q c o k
  match rs, e with
  | [x], e =>
    obtain ⟨⟨isL, ds⟩, e1, e2⟩ := Option.map_eq_some_iff.mp (show x.its.map _ = some z from e)
    subst e2
    obtain ⟨v, A1, rfl, o1, g, c1, s, h1⟩ := rs_one c o
    obtain ⟨a, xs, rfl, ha, za, ra⟩ := seq_of o1 e1 h1 s c1.fh c1.bh
    refine ⟨a, xs, rfl, ?_, new_list g c1 za ra k⟩
    cases isL with
    | true => exact .inl ha
    | false => exact .inr ha
/-- tuple(..) -/
def gTuple : List R → Option R
  | [x] => x.its.map fun p => rd (.tuple p.2)
  | _ => none
theorem vr_tuple : VR K (fun xs H Q => ∃ p ys, xs = [.ref p] ∧ ((SqL K H p ys ∧ ∀ l, H l = none → Q (.ref l) (upd H l (.tup ys))) ∨ (SqT K H p ys ∧ Q (.ref p) H))) gTuple := by
  intro rs z e F B H vs A Q c o k
  match rs, e with
  | [x], e =>
    obtain ⟨⟨isL, ds⟩, e1, e2⟩ := Option.map_eq_some_iff.mp (show x.its.map _ = some z from e)
    subst e2
    obtain ⟨v, A1, rfl, o1, g, c1, s, h1⟩ := rs_one c o
    obtain ⟨a, xs, rfl, ha, za, ra⟩ := seq_of o1 e1 h1 s c1.fh c1.bh
    refine ⟨a, xs, rfl, ?_⟩
    cases isL with
    | true => exact .inl ⟨ha, new_tup g c1 za ra k⟩
    | false =>
      refine .inr ⟨ha, ?_⟩
      have rr : Rep K (joinH F H A) (.ref a) (.tuple ds) := by
        cases x with
        | val t =>
          cases q : t.fz with
          | none =>
            have e' := e1
            simp only [R.its, q] at e'
            cases e'
          | some d =>
            have e' := e1
            simp only [R.its, q] at e'
            have rr := Own.rep s o1 h1 q
            cases d with
            | tuple es =>
              cases e'
              exact rr
            | _ => cases e'
        | vw t =>
          obtain ⟨e0, A', ow⟩ := o1
          cases t with
          | leaf d =>
            cases ow with
            | leaf rr =>
              cases d with
              | tuple es =>
                cases e1
                exact rr.mono s
              | _ => cases e1
          | _ => cases e1
      exact k _ H _ [] g c1 (.leaf rr)
/-- all, any of a list of truths -/
def boolsD : List D → Option (List Bool)
  | [] => some []
  | .bool b :: r => (boolsD r).map (b :: ·)
  | _ => none
theorem boolsD_map : ∀ {ds : List D} {bs : List Bool}, boolsD ds = some bs → ds = bs.map PyData.bool
  | [], _, e => by
    cases e
    rfl
  | .bool b :: r, _, e => by
    obtain ⟨bs, e1, e2⟩ := Option.map_eq_some_iff.mp (show (boolsD r).map (b :: ·) = some _ from e)
    subst e2
    rw [boolsD_map e1]
    rfl
def gAll : List R → Option R
  | [x] => x.its.bind fun p => if p.1 = true then (boolsD p.2).map fun bs => rBool (bs.all id) else none
  | _ => none
def gAny : List R → Option R
  | [x] => x.its.bind fun p => if p.1 = true then (boolsD p.2).map fun bs => rBool (bs.any id) else none
  | _ => none
end
end Tl

namespace Tl
open PySem PySem.Spec PyProof.Rows L2

section
variable {K : PySem.W.Frag} {F F1 B H : Hp} {A : List Addr} {X : Cx}
theorem RepL.boolsOf : ∀ {vs : List V} {ds : List D} {bs : List Bool}, RepL K F vs ds → boolsD ds = some bs → vs = bs.map V.bl := fun r e => by
  rw [boolsD_map e] at r
  exact r.bools
theorem vr_all : VR K (rAll K) gAll := by
  intro rs z e F B H vs A Q c o k
  match rs, e with
  | [x], e =>
    obtain ⟨⟨isL, ds⟩, e1, e⟩ := Option.bind_eq_some_iff.mp (show x.its.bind _ = some z from e)
    obtain ⟨v, A1, rfl, o1, g, c1, s, h1⟩ := rs_one c o
    obtain ⟨a, xs, rfl, ha, za, ra⟩ := seq_of o1 e1 h1 s c1.fh c1.bh
    cases isL with
    | false => cases e
    | true =>
      obtain ⟨bs, e2, e3⟩ := Option.map_eq_some_iff.mp (show (boolsD ds).map _ = some z from e)
      subst e3
      have ev := ra.boolsOf e2
      subst ev
      exact ⟨a, bs, rfl, ha, end_scal c k fun F => .bl _⟩
/-- lists of whole numbers -/
def intsD : List D → Option (List Int)
  | [] => some []
  | .int b :: r => (intsD r).map (b :: ·)
  | _ => none
/-- the greatest, the least of a list -/
def gMax : List R → Option R
  | [x] => x.its.bind fun p => if p.1 = true then (intsD p.2).bind fun ns => ns.max?.map rInt else none
  | _ => none
def gMin : List R → Option R
  | [x] => x.its.bind fun p => if p.1 = true then (intsD p.2).bind fun ns => ns.min?.map rInt else none
  | _ => none
def cutD (xs : List D) (lo hi : Option Int) : List D := (xs.drop (HT.sIx xs.length 0 lo)).take (HT.sIx xs.length xs.length hi - HT.sIx xs.length 0 lo)
theorem RepL.cut {xs : List V} {ds : List D} (r : RepL K F xs ds) (lo hi : Option Int) : RepL K F (cutV xs lo hi) (cutD ds lo hi) := by
  unfold cutV cutD
  rw [r.length]
  exact (r.drop _).take _
/-- one end of a slice -/
abbrev MO := Ro → Tau → Option (Option Int × Tau)
structure OV (K : PySem.W.Frag) (t : TO) (m : MO) : Prop where
  run : ∀ (ro : Ro) (τ : Tau) (r : Option Int) (τ' : Tau), m ro τ = some (r, τ') → ∀ (F B H : Hp) (σ : L2.St) (A : List Addr) (Q : Option Int → Hp → Prop), At K F B H σ ro τ A →
    (∀ (F' H' : Hp) (A2 : List Addr), Go F H A F' H' A2 → Cn F' B H' A2 → TauOk K F' H' σ τ' A2 → Q r H') → t σ H Q
def oNone : MO := fun _ τ => some (none, τ)
def asI : R → Option Int
  | .val (.leaf (.int i)) => some i
  | _ => none
def oSome (m : MV) : MO := fun ro τ => (m ro τ).bind fun p => (asI p.1).map fun i => (some i, p.2)
theorem ov_none : OV K tNoPart oNone := ⟨fun ro τ r τ' em F B H σ A Q a k => by
  cases em
  exact k F H A Go.refl a.cn a.tau⟩
theorem asI_of {r : R} {i : Int} {v : V} (h : asI r = some i) (o : ROk K F B H r v A) : v = .int i := by
  cases r with
  | vw t => cases h
  | val t =>
    cases t with
    | leaf d =>
      cases d with
      | int c =>
        cases h
        cases o with
        | leaf r => exact r.toInt
      | _ => cases h
    | _ => cases h
theorem ov_some {t : TE} {m : MV} (h : EV K t m) : OV K (tPart t) (oSome m) := ⟨fun ro τ r τ' em F B H σ A Q a k => by
  obtain ⟨⟨z, τ1⟩, e1, em⟩ := Option.bind_eq_some_iff.mp em
  obtain ⟨i, e2, em⟩ := Option.map_eq_some_iff.mp em
  cases em
  exact h.run ro τ z _ e1 F B H σ A _ a fun F1 H1 v A1 A2 g1 c1 o1 t1 => ⟨i, asI_of e2 o1, k F1 H1 A2 (g1.trans (Go.less fun _ m => List.mem_append_right _ m)) c1.right t1⟩⟩
/-- x[lo:hi] of a list, a tuple, a text -/
def cutR (r : R) (lo hi : Option Int) : Option R := match r.its with
  | some (true, ds) => some (.val (.fl (cutD ds lo hi)))
  | some (false, ds) => some (rd (.tuple (cutD ds lo hi)))
  | none => match r.er with
    | some (.str z) => if z.length ≤ 16000000 then some (rd (.str (cutS z lo hi))) else none
    | _ => none
def mCut (m : MV) (l h : MO) : MV := fun ro τ => (m ro τ).bind fun p => (l ro p.2).bind fun q => (h ro q.2).bind fun w => (cutR p.1 q.1 w.1).map fun r => (r, w.2)
theorem cut_end {r z : R} {lo hi : Option Int} {v : V} {Q : VK} (e : cutR r lo hi = some z) (c : Cn F B H A) (o : ROk K F B H r v A)
    (k : ∀ (F' H' : Hp) (u : V) (A' : List Addr), Go F H A F' H' A' → Cn F' B H' A' → ROk K F' B H' z u A' → Q u H') : rSlL K v lo hi H Q ∨ rSlA K v lo hi H Q ∨ rSlS v lo hi H Q := by
  have c' : Cn F B H (A ++ []) := by
    rw [List.append_nil]
    exact c
  obtain ⟨g, c1, s, h⟩ := c'.freeze
  rw [List.append_nil] at g
  have e' : (match r.its with
  | some (true, ds) => some (.val (.fl (cutD ds lo hi)))
  | some (false, ds) => some (rd (.tuple (cutD ds lo hi)))
  | none => match r.er with
    | some (.str z) => if z.length ≤ 16000000 then some (rd (.str (cutS z lo hi))) else none
    | _ => none) = some z := e
  split at e'
  · rename_i ds ex
    cases e'
    obtain ⟨a, xs, rfl, ha, za, ra⟩ := seq_of o ex h s c1.fh c1.bh
    exact .inl ⟨a, xs, rfl, ha, new_list g c1 (Nat.le_trans (cutV_length xs lo hi) za) (ra.cut lo hi) k⟩
  · rename_i ds ex
    cases e'
    obtain ⟨a, xs, rfl, ha, za, ra⟩ := seq_of o ex h s c1.fh c1.bh
    refine .inr (.inl ⟨a, xs, rfl, ha, fun w => ?_, fun _ => new_tup g c1 (Nat.le_trans (cutV_length xs lo hi) za) (ra.cut lo hi) k⟩)
    have ev : cutD ds lo hi = ds := by
      unfold cutD
      rw [← ra.length, w.1, w.2, Nat.sub_zero, List.drop_zero, ra.length]
      exact List.take_length
    rw [ev] at k
    have rr : Rep K (joinH F H A) (.ref a) (.tuple ds) := by
      cases r with
      | val t =>
        cases q : t.fz with
        | none =>
          simp only [R.its, q] at ex
          cases ex
        | some d =>
          simp only [R.its, q] at ex
          have rr := Own.rep s o h q
          cases d with
          | tuple es =>
            cases ex
            exact rr
          | _ => cases ex
      | vw t =>
        obtain ⟨e0, A', ow⟩ := o
        cases t with
        | leaf d =>
          cases ow with
          | leaf rr =>
            cases d with
            | tuple es =>
              cases ex
              exact rr.mono s
            | _ => cases ex
        | _ => cases ex
    exact k _ H _ [] g c1 (.leaf rr)
  · split at e'
    · rename_i y ex
      by_cases q : y.length ≤ 16000000
      · rw [if_pos q] at e'
        cases e'
        have rv : Rep K H v (.str y) := o.rep c.fh c.bh (fun _ _ _ q => q) ex
        exact .inr (.inr ⟨y, rv.toStr, small16 q, end_scal c k fun F => .str _⟩)
      · rw [if_neg q] at e'
        cases e'
    · cases e'
theorem sl_all : SlR X fun x lo hi H Q => rSlL X.K x lo hi H Q ∨ rSlA X.K x lo hi H Q ∨ rSlS x lo hi H Q := sl_list.or (sl_tupA.or sl_str)
theorem er_cut {a : Expr} {lo hi : Option Expr} {m : MV} {ml mh : MO} {tl th : TO} {p2 pos : Pos} (he : ER X a m) (hl : PO X lo tl) (ol : OV X.K tl ml) (hh : PO X hi th) (oh : OV X.K th mh) : ER X (.Subscript a (.Slice lo hi none p2) pos) (mCut m ml mh) :=
  ⟨fun ro τ r τ' em F B H σ A Q at_ k => by
  obtain ⟨⟨z, τ1⟩, e1, em⟩ := Option.bind_eq_some_iff.mp em
  obtain ⟨⟨i, τ2⟩, e2, em⟩ := Option.bind_eq_some_iff.mp em
  obtain ⟨⟨j, τ3⟩, e3, em⟩ := Option.bind_eq_some_iff.mp em
  obtain ⟨r', e4, em⟩ := Option.map_eq_some_iff.mp em
  cases em
  refine wE (pe_slice sl_all peW hl hh) (he.run ro τ z τ1 e1 F B H σ A _ at_ fun F1 H1 v A1 A2 g1 c1 o1 t1 => ?_)
  refine ol.run ro τ1 i τ2 e2 F1 B H1 σ A2 _ (at_.next g1 c1 t1) fun F2 H2 A3 g2 c2 t2 => ?_
  obtain ⟨g2', c2'⟩ := Go.framed c1 g2 c2
  have o2 := Go.ros c1 g2 o1
  have at2 : At X.K F2 B H2 σ ro τ2 A3 := ⟨c2, at_.ro.mono (g1.ff.trans g2.ff), t2⟩
  refine oh.run ro τ2 j _ e3 F2 B H2 σ A3 _ at2 fun F3 H3 A4 g3 c3 t3 => ?_
  obtain ⟨g3', c3'⟩ := Go.framed c2' g3 c3
  have o3 := Go.ros c2' g3 o2
  refine cut_end e4 c3'.left o3 fun F4 H4 u A5 g4 c4 o4 => ?_
  obtain ⟨g5, c5⟩ := Go.framedR c3' g4 c4
  exact k F4 H4 u A5 A4 (((g1.trans g2').trans g3').trans g5) c5 o4 (t3.stay g4.ff fun b m w q => g4.keep b w (fun z => c3'.apart b z m) q)⟩

def okShow (d : D) : Bool := d.canLay0 && d.showable && decide (d.depth ≤ 150) && decide (d.shown.length ≤ 16000000)
def strOf : D → Str
  | .str x => x
  | d => d.shown
def pStr : List D → Option D
  | [d] => if okShow d = true then some (.str (strOf d)) else none
  | _ => none
def pRepr : List D → Option D
  | [d] => if okShow d = true then some (.str d.shown) else none
  | _ => none
def rRepr (K : PySem.W.Frag) : List V → Hp → VK → Prop := fun xs H Q => ∃ x d, xs = [x] ∧ Dp K H x d ∧ okShow d = true ∧ Q (.str d.shown) H
theorem okShow_all {d : D} (h : okShow d = true) : d.canLay0 = true ∧ d.showable = true ∧ d.depth ≤ 150 ∧ d.shown.length ≤ sizeLine := by
  have h' : (d.canLay0 && d.showable && decide (d.depth ≤ 150) && decide (d.shown.length ≤ 16000000)) = true := h
  simp only [Bool.and_eq_true, decide_eq_true_eq] at h'
  exact ⟨h'.1.1.1, h'.1.1.2, h'.1.2, small16 h'.2⟩
theorem call_repr {j : Nat} (hr : RmG j X.A) : CallR X (.builtin "repr") (rRepr X.K) := by
  intro pins s σ H xs us Q I r h
  obtain ⟨x, d, rfl, hd, ok, q⟩ := h
  obtain ⟨o1, o2, o3, o4⟩ := okShow_all ok
  obtain ⟨u, rfl, ru⟩ := vals1 r
  obtain ⟨as, rr⟩ := Dp.reads I d x u hd ru
  have un := hr.rm.un
  cases hd with
  | non =>
    cases ru
    exact PySem.P.repr_of_none ⟨.str _, H, I.tok _, ⟨_, rfl⟩, q⟩
  | bl b =>
    cases ru
    exact PySem.P.repr_of_bool ⟨.str _, H, I.tok _, ⟨_, rfl⟩, q⟩
  | int i =>
    obtain ⟨t, rfl⟩ := ru
    exact PySem.P.repr_of_int (of_decide_eq_true (by simpa only [PyData.showable] using o2)) ⟨.str _, H, I.tok _, ⟨_, rfl⟩, q⟩
  | str y =>
    obtain ⟨t, rfl⟩ := ru
    exact PySem.P.repr_of_str ⟨.str _, H, I.tok _, ⟨_, rfl⟩, q⟩ o4
  | lst h1 h2 =>
    cases ru
    refine repr_of_reads' (h₀ := s.heap) rr o2 (PyData.noDict_hsm (PyData.hasDict_of_canLay _ o1)) hr.gd (by omega) (fun _ _ e => e) (fun h' u tk hk => ?_) o4
    exact ⟨.str _, H, I.kept hk, ⟨_, rfl⟩, q⟩
  | tup h1 h2 =>
    cases ru
    refine repr_of_reads' (h₀ := s.heap) rr o2 (PyData.noDict_hsm (PyData.hasDict_of_canLay _ o1)) hr.gd (by omega) (fun _ _ e => e) (fun h' u tk hk => ?_) o4
    exact ⟨.str _, H, I.kept hk, ⟨_, rfl⟩, q⟩
theorem vr_repr : VR K (rRepr K) (gp pRepr) := VR.plain fun ds d e H vs Q r k => by
  match ds, e with
  | [a], e =>
    have e' : (if okShow a = true then some (PyData.str a.shown) else none) = some d := e
    by_cases q : okShow a = true
    · rw [if_pos q] at e'
      cases e'
      obtain ⟨v, rfl, r1⟩ := r.one
      exact ⟨v, a, rfl, r1.dp a (okShow_all q).1, q, k _ fun F => .str _⟩
    · rw [if_neg q] at e'
      cases e'

def tyD : D → String
  | .none => "NoneType"
  | .bool _ => "bool"
  | .int _ => "int"
  | .str _ => "str"
  | .list _ => "list"
  | .tuple _ => "tuple"
  | .dict _ => "dict"
/-- the type of a value; dicts with tuples as keys too -/
inductive TyZ (K : PySem.W.Frag) (H : Hp) : V → Value → Prop where
  | base {x : V} {t : Value} (h : TyX K H x t) : TyZ K H x t
  | dn {a : Addr} {kvs : List (NK × Addr × V)} (e : H a = some (dnO a kvs)) : TyZ K H (.ref a) (.type "dict")
  | dl {a : Addr} {o : Obj} {kvs : List (NK × Addr × V)} (e : H a = some (.frz o (dnO a kvs))) : TyZ K H (.ref a) (.type "dict")
  | xc {a C : Addr} (e : H a = some (xcO a C none)) (k : XcC K C) : TyZ K H (.ref a) (.ref C)
  | xf {a C dx : Addr} {fs : List (Str × V)} (e : H a = some (xcO a C (some dx))) (k : XcC K C) (g : H dx = some (.xd fs)) : TyZ K H (.ref a) (.ref C)
theorem kitz_of {X : Cx} {pins : List (Addr × Obj)} {σ : L2.St} {H : Hp} {s : Shared} {x : V} {u t : Value} (I : Inv X pins σ H s) (rx : RelV x u) (ty : TyZ X.K H x t) : ∃ P : Heap → Prop, PySem.W.KitX X.K u t P ∧ P s.heap ∧ u ≠ .builtin "__main__.__loader__#opaque" := by
  cases ty with
  | base h => exact kit_of I rx h
  | @dn a kvs ea =>
    cases (show u = Value.ref a from rx)
    obtain ⟨⟨_, _, xs, _, o, es, ep, h1, h2, _⟩, _⟩ := (show ObjOk X.prog X.w H s.heap a (dnO a kvs) from I.hok a _ ea)
    exact ⟨_, PySem.W.kitx_dict, ⟨o, h1, h2.1⟩, fun z => nomatch z⟩
  | @dl a ob kvs ea =>
    cases (show u = Value.ref a from rx)
    obtain ⟨_, ⟨_, _, xs, _, o, es, ep, h1, h2, _⟩, _⟩ := (show ObjOk X.prog X.w H s.heap a (.frz ob (dnO a kvs)) from I.hok a _ ea)
    exact ⟨_, PySem.W.kitx_dict, ⟨o, h1, h2.1⟩, fun z => nomatch z⟩
  | @xc a C ea k =>
    cases (show u = Value.ref a from rx)
    obtain ⟨⟨oe, vs, h1, h2, h3, h4⟩, _⟩ := (show ObjOk X.prog X.w H s.heap a (xcO a C none) from I.hok a _ ea)
    exact ⟨_, PySem.W.kitx_exc k.cl k.ga k.gg k.ex k.ca k.sp k.tk k.ob, (⟨h1, h2, by unfold PySem.W.notCls; rw [h4] <;> rfl, by rw [h3]; trivial⟩ : PySem.W.InstAt s.heap a oe C none), fun z => nomatch z⟩
  | @xf a C dx fs ea k eg =>
    cases (show u = Value.ref a from rx)
    obtain ⟨⟨oe, vs, h1, h2, h3, h4⟩, _⟩ := (show ObjOk X.prog X.w H s.heap a (xcO a C (some dx)) from I.hok a _ ea)
    obtain ⟨mA, ⟨od, es, ep, ho, hr⟩, _⟩ := (show ObjOk X.prog X.w H s.heap dx (.xd fs) from I.hok dx _ eg)
    exact ⟨_, PySem.W.kitx_exc k.cl k.ga k.gg k.ex k.ca k.sp k.tk k.ob, (⟨h1, h2, by unfold PySem.W.notCls; rw [h4] <;> rfl, by rw [h3]; exact ho⟩ : PySem.W.InstAt s.heap a oe C (some od)), fun z => nomatch z⟩
def rIsiZ (K : PySem.W.Frag) : List V → Hp → VK → Prop := fun xs H Q => ∃ (x c : V) (t u : Value) (b : Bool), xs = [x, c] ∧ ClsV c u ∧ TyZ K H x t ∧ PySem.W.kitOne K t u = some b ∧ Q (.bl b) H
def rIsiTZ (K : PySem.W.Frag) : List V → Hp → VK → Prop := fun xs H Q => ∃ (x : V) (tp : Addr) (cs : List V) (t : Value) (us : List Value) (b : Bool), xs = [x, .ref tp] ∧ H tp = some (.tup cs) ∧ Paired ClsV cs us ∧ TyZ K H x t ∧ PySem.W.kitAny K t us = some b ∧ Q (.bl b) H
theorem call_isiZ {X : Cx} : CallR X (.builtin "isinstance") (rIsiZ X.K) := by
  intro pins s σ H xs us Q I r h
  obtain ⟨x, c, t, u, b, rfl, k, ty, e, q⟩ := h
  obtain ⟨u1, u2, rfl, r1, r2⟩ := vals2 r
  have e2 := k.eq r2
  subst e2
  obtain ⟨P, Z, p, hx⟩ := kitz_of I r1 ty
  exact PySem.W.kia_one Z I.kIn p e hx fun tk => ⟨.bl b, H, I.tok tk, rfl, q⟩
theorem call_isiTZ {X : Cx} : CallR X (.builtin "isinstance") (rIsiTZ X.K) := by
  intro pins s σ H xs us Q I r h
  obtain ⟨x, tp, cs, t, ws, b, rfl, hT, k, ty, e, q⟩ := h
  obtain ⟨u1, u2, rfl, r1, r2⟩ := vals2 r
  cases (show u2 = Value.ref tp from r2)
  obtain ⟨P, Z, p, hx⟩ := kitz_of I r1 ty
  obtain ⟨_, its, rv, o, h1, h2, n, h3⟩ := (show ObjOk X.prog X.w H s.heap tp (.tup cs) from I.hok tp _ hT)
  have e3 := ClsV.all k rv
  subst e3
  obtain ⟨oc, od, dt, sl⟩ := o
  simp only at h2 h3
  subst h2 h3
  exact PySem.W.kia_tup Z I.kIn p h1 e hx fun tk => ⟨.bl b, H, I.tok tk, rfl, q⟩
/-- what isinstance says of data for a class -/
structure IsT (n : String) (f : D → Bool) : Prop where
  ok : ∀ d, kitB (tyD d) n = some (f d)
  mem : n ∈ btsX
  dic : ∀ es, f (.dict es) = false
theorem tyX_of {v : V} {d : D} (r : Rep K H v d) : ∃ t, TyZ K H v t ∧ ∀ (n : String) (f : D → Bool), IsT n f → PySem.W.kitOne K t (.type n) = some (f d) := by
  cases r with
  | non => exact ⟨_, .base (.base .non), fun n f t => kit_ty (t.ok .none)⟩
  | bl b => exact ⟨_, .base (.base (.bl b)), fun n f t => kit_ty (t.ok (.bool b))⟩
  | int i => exact ⟨_, .base (.base (.int i)), fun n f t => kit_ty (t.ok (.int i))⟩
  | str x => exact ⟨_, .base (.base (.str x)), fun n f t => kit_ty (t.ok (.str x))⟩
  | @lst _ _ ds h1 _ _ => exact ⟨_, .base (.base (.lst h1)), fun n f t => kit_ty (t.ok (.list ds))⟩
  | @tup _ _ ds h1 _ _ =>
    rcases h1 with (h1 | ⟨o, h1⟩) | ⟨o, its, n, h1, h2, _⟩
    · exact ⟨_, .base (.base (.tup h1)), fun n f t => kit_ty (t.ok (.tuple ds))⟩
    · exact ⟨_, .base (.fTuple h1), fun n f t => kit_ty (t.ok (.tuple ds))⟩
    · exact ⟨_, .base (.kTuple h1 h2), fun n f t => kit_ty (t.ok (.tuple ds))⟩
  | @dk _ _ es h1 _ => exact ⟨_, .base (.base (.dK h1)), fun n f t => kit_ty (t.ok (.dict es))⟩
  | @dn _ _ es h1 _ => exact ⟨_, .dn h1, fun n f t => kit_ty (t.ok (.dict ((.none, .none) :: es)))⟩
  | @dl _ _ _ es h1 _ => exact ⟨_, .dl h1, fun n f t => kit_ty (t.ok (.dict ((.none, .bool true) :: es)))⟩
  | xc h1 k _ => exact ⟨_, .xc h1 k, fun n f t => by rw [k.kb n t.mem, t.dic]⟩
  | xf h1 k _ g _ => exact ⟨_, .xf h1 k g, fun n f t => by rw [k.kb n t.mem, t.dic]⟩
  | ob h0 h1 o _ _ => exact ⟨_, .base (.base (.ins h1 o.cl o.ca o.sp o.tk o.ob)), fun n f t => by rw [o.kb n t.mem, t.dic]⟩
def isIntD : D → Bool
  | .int _ => true
  | .bool _ => true
  | _ => false
def isBoolD : D → Bool
  | .bool _ => true
  | _ => false
def isStrD : D → Bool
  | .str _ => true
  | _ => false
def isListD : D → Bool
  | .list _ => true
  | _ => false
def isTupD : D → Bool
  | .tuple _ => true
  | _ => false
theorem isT_int : IsT "int" isIntD := ⟨fun d => match d with
  | .none => (by decide +kernel : kitB "NoneType" "int" = some false)
  | .bool _ => (by decide +kernel : kitB "bool" "int" = some true)
  | .int _ => (by decide +kernel : kitB "int" "int" = some true)
  | .str _ => (by decide +kernel : kitB "str" "int" = some false)
  | .list _ => (by decide +kernel : kitB "list" "int" = some false)
  | .tuple _ => (by decide +kernel : kitB "tuple" "int" = some false)
  | .dict _ => (by decide +kernel : kitB "dict" "int" = some false), by decide, fun _ => rfl⟩
theorem isT_bool : IsT "bool" isBoolD := ⟨fun d => match d with
  | .none => (by decide +kernel : kitB "NoneType" "bool" = some false)
  | .bool _ => (by decide +kernel : kitB "bool" "bool" = some true)
  | .int _ => (by decide +kernel : kitB "int" "bool" = some false)
  | .str _ => (by decide +kernel : kitB "str" "bool" = some false)
  | .list _ => (by decide +kernel : kitB "list" "bool" = some false)
  | .tuple _ => (by decide +kernel : kitB "tuple" "bool" = some false)
  | .dict _ => (by decide +kernel : kitB "dict" "bool" = some false), by decide, fun _ => rfl⟩
theorem isT_str : IsT "str" isStrD := ⟨fun d => match d with
  | .none => (by decide +kernel : kitB "NoneType" "str" = some false)
  | .bool _ => (by decide +kernel : kitB "bool" "str" = some false)
  | .int _ => (by decide +kernel : kitB "int" "str" = some false)
  | .str _ => (by decide +kernel : kitB "str" "str" = some true)
  | .list _ => (by decide +kernel : kitB "list" "str" = some false)
  | .tuple _ => (by decide +kernel : kitB "tuple" "str" = some false)
  | .dict _ => (by decide +kernel : kitB "dict" "str" = some false), by decide, fun _ => rfl⟩
theorem isT_list : IsT "list" isListD := ⟨fun d => match d with
  | .none => (by decide +kernel : kitB "NoneType" "list" = some false)
  | .bool _ => (by decide +kernel : kitB "bool" "list" = some false)
  | .int _ => (by decide +kernel : kitB "int" "list" = some false)
  | .str _ => (by decide +kernel : kitB "str" "list" = some false)
  | .list _ => (by decide +kernel : kitB "list" "list" = some true)
  | .tuple _ => (by decide +kernel : kitB "tuple" "list" = some false)
  | .dict _ => (by decide +kernel : kitB "dict" "list" = some false), by decide, fun _ => rfl⟩
theorem isT_tuple : IsT "tuple" isTupD := ⟨fun d => match d with
  | .none => (by decide +kernel : kitB "NoneType" "tuple" = some false)
  | .bool _ => (by decide +kernel : kitB "bool" "tuple" = some false)
  | .int _ => (by decide +kernel : kitB "int" "tuple" = some false)
  | .str _ => (by decide +kernel : kitB "str" "tuple" = some false)
  | .list _ => (by decide +kernel : kitB "list" "tuple" = some false)
  | .tuple _ => (by decide +kernel : kitB "tuple" "tuple" = some true)
  | .dict _ => (by decide +kernel : kitB "dict" "tuple" = some false), by decide, fun _ => rfl⟩
def mIsi (f : D → Bool) (m : MV) : MV := fun ro τ => (m ro τ).bind fun p => p.1.er.map fun d => (rBool (f d), p.2)
theorem er_isi {e eT : Expr} {n : String} {f : D → Bool} {m : MV} {p pos : Pos} (t : IsT n f) (h : ER X e m) (hT : PE X eT (tC (.ty n))) (hg : Gl X "isinstance" := by rfl) (hm : X.mg "isinstance" = none) (hv : bootBuiltins "isinstance" = some (.builtin "isinstance") := by decide +kernel)
    (h1 : starEach [e, eT] X.env = (false, eval e X.env) :: starEach [eT] X.env := by rfl) (h2 : starEach [eT] X.env = (false, eval eT X.env) :: starEach [] X.env := by rfl) (hpl : (backTo pos (starEach [eT] X.env)).any (·.1) = false := by rfl) :
    ER X (.Call (.Name "isinstance" p) [e, eT] [] pos) (mIsi f m) := ⟨fun ro τ r τ' em F B H σ A Q a k => by
  obtain ⟨⟨z, τ1⟩, e1, em⟩ := Option.bind_eq_some_iff.mp em
  obtain ⟨d, e2, em⟩ := Option.map_eq_some_iff.mp em
  cases em
  refine wE (pe_callB call_isiZ hg hm hv (pa_cons peW (pa_cons hT pa_nil h2) h1) (by decide) (by decide) h1 hpl) (h.run ro τ z _ e1 F B H σ A _ a fun F1 H1 v A1 A2 g1 c1 o1 t1 => ?_)
  have rv : Rep X.K H1 v d := o1.rep c1.fh c1.bh (fun _ _ _ q => q) e2
  obtain ⟨tt, ty, kk⟩ := tyX_of rv
  exact ⟨v, .ty n, tt, .type n, f d, rfl, .ty n, ty, kk n f t, k F1 H1 _ [] A2 (g1.trans (Go.less fun _ m => List.mem_append_right _ m)) c1.right (.leaf (.bl _)) t1⟩⟩
def mIsi2 (f g : D → Bool) (m : MV) : MV := fun ro τ => (m ro τ).bind fun p => p.1.er.map fun d => (rBool (f d || g d), p.2)
theorem er_isi2 {e eT eS : Expr} {n n' : String} {f f' : D → Bool} {m : MV} {p pos tp : Pos} {kk : Nat} (t : IsT n f) (t' : IsT n' f') (h : ER X e m) (hT : PE X eT (tC (.ty n))) (hS : PE X eS (tC (.ty n'))) (hg : Gl X "isinstance" := by rfl) (hm : X.mg "isinstance" = none) (hv : bootBuiltins "isinstance" = some (.builtin "isinstance") := by decide +kernel)
    (h1 : starEach [e, .Tuple [eT, eS] kk tp] X.env = (false, eval e X.env) :: starEach [.Tuple [eT, eS] kk tp] X.env := by rfl) (h2 : starEach [.Tuple [eT, eS] kk tp] X.env = (false, eval (.Tuple [eT, eS] kk tp) X.env) :: starEach [] X.env := by rfl)
    (h3 : starEach [eT, eS] X.env = (false, eval eT X.env) :: starEach [eS] X.env := by rfl) (h4 : starEach [eS] X.env = (false, eval eS X.env) :: starEach [] X.env := by rfl) (hpl : (backTo pos (starEach [.Tuple [eT, eS] kk tp] X.env)).any (·.1) = false := by rfl) :
    ER X (.Call (.Name "isinstance" p) [e, .Tuple [eT, eS] kk tp] [] pos) (mIsi2 f f' m) := ⟨fun ro τ r τ' em F B H σ A Q a k => by
  obtain ⟨⟨z, τ1⟩, e1, em⟩ := Option.bind_eq_some_iff.mp em
  obtain ⟨d, e2, em⟩ := Option.map_eq_some_iff.mp em
  cases em
  refine wE (pe_callB call_isiTZ hg hm hv (pa_cons peW (pa_cons (pe_tup (pa_cons hT (pa_cons hS pa_nil h4) h3)) pa_nil h2) h1) (by decide) (by decide) h1 hpl) (h.run ro τ z _ e1 F B H σ A _ a fun F1 H1 v A1 A2 g1 c1 o1 t1 => ?_)
  have rv : Rep X.K H1 v d := o1.rep c1.fh c1.bh (fun _ _ _ q => q) e2
  refine ⟨by rw [sizeLine_eq]; show 2 ≤ 16777216; decide, fun p hp => ?_⟩
  obtain ⟨g2, c2⟩ := c1.right.newF (o := .tup [.ty n, .ty n']) hp
  have sm : Same H1 (upd H1 p (.tup [.ty n, .ty n'])) := fun b u z => by
    rw [upd_ne (ne_of_none z hp)]
    exact z
  obtain ⟨tt, ty, kk⟩ := tyX_of (rv.mono sm)
  refine ⟨v, p, [.ty n, .ty n'], tt, [.type n, .type n'], f d || f' d, rfl, upd_same, .cons (.ty n) (.cons (.ty n') .nil), ty, ?_, ?_⟩
  · refine kitAny_cons (kk n f t) (fun hf => kitAny_cons (r := f d || f' d) (kk n' f' t') (fun hf' => ?_) fun hf' => ?_) fun hf => ?_
    · rw [hf, hf']
      rfl
    · rw [hf']
      exact Bool.or_true _
    · rw [hf]
      rfl
  · exact k _ _ _ [] A2 ((g1.trans (Go.less fun _ m => List.mem_append_right _ m)).trans g2) c2 (.leaf (.bl _)) (t1.stay g2.ff fun b m w q => sm b w q)⟩

def mLRng (m : MV) : MV := fun ro τ => (m ro τ).bind fun p => (asI p.1).bind fun n => if 0 ≤ n ∧ n ≤ 16000000 then some (.val (.fl (rangeD 0 1 n.toNat)), p.2) else none
def MU (K : PySem.W.Frag) (r : V → List V → Hp → VK → Prop) (g : T → List D → Option (D × T)) : Prop :=
  ∀ (t : T) (ds : List D) (z : D) (t' : T), g t ds = some (z, t') → ∀ (F B H : Hp) (v : V) (vs : List V) (A : List Addr) (Q : VK), Cn F B H A → Own K F H v t A → RepL K F vs ds →
    (∀ (H' : Hp) (u : V) (A' : List Addr), Go F H A F H' A' → Cn F B H' A' → Own K F H' v t' A' → Rep K F u z → Q u H') → r v vs H Q
def isLs : T → Bool
  | .fl _ => true
  | .ls _ => true
  | _ => false
def mMut (i : Nat) (g : T → List D → Option (D × T)) (l : ML) : MV := fun ro τ => (tget τ i).bind fun t0 => if isLs t0 = true then (l ro τ).bind fun p => (stL p.1).bind fun ds => (tget p.2 i).bind fun t => (g t ds).map fun q => (rd q.1, tset p.2 i q.2) else none
theorem ls_at {v : V} {t : T} {A : List Addr} (h : isLs t = true) (o : Own K F H v t A) : tyV K "list" v H := by
  cases o with
  | fl h1 _ _ => exact .inl ⟨rfl, _, .inl (.inl h1)⟩
  | ls h1 _ _ => exact .inl ⟨rfl, _, .inl (.inl h1)⟩
  | _ => cases h
theorem mut_end {σ : L2.St} {i : Nat} {g : T → List D → Option (D × T)} {r : V → List V → Hp → VK → Prop} (mu : MU K r g) {F0 H0 : Hp} {A0 A1 A2 : List Addr} {rs : List R} {vs : List V} {ds : List D} {t t' : T} {z : D} {τ : Tau} {v : V} {Q : VK}
    (g0 : Go F0 H0 A0 F H (A1 ++ A2)) (c : Cn F B H (A1 ++ A2)) (o : RsOk K F B H rs vs A1) (tk : TauOk K F H σ τ A2) (e1 : stL rs = some ds) (e2 : tget τ i = some t) (e3 : g t ds = some (z, t')) (hv : σ[i]? = some (some v))
    (k : ∀ (F' H' : Hp) (u : V) (A1 A2 : List Addr), Go F0 H0 A0 F' H' (A1 ++ A2) → Cn F' B H' (A1 ++ A2) → ROk K F' B H' (rd z) u A1 → TauOk K F' H' σ (tset τ i t') A2 → Q u H') : r v vs H Q := by
  obtain ⟨F1, g1, c1, s1, rl⟩ := o.freeze c e1
  have t1 := tk.stay s1 fun _ _ _ q => q
  obtain ⟨w, A3, A4, hw, ow, t2, n2, s2⟩ := t1.take c1.nd e2
  rw [hv] at hw
  cases hw
  have c2 := c1.sub n2 s2
  refine mu t ds z t' e3 F1 B H v vs A3 Q c2.left ow rl fun H' u A' g3 c3 o3 ru => ?_
  obtain ⟨g4, c4⟩ := Go.framedR c2 g3 c3
  have t4 := t2.stay g3.ff fun b m w q => g3.keep b w (fun z => c2.apart b z m) q
  obtain ⟨A5, t5, n5, s5⟩ := t4.put hv o3 c4.nd
  rw [← tset_eq] at t5
  exact k F1 H' u [] A5 ((((g0.trans g1).trans (Go.less s2)).trans g4).trans (Go.less s5)) (c4.sub n5 s5) (.leaf ru) t5
theorem er_mut {o e : Expr} {es : List Expr} {name : Str} {apos cpos : Pos} {id : String} {r : V → List V → Hp → VK → Prop} {g : T → List D → Option (D × T)} {l : ML} {i : Nat} (mu : MU X.K r g)
    (slot : Slot "list" name id) (hty : typeOf (.builtin id) = pure (.type "method_descriptor")) (hm : MtR X id r) (ho : PE X o (tVar i)) (ha : AR X (e :: es) l)
    (hbase : attributeBase o name X.env (eval o X.env) = eval o X.env := by rfl)
    (hfew : ((backTo cpos (starEach (e :: es) X.env)).all (fun x => !x.1) && (backToKw cpos (keywordEach [] X.env)).all (fun x => x.1.isSome)
      && decide ((e :: es).length + ([] : List Keyword).length + (if ([] : List Keyword).isEmpty then 0 else 1) < 30)) = true := by rfl)
    (hline : (apos.endLine == cpos.line) = true := by rfl) (hs : starEach (e :: es) X.env = (false, eval e X.env) :: starEach es X.env := by rfl) (hplain : (backTo cpos (starEach es X.env)).any (·.1) = false := by rfl) :
    ER X (.Call (.Attribute o name apos) (e :: es) [] cpos) (mMut i g l) := ⟨fun ro τ r' τ' em F B H σ A Q a k => by
  obtain ⟨t0, e0, em⟩ := Option.bind_eq_some_iff.mp em
  by_cases q0 : isLs t0 = true
  · rw [if_pos q0] at em
    obtain ⟨⟨rs, τ1⟩, e1, em⟩ := Option.bind_eq_some_iff.mp em
    obtain ⟨ds, e2, em⟩ := Option.bind_eq_some_iff.mp em
    obtain ⟨t, e3, em⟩ := Option.bind_eq_some_iff.mp em
    obtain ⟨⟨z, t'⟩, e4, em⟩ := Option.map_eq_some_iff.mp em
    cases em
    obtain ⟨v, A1, A2, hv, ow, _⟩ := a.tau.take a.cn.nd e0
    refine wE (pe_bm PySem.F.plainAttrs_list slot hty hm ho paW hbase hfew hline hs hplain) ⟨v, hv, ls_at q0 ow, ha.run ro τ rs τ1 e1 F B H σ A _ a fun F1 H1 vs A3 A4 g1 c1 o1 t1 => ?_⟩
    exact mut_end mu g1 c1 o1 t1 e2 e3 e4 hv k
  · rw [if_neg q0] at em
    cases em⟩
theorem fl_write {F B H : Hp} {A : List Addr} {a : Addr} {ys : List V} {ds : List D} (c : Cn F B H A) (hA : A = [a]) (hz : ys.length ≤ sizeLine) (r : RepL K F ys ds) :
    Go F H A F (upd H a (.lst ys)) A ∧ Cn F B (upd H a (.lst ys)) A ∧ Own K F (upd H a (.lst ys)) (.ref a) (.fl ds) A := by
  subst hA
  obtain ⟨g, c'⟩ := c.write (o := .lst ys) (p := a) (List.mem_singleton.mpr rfl)
  exact ⟨g, c', .fl upd_same hz r⟩
theorem lt16 {n : Nat} (h : n < 16000000) : n < sizeLine := by
  rw [sizeLine_eq]
  omega
theorem OwnL.append {F H : Hp} : ∀ {xs ys : List V} {ts us : List T} {A B : List Addr}, OwnL K F H xs ts A → OwnL K F H ys us B → OwnL K F H (xs ++ ys) (ts ++ us) (A ++ B)
  | [], _, _, _, _, _, .nil, h => h
  | _ :: _, _, _, _, _, _, .cons o t, h => by
    rw [List.append_assoc]
    exact .cons o (OwnL.append t h)
def gAppend : T → List D → Option (D × T)
  | .fl xs, [d] => if xs.length < 16000000 then some (.none, .fl (xs ++ [d])) else none
  | .ls ts, [d] => if ts.length < 16000000 then some (.none, .ls (ts ++ [.leaf d])) else none
  | _, _ => none
theorem mu_append : MU K rAppend gAppend := by
  intro t ds z t' e F B H v vs A Q c o r k
  match t, ds, e with
  | .ls ts, [d], e =>
    have e' : (if ts.length < 16000000 then some (PyData.none, T.ls (ts ++ [.leaf d])) else none) = some (z, t') := e
    by_cases q : ts.length < 16000000
    · rw [if_pos q] at e'
      cases e'
      cases o with
      | @ls a ys _ A0 h1 h2 h3 =>
        obtain ⟨u, rfl, ru⟩ := r.one
        have hl := OwnL.length h3
        obtain ⟨g, c'⟩ := c.write (o := .lst (ys ++ [u])) (p := a) List.mem_cons_self
        have hz : (ys ++ [u]).length ≤ sizeLine := by
          rw [List.length_append, List.length_singleton]
          exact lt16 (by omega)
        have np : ∀ b ∈ A0, b ≠ a := fun b m z => (List.nodup_cons.mp c.nd).1 (z ▸ m)
        have o3 : OwnL K F (upd H a (.lst (ys ++ [u]))) (ys ++ [u]) (ts ++ [.leaf d]) (A0 ++ ([] ++ [])) := ((h3.stay (Same.refl F) fun b m o q => by
          rw [upd_ne (np b m)]
          exact q)).append (.cons (.leaf ru) .nil)
        rw [List.append_nil, List.append_nil] at o3
        exact ⟨a, ys, u, rfl, rfl, h1, lt16 (by omega), k _ .non _ g c' (.ls upd_same hz o3) .non⟩
    · rw [if_neg q] at e'
      cases e'
  | .fl xs, [d], e =>
    have e' : (if xs.length < 16000000 then some (PyData.none, T.fl (xs ++ [d])) else none) = some (z, t') := e
    by_cases q : xs.length < 16000000
    · rw [if_pos q] at e'
      cases e'
      cases o with
      | fl h1 h2 h3 =>
        obtain ⟨u, rfl, ru⟩ := r.one
        have hl := h3.length
        have hz : ∀ ys : List V, ys.length < 16000000 → (ys ++ [u]).length ≤ sizeLine := fun ys hy => by
          rw [List.length_append, List.length_singleton]
          exact lt16 hy
        rename_i a ys
        obtain ⟨g, c', o'⟩ := fl_write c rfl (hz ys (by omega)) (h3.append (.cons ru .nil))
        exact ⟨a, ys, u, rfl, rfl, h1, lt16 (by omega), k _ .non _ g c' o' .non⟩
    · rw [if_neg q] at e'
      cases e'
def gExtend : T → List D → Option (D × T)
  | .fl xs, [.list es] => if xs.length + es.length ≤ 16000000 then some (.none, .fl (xs ++ es)) else none
  | _, _ => none
theorem mu_extend : MU K rExtend gExtend := by
  intro t ds z t' e F B H v vs A Q c o r k
  match t, ds, e with
  | .fl xs, [.list es], e =>
    have e' : (if xs.length + es.length ≤ 16000000 then some (PyData.none, T.fl (xs ++ es)) else none) = some (z, t') := e
    by_cases q : xs.length + es.length ≤ 16000000
    · rw [if_pos q] at e'
      cases e'
      cases o with
      | fl h1 h2 h3 =>
        obtain ⟨u, rfl, ru⟩ := r.one
        cases ru with
        | lst f1 f2 f3 =>
          rename_i a ys b zs
          have hl := h3.length
          have hl2 := f3.length
          have hz : ys.length + zs.length ≤ sizeLine := small16 (by omega)
          obtain ⟨g, c', o'⟩ := fl_write c rfl (by rw [List.length_append]; exact hz) (h3.append f3)
          exact ⟨a, b, ys, zs, rfl, rfl, h1, c.fh _ _ f1, hz, k _ .non _ g c' o' .non⟩
    · rw [if_neg q] at e'
      cases e'
def gInsert : T → List D → Option (D × T)
  | .fl xs, [.int i, d] => if xs.length < 16000000 ∧ 0 ≤ i ∧ i ≤ 16000000 then some (.none, .fl (xs.take i.toNat ++ [d] ++ xs.drop i.toNat)) else none
  | _, _ => none
theorem mu_insert : MU K (fun x vs H Q => ∃ (l : Addr) (xs : List V) (i : Int) (y : V), x = .ref l ∧ vs = [.int i, y] ∧ H l = some (.lst xs) ∧ xs.length < sizeLine ∧ 0 ≤ i ∧ i < 2 ^ 63 ∧
    Q .non (upd H l (.lst (xs.take i.toNat ++ [y] ++ xs.drop i.toNat)))) gInsert := by
  intro t ds z t' e F B H v vs A Q c o r k
  match t, ds, e with
  | .fl xs, [.int i, d], e =>
    have e' : (if xs.length < 16000000 ∧ 0 ≤ i ∧ i ≤ 16000000 then some (PyData.none, T.fl (xs.take i.toNat ++ [d] ++ xs.drop i.toNat)) else none) = some (z, t') := e
    by_cases q : xs.length < 16000000 ∧ 0 ≤ i ∧ i ≤ 16000000
    · rw [if_pos q] at e'
      cases e'
      cases o with
      | fl h1 h2 h3 =>
        obtain ⟨w, u, rfl, rw', ru⟩ := r.two
        rename_i a ys
        cases rw'.toInt
        have hl := h3.length
        obtain ⟨q1, q2, q3⟩ := q
        have hz : (ys.take i.toNat ++ [u] ++ ys.drop i.toNat).length ≤ sizeLine := by
          rw [List.length_append, List.length_append, List.length_take, List.length_drop, List.length_singleton]
          exact small16 (by omega)
        obtain ⟨g, c', o'⟩ := fl_write c rfl hz (((h3.take i.toNat).append (.cons ru .nil)).append (h3.drop i.toNat))
        exact ⟨a, ys, i, u, rfl, rfl, h1, lt16 (by omega), q2, by omega, k _ .non _ g c' o' .non⟩
    · rw [if_neg q] at e'
      cases e'
def gPop : T → List D → Option (D × T)
  | .fl xs, [] => (xs[xs.length - 1]?).map fun d => (d, .fl xs.dropLast)
  | _, _ => none
def gPopAt : T → List D → Option (D × T)
  | .fl xs, [.int i] => if -16000000 ≤ i ∧ i ≤ 16000000 then (seqIndex? i xs.length).bind fun k => (xs[k]?).map fun d => (d, .fl (xs.eraseIdx k)) else none
  | _, _ => none
def gReverse : T → List D → Option (D × T)
  | .fl xs, [] => some (.none, .fl xs.reverse)
  | _, _ => none
def gClear : T → List D → Option (D × T)
  | .fl xs, [] => some (.none, .fl [])
  | .ls xs, [] => some (.none, .fl [])
  | _, _ => none
def putAt : T → Int → D → Option T
  | .fl xs, i, d => (ixN xs.length i).map fun j => .fl (xs.set j d)
  | _, _, _ => none
end
end Tl

namespace Tl
open PySem PySem.Spec PyProof.Rows L2

/-- the abstract heap at the law's entry: the script alone, locked -/
def lone (a : Addr) (o : Obj) (u : HO) : Hp := fun b => if b = a then some (.frz o u) else none
section
variable {P : Program} {w : World} {K : PySem.W.Frag} {mg mb : Str → Option Value} {k : Nat} {fa a : Addr} {x : Str} {m : MF} {s : Shared} {vs : List Value} {ns : List Int}
theorem law_from {H : Hp} (KX : K.In s.heap) (hns : s.heap.Ns mainGlobals mg) (hb : s.heap.Ns builtinsNs mb) (hbb : ∀ x : Str, x ≠ "__name__" → mb x = bootBuiltins x) (hlim : s.heap.NoLimit) (hg : s.gens = #[])
    (G : ∀ base : Heap, K.In base → base.Ns mainGlobals mg → Fm P w K mg base k x 1 m) (hfa : mg x = some (.ref fa)) (hr : RmG k callerA) (hm : ∃ ts', m [.scr (ns.map PyData.int)] = some (.leaf (.bool true), ts')) (hl : ns.length ≤ 63)
    (hS : SqL K H a (ns.map V.int)) (hok : HOk P w H s.heap) (only : ∀ b u, H b = some u → ∃ o xs, u = .frz o (.lst xs)) (apart : ∀ b u, H b = some u → K.lookup b = none) :
    codeAny (model P w) callerA (.call (.ref fa) ⟨[.ref a], []⟩) (fun r s' => r = .ok (.ret (.bool true)) ∧ OldK s.heap s'.heap ∧ s'.os = s.os ∧ AllBare s'.gens) s := by
  -- what is no list stands in the hidden heap, too
  have nodict : ∀ {b : Addr} {ob : Obj} {es : Array DictEntry} {ep : Nat}, s.heap.get? b = some ob → ob.data = .dict es ep → H b = none := fun {b ob es ep} e d => by
    cases q : H b with
    | none => rfl
    | some u =>
      obtain ⟨o, xs, rfl⟩ := only b u q
      obtain ⟨e1, z, its, n, _, e2⟩ : s.heap.get? b = some o ∧ xs.length ≤ sizeLine ∧ ∃ (its : List Value) (n : Nat), Vals xs its ∧ s.heap.get? b = some { cls := .type "list", data := .seq its.toArray n } := hok b _ q
      rw [e] at e2
      cases e2
      cases d
  have nsH : ∀ {b : Addr} {f : Str → Option Value}, s.heap.Ns b f → (hidT s.heap H).Ns b f := fun {b f} ⟨ob, es, ep, e, d, r⟩ => ⟨ob, es, ep, hidT_get e (nodict e d), d, r⟩
  have kin : K.In (hidT s.heap H) := fun b ob e => hidT_get (KX b ob e) (by
    cases q : H b with
    | none => rfl
    | some u =>
      rw [apart b u q] at e
      cases e)
  have md : Mod K mg (hidT s.heap H) := ⟨kin, nsH hns, ⟨mb, nsH hb, hbb⟩, let ⟨mc, h1, h2⟩ := hlim; ⟨mc, nsH h1, h2⟩⟩
  have e0 : Env0 P w K mg (hidT s.heap H) callerA [] s H := ⟨rfl, md, fun b o e => of_hidT e, Nat.le_of_eq (hidT_size _ _), True.intro, (fun b hb => nomatch hb), hok, .of_eq hg⟩
  obtain ⟨f, fd, ps, FG, hf, kp, hb'⟩ := (G _ kin (nsH hns)).ex
  rw [hfa] at hf
  cases hf
  obtain ⟨ts', hm⟩ := hm
  have sp : spM K 1 m [.ref a] H (fun v _ => v = .bl true) E0 := by
    refine ⟨rfl, H, [], [.scr (ns.map PyData.int)], .leaf (.bool true), ts', ⟨Same.refl H, same_noH, .nil, (fun _ z => nomatch z), (fun _ _ => rfl), (fun _ z => nomatch z)⟩, ?_, hm, fun F' H' v A1 A2 g c o os => ?_⟩
    · have hz : (ns.map V.int).length ≤ sizeLine := by
        rw [List.length_map, sizeLine_eq]
        omega
      exact .cons (A := []) (.scr hS hz (RepL.ofInts ns)) .nil
    · cases o with
      | leaf r => exact r.toBl
  have hl1 := FG.len _ _ _ _ sp
  have bd := hb' s [.ref a] KX (by rw [List.append_nil]; exact hl1)
  rw [List.append_nil] at bd
  refine codeAny_mono (FG.go callerA [] s H ⟨[.ref a], []⟩ [.ref a] [.ref a] _ _ hr e0 bd (.cons rfl .nil) sp) fun r s' h => ?_
  match r, h with
  | .error e, h => exact h.elim
  | .ok .next, h => exact h.elim
  | .ok .brk, h => exact h.elim
  | .ok .cont, h => exact h.elim
  | .ok (.ret u), ⟨v, H', os, bare, un, hok', rv, q⟩ =>
    have q' : v = .bl true := q
    subst q'
    cases rv
    refine ⟨rfl, OldK.of_keep fun b ob e => ?_, os, bare⟩
    cases z : H b with
    | none => exact un.keep b ob e z (fun z => nomatch z) (fun z => nomatch z)
    | some u =>
      obtain ⟨o, xs, rfl⟩ := only b u z
      have z2 := un.frzs b o _ z
      obtain ⟨e1, _⟩ := hok b _ z
      obtain ⟨e2, _⟩ := hok' b _ z2
      rw [e] at e1
      cases e1
      exact e2
theorem law_goes (KX : K.In s.heap) (hns : s.heap.Ns mainGlobals mg) (hb : s.heap.Ns builtinsNs mb) (hbb : ∀ x : Str, x ≠ "__name__" → mb x = bootBuiltins x) (hlim : s.heap.NoLimit) (hg : s.gens = #[])
    (ha : s.heap.get? a = some { cls := .type "list", data := .seq vs.toArray }) (hi : IntsAre vs ns) (hl : ns.length ≤ 63)
    (G : ∀ base : Heap, K.In base → base.Ns mainGlobals mg → Fm P w K mg base k x 1 m) (hfa : mg x = some (.ref fa)) (hr : RmG k callerA) (hm : ∃ ts', m [.scr (ns.map PyData.int)] = some (.leaf (.bool true), ts')) :
    codeAny (model P w) callerA (.call (.ref fa) ⟨[.ref a], []⟩) (fun r s' => r = .ok (.ret (.bool true)) ∧ OldK s.heap s'.heap ∧ s'.os = s.os ∧ AllBare s'.gens) s := by
  have rv := vals_ints hi
  have lv := hi.length
  have hz : ns.length ≤ sizeLine := by
    rw [sizeLine_eq]
    omega
  cases hk : K.lookup a with
  | some o =>
    have e := KX a o hk
    rw [ha] at e
    cases e
    exact law_from (H := noH) KX hns hb hbb hlim hg G hfa hr hm hl (.inr ⟨_, vs.toArray, _, hk, rfl, rfl, rfl, by rw [List.size_toArray, lv]; exact hz, by simpa using rv⟩) (fun _ _ z => nomatch z) (fun _ _ z => nomatch z) fun _ _ z => nomatch z
  | none =>
    have at_ : lone a { cls := .type "list", data := .seq vs.toArray } (.lst (ns.map V.int)) a = some (.frz { cls := .type "list", data := .seq vs.toArray } (.lst (ns.map V.int))) := if_pos rfl
    have only1 : ∀ b u, lone a { cls := .type "list", data := .seq vs.toArray } (.lst (ns.map V.int)) b = some u → b = a ∧ u = .frz { cls := .type "list", data := .seq vs.toArray } (.lst (ns.map V.int)) := fun b u z => by
      have z' : (if b = a then some (HO.frz { cls := .type "list", data := .seq vs.toArray } (.lst (ns.map V.int))) else none) = some u := z
      by_cases q : b = a
      · rw [if_pos q] at z'
        exact ⟨q, (Option.some.inj z').symm⟩
      · rw [if_neg q] at z'
        cases z'
    refine law_from (H := lone a { cls := .type "list", data := .seq vs.toArray } (.lst (ns.map V.int))) KX hns hb hbb hlim hg G hfa hr hm hl (.inl (.inr ⟨_, at_⟩)) (fun b u z => ?_) (fun b u z => ?_) fun b u z => ?_
    · obtain ⟨rfl, rfl⟩ := only1 b u z
      exact ⟨ha, by rw [List.length_map]; exact hz, vs, _, rv, ha⟩
    · obtain ⟨rfl, rfl⟩ := only1 b u z
      exact ⟨_, _, rfl⟩
    · obtain ⟨rfl, rfl⟩ := only1 b u z
      exact hk
end
/-- the goal that the head leaves, from the mirror of the law -/
theorem law_end {l : PySem.W.OpenLaw} {k : Nat} {q : Program} {loose : List Str} {XP : (Str → Option Value) → Heap → Prop} {YP : World → Heap → Prop} {d : DefRec} {K : Params → PySem.W.Frag} {m : MF}
    (hn : l.most = some 63) (hdf : d.params.defaults = []) (hr : RmG k callerA) (hY : ∀ (w : World) (h : Heap), YP w h → (K w.params).In h)
    (G : ∀ (w : World) (mg : Str → Option Value) (h : Heap), (K w.params).In h → h.Ns mainGlobals mg → ∀ base : Heap, (K w.params).In base → base.Ns mainGlobals mg → Fm l.prog w (K w.params) mg base k d.name 1 m)
    (hm : ∀ ns : List Int, ns.length ≤ 63 → ∃ ts', m [.scr (ns.map PyData.int)] = some (.leaf (.bool true), ts')) : PySem.W.WalkO q loose XP YP l.row.toRowW d [] (fun f vs => PySem.call f vs) :=
  Att.attach_call hn hdf fun w s₀ s₁ mg mb fa o pm cd doc a vs ns Gr Y ho hd hcd hmg hobj hints hlen hg =>
    law_goes (hY w _ Y) Gr.T.g Gr.T.b Gr.T.builtins Gr.T.nolimit hg hobj hints hlen (G w mg _ (hY w _ Y) Gr.T.g) hmg hr (hm ns hlen)
theorem rm_caller {k : Nat} (h : k ≤ 200 := by decide) : RmG k callerA := ⟨Room.mono (j := k) (k := 200) ⟨rfl, by decide, by decide⟩ h, rfl⟩
end Tl

namespace Tl
open PySem PySem.Spec PyProof.Rows L2
section
variable {X : Cx} {K : PySem.W.Frag} {F F' B B' H H' F1 H1 : Hp} {σ : L2.St} {A A' A1 A2 : List Addr} {e a b : Expr} {pos p pos2 p2 : Pos} {i : Nat} {ro : Ro} {τ τ' : Tau}
def mSee (i : Nat) : MV := fun ro τ => match tget ro.vw i with
  | some t => some (.vw t, τ)
  | none => (fget ro.fz i).map fun d => (rd d, τ)
theorem er_see (h : PE X e (tVar i)) : ER X e (mSee i) := ⟨fun ro τ r τ' em F B H σ A Q a k => by
  unfold mSee at em
  cases q : tget ro.vw i with
  | some t =>
    rw [q] at em
    exact (er_vw h).run ro τ r τ' (by show (tget ro.vw i).map _ = _; rw [q]; exact em) F B H σ A Q a k
  | none =>
    rw [q] at em
    exact (er_var h).run ro τ r τ' em F B H σ A Q a k⟩
def isHole : T → Bool
  | .hole => true
  | _ => false
def mBr (i : Nat) (m : MV) : MV := fun ro τ => match tget τ i with
  | some t => if isHole t = true then m ro τ else mBor i m ro τ
  | none => m ro τ
theorem ev_br {t : TE} {m : MV} (h : EV K t m) (i : Nat) : EV K t (mBr i m) := ⟨fun ro τ r τ' em F B H σ A Q a k => by
  unfold mBr at em
  cases q : tget τ i with
  | some t =>
    rw [q] at em
    have em : (if isHole t = true then m ro τ else mBor i m ro τ) = some (r, τ') := em
    by_cases z : isHole t = true
    · rw [if_pos z] at em
      exact h.run ro τ r τ' em F B H σ A Q a k
    · rw [if_neg z] at em
      exact (ev_bor h).run ro τ r τ' em F B H σ A Q a k
  | none =>
    rw [q] at em
    exact h.run ro τ r τ' em F B H σ A Q a k⟩
/-- a test under a glass: a test is an expression that tells its truth -/
def tOf (t : TT) : TE := fun σ H Q => t σ H fun k H1 => Q (.bl k) H1
def mOfB (m : MB) : MV := fun ro τ => (m ro τ).map fun p => (rBool p.1, p.2)
theorem ev_of {t : TT} {m : MB} (h : TV K t m) : EV K (tOf t) (mOfB m) := ⟨fun ro τ r τ' em F B H σ A Q a k => by
  obtain ⟨⟨z, τ1⟩, e1, em⟩ := Option.map_eq_some_iff.mp em
  cases em
  exact h.run _ _ _ τ1 e1 F B H σ A _ a fun F' H' A2 g c t => k F' H' (.bl z) [] A2 g c (.leaf (.bl z)) t⟩
def mBrB (i : Nat) (m : MB) : MB := fun ro τ => (mBr i (mOfB m) ro τ).bind fun p => (asB p.1).map fun b => (b, p.2)
theorem wpT_mono {Q Q' : Bool → Hp → Prop} (h : ∀ v H, Q v H → Q' v H) (w : wpT X e σ H Q) : wpT X e σ H Q' := fun pins s I => thn (w pins s I) fun u s' ⟨H', I', q⟩ => ⟨H', I', h u H' q⟩
theorem tr_br {m : MB} (h : TR X e m) (i : Nat) : TR X e (mBrB i m) := ⟨fun ro τ r τ' em F B H σ A Q a k => by
  obtain ⟨⟨z, τ1⟩, e1, em⟩ := Option.bind_eq_some_iff.mp em
  obtain ⟨bb, e2, em⟩ := Option.map_eq_some_iff.mp em
  cases em
  have := (ev_br (ev_of h) i).run ro τ z τ1 e1 F B H σ A (fun v H1 => ∃ k, v = .bl k ∧ Q k H1) a fun F' H' v A1 A2 g c o t => by
    have e3 := asB_of e2 o
    subst e3
    refine ⟨r, rfl, k F' H' A2 (g.trans (Go.less fun _ m => List.mem_append_right _ m)) c.right t⟩
  exact wpT_mono (Q := fun k H1 => ∃ k', V.bl k = .bl k' ∧ Q k' H1) (fun v H1 ⟨k', e4, q⟩ => by cases e4; exact q) this⟩
def mFz (i : Nat) : SS → Option SS := fun s => match tget s.ow i with
  | some _ => mFrz i s
  | none => some s
theorem sr_fz {Pr : List Nat} {st : Stmt} {m : MS} (h : SR X Pr st m) (i : Nat) : SR X Pr st (mPre (mFz i) m) := ⟨fun s o em F H σ A D a k => by
  cases q : tget s.ow i with
  | some t => exact (sr_frz h i).run s o (by unfold mPre mFz at em; rw [q] at em; exact em) F H σ A D a k
  | none =>
    unfold mPre mFz at em
    rw [q] at em
    exact h.run s o em F H σ A D a k⟩
section
variable {scope : Scope} {own : List (Str × Nat)} {tg iter elt c : Expr} {mi : MI} {mt : MG} {mc : MB} {me : MV} {ws : List Nat} {y : Str} {py spos : Pos}
theorem ps_lc0 (hc : X.calm = true) (hN : X.N.Nodup) (hk : X.env.scope.kind = .function) (hy : X.N[i]? = some y) (hyl : X.env.scope.names.lookup y = some .local) (ok : BlkOk X.N X.env.scope scope own)
    (hl : (py.line == pos.line) = true := by rfl) (ha : (scope.names.any fun (n, k) => n == y && (k == .local || k == .cell)) = false := by decide +kernel) (hs : ∀ x, foldedSetIterable iter X.env x = pure x := by intro _; rfl) :
    PS X (.Assign [.Name y py] (.ListComp elt [⟨tg, iter, [], 0⟩] scope pos) spos) (tAsg (tLc0 X scope tg iter elt (own.map (·.2))) (gName i)) :=
  ps_setLc hc hN hy hyl (sw_true hk hyl hl ha) piW ok bG_pg (fun s H C cl fp => pts_nil) bE_pe hs
theorem ps_lc1 (hc : X.calm = true) (hN : X.N.Nodup) (hk : X.env.scope.kind = .function) (hy : X.N[i]? = some y) (hyl : X.env.scope.names.lookup y = some .local) (ok : BlkOk X.N X.env.scope scope own)
    (hl : (py.line == pos.line) = true := by rfl) (ha : (scope.names.any fun (n, k) => n == y && (k == .local || k == .cell)) = false := by decide +kernel) (hs : ∀ x, foldedSetIterable iter X.env x = pure x := by intro _; rfl) :
    PS X (.Assign [.Name y py] (.ListComp elt [⟨tg, iter, [c], 0⟩] scope pos) spos) (tAsg (tLc1 X scope tg iter c elt (own.map (·.2))) (gName i)) :=
  ps_setLc hc hN hy hyl (sw_true hk hyl hl ha) piW ok bG_pg (fun s H C cl fp => pts_one (bT_pt s H C cl fp)) bE_pe hs
end
end
end Tl

namespace Tl
open PySem PySem.Spec PyProof.Rows L2
section
variable {X : Cx} {K : PySem.W.Frag} {F F' B B' H H' F1 H1 : Hp} {σ : L2.St} {A A' A1 A2 : List Addr} {e a b : Expr} {pos p pos2 p2 : Pos} {i : Nat} {ro : Ro} {τ τ' : Tau}
def R.t : R → Option T
  | .val x => some x
  | .vw (.leaf d) => some (.leaf d)
  | .vw _ => none
def tsR : List R → Option (List T)
  | [] => some []
  | r :: rs => r.t.bind fun d => (tsR rs).bind fun ds => some (d :: ds)
theorem ROk.own {r : R} {v : V} {t : T} (o : ROk K F B H r v A) (e : r.t = some t) : Own K F H v t A := o.solid (by
  cases r with
  | val x =>
    cases e
    exact .inl rfl
  | vw x =>
    cases x with
    | leaf d =>
      cases e
      exact .inr ⟨d, rfl, rfl⟩
    | _ => cases e)
theorem RsOk.own : ∀ {rs : List R} {vs : List V} {A : List Addr} {ts : List T}, RsOk K F B H rs vs A → tsR rs = some ts → OwnL K F H vs ts A
  | [], _, _, _, o, e => by
    cases o
    cases e
    exact .nil
  | r :: rs, _, _, _, o, e => by
    cases o with
    | cons o1 o2 =>
      obtain ⟨t, e1, e⟩ := Option.bind_eq_some_iff.mp (show r.t.bind (fun d => (tsR rs).bind fun ds => some (d :: ds)) = some _ from e)
      obtain ⟨ts, e2, e⟩ := Option.bind_eq_some_iff.mp e
      cases e
      exact .cons (o1.own e1) (RsOk.own o2 e2)
def gLstT : List R → Option R := fun rs => (tsR rs).map fun ds => .val (.ls ds)
def T.kids : T → Option (List T)
  | .ls ts => some ts
  | .tup ts => some ts
  | _ => none
def getP : T → List Int → Option T
  | t, [] => some t
  | t, i :: is => t.kids.bind fun ts => (L2.atI ts i).bind fun u => getP u is
def T.put : T → Nat → T → Option T
  | .ls ts, j, u => some (.ls (ts.set j u))
  | .tup ts, j, u => some (.tup (ts.set j u))
  | _, _, _ => none
def setP : T → List Int → T → Option T
  | _, [], u => some u
  | t, i :: is, u => t.kids.bind fun ts => (ixN ts.length i).bind fun j => (ts[j]?).bind fun w => (setP w is u).bind fun w' => t.put j w'
/-- the value at the way's end -/
def wayV (K : PySem.W.Frag) (F H : Hp) : V → List Int → V → Prop
  | v, [], w => v = w
  | v, i :: is, w => ∃ (p : Addr) (xs : List V) (y : V), v = .ref p ∧ (H p = some (.lst xs) ∨ SqT K F p xs) ∧ L2.atI xs i = some y ∧ wayV K F H y is w
theorem atI_ix {α : Type} {xs : List α} {i : Int} {x : α} (h : L2.atI xs i = some x) : ∃ j, ixN xs.length i = some j ∧ xs[j]? = some x := by
  unfold L2.atI at h
  cases q : ixN xs.length i with
  | none =>
    rw [q] at h
    cases h
  | some j =>
    rw [q] at h
    exact ⟨j, rfl, h⟩
theorem wayV.stay (s : Same F F') : ∀ {is : List Int} {v w : V}, wayV K F H v is w → Same H H' → wayV K F' H' v is w
  | [], _, _, h, _ => h
  | i :: is, _, _, ⟨p, xs, y, e, q, e2, h⟩, k => ⟨p, xs, y, e, q.imp (fun z => k _ _ z) (fun z => sameT s z), e2, wayV.stay s h k⟩
theorem wayV.app : ∀ {is : List Int} {v w : V}, wayV K F H v is w → ∀ {js : List Int} {u : V}, wayV K F H w js u → wayV K F H v (is ++ js) u
  | [], _, _, h, _, _, k => by
    have h' : _ = _ := h
    subst h'
    exact k
  | i :: is, _, _, ⟨p, xs, y, e, q, e2, h⟩, _, _, k => ⟨p, xs, y, e, q, e2, wayV.app h k⟩
/-- one of a list of trees, put for another -/
theorem OwnL.split : ∀ {vs : List V} {ts : List T} {A : List Addr} {j : Nat} {t : T}, OwnL K F H vs ts A → ts[j]? = some t → ∃ w B C, vs[j]? = some w ∧ Own K F H w t B ∧ A.Perm (B ++ C) ∧
    ∀ (F' H' : Hp) (t' : T) (B' : List Addr), Same F F' → (∀ a ∈ C, ∀ o, H a = some o → H' a = some o) → Own K F' H' w t' B' → ∃ A', OwnL K F' H' vs (ts.set j t') A' ∧ A'.Perm (B' ++ C)
  | _, [], _, j, t, o, e => by cases e
  | _, t0 :: ts, _, 0, t, o, e => by
    cases o with
    | cons o1 o2 =>
      cases e
      exact ⟨_, _, _, rfl, o1, List.Perm.refl _, fun F' H' t' B' s k o' => ⟨_, .cons o' (o2.stay s k), List.Perm.refl _⟩⟩
  | _, t0 :: ts, _, j + 1, t, o, e => by
    cases o with
    | cons o1 o2 =>
      rename_i v vs A1 A2
      obtain ⟨w, B, C, h1, h2, h3, h4⟩ := OwnL.split o2 (show ts[j]? = some t from e)
      refine ⟨w, B, A1 ++ C, h1, h2, ?_, fun F' H' t' B' s k o' => ?_⟩
      · refine (List.Perm.append_left A1 h3).trans ?_
        rw [← List.append_assoc, ← List.append_assoc]
        exact List.Perm.append_right C List.perm_append_comm
      · obtain ⟨A', o3, p3⟩ := h4 F' H' t' B' s (fun a m => k a (List.mem_append_right _ m)) o'
        refine ⟨A1 ++ A', .cons (o1.stay s fun a m => k a (List.mem_append_left _ m)) o3, ?_⟩
        refine (List.Perm.append_left A1 p3).trans ?_
        rw [← List.append_assoc, ← List.append_assoc]
        exact List.Perm.append_right C List.perm_append_comm
theorem Own.kids {v : V} {t : T} {A : List Addr} {ts : List T} (o : Own K F H v t A) (e : t.kids = some ts) : ∃ p xs, v = .ref p ∧ (H p = some (.lst xs) ∨ SqT K F p xs) ∧ ∃ A0, OwnL K F H xs ts A0 ∧ xs.length = ts.length := by
  cases o with
  | ls h z l =>
    cases e
    exact ⟨_, _, rfl, .inl h, _, l, OwnL.length l⟩
  | tup h z l =>
    cases e
    exact ⟨_, _, rfl, .inr h, _, l, OwnL.length l⟩
  | _ => cases e
/-- .. at the end of a way -/
theorem Own.at : ∀ {is : List Int} {v : V} {t : T} {A : List Addr} {u : T}, Own K F H v t A → getP t is = some u → ∃ w B C, wayV K F H v is w ∧ Own K F H w u B ∧ A.Perm (B ++ C) ∧
    ∀ (F' H' : Hp) (u' t' : T) (B' : List Addr), Same F F' → (∀ a ∈ C, ∀ o, H a = some o → H' a = some o) → Own K F' H' w u' B' → setP t is u' = some t' → ∃ A', Own K F' H' v t' A' ∧ A'.Perm (B' ++ C)
  | [], v, t, A, u, o, e => by
    cases e
    refine ⟨v, A, [], rfl, o, by rw [List.append_nil], fun F' H' u' t' B' s k o' e' => ?_⟩
    cases e'
    exact ⟨B', o', by rw [List.append_nil]⟩
  | i :: is, v, t, A, u, o, e => by
    obtain ⟨ts, e1, e⟩ := Option.bind_eq_some_iff.mp (show t.kids.bind (fun ts => (L2.atI ts i).bind fun u => getP u is) = some u from e)
    obtain ⟨u1, e2, e⟩ := Option.bind_eq_some_iff.mp e
    obtain ⟨j, ej, ej2⟩ := atI_ix e2
    have key : ∀ {xs : List V} {A0 : List Addr}, OwnL K F H xs ts A0 → ∃ w y B C, L2.atI xs i = some y ∧ wayV K F H y is w ∧ Own K F H w u B ∧ A0.Perm (B ++ C) ∧
        ∀ (F' H' : Hp) (u' t' : T) (B' : List Addr), Same F F' → (∀ a ∈ C, ∀ o, H a = some o → H' a = some o) → Own K F' H' w u' B' → setP t (i :: is) u' = some t' → ∃ ts' A', OwnL K F' H' xs ts' A' ∧ A'.Perm (B' ++ C) ∧ t.put j (ts'[j]?.getD .hole) = some t' ∧ ts' = ts.set j (ts'[j]?.getD .hole) := fun {xs A0} l => by
      obtain ⟨y, B1, C1, h1, h2, h3, h4⟩ := l.split ej2
      obtain ⟨w, B, C, w1, w2, w3, w4⟩ := Own.at h2 e
      refine ⟨w, y, B, C ++ C1, ?_, w1, w2, ?_, fun F' H' u' t' B' s k o' e' => ?_⟩
      · unfold L2.atI
        rw [OwnL.length l, ej]
        exact h1
      · rw [← List.append_assoc]
        exact h3.trans (List.Perm.append_right C1 w3)
      · obtain ⟨ts0, f1, e'⟩ := Option.bind_eq_some_iff.mp (show t.kids.bind (fun ts => (ixN ts.length i).bind fun j => (ts[j]?).bind fun w => (setP w is u').bind fun w' => t.put j w') = some t' from e')
        rw [e1] at f1
        cases f1
        rw [ej] at e'
        obtain ⟨w9, f2, e'⟩ := Option.bind_eq_some_iff.mp (show (ts[j]?).bind (fun w => (setP w is u').bind fun w' => t.put j w') = some t' from e')
        rw [ej2] at f2
        cases f2
        obtain ⟨w', f3, e'⟩ := Option.bind_eq_some_iff.mp e'
        obtain ⟨A3, o3, p3⟩ := w4 F' H' u' w' B' s (fun a m => k a (List.mem_append_left _ m)) o' f3
        obtain ⟨A4, o4, p4⟩ := h4 F' H' w' A3 s (fun a m => k a (List.mem_append_right _ m)) o3
        have hj : j < ts.length := (List.getElem?_eq_some_iff.mp ej2).1
        have q : ((ts.set j w')[j]?).getD T.hole = w' := by
          rw [List.getElem?_set_self hj]
          rfl
        refine ⟨_, A4, o4, ?_, by rw [q]; exact e', by rw [q]⟩
        rw [← List.append_assoc]
        exact p4.trans (List.Perm.append_right C1 p3)
    cases o with
    | ls h z l =>
      rename_i p xs ts0 A0
      cases e1
      obtain ⟨w, y, B, C, k1, k2, k3, k4, k5⟩ := key l
      refine ⟨w, B, p :: C, ⟨p, xs, y, rfl, .inl h, k1, k2⟩, k3, ?_, fun F' H' u' t' B' s k o' e' => ?_⟩
      · exact (List.Perm.cons p k4).trans List.perm_middle.symm
      · obtain ⟨ts', A', q1, q2, q3, q4⟩ := k5 F' H' u' t' B' s (fun a m => k a (List.mem_cons_of_mem _ m)) o' e'
        have q5 : some (T.ls (ts.set j (ts'[j]?.getD .hole))) = some t' := q3
        rw [← q4] at q5
        cases q5
        exact ⟨p :: A', .ls (k p List.mem_cons_self _ h) z q1, (List.Perm.cons p q2).trans List.perm_middle.symm⟩
    | tup h z l =>
      rename_i p xs ts0
      cases e1
      obtain ⟨w, y, B, C, k1, k2, k3, k4, k5⟩ := key l
      refine ⟨w, B, C, ⟨p, xs, y, rfl, .inr h, k1, k2⟩, k3, k4, fun F' H' u' t' B' s k o' e' => ?_⟩
      obtain ⟨ts', A', q1, q2, q3, q4⟩ := k5 F' H' u' t' B' s k o' e'
      have q5 : some (T.tup (ts.set j (ts'[j]?.getD .hole))) = some t' := q3
      rw [← q4] at q5
      cases q5
      exact ⟨A', .tup (sameT s h) z q1, q2⟩
    | _ => cases e1
theorem glass {u : T} (a : At K F B H σ ro τ A) (e1 : tget τ i = some u) : ∃ v A1 A2 B', σ[i]? = some (some v) ∧ Own K F H v u A1 ∧ TauOk K F H σ (tset τ i .hole) A2 ∧ Cn F B H (A1 ++ A2) ∧ (∀ b ∈ A1 ++ A2, b ∈ A) ∧ Same B B' ∧
    Own K F B' v u A1 ∧ At K F B' H σ ⟨ro.fz, (i, u) :: ro.vw⟩ (tset τ i .hole) A2 := by
  obtain ⟨v, A1, A2, hv, o, t', n, s⟩ := a.tau.take a.cn.nd e1
  have c := a.cn.sub n s
  let B' : Hp := fun b => if b ∈ A1 then H b else B b
  have bs : Same B B' := fun b w e => by
    have nb : b ∉ A1 := fun z => by
      rw [c.ba b (List.mem_append_left _ z)] at e
      cases e
    show (if b ∈ A1 then H b else B b) = some w
    rw [if_neg nb]
    exact e
  have hb : ∀ b ∈ A1, ∀ w, H b = some w → B' b = some w := fun b m w e => by
    show (if b ∈ A1 then H b else B b) = some w
    rw [if_pos m]
    exact e
  have c2 : Cn F B' H A2 := ⟨c.fh, fun b w e => (by
      have e' : (if b ∈ A1 then H b else B b) = some w := e
      by_cases q : b ∈ A1
      · rw [if_pos q] at e'
        exact e'
      · rw [if_neg q] at e'
        exact c.bh b w e'), c.right.nd, c.right.fa, fun b m => (by
      show (if b ∈ A1 then H b else B b) = none
      rw [if_neg fun z => c.apart b z m]
      exact c.right.ba b m), c.right.ha⟩
  have vw' : VwOk K F B' σ ((i, u) :: ro.vw) := fun p m => by
    rcases List.mem_cons.mp m with e | m
    · subst e
      exact ⟨v, A1, hv, o.stay (Same.refl F) hb⟩
    · obtain ⟨w, A', hw, ow⟩ := a.ro.vw p m
      exact ⟨w, A', hw, ow.stay (Same.refl F) fun b m w e => bs b w e⟩
  exact ⟨v, A1, A2, B', hv, o, t', c, s, bs, o.stay (Same.refl F) hb, c2, ⟨a.ro.fz, vw'⟩, t'⟩
theorem unglass (bs : Same B B') (c' : Cn F B' H A) : Cn F B H A := ⟨c'.fh, fun b w e => c'.bh b w (bs b w e), c'.nd, c'.fa, fun b m => (by
  cases e : B b with
  | none => rfl
  | some w =>
    have := c'.ba b m
    rw [bs b w e] at this
    cases this), c'.ha⟩
theorem wayV.snoc : ∀ {is : List Int} {v w : V} {j : Int}, wayV K F H v (is ++ [j]) w → ∃ x p xs, wayV K F H v is x ∧ x = .ref p ∧ (H p = some (.lst xs) ∨ SqT K F p xs) ∧ L2.atI xs j = some w
  | [], v, w, j, ⟨p, xs, y, e, q, e2, h⟩ => by
    have h' : y = w := h
    subst h'
    exact ⟨v, p, xs, rfl, e, q, e2⟩
  | i :: is, v, w, j, ⟨p, xs, y, e, q, e2, h⟩ => by
    obtain ⟨x, p', xs', h1, h2, h3, h4⟩ := wayV.snoc h
    exact ⟨x, p', xs', ⟨p, xs, y, e, q, e2, h1⟩, h2, h3, h4⟩
theorem getP_snoc : ∀ {is : List Int} {u w w' : T} {ts : List T} {j : Int}, getP u is = some w → w.kids = some ts → L2.atI ts j = some w' → getP u (is ++ [j]) = some w'
  | [], u, w, w', ts, j, h, h1, h2 => by
    cases h
    show u.kids.bind (fun ts => (L2.atI ts j).bind fun u => getP u []) = _
    rw [h1]
    show (L2.atI ts j).bind (fun u => getP u []) = _
    rw [h2]
    rfl
  | i :: is, u, w, w', ts, j, h, h1, h2 => by
    obtain ⟨ts1, e1, h⟩ := Option.bind_eq_some_iff.mp (show u.kids.bind (fun ts => (L2.atI ts i).bind fun u => getP u is) = some w from h)
    obtain ⟨u1, e2, h⟩ := Option.bind_eq_some_iff.mp h
    show u.kids.bind (fun ts => (L2.atI ts i).bind fun u => getP u (is ++ [j])) = _
    rw [e1]
    show (L2.atI ts1 i).bind (fun u => getP u (is ++ [j])) = _
    rw [e2]
    exact getP_snoc h h1 h2
abbrev MP := T → Ro → Tau → Option ((List Int × T) × Tau)
structure PV (K : PySem.W.Frag) (x : Nat) (t : TE) (m : MP) : Prop where
  get : ∀ (u : T) (ro : Ro) (τ : Tau) (is : List Int) (w : T) (τ' : Tau), m u ro τ = some ((is, w), τ') → getP u is = some w
  run : ∀ (u : T) (ro : Ro) (τ : Tau) (is : List Int) (w : T) (τ' : Tau), m u ro τ = some ((is, w), τ') → ∀ (F B H : Hp) (σ : L2.St) (A : List Addr) (Q : VK) (v y : V), At K F B H σ ro τ A → σ[x]? = some (some v) → wayV K F B v is y →
    (∀ (F' H' : Hp) (A2 : List Addr), Go F H A F' H' A2 → Cn F' B H' A2 → TauOk K F' H' σ τ' A2 → Q y H') → t σ H Q
def pHere : MP := fun u _ τ => some (([], u), τ)
def pAt (mb : MP) (mi : MV) : MP := fun u ro τ => (mb u ro τ).bind fun p => (mi ro p.2).bind fun q => (asI q.1).bind fun i => p.1.2.kids.bind fun ts => (L2.atI ts i).map fun w => ((p.1.1 ++ [i], w), q.2)
theorem pv_here {o : Expr} {x : Nat} (h : PE X o (tVar x)) : PV X.K x (wpE X o) pHere := ⟨fun u ro τ is w τ' em => by
  cases em
  rfl, fun u ro τ is w τ' em F B H σ A Q v y a hv hw k => by
  cases em
  have hw' : v = y := hw
  subst hw'
  exact wE h ⟨v, hv, k F H A Go.refl a.cn a.tau⟩⟩
theorem pv_at {o ix : Expr} {x : Nat} {mb : MP} {mi : MV} (h : PV X.K x (wpE X o) mb) (hi : ER X ix mi) (hs : PlainIx ix) : PV X.K x (wpE X (.Subscript o ix pos)) (pAt mb mi) := ⟨fun u ro τ is w τ' em => by
  obtain ⟨⟨⟨is0, w0⟩, τ1⟩, e1, em⟩ := Option.bind_eq_some_iff.mp em
  obtain ⟨⟨r, τ2⟩, e2, em⟩ := Option.bind_eq_some_iff.mp em
  obtain ⟨j, e3, em⟩ := Option.bind_eq_some_iff.mp em
  obtain ⟨ts, e4, em⟩ := Option.bind_eq_some_iff.mp em
  obtain ⟨w', e5, em⟩ := Option.map_eq_some_iff.mp em
  cases em
  exact getP_snoc (h.get _ _ _ _ _ _ e1) e4 e5, fun u ro τ is w τ' em F B H σ A Q v y a hv hw k => by
  obtain ⟨⟨⟨is0, w0⟩, τ1⟩, e1, em⟩ := Option.bind_eq_some_iff.mp em
  obtain ⟨⟨r, τ2⟩, e2, em⟩ := Option.bind_eq_some_iff.mp em
  obtain ⟨j, e3, em⟩ := Option.bind_eq_some_iff.mp em
  obtain ⟨ts, e4, em⟩ := Option.bind_eq_some_iff.mp em
  obtain ⟨w', e5, em⟩ := Option.map_eq_some_iff.mp em
  cases em
  obtain ⟨x0, p, xs, k1, rfl, k3, k4⟩ := wayV.snoc hw
  refine wE (pe_ix ix_seq peW peW hs) (h.run _ _ _ _ _ _ e1 F B H σ A _ v _ a hv k1 fun F1 H1 A2 g1 c1 t1 => ?_)
  refine hi.run _ _ r _ e2 F1 B H1 σ A2 _ ⟨c1, a.ro.mono g1.ff, t1⟩ fun F2 H2 z A3 A4 g2 c2 o2 t2 => ?_
  have ez : z = .int j := asI_of e3 o2
  subst ez
  have q := k F2 H2 A4 (g1.trans (g2.trans (Go.less fun _ m => List.mem_append_right _ m))) c2.right t2
  rcases k3 with k3 | k3
  · exact .inl ⟨p, xs, j, y, rfl, rfl, SqL.of (c2.bh _ _ k3), k4, q⟩
  · exact .inr (.inl ⟨p, xs, j, y, rfl, rfl, sameT ((g1.ff.trans g2.ff).trans c2.fh) k3, k4, q⟩)⟩
def mMutP (x : Nat) (mp : MP) (g : T → List D → Option (D × T)) (l : ML) : MV := fun ro τ => (tget τ x).bind fun u => (mp u ⟨ro.fz, (x, u) :: ro.vw⟩ (tset τ x .hole)).bind fun p => if isLs p.1.2 = true then
  (l ⟨ro.fz, (x, u) :: ro.vw⟩ p.2).bind fun q => (stL q.1).bind fun ds => (g p.1.2 ds).bind fun r => (setP u p.1.1 r.2).map fun u' => (rd r.1, tset q.2 x u') else none
theorem mutP_end {x : Nat} {g : T → List D → Option (D × T)} {r : V → List V → Hp → VK → Prop} (mu : MU K r g) {F0 H0 : Hp} {A0 A1 B0 C0 R1 R2 : List Addr} {rs : List R} {vs : List V} {ds : List D} {u u' w w' : T} {z : D} {v y : V} {Q : VK} {is : List Int}
    (g0 : Go F0 H0 A0 F H (A1 ++ (R1 ++ R2))) (c : Cn F B H (A1 ++ (R1 ++ R2))) (o : RsOk K F B' H rs vs R1) (bs : Same B B') (cb : Same B' H) (tk : TauOk K F H σ τ R2) (hv : σ[x]? = some (some v)) (e1 : stL rs = some ds) (e3 : g w ds = some (z, w')) (pm : A1.Perm (B0 ++ C0))
    (ow : Own K F B' y w B0) (back : ∀ (F' H' : Hp) (u' t' : T) (B1 : List Addr), Same F F' → (∀ a ∈ C0, ∀ o, B' a = some o → H' a = some o) → Own K F' H' y u' B1 → setP u is u' = some t' → ∃ A', Own K F' H' v t' A' ∧ A'.Perm (B1 ++ C0)) (e4 : setP u is w' = some u')
    (k : ∀ (F' H' : Hp) (u : V) (A1 A2 : List Addr), Go F0 H0 A0 F' H' (A1 ++ A2) → Cn F' B H' (A1 ++ A2) → ROk K F' B H' (rd z) u A1 → TauOk K F' H' σ (tset τ x u') A2 → Q u H') : r y vs H Q := by
  have pm1 : (A1 ++ (R1 ++ R2)).Perm (R1 ++ (B0 ++ (C0 ++ R2))) := by
    refine (List.Perm.append_right _ pm).trans ?_
    rw [← List.append_assoc]
    refine (List.Perm.append_right R2 List.perm_append_comm).trans ?_
    rw [List.append_assoc, List.append_assoc]
  have c0 := c.perm pm1
  -- the results are frozen
  obtain ⟨f1, f2, f3, f4⟩ := c0.freeze
  have rl : RepL K (joinH F H R1) vs ds := o.keep f3 f4 e1
  have ow2 : Own K (joinH F H R1) H y w B0 := (ow.stay f3 fun _ _ _ q => q).stay (Same.refl _) fun b m o q => cb b o q
  refine mu w ds z w' e3 _ B H y vs B0 Q f2.left ow2 rl fun H' uu A' g3 c3 o3 ru => ?_
  obtain ⟨g4, c4⟩ := Go.framedR f2 g3 c3
  have kp : ∀ b ∈ C0 ++ R2, ∀ q, H b = some q → H' b = some q := fun b m q z => g3.keep b q (fun z' => f2.apart b z' m) z
  obtain ⟨A5, o5, p5⟩ := back (joinH F H R1) H' w' u' A' f3 (fun b m q z => kp b (List.mem_append_left _ m) q (cb b q z)) o3 e4
  have t5 := (tk.stay f3 fun _ _ _ q => q).stay (Same.refl _) fun b m q z => kp b (List.mem_append_right _ m) q z
  have pm2 : (A' ++ (C0 ++ R2)).Perm (A5 ++ R2) := by
    rw [← List.append_assoc]
    exact (List.Perm.append_right R2 p5).symm
  have c6 := c4.perm pm2
  obtain ⟨A6, t6, n6, s6⟩ := t5.put hv o5 c6.nd
  have g6 : Go F0 H0 A0 (joinH F H R1) H' (A5 ++ R2) := ((g0.perm (List.Perm.refl _) pm1).trans f1).trans (g4.perm (List.Perm.refl _) pm2)
  exact k _ H' uu [] A6 (g6.trans (Go.less s6)) (c6.sub n6 s6) (.leaf ru) t6
theorem er_mutP {o e : Expr} {es : List Expr} {name : Str} {apos cpos : Pos} {id : String} {r : V → List V → Hp → VK → Prop} {g : T → List D → Option (D × T)} {l : ML} {x : Nat} {mp : MP} (mu : MU X.K r g)
    (slot : Slot "list" name id) (hty : typeOf (.builtin id) = pure (.type "method_descriptor")) (hm : MtR X id r) (ho : PV X.K x (wpE X o) mp) (ha : AR X (e :: es) l)
    (hbase : attributeBase o name X.env (eval o X.env) = eval o X.env := by rfl)
    (hfew : ((backTo cpos (starEach (e :: es) X.env)).all (fun x => !x.1) && (backToKw cpos (keywordEach [] X.env)).all (fun x => x.1.isSome)
      && decide ((e :: es).length + ([] : List Keyword).length + (if ([] : List Keyword).isEmpty then 0 else 1) < 30)) = true := by rfl)
    (hline : (apos.endLine == cpos.line) = true := by rfl) (hs : starEach (e :: es) X.env = (false, eval e X.env) :: starEach es X.env := by rfl) (hplain : (backTo cpos (starEach es X.env)).any (·.1) = false := by rfl) :
    ER X (.Call (.Attribute o name apos) (e :: es) [] cpos) (mMutP x mp g l) := ⟨fun ro τ r' τ' em F B H σ A Q a k => by
  obtain ⟨u, e0, em⟩ := Option.bind_eq_some_iff.mp em
  obtain ⟨⟨⟨is, w⟩, τ1⟩, e1, em⟩ := Option.bind_eq_some_iff.mp em
  have em : (if isLs w = true then (l ⟨ro.fz, (x, u) :: ro.vw⟩ τ1).bind fun q => (stL q.1).bind fun ds => (g w ds).bind fun r => (setP u is r.2).map fun u' => (rd r.1, tset q.2 x u') else none) = some (r', τ') := em
  by_cases q0 : isLs w = true
  · rw [if_pos q0] at em
    obtain ⟨⟨rs, τ2⟩, e2, em⟩ := Option.bind_eq_some_iff.mp em
    obtain ⟨ds, e3, em⟩ := Option.bind_eq_some_iff.mp em
    obtain ⟨⟨z, w'⟩, e4, em⟩ := Option.bind_eq_some_iff.mp em
    obtain ⟨u', e5, em⟩ := Option.map_eq_some_iff.mp em
    cases em
    obtain ⟨v, A1, A2, B', hv, oH, tH, c, s, bs, oB, a2⟩ := glass a e0
    obtain ⟨y, B0, C0, hw, ow, pm, back⟩ := Own.at oB (ho.get _ _ _ _ _ _ e1)
    refine wE (pe_bm PySem.F.plainAttrs_list slot hty hm peW paW hbase hfew hline hs hplain) (ho.run _ _ _ _ _ _ e1 F B' H σ A2 _ v y a2 hv hw fun F1 H1 A3 g1 c1 t1 => ?_)
    refine ⟨ls_at q0 (ow.stay g1.ff fun b m q z => c1.bh b q z), ha.run _ _ rs τ2 e2 F1 B' H1 σ A3 _ ⟨c1, a2.ro.mono g1.ff, t1⟩ fun F2 H2 vs R1 R2 g2 c2 o2 t2 => ?_⟩
    have g12 := g1.trans g2
    obtain ⟨g3, c3⟩ := Go.framed c g12 (unglass bs c2)
    exact mutP_end mu ((Go.less s).trans g3) c3 o2 bs c2.bh t2 hv e3 e4 pm (ow.stay g12.ff fun _ _ _ q => q) (fun F' H' u' t' B1 s' k' o' e' => back F' H' u' t' B1 (g12.ff.trans s') k' o' e') e5 k
  · rw [if_neg q0] at em
    cases em⟩
theorem er_mutP0 {o : Expr} {name : Str} {apos cpos : Pos} {id : String} {r : V → List V → Hp → VK → Prop} {g : T → List D → Option (D × T)} {x : Nat} {mp : MP} (mu : MU X.K r g)
    (slot : Slot "list" name id) (hty : typeOf (.builtin id) = pure (.type "method_descriptor")) (hm : MtR X id r) (ho : PV X.K x (wpE X o) mp)
    (hbase : attributeBase o name X.env (eval o X.env) = eval o X.env := by rfl) (hline : (apos.endLine == cpos.line) = true := by rfl) : ER X (.Call (.Attribute o name apos) [] [] cpos) (mMutP x mp g mNil) := ⟨fun ro τ r' τ' em F B H σ A Q a k => by
  obtain ⟨u, e0, em⟩ := Option.bind_eq_some_iff.mp em
  obtain ⟨⟨⟨is, w⟩, τ1⟩, e1, em⟩ := Option.bind_eq_some_iff.mp em
  have em : (if isLs w = true then (mNil ⟨ro.fz, (x, u) :: ro.vw⟩ τ1).bind fun q => (stL q.1).bind fun ds => (g w ds).bind fun r => (setP u is r.2).map fun u' => (rd r.1, tset q.2 x u') else none) = some (r', τ') := em
  by_cases q0 : isLs w = true
  · rw [if_pos q0] at em
    obtain ⟨⟨rs, τ2⟩, e2, em⟩ := Option.bind_eq_some_iff.mp em
    obtain ⟨ds, e3, em⟩ := Option.bind_eq_some_iff.mp em
    obtain ⟨⟨z, w'⟩, e4, em⟩ := Option.bind_eq_some_iff.mp em
    obtain ⟨u', e5, em⟩ := Option.map_eq_some_iff.mp em
    cases em
    cases e2
    obtain ⟨v, A1, A2, B', hv, oH, tH, c, s, bs, oB, a2⟩ := glass a e0
    obtain ⟨y, B0, C0, hw, ow, pm, back⟩ := Own.at oB (ho.get _ _ _ _ _ _ e1)
    refine wE (pe_bm0 PySem.F.plainAttrs_list slot hty hm peW hbase hline) (ho.run _ _ _ _ _ _ e1 F B' H σ A2 _ v y a2 hv hw fun F1 H1 A3 g1 c1 t1 => ?_)
    refine ⟨ls_at q0 (ow.stay g1.ff fun b m q z => c1.bh b q z), ?_⟩
    obtain ⟨g3, c3⟩ := Go.framed c g1 (unglass bs c1)
    exact mutP_end (R1 := []) mu ((Go.less s).trans g3) c3 .nil bs c1.bh t1 hv e3 e4 pm (ow.stay g1.ff fun _ _ _ q => q) (fun F' H' u' t' B1 s' k' o' e' => back F' H' u' t' B1 (g1.ff.trans s') k' o' e') e5 k
  · rw [if_neg q0] at em
    cases em⟩
def gPut (j : Int) : T → List D → Option (D × T)
  | w, [d] => (putAt w j d).map fun w' => (.none, w')
  | _, _ => none
theorem mu_put (j : Int) : MU K (fun o vs H Q => ∃ v, vs = [v] ∧ rSetL o (.int j) v H fun H3 => Q .non H3) (gPut j) := by
  intro t ds z t' e F B H v vs A Q c o r k
  match t, ds, e with
  | t, [d], e =>
    obtain ⟨w', e1, e2⟩ := Option.map_eq_some_iff.mp (show (putAt t j d).map (fun w' => (PyData.none, w')) = some (z, t') from e)
    cases e2
    obtain ⟨u, rfl, ru⟩ := r.one
    cases t with
    | fl xs =>
      obtain ⟨n, e3, e4⟩ := Option.map_eq_some_iff.mp (show (ixN xs.length j).map (fun j => T.fl (xs.set j d)) = some _ from e1)
      subst e4
      cases o with
      | fl h1 h2 h3 =>
        obtain ⟨g5, c5, o5⟩ := fl_write c rfl (by rw [List.length_set]; exact h2) (h3.set ru n)
        exact ⟨u, rfl, _, _, j, n, rfl, rfl, h1, by rw [h3.length]; exact e3, k _ .non _ g5 c5 o5 .non⟩
    | _ => cases e1
def mSetP (x : Nat) (mp : MP) (me mi : MV) : MS := fun s => (me ⟨s.fz, []⟩ s.ow).bind fun p => p.1.st.bind fun d => (tget p.2 x).bind fun u => (mp u ⟨s.fz, [(x, u)]⟩ (tset p.2 x .hole)).bind fun q => (mi ⟨s.fz, [(x, u)]⟩ q.2).bind fun r => (asI r.1).bind fun i =>
  (gPut i q.1.2 [d]).bind fun w => (setP u q.1.1 w.2).map fun u' => .nx ⟨s.fz, tset r.2 x u'⟩
theorem sr_setP {Pr : List Nat} {st : Stmt} {e o ix : Expr} {x : Nat} {mp : MP} {me mi : MV} (p : PS X st (tAsg (wpE X e) (L2.gSub (wpE X o) (wpE X ix) rSetL))) (he : ER X e me) (ho : PV X.K x (wpE X o) mp) (hi : ER X ix mi) : SR X Pr st (mSetP x mp me mi) := ⟨fun s out em F H σ A Dd a k => by
  obtain ⟨⟨r, τ1⟩, e1, em⟩ := Option.bind_eq_some_iff.mp em
  obtain ⟨d, e2, em⟩ := Option.bind_eq_some_iff.mp em
  obtain ⟨u, e3, em⟩ := Option.bind_eq_some_iff.mp em
  obtain ⟨⟨⟨is, w⟩, τ2⟩, e4, em⟩ := Option.bind_eq_some_iff.mp em
  obtain ⟨⟨r', τ3⟩, e5, em⟩ := Option.bind_eq_some_iff.mp em
  obtain ⟨j, e6, em⟩ := Option.bind_eq_some_iff.mp em
  obtain ⟨⟨z, w'⟩, e7, em⟩ := Option.bind_eq_some_iff.mp em
  obtain ⟨u', e8, em⟩ := Option.map_eq_some_iff.mp em
  cases em
  refine wS p (he.run _ _ r τ1 e1 F noH H σ A _ a.at_ fun F1 H1 v0 A1 A2 g1 c1 o1 t1 => ?_)
  obtain ⟨F2, g2, c2, s2, rv⟩ := o1.freeze c1 e2
  have at2 : At X.K F2 noH H1 σ ⟨s.fz, []⟩ τ1 A2 := ⟨c2, a.at_.ro.mono (g1.ff.trans s2), t1.stay s2 fun _ _ _ q => q⟩
  obtain ⟨v, A3, A4, B', hv, oH, tH, c, s', bs, oB, a2⟩ := glass at2 e3
  obtain ⟨y, B0, C0, hw, ow, pm, back⟩ := Own.at oB (ho.get _ _ _ _ _ _ e4)
  refine ho.run _ _ _ _ _ _ e4 F2 B' H1 σ A4 _ v y a2 hv hw fun F3 H3 A5 g3 c3 t3 => ?_
  refine hi.run _ _ r' τ3 e5 F3 B' H3 σ A5 _ ⟨c3, a2.ro.mono g3.ff, t3⟩ fun F4 H4 i0 A6 A7 g4 c4 o4 t4 => ?_
  have ei : i0 = .int j := asI_of e6 o4
  subst ei
  have g34 : Go F2 H1 A4 F4 H4 A7 := g3.trans (g4.trans (Go.less fun _ m => List.mem_append_right _ m))
  obtain ⟨g5, c5⟩ := Go.framed c g34 (unglass bs c4.right)
  have rv4 : RepL X.K F4 [v0] [d] := .cons (rv.mono g34.ff) .nil
  have o5 : RsOk X.K F4 B' H4 [rd d] [v0] [] := .cons (A := []) (show ROk X.K F4 B' H4 (rd d) v0 [] from .leaf (rv.mono g34.ff)) .nil
  have := mutP_end (K := X.K) (R1 := []) (Q := fun _ H3 => Dd.nx σ H3) (mu_put j) (((g1.trans g2).trans (Go.less s')).trans g5) c5 o5 bs c4.bh t4 hv (by rfl) e7 pm (ow.stay g34.ff fun _ _ _ q => q) (fun F' H' u' t' B1 s' k' o' e' => back F' H' u' t' B1 (g34.ff.trans s') k' o' e') e8 fun F' H' uu A1 A2 g c o t =>
    k F' H' σ A2 (g.trans (Go.less fun _ m => List.mem_append_right _ m)) ⟨c.right, (a.fz.mono (g.ff)), t⟩ Agree.refl
  obtain ⟨v1, q1, q2⟩ := this
  cases q1
  exact q2⟩
end
end Tl

namespace Tl
open PySem PySem.Spec PyProof.Rows L2
/-- the built-ins stand under their own names -/
structure Bt (mg : Str → Option Value) : Prop where
  len : mg "len" = none
  range : mg "range" = none
  enumerate : mg "enumerate" = none
  zip : mg "zip" = none
  reversed : mg "reversed" = none
  abs : mg "abs" = none
  min : mg "min" = none
  max : mg "max" = none
  int : mg "int" = none
  bool : mg "bool" = none
  list : mg "list" = none
  tuple : mg "tuple" = none
  set : mg "set" = none
  dict : mg "dict" = none
  sorted : mg "sorted" = none
  sum : mg "sum" = none
  all : mg "all" = none
  any : mg "any" = none
  str : mg "str" = none
  repr : mg "repr" = none
  isinstance : mg "isinstance" = none
theorem bt_len : bootBuiltins "len" = some (.builtin "len") := by decide +kernel
theorem bt_abs : bootBuiltins "abs" = some (.builtin "abs") := by decide +kernel
theorem bt_min : bootBuiltins "min" = some (.builtin "min") := by decide +kernel
theorem bt_max : bootBuiltins "max" = some (.builtin "max") := by decide +kernel
theorem bt_all : bootBuiltins "all" = some (.builtin "all") := by decide +kernel
theorem bt_repr : bootBuiltins "repr" = some (.builtin "repr") := by decide +kernel
theorem bt_int : bootBuiltins "int" = some (.type "int") := by decide +kernel
theorem bt_bool : bootBuiltins "bool" = some (.type "bool") := by decide +kernel
theorem bt_list : bootBuiltins "list" = some (.type "list") := by decide +kernel
theorem bt_tuple : bootBuiltins "tuple" = some (.type "tuple") := by decide +kernel
theorem bt_str : bootBuiltins "str" = some (.type "str") := by decide +kernel
section
variable {X : Cx} {e : Expr} {pos : Pos} {i : Nat}
/-- the value of a slot, wherever it stands -/
def mTk (i : Nat) : MV := fun ro τ => match tget τ i with
  | some t => some (.val t, tset τ i .hole)
  | none => (fget ro.fz i).map fun d => (rd d, τ)
theorem er_tk (h : PE X e (tVar i)) : ER X e (mTk i) := ⟨fun ro τ r τ' em F B H σ A Q a k => by
  unfold mTk at em
  cases q : tget τ i with
  | some t =>
    rw [q] at em
    exact (er_take h).run ro τ r τ' (by show (tget τ i).map _ = _; rw [q]; exact em) F B H σ A Q a k
  | none =>
    rw [q] at em
    exact (er_var h).run ro τ r τ' em F B H σ A Q a k⟩
theorem hu_eq {j : Nat} (hr : RmG j X.A) : X.A.units + 64 < cLine := hr.rm.units
end
def Dn (K : PySem.W.Frag) (mg : Str → Option Value) (x : Str) (st : Stmt) (ps : List Str) : Prop := ∃ (f : Addr) (fd : FuncData), Fun K x x st f fd ∧ Binds K fd ps [] ∧ mg x = some (.ref f)
theorem dn_mk {K : PySem.W.Frag} {h : Heap} {mg : Str → Option Value} {x : Str} {st : Stmt} {ps : List Str} {f : Addr} {oc : Value} {od an : Option Addr} {osl : Array (Option Value)} {kV doc pm cdv ct : Value} (X : K.In h) (G : h.Ns mainGlobals mg)
    (a : PySem.W.nsIn K mainGlobals x = some (some (.ref f))) (l : K.lookup f = some ⟨oc, od, .func (PySem.W.fnOf x x (defArgs st) (defBody st) (defScope st) .none kV doc pm an cdv ct), osl⟩) (c : PySem.W.codeIn K cdv x = true) (k : PySem.W.keepIn K (.ref f) = true)
    (b : ∀ (kV doc pm : Value) (an : Option Addr) (cdv ct : Value) (us : List Value), us.length = ps.length → bindArgs (PySem.W.fnOf x x (defArgs st) (defBody st) (defScope st) .none kV doc pm an cdv ct) ⟨us, []⟩ = pure (ps.zip us)) : Dn K mg x st ps :=
  have F := fun_mk l c k
  ⟨f, _, F, F.binds b, PySem.W.mg_of X G a⟩
theorem fm_mk {P : Program} {w : World} {K : PySem.W.Frag} {mg : Str → Option Value} {base : Heap} {x : Str} {st : Stmt} {N ps : List Str} {k : Nat} (D : Dn K mg x st ps) (S : FnScope N ps (defScope st)) (ks : List Bool) (hk : ks.length = ps.length)
    {mb : MS} (body : ∀ (f : Addr) (cdv : Value) (Ar : Around) (up : List Env) (s : Shared) (H : Hp) (E : XK), RmG k (Ar.deeper (envOfC x (defScope st) s.heap.objs.size f cdv)) →
      SRs (cxOf CX0 P w K mg base N x (defScope st) f cdv Ar up s H E).nox (outP 0 ks) (defBody st) mb) : Fm P w K mg base (k + 1) x ps.length (mFn ks N.length mb) := by
  obtain ⟨f, fd, F, b, hm⟩ := D
  exact fm_of F S b hm ks hk (body f)
/-- turns of a while, at most -/
def whF : Nat := 1000000
end Tl

namespace Tl
open PySem PySem.Spec PyProof.Rows L2
def bd {α β : Type} (x : Option α) (f : α → Option β) : Option β := x.bind f
@[simp] theorem bd_some {α β : Type} (a : α) (f : α → Option β) : bd (some a) f = f a := rfl
@[simp] theorem bd_none {α β : Type} (f : α → Option β) : bd none f = none := rfl
theorem bd_of {α β : Type} {x : Option α} {f g : α → Option β} (h : ∀ a, f a = g a) : x.bind f = bd x g := by
  cases x with
  | none => rfl
  | some a => exact h a
theorem bd_om {α β : Type} {x : Option α} {f : α → β} {g : α → Option β} (h : ∀ a, some (f a) = g a) : x.map f = bd x g := by
  cases x with
  | none => rfl
  | some a => exact h a
@[simp] theorem tget_nil (i : Nat) : tget [] i = none := rfl
@[simp] theorem tget_cons (j : Nat) (t : T) (r : Tau) (i : Nat) : tget ((j, t) :: r) i = if j = i then some t else tget r i := rfl
@[simp] theorem tdel_nil (i : Nat) : tdel [] i = [] := rfl
@[simp] theorem tdel_cons (j : Nat) (t : T) (r : Tau) (i : Nat) : tdel ((j, t) :: r) i = if j = i then tdel r i else (j, t) :: tdel r i := rfl
@[simp] theorem tset_nil (i : Nat) (t : T) : tset [] i t = [(i, t)] := rfl
@[simp] theorem tset_cons (j : Nat) (u : T) (r : Tau) (i : Nat) (t : T) : tset ((j, u) :: r) i t = if j = i then (i, t) :: r else (j, u) :: tset r i t := rfl
@[simp] theorem fget_z (x : Option D) (r : Fz) : fget (x :: r) 0 = x := rfl
@[simp] theorem fget_s (x : Option D) (r : Fz) (n : Nat) : fget (x :: r) (n + 1) = fget r n := rfl
@[simp] theorem fset_z (x : Option D) (r : Fz) (d : Option D) : fset (x :: r) 0 d = d :: r := rfl
@[simp] theorem fset_s (x : Option D) (r : Fz) (n : Nat) (d : Option D) : fset (x :: r) (n + 1) d = x :: fset r n d := rfl
@[simp] theorem inN_nil (i : Nat) : inN [] i = false := rfl
@[simp] theorem inN_cons (j : Nat) (r : List Nat) (i : Nat) : inN (j :: r) i = if j = i then true else inN r i := rfl
@[simp] theorem tout_nil (ns : List Nat) : tout ns [] = [] := rfl
@[simp] theorem tout_cons (ns : List Nat) (i : Nat) (t : T) (r : Tau) : tout ns ((i, t) :: r) = if inN ns i = true then tout ns r else (i, t) :: tout ns r := rfl
@[simp] theorem fwipe_nil (f : Fz) : fwipe f [] = f := rfl
@[simp] theorem fwipe_cons (f : Fz) (v : Nat) (vs : List Nat) : fwipe f (v :: vs) = fset (fwipe f vs) v none := rfl
@[simp] theorem once_nil : once [] = true := rfl
@[simp] theorem once_cons (j : Nat) (u : T) (r : Tau) : once ((j, u) :: r) = ((tget r j).isNone && once r) := rfl
@[simp] theorem fz_leaf (d : D) : T.fz (.leaf d) = some d := rfl
@[simp] theorem fz_fl (d : List D) : T.fz (.fl d) = some (.list d) := rfl
@[simp] def lsK (ds : List D) : Option D := some (.list ds)
@[simp] def tpK (ds : List D) : Option D := some (.tuple ds)
@[simp] theorem fz_ls (d : List T) : T.fz (.ls d) = bd (T.fzL d) lsK := by
  show (T.fzL d).map PyData.list = _
  exact bd_om fun a => rfl
@[simp] theorem fz_tup (d : List T) : T.fz (.tup d) = bd (T.fzL d) tpK := by
  show (T.fzL d).map PyData.tuple = _
  exact bd_om fun a => rfl
@[simp] theorem fzL_nil : T.fzL [] = some [] := rfl
@[simp] def fzK2 (d : D) (ds : List D) : Option (List D) := some (d :: ds)
@[simp] def fzK1 (ts : List T) (d : D) : Option (List D) := bd (T.fzL ts) (fzK2 d)
@[simp] theorem fzL_cons (t : T) (ts : List T) : T.fzL (t :: ts) = bd (T.fz t) (fzK1 ts) := rfl
@[simp] theorem er_val (t : T) : R.er (.val t) = t.fz := rfl
@[simp] theorem er_vw_ (t : T) : R.er (.vw t) = t.fz := rfl
@[simp] theorem st_val (t : T) : R.st (.val t) = t.fz := rfl
@[simp] theorem st_vwl (d : D) : R.st (.vw (.leaf d)) = some d := rfl
@[simp] theorem rt_val (t : T) : R.t (.val t) = some t := rfl
@[simp] theorem rt_vwl (d : D) : R.t (.vw (.leaf d)) = some (.leaf d) := rfl
@[simp] def erK1 (rs : List R) (d : D) : Option (List D) := bd (erL rs) (fzK2 d)
@[simp] theorem erL_nil : erL [] = some [] := rfl
@[simp] theorem erL_cons (r : R) (rs : List R) : erL (r :: rs) = bd r.er (erK1 rs) := rfl
@[simp] def stK1 (rs : List R) (d : D) : Option (List D) := bd (stL rs) (fzK2 d)
@[simp] theorem stL_nil : stL [] = some [] := rfl
@[simp] theorem stL_cons (r : R) (rs : List R) : stL (r :: rs) = bd r.st (stK1 rs) := rfl
@[simp] def tsK2 (d : T) (ds : List T) : Option (List T) := some (d :: ds)
@[simp] def tsK1 (rs : List R) (d : T) : Option (List T) := bd (tsR rs) (tsK2 d)
@[simp] theorem tsR_nil : tsR [] = some [] := rfl
@[simp] theorem tsR_cons (r : R) (rs : List R) : tsR (r :: rs) = bd r.t (tsK1 rs) := rfl
@[simp] theorem asB_v (b : Bool) : asB (.val (.leaf (.bool b))) = some b := rfl
@[simp] theorem asI_v (b : Int) : asI (.val (.leaf (.int b))) = some b := rfl
@[simp] def insK (i : Int) (is : List Int) : Option (List Int) := some (i :: is)
@[simp] theorem asInts_nil : asInts [] = some [] := rfl
@[simp] theorem asInts_cons (i : Int) (rs : List R) : asInts (.val (.leaf (.int i)) :: rs) = bd (asInts rs) (insK i) := by
  show (asInts rs).map (i :: ·) = _
  exact bd_om fun a => rfl
@[simp] theorem r_mC (d : D) (ro : Ro) (τ : Tau) : mC d ro τ = some (rd d, τ) := rfl
@[simp] def varK (τ : Tau) (d : D) : Option (R × Tau) := some (rd d, τ)
@[simp] theorem r_mVar (i : Nat) (fz : Fz) (vw : Tau) (τ : Tau) : mVar i ⟨fz, vw⟩ τ = bd (fget fz i) (varK τ) := bd_om fun a => rfl
@[simp] def seeK (fz : Fz) (i : Nat) (τ : Tau) : Option T → Option (R × Tau)
  | some t => some (.vw t, τ)
  | none => bd (fget fz i) (varK τ)
@[simp] theorem r_mSee (i : Nat) (fz : Fz) (vw : Tau) (τ : Tau) : mSee i ⟨fz, vw⟩ τ = seeK fz i τ (tget vw i) := by
  unfold mSee
  cases h : tget vw i with
  | some t => simp [h]
  | none =>
    simp only [h]
    exact bd_om fun a => rfl
@[simp] def tkK (fz : Fz) (i : Nat) (τ : Tau) : Option T → Option (R × Tau)
  | some t => some (.val t, tset τ i .hole)
  | none => bd (fget fz i) (varK τ)
@[simp] theorem r_mTk (i : Nat) (fz : Fz) (vw : Tau) (τ : Tau) : mTk i ⟨fz, vw⟩ τ = tkK fz i τ (tget τ i) := by
  unfold mTk
  cases h : tget τ i with
  | some t => simp
  | none => exact bd_om fun a => rfl
@[simp] def borK (i : Nat) (t : T) : R × Tau → Option (R × Tau)
  | (.val x, τ) => some (.val x, tset τ i t)
  | (.vw (.leaf d), τ) => some (rd d, tset τ i t)
  | (.vw _, _) => none
def brK2 (i : Nat) (m : MV) (fz : Fz) (vw : Tau) (τ : Tau) (t : T) : Bool → Option (R × Tau)
  | true => m ⟨fz, vw⟩ τ
  | false => bd (m ⟨fz, (i, t) :: vw⟩ (tset τ i .hole)) (borK i t)
@[simp] theorem brK2_t (i : Nat) (m : MV) (fz : Fz) (vw : Tau) (τ : Tau) (t : T) : brK2 i m fz vw τ t true = m ⟨fz, vw⟩ τ := rfl
@[simp] theorem brK2_f (i : Nat) (m : MV) (fz : Fz) (vw : Tau) (τ : Tau) (t : T) : brK2 i m fz vw τ t false = bd (m ⟨fz, (i, t) :: vw⟩ (tset τ i .hole)) (borK i t) := rfl
@[simp] def brK (i : Nat) (m : MV) (fz : Fz) (vw : Tau) (τ : Tau) : Option T → Option (R × Tau)
  | none => m ⟨fz, vw⟩ τ
  | some t => brK2 i m fz vw τ t (isHole t)
@[simp] theorem hole_t : isHole .hole = true := rfl
@[simp] theorem hole_fl (ds : List D) : isHole (.fl ds) = false := rfl
@[simp] theorem hole_ls (ds : List T) : isHole (.ls ds) = false := rfl
@[simp] theorem hole_scr (ds : List D) : isHole (.scr ds) = false := rfl
@[simp] theorem hole_leaf (ds : D) : isHole (.leaf ds) = false := rfl
@[simp] theorem hole_tup (ds : List T) : isHole (.tup ds) = false := rfl
@[simp] theorem r_mBr (i : Nat) (m : MV) (fz : Fz) (vw : Tau) (τ : Tau) : mBr i m ⟨fz, vw⟩ τ = brK i m fz vw τ (tget τ i) := by
  unfold mBr
  cases h : tget τ i with
  | none => rfl
  | some t =>
    show (if isHole t = true then m ⟨fz, vw⟩ τ else mBor i m ⟨fz, vw⟩ τ) = brK2 i m fz vw τ t (isHole t)
    cases z : isHole t with
    | true => rw [if_pos rfl]; rfl
    | false =>
      rw [if_neg Bool.false_ne_true]
      unfold mBor
      rw [h]
      show (m ⟨fz, (i, t) :: vw⟩ (tset τ i .hole)).bind _ = bd _ _
      refine bd_of fun a => ?_
      obtain ⟨r, τ'⟩ := a
      cases r with
      | val x => rfl
      | vw x => cases x <;> rfl
@[simp] def ofBK : Bool × Tau → Option (R × Tau)
  | (b, τ) => some (rBool b, τ)
@[simp] theorem r_mOfB (m : MB) (ro : Ro) (τ : Tau) : mOfB m ro τ = bd (m ro τ) ofBK := bd_om fun a => rfl
@[simp] def toBK2 (τ : Tau) (b : Bool) : Option (Bool × Tau) := some (b, τ)
@[simp] def toBK : R × Tau → Option (Bool × Tau)
  | (r, τ) => bd (asB r) (toBK2 τ)
@[simp] theorem r_mBrB (i : Nat) (m : MB) (ro : Ro) (τ : Tau) : mBrB i m ro τ = bd (mBr i (mOfB m) ro τ) toBK := bd_of fun a => bd_om fun b => rfl
@[simp] theorem r_mTst (m : MV) (ro : Ro) (τ : Tau) : mTst m ro τ = bd (m ro τ) toBK := bd_of fun a => bd_om fun b => rfl
@[simp] def truK1 (τ : Tau) (d : D) : Option (Bool × Tau) := bd (truD d) (toBK2 τ)
@[simp] def truK : R × Tau → Option (Bool × Tau)
  | (r, τ) => bd r.er (truK1 τ)
@[simp] theorem r_mTru (m : MV) (ro : Ro) (τ : Tau) : mTru m ro τ = bd (m ro τ) truK := bd_of fun a => bd_of fun b => bd_om fun c => rfl
@[simp] theorem truD_b (b : Bool) : truD (.bool b) = some b := rfl
@[simp] def ofK2 (τ : Tau) (r : R) : Option (R × Tau) := some (r, τ)
@[simp] def opK (g : List R → Option R) : List R × Tau → Option (R × Tau)
  | (rs, τ) => bd (g rs) (ofK2 τ)
@[simp] theorem r_mOp (g : List R → Option R) (l : ML) (ro : Ro) (τ : Tau) : mOp g l ro τ = bd (l ro τ) (opK g) := bd_of fun a => bd_om fun b => rfl
@[simp] def opBK (g : List R → Option R) : List R × Tau → Option (Bool × Tau)
  | (rs, τ) => bd (g rs) (opBK2 τ)
where @[simp] opBK2 (τ : Tau) : R → Option (Bool × Tau)
  | .val (.leaf (.bool b)) => some (b, τ)
  | _ => none
@[simp] theorem r_mOpB (g : List R → Option R) (l : ML) (ro : Ro) (τ : Tau) : mOpB g l ro τ = bd (l ro τ) (opBK g) := bd_of fun a => bd_of fun b => rfl
@[simp] theorem r_mNil (ro : Ro) (τ : Tau) : mNil ro τ = some ([], τ) := rfl
@[simp] def csK2 (r : R) : List R × Tau → Option (List R × Tau)
  | (rs, τ) => some (r :: rs, τ)
@[simp] def csK (l : ML) (ro : Ro) : R × Tau → Option (List R × Tau)
  | (r, τ) => bd (l ro τ) (csK2 r)
@[simp] theorem r_mCons (m : MV) (l : ML) (ro : Ro) (τ : Tau) : mCons m l ro τ = bd (m ro τ) (csK l ro) := bd_of fun a => bd_of fun b => rfl
def ifK (m n : MV) (ro : Ro) : Bool × Tau → Option (R × Tau)
  | (true, τ) => m ro τ
  | (false, τ) => n ro τ
@[simp] theorem ifK_t (m n : MV) (ro : Ro) (τ : Tau) : ifK m n ro (true, τ) = m ro τ := rfl
@[simp] theorem ifK_f (m n : MV) (ro : Ro) (τ : Tau) : ifK m n ro (false, τ) = n ro τ := rfl
@[simp] theorem r_mIf (c : MB) (m n : MV) (ro : Ro) (τ : Tau) : mIf c m n ro τ = bd (c ro τ) (ifK m n ro) := bd_of fun a => by
  obtain ⟨b, τ'⟩ := a
  cases b <;> rfl
def andBK (n : MB) (ro : Ro) : Bool × Tau → Option (Bool × Tau)
  | (true, τ) => n ro τ
  | (false, τ) => some (false, τ)
@[simp] theorem andBK_t (n : MB) (ro : Ro) (τ : Tau) : andBK n ro (true, τ) = n ro τ := rfl
@[simp] theorem andBK_f (n : MB) (ro : Ro) (τ : Tau) : andBK n ro (false, τ) = some (false, τ) := rfl
def orBK (n : MB) (ro : Ro) : Bool × Tau → Option (Bool × Tau)
  | (true, τ) => some (true, τ)
  | (false, τ) => n ro τ
@[simp] theorem orBK_t (n : MB) (ro : Ro) (τ : Tau) : orBK n ro (true, τ) = some (true, τ) := rfl
@[simp] theorem orBK_f (n : MB) (ro : Ro) (τ : Tau) : orBK n ro (false, τ) = n ro τ := rfl
@[simp] def notBK : Bool × Tau → Option (Bool × Tau)
  | (b, τ) => some (!b, τ)
@[simp] theorem r_mAndB (m n : MB) (ro : Ro) (τ : Tau) : mAndB m n ro τ = bd (m ro τ) (andBK n ro) := bd_of fun a => by
  obtain ⟨b, τ'⟩ := a
  cases b <;> rfl
@[simp] theorem r_mOrB (m n : MB) (ro : Ro) (τ : Tau) : mOrB m n ro τ = bd (m ro τ) (orBK n ro) := bd_of fun a => by
  obtain ⟨b, τ'⟩ := a
  cases b <;> rfl
@[simp] theorem r_mNotB (m : MB) (ro : Ro) (τ : Tau) : mNotB m ro τ = bd (m ro τ) notBK := bd_om fun a => rfl
def andK2 (n : MV) (ro : Ro) (τ : Tau) : Bool → Option (R × Tau)
  | true => n ro τ
  | false => some (rBool false, τ)
@[simp] theorem andK2_t (n : MV) (ro : Ro) (τ : Tau) : andK2 n ro τ true = n ro τ := rfl
@[simp] theorem andK2_f (n : MV) (ro : Ro) (τ : Tau) : andK2 n ro τ false = some (rBool false, τ) := rfl
def orK2 (n : MV) (ro : Ro) (τ : Tau) : Bool → Option (R × Tau)
  | true => some (rBool true, τ)
  | false => n ro τ
@[simp] theorem orK2_t (n : MV) (ro : Ro) (τ : Tau) : orK2 n ro τ true = some (rBool true, τ) := rfl
@[simp] theorem orK2_f (n : MV) (ro : Ro) (τ : Tau) : orK2 n ro τ false = n ro τ := rfl
@[simp] def notK2 (τ : Tau) (b : Bool) : Option (R × Tau) := some (rBool !b, τ)
@[simp] def andK (n : MV) (ro : Ro) : R × Tau → Option (R × Tau)
  | (r, τ) => bd (asB r) (andK2 n ro τ)
@[simp] def orK (n : MV) (ro : Ro) : R × Tau → Option (R × Tau)
  | (r, τ) => bd (asB r) (orK2 n ro τ)
@[simp] def notK : R × Tau → Option (R × Tau)
  | (r, τ) => bd (asB r) (notK2 τ)
@[simp] theorem r_mAnd (m n : MV) (ro : Ro) (τ : Tau) : mAnd m n ro τ = bd (m ro τ) (andK n ro) := bd_of fun a => bd_of fun b => by cases b <;> rfl
@[simp] theorem r_mOr (m n : MV) (ro : Ro) (τ : Tau) : mOr m n ro τ = bd (m ro τ) (orK n ro) := bd_of fun a => bd_of fun b => by cases b <;> rfl
@[simp] theorem r_mNot (m : MV) (ro : Ro) (τ : Tau) : mNot m ro τ = bd (m ro τ) notK := bd_of fun a => bd_om fun b => rfl
@[simp] def isiK1 (f : D → Bool) (τ : Tau) (d : D) : Option (R × Tau) := some (rBool (f d), τ)
@[simp] def isiK (f : D → Bool) : R × Tau → Option (R × Tau)
  | (r, τ) => bd r.er (isiK1 f τ)
@[simp] theorem r_mIsi (f : D → Bool) (m : MV) (ro : Ro) (τ : Tau) : mIsi f m ro τ = bd (m ro τ) (isiK f) := bd_of fun a => bd_om fun b => rfl
@[simp] def isi2K1 (f g : D → Bool) (τ : Tau) (d : D) : Option (R × Tau) := some (rBool (f d || g d), τ)
@[simp] def isi2K (f g : D → Bool) : R × Tau → Option (R × Tau)
  | (r, τ) => bd r.er (isi2K1 f g τ)
@[simp] theorem r_mIsi2 (f g : D → Bool) (m : MV) (ro : Ro) (τ : Tau) : mIsi2 f g m ro τ = bd (m ro τ) (isi2K f g) := bd_of fun a => bd_om fun b => rfl
@[simp] def lrngK2 (τ : Tau) (n : Int) : Option (R × Tau) := if 0 ≤ n ∧ n ≤ 16000000 then some (.val (.fl (rangeD 0 1 n.toNat)), τ) else none
@[simp] def lrngK : R × Tau → Option (R × Tau)
  | (r, τ) => bd (asI r) (lrngK2 τ)
@[simp] theorem r_mLRng (m : MV) (ro : Ro) (τ : Tau) : mLRng m ro τ = bd (m ro τ) lrngK := bd_of fun a => bd_of fun b => rfl
@[simp] theorem r_oNone (ro : Ro) (τ : Tau) : oNone ro τ = some (none, τ) := rfl
@[simp] def oK2 (τ : Tau) (i : Int) : Option (Option Int × Tau) := some (some i, τ)
@[simp] def oK : R × Tau → Option (Option Int × Tau)
  | (r, τ) => bd (asI r) (oK2 τ)
@[simp] theorem r_oSome (m : MV) (ro : Ro) (τ : Tau) : oSome m ro τ = bd (m ro τ) oK := bd_of fun a => bd_om fun b => rfl
@[simp] def cutK3 (r : R) (i : Option Int) : Option Int × Tau → Option (R × Tau)
  | (j, τ) => bd (cutR r i j) (ofK2 τ)
@[simp] def cutK2 (h : MO) (ro : Ro) (r : R) : Option Int × Tau → Option (R × Tau)
  | (i, τ) => bd (h ro τ) (cutK3 r i)
@[simp] def cutK (l h : MO) (ro : Ro) : R × Tau → Option (R × Tau)
  | (r, τ) => bd (l ro τ) (cutK2 h ro r)
@[simp] theorem r_mCut (m : MV) (l h : MO) (ro : Ro) (τ : Tau) : mCut m l h ro τ = bd (m ro τ) (cutK l h ro) := bd_of fun a => bd_of fun b => bd_of fun c => bd_om fun d => rfl
@[simp] theorem r_cNil (ro : Ro) (τ : Tau) : cNil ro τ = some ([], τ) := rfl
@[simp] def caK3 (c : CArg) : List CArg × Tau → Option (List CArg × Tau)
  | (cs, τ) => some (c :: cs, τ)
@[simp] def caK2 (l : MCA) (ro : Ro) (τ : Tau) (d : D) : Option (List CArg × Tau) := bd (l ro τ) (caK3 (.d d))
@[simp] def caK (l : MCA) (ro : Ro) : R × Tau → Option (List CArg × Tau)
  | (r, τ) => bd r.st (caK2 l ro τ)
@[simp] def caSK (l : MCA) (ro : Ro) : R × Tau → Option (List CArg × Tau)
  | (r, τ) => bd r.er (caK2 l ro τ)
@[simp] theorem r_cCons (m : MV) (l : MCA) (ro : Ro) (τ : Tau) : cCons m l ro τ = bd (m ro τ) (caK l ro) := bd_of fun a => bd_of fun b => bd_om fun c => rfl
@[simp] theorem r_cSee (m : MV) (l : MCA) (ro : Ro) (τ : Tau) : cSee m l ro τ = bd (m ro τ) (caSK l ro) := bd_of fun a => bd_of fun b => bd_om fun c => rfl
@[simp] def caIK (l : MCA) (ro : Ro) (τ : Tau) (j : Nat) (t : T) : Option (List CArg × Tau) := bd (l ro τ) (caK3 (.io j))
@[simp] theorem r_cIo (j : Nat) (l : MCA) (ro : Ro) (τ : Tau) : cIo j l ro τ = bd (tget τ j) (caIK l ro τ j) := bd_of fun a => bd_om fun b => rfl
@[simp] def caOK (l : MCA) (ro : Ro) : R × Tau → Option (List CArg × Tau)
  | (.val t, τ) => bd (l ro τ) (caK3 (.ow t))
  | (.vw _, _) => none
@[simp] theorem r_cOw (m : MV) (l : MCA) (ro : Ro) (τ : Tau) : cOw m l ro τ = bd (m ro τ) (caOK l ro) := bd_of fun a => by
  obtain ⟨r, τ'⟩ := a
  cases r with
  | val t => exact bd_om fun b => rfl
  | vw t => rfl
@[simp] theorem bt_nil (τ : Tau) : buildT [] τ = some ([], τ) := rfl
@[simp] def btK (t : T) : List T × Tau → Option (List T × Tau)
  | (ts, τ) => some (t :: ts, τ)
@[simp] theorem bt_d (d : D) (cs : List CArg) (τ : Tau) : buildT (.d d :: cs) τ = bd (buildT cs τ) (btK (.leaf d)) := bd_om fun a => rfl
@[simp] theorem bt_ow (d : T) (cs : List CArg) (τ : Tau) : buildT (.ow d :: cs) τ = bd (buildT cs τ) (btK d) := bd_om fun a => rfl
@[simp] def btIK (j : Nat) (cs : List CArg) (τ : Tau) (t : T) : Option (List T × Tau) := bd (buildT cs (tset τ j .hole)) (btK t)
@[simp] theorem bt_io (d : Nat) (cs : List CArg) (τ : Tau) : buildT (.io d :: cs) τ = bd (tget τ d) (btIK d cs τ) := bd_of fun a => bd_om fun b => rfl
@[simp] theorem bk_nil (τ : Tau) : backT [] [] τ = some τ := rfl
@[simp] theorem bk_d (d : D) (cs : List CArg) (t : T) (ts : List T) (τ : Tau) : backT (.d d :: cs) (t :: ts) τ = backT cs ts τ := rfl
@[simp] theorem bk_ow (d : T) (cs : List CArg) (t : T) (ts : List T) (τ : Tau) : backT (.ow d :: cs) (t :: ts) τ = backT cs ts τ := rfl
@[simp] def bkK (j : Nat) (t : T) (τ : Tau) : Option Tau := some (tset τ j t)
@[simp] theorem bk_io (j : Nat) (cs : List CArg) (t : T) (ts : List T) (τ : Tau) : backT (.io j :: cs) (t :: ts) τ = bd (backT cs ts τ) (bkK j t) := bd_om fun a => rfl
@[simp] def callK3 (r : T) (τ : Tau) : Option (R × Tau) := some (.val r, τ)
@[simp] def callK2 (cs : List CArg) (τ : Tau) : T × List T → Option (R × Tau)
  | (r, ts) => bd (backT cs ts τ) (callK3 r)
@[simp] def callK1 (f : MF) (cs : List CArg) : List T × Tau → Option (R × Tau)
  | (ts, τ) => bd (f ts) (callK2 cs τ)
@[simp] def callK (f : MF) : List CArg × Tau → Option (R × Tau)
  | (cs, τ) => bd (buildT cs τ) (callK1 f cs)
@[simp] theorem r_mCall (f : MF) (l : MCA) (ro : Ro) (τ : Tau) : mCall f l ro τ = bd (l ro τ) (callK f) := bd_of fun a => bd_of fun b => bd_of fun c => bd_om fun d => rfl
@[simp] theorem lf_nil : leafs [] = some [] := rfl
@[simp] def lfK (d : D) (ts : List T) : Option (List T) := some (.leaf d :: ts)
@[simp] theorem lf_d (d : D) (cs : List CArg) : leafs (.d d :: cs) = bd (leafs cs) (lfK d) := by
  show (leafs cs).map (T.leaf d :: ·) = _
  exact bd_om fun a => rfl
@[simp] def lookK2 (τ : Tau) : T × List T → Option (R × Tau)
  | (r, _) => if isScal r = true then some (.val r, τ) else none
@[simp] def lookK1 (f : MF) (τ : Tau) (ts : List T) : Option (R × Tau) := bd (f ts) (lookK2 τ)
@[simp] def lookK (f : MF) : List CArg × Tau → Option (R × Tau)
  | (cs, τ) => bd (leafs cs) (lookK1 f τ)
@[simp] theorem r_mLook (f : MF) (l : MCA) (ro : Ro) (τ : Tau) : mLook f l ro τ = bd (l ro τ) (lookK f) := bd_of fun a => bd_of fun b => bd_of fun c => rfl
@[simp] theorem sc_b (b : Bool) : isScal (.leaf (.bool b)) = true := rfl
@[simp] theorem sc_i (b : Int) : isScal (.leaf (.int b)) = true := rfl
@[simp] theorem sc_s (b : Str) : isScal (.leaf (.str b)) = true := rfl
@[simp] theorem sc_n : isScal (.leaf .none) = true := rfl
end Tl

namespace Tl
open PySem PySem.Spec PyProof.Rows L2
@[simp] theorem isLs_fl (ds : List D) : isLs (.fl ds) = true := rfl
@[simp] theorem isLs_ls (ds : List T) : isLs (.ls ds) = true := rfl
@[simp] def mutK4 (i : Nat) (τ : Tau) : D × T → Option (R × Tau)
  | (z, t) => some (rd z, tset τ i t)
@[simp] def mutK3 (i : Nat) (g : T → List D → Option (D × T)) (τ : Tau) (ds : List D) (t : T) : Option (R × Tau) := bd (g t ds) (mutK4 i τ)
@[simp] def mutK2 (i : Nat) (g : T → List D → Option (D × T)) (τ : Tau) (ds : List D) : Option (R × Tau) := bd (tget τ i) (mutK3 i g τ ds)
@[simp] def mutK1 (i : Nat) (g : T → List D → Option (D × T)) : List R × Tau → Option (R × Tau)
  | (rs, τ) => bd (stL rs) (mutK2 i g τ)
@[simp] def mutK0 (i : Nat) (g : T → List D → Option (D × T)) (l : ML) (ro : Ro) (τ : Tau) : Bool → Option (R × Tau)
  | true => bd (l ro τ) (mutK1 i g)
  | false => none
@[simp] def mutK (i : Nat) (g : T → List D → Option (D × T)) (l : ML) (ro : Ro) (τ : Tau) (t : T) : Option (R × Tau) := mutK0 i g l ro τ (isLs t)
@[simp] theorem r_mMut (i : Nat) (g : T → List D → Option (D × T)) (l : ML) (ro : Ro) (τ : Tau) : mMut i g l ro τ = bd (tget τ i) (mutK i g l ro τ) := bd_of fun t => by
  unfold mutK
  cases z : isLs t with
  | false => rw [if_neg Bool.false_ne_true]; rfl
  | true =>
    rw [if_pos rfl]
    exact bd_of fun a => bd_of fun b => bd_of fun c => bd_om fun d => rfl
@[simp] theorem r_pHere (u : T) (ro : Ro) (τ : Tau) : pHere u ro τ = some (([], u), τ) := rfl
@[simp] def pAtK4 (is : List Int) (i : Int) (τ : Tau) (w : T) : Option ((List Int × T) × Tau) := some ((is ++ [i], w), τ)
@[simp] def pAtK3 (is : List Int) (i : Int) (τ : Tau) (ts : List T) : Option ((List Int × T) × Tau) := bd (L2.atI ts i) (pAtK4 is i τ)
@[simp] def pAtK2 (is : List Int) (w : T) (τ : Tau) (i : Int) : Option ((List Int × T) × Tau) := bd w.kids (pAtK3 is i τ)
@[simp] def pAtK1 (is : List Int) (w : T) : R × Tau → Option ((List Int × T) × Tau)
  | (r, τ) => bd (asI r) (pAtK2 is w τ)
@[simp] def pAtK (mi : MV) (ro : Ro) : (List Int × T) × Tau → Option ((List Int × T) × Tau)
  | ((is, w), τ) => bd (mi ro τ) (pAtK1 is w)
@[simp] theorem r_pAt (mb : MP) (mi : MV) (u : T) (ro : Ro) (τ : Tau) : pAt mb mi u ro τ = bd (mb u ro τ) (pAtK mi ro) := bd_of fun a => bd_of fun b => bd_of fun c => bd_of fun d => bd_om fun e => rfl
@[simp] theorem kids_ls (ts : List T) : T.kids (.ls ts) = some ts := rfl
@[simp] theorem kids_tup (ts : List T) : T.kids (.tup ts) = some ts := rfl
@[simp] theorem put_ls (ts : List T) (j : Nat) (u : T) : T.put (.ls ts) j u = some (.ls (ts.set j u)) := rfl
@[simp] theorem put_tup (ts : List T) (j : Nat) (u : T) : T.put (.tup ts) j u = some (.tup (ts.set j u)) := rfl
@[simp] theorem setP_nil (t u : T) : setP t [] u = some u := rfl
@[simp] def setPK3 (t : T) (j : Nat) (w : T) : Option T := t.put j w
@[simp] def setPK2 (t : T) (is : List Int) (u : T) (j : Nat) (w : T) : Option T := bd (setP w is u) (setPK3 t j)
@[simp] def setPK1 (t : T) (is : List Int) (u : T) (ts : List T) (j : Nat) : Option T := bd (ts[j]?) (setPK2 t is u j)
@[simp] def setPK (t : T) (i : Int) (is : List Int) (u : T) (ts : List T) : Option T := bd (ixN ts.length i) (setPK1 t is u ts)
@[simp] theorem setP_cons (t : T) (i : Int) (is : List Int) (u : T) : setP t (i :: is) u = bd t.kids (setPK t i is u) := by
  show t.kids.bind _ = _
  exact bd_of fun ts => bd_of fun j => bd_of fun w => bd_of fun w' => rfl
@[simp] def mpK5 (x : Nat) (z : D) (τ : Tau) (u : T) : Option (R × Tau) := some (rd z, tset τ x u)
@[simp] def mpK4 (x : Nat) (u : T) (is : List Int) (τ : Tau) : D × T → Option (R × Tau)
  | (z, w) => bd (setP u is w) (mpK5 x z τ)
@[simp] def mpK3 (x : Nat) (g : T → List D → Option (D × T)) (u : T) (is : List Int) (w : T) (τ : Tau) (ds : List D) : Option (R × Tau) := bd (g w ds) (mpK4 x u is τ)
@[simp] def mpK2 (x : Nat) (g : T → List D → Option (D × T)) (u : T) (is : List Int) (w : T) : List R × Tau → Option (R × Tau)
  | (rs, τ) => bd (stL rs) (mpK3 x g u is w τ)
@[simp] def mpK1 (x : Nat) (g : T → List D → Option (D × T)) (l : ML) (fz : Fz) (vw : Tau) (u : T) (is : List Int) (w : T) (τ : Tau) : Bool → Option (R × Tau)
  | true => bd (l ⟨fz, (x, u) :: vw⟩ τ) (mpK2 x g u is w)
  | false => none
@[simp] def mpK0 (x : Nat) (g : T → List D → Option (D × T)) (l : ML) (fz : Fz) (vw : Tau) (u : T) : (List Int × T) × Tau → Option (R × Tau)
  | ((is, w), τ) => mpK1 x g l fz vw u is w τ (isLs w)
@[simp] def mpK (x : Nat) (mp : MP) (g : T → List D → Option (D × T)) (l : ML) (fz : Fz) (vw : Tau) (τ : Tau) (u : T) : Option (R × Tau) := bd (mp u ⟨fz, (x, u) :: vw⟩ (tset τ x .hole)) (mpK0 x g l fz vw u)
@[simp] theorem r_mMutP (x : Nat) (mp : MP) (g : T → List D → Option (D × T)) (l : ML) (fz : Fz) (vw : Tau) (τ : Tau) : mMutP x mp g l ⟨fz, vw⟩ τ = bd (tget τ x) (mpK x mp g l fz vw τ) := bd_of fun u => bd_of fun a => by
  obtain ⟨⟨is, w⟩, τ'⟩ := a
  show _ = mpK1 x g l fz vw u is w τ' (isLs w)
  cases z : isLs w with
  | false => rw [if_neg Bool.false_ne_true]; rfl
  | true =>
    rw [if_pos rfl]
    exact bd_of fun a => bd_of fun b => bd_of fun c => bd_om fun d => rfl
@[simp] theorem g_append (xs : List D) (d : D) : gAppend (.fl xs) [d] = if xs.length < 16000000 then some (.none, .fl (xs ++ [d])) else none := rfl
@[simp] theorem g_appendls (xs : List T) (d : D) : gAppend (.ls xs) [d] = if xs.length < 16000000 then some (.none, .ls (xs ++ [.leaf d])) else none := rfl
@[simp] theorem g_clearls (xs : List T) : gClear (.ls xs) [] = some (.none, .fl []) := rfl
@[simp] theorem g_extend (xs es : List D) : gExtend (.fl xs) [.list es] = if xs.length + es.length ≤ 16000000 then some (.none, .fl (xs ++ es)) else none := rfl
@[simp] theorem g_insert (xs : List D) (i : Int) (d : D) : gInsert (.fl xs) [.int i, d] = if xs.length < 16000000 ∧ 0 ≤ i ∧ i ≤ 16000000 then some (.none, .fl (xs.take i.toNat ++ [d] ++ xs.drop i.toNat)) else none := rfl
@[simp] def popK (xs : List D) (d : D) : Option (D × T) := some (d, .fl xs.dropLast)
@[simp] theorem g_pop (xs : List D) : gPop (.fl xs) [] = bd (xs[xs.length - 1]?) (popK xs) := bd_om fun a => rfl
@[simp] theorem g_reverse (xs : List D) : gReverse (.fl xs) [] = some (.none, .fl xs.reverse) := rfl
@[simp] theorem g_clear (xs : List D) : gClear (.fl xs) [] = some (.none, .fl []) := rfl
@[simp] def pAK2 (xs : List D) (k : Nat) (d : D) : Option (D × T) := some (d, .fl (xs.eraseIdx k))
@[simp] def pAK (xs : List D) (k : Nat) : Option (D × T) := bd (xs[k]?) (pAK2 xs k)
@[simp] theorem g_popAt (xs : List D) (i : Int) : gPopAt (.fl xs) [.int i] = if -16000000 ≤ i ∧ i ≤ 16000000 then bd (seqIndex? i xs.length) (pAK xs) else none := by
  show (if -16000000 ≤ i ∧ i ≤ 16000000 then (seqIndex? i xs.length).bind _ else none) = _
  congr 1
  exact bd_of fun k => bd_om fun d => rfl
@[simp] def putK (xs : List D) (d : D) (j : Nat) : Option (D × T) := some (.none, .fl (xs.set j d))
@[simp] theorem g_put (i : Int) (xs : List D) (d : D) : gPut i (.fl xs) [d] = bd (ixN xs.length i) (putK xs d) := by
  show ((ixN xs.length i).map fun j => T.fl (xs.set j d)).map (fun w' => (PyData.none, w')) = _
  rw [Option.map_map]
  exact bd_om fun a => rfl
@[simp] theorem its_l (ds : List D) : R.its (.val (.leaf (.list ds))) = some (true, ds) := rfl
@[simp] theorem its_t (ds : List D) : R.its (.val (.leaf (.tuple ds))) = some (false, ds) := rfl
@[simp] theorem its_f (ds : List D) : R.its (.val (.fl ds)) = some (true, ds) := rfl
@[simp] theorem its_wf (ds : List D) : R.its (.vw (.fl ds)) = some (true, ds) := rfl
@[simp] theorem its_ws (ds : List D) : R.its (.vw (.scr ds)) = some (true, ds) := rfl
@[simp] theorem its_wl (ds : List D) : R.its (.vw (.leaf (.list ds))) = some (true, ds) := rfl
@[simp] theorem its_wt (ds : List D) : R.its (.vw (.leaf (.tuple ds))) = some (false, ds) := rfl
@[simp] def sqK2 (τ : Tau) : Bool × List D → Option (List D × Tau)
  | (_, ds) => some (ds, τ)
@[simp] def sqK : R × Tau → Option (List D × Tau)
  | (r, τ) => bd r.its (sqK2 τ)
@[simp] theorem r_iSeq (m : MV) (ro : Ro) (τ : Tau) : iSeq m ro τ = bd (m ro τ) sqK := bd_of fun a => bd_om fun b => rfl
@[simp] def enK2 (τ : Tau) : Bool × List D → Option (List D × Tau)
  | (true, ds) => some (enumFrom 0 ds, τ)
  | (false, _) => none
@[simp] def enK : R × Tau → Option (List D × Tau)
  | (r, τ) => bd r.its (enK2 τ)
@[simp] theorem r_iEnumM (m : MV) (ro : Ro) (τ : Tau) : iEnumM m ro τ = bd (m ro τ) enK := bd_of fun a => bd_of fun b => by
  obtain ⟨b, ds⟩ := b
  cases b <;> rfl
@[simp] def rvK2 (τ : Tau) : Bool × List D → Option (List D × Tau)
  | (true, ds) => some (ds.reverse, τ)
  | (false, _) => none
@[simp] def rvK : R × Tau → Option (List D × Tau)
  | (r, τ) => bd r.its (rvK2 τ)
@[simp] theorem r_iRevM (m : MV) (ro : Ro) (τ : Tau) : iRevM m ro τ = bd (m ro τ) rvK := bd_of fun a => bd_of fun b => by
  obtain ⟨b, ds⟩ := b
  cases b <;> rfl
@[simp] def zpK4 (τ : Tau) (b : Bool) (ds : List D) : Bool × List D → Option (List D × Tau)
  | (c, es) => if b = c then some (zipD ds es, τ) else none
@[simp] def zpK3 (b : Bool) (ds : List D) : R × Tau → Option (List D × Tau)
  | (r, τ) => bd r.its (zpK4 τ b ds)
@[simp] def zpK2 (n : MV) (ro : Ro) (τ : Tau) : Bool × List D → Option (List D × Tau)
  | (b, ds) => bd (n ro τ) (zpK3 b ds)
@[simp] def zpK (n : MV) (ro : Ro) : R × Tau → Option (List D × Tau)
  | (r, τ) => bd r.its (zpK2 n ro τ)
@[simp] theorem r_iZipM (m n : MV) (ro : Ro) (τ : Tau) : iZipM m n ro τ = bd (m ro τ) (zpK n ro) := bd_of fun a => bd_of fun b => bd_of fun c => bd_of fun d => rfl
@[simp] def rgK3 (τ : Tau) (ds : List D) : Option (List D × Tau) := some (ds, τ)
@[simp] def rgK2 (τ : Tau) (ns : List Int) : Option (List D × Tau) := bd (rngOf ns) (rgK3 τ)
@[simp] def rgK : List R × Tau → Option (List D × Tau)
  | (rs, τ) => bd (asInts rs) (rgK2 τ)
@[simp] theorem r_iRng (l : ML) (ro : Ro) (τ : Tau) : iRng l ro τ = bd (l ro τ) rgK := bd_of fun a => bd_of fun b => bd_om fun c => rfl
@[simp] theorem rng1 (j : Int) : rngOf [j] = if -8000000 ≤ j ∧ j ≤ 8000000 then some (rangeD 0 1 j.toNat) else none := rfl
@[simp] theorem rng2 (i j : Int) : rngOf [i, j] = if (-8000000 ≤ i ∧ i ≤ 8000000) ∧ -8000000 ≤ j ∧ j ≤ 8000000 then some (rangeD i 1 (j - i).toNat) else none := rfl
@[simp] theorem rng3 (i j c : Int) : rngOf [i, j, c] = if c = -1 ∧ (-8000000 ≤ i ∧ i ≤ 8000000) ∧ -8000000 ≤ j ∧ j ≤ 8000000 then some (rangeD i c (i - j).toNat) else none := rfl
@[simp] theorem r_gtN (i : Nat) (d : D) (fz : Fz) : gtN i d fz = some (fset fz i (some d)) := rfl
@[simp] theorem r_gtNil (fz : Fz) : gtNil [] fz = some fz := rfl
@[simp] theorem r_gtCons (m : MG) (l : MGs) (d : D) (ds : List D) (fz : Fz) : gtCons m l (d :: ds) fz = bd (m d fz) (l ds) := bd_of fun a => rfl
@[simp] theorem r_gtT (l : MGs) (ds : List D) (fz : Fz) : gtT l (.tuple ds) fz = l ds fz := rfl
@[simp] theorem r_mYes (ro : Ro) (τ : Tau) : mYes ro τ = some (true, τ) := rfl
@[simp] def lcK2 : List D × Tau → Option (R × Tau)
  | (ds, τ) => some (.val (.fl ds), τ)
@[simp] def lcK (vs : List Nat) (mt : MG) (mc : MB) (me : MV) (fz : Fz) (vw : Tau) : List D × Tau → Option (R × Tau)
  | (ds, τ) => bd (lcLoop vs mt mc me (fwipe fz vs) (tout vs vw) ds [] (tout vs τ)) lcK2
@[simp] theorem r_mLc (vs : List Nat) (mi : MI) (mt : MG) (mc : MB) (me : MV) (fz : Fz) (vw : Tau) (τ : Tau) : mLc vs mi mt mc me ⟨fz, vw⟩ τ = bd (mi ⟨fz, vw⟩ τ) (lcK vs mt mc me fz vw) := bd_of fun a => bd_om fun b => rfl
@[simp] def xK (fz : Fz) : R × Tau → Option (T × SS)
  | (.val x, τ) => some (x, ⟨fz, τ⟩)
  | (.vw (.leaf d), τ) => some (.leaf d, ⟨fz, τ⟩)
  | (.vw _, _) => none
@[simp] theorem r_mX (m : MV) (fz : Fz) (τ : Tau) : mX m ⟨fz, τ⟩ = bd (m ⟨fz, []⟩ τ) (xK fz) := bd_of fun a => by
  obtain ⟨r, τ'⟩ := a
  cases r with
  | val x => rfl
  | vw x => cases x <;> rfl
@[simp] def xbK (fz : Fz) : Bool × Tau → Option (Bool × SS)
  | (b, τ) => some (b, ⟨fz, τ⟩)
@[simp] theorem r_mXB (m : MB) (fz : Fz) (τ : Tau) : mXB m ⟨fz, τ⟩ = bd (m ⟨fz, []⟩ τ) (xbK fz) := bd_om fun a => rfl
@[simp] def xiK (fz : Fz) : List D × Tau → Option (List D × SS)
  | (b, τ) => some (b, ⟨fz, τ⟩)
@[simp] theorem r_mXI (m : MI) (fz : Fz) (τ : Tau) : mXI m ⟨fz, τ⟩ = bd (m ⟨fz, []⟩ τ) (xiK fz) := bd_om fun a => rfl
@[simp] def seqK (n : MS) : Out → Option Out
  | .nx s => n s
  | .rt t s => some (.rt t s)
  | .bk s => some (.bk s)
  | .ct s => some (.ct s)
@[simp] theorem r_mSeq (m n : MS) (s : SS) : mSeq m n s = bd (m s) (seqK n) := bd_of fun o => by cases o <;> rfl
@[simp] theorem r_mNx (s : SS) : mNx s = some (.nx s) := rfl
@[simp] theorem r_mBrk (s : SS) : mBrk s = some (.bk s) := rfl
@[simp] theorem r_mCnt (s : SS) : mCnt s = some (.ct s) := rfl
@[simp] theorem r_mRetN (s : SS) : mRetN s = some (.rt (.leaf .none) s) := rfl
def ifsK (m n : MS) : Bool × SS → Option Out
  | (true, s) => m s
  | (false, s) => n s
@[simp] theorem ifsK_t (m n : MS) (s : SS) : ifsK m n (true, s) = m s := rfl
@[simp] theorem ifsK_f (m n : MS) (s : SS) : ifsK m n (false, s) = n s := rfl
@[simp] theorem r_mIfS (c : MXB) (m n : MS) (s : SS) : mIfS c m n s = bd (c s) (ifsK m n) := bd_of fun a => by
  obtain ⟨b, s⟩ := a
  cases b <;> rfl
@[simp] def retK : T × SS → Option Out
  | (t, s) => some (.rt t s)
@[simp] theorem r_mRet (m : MX) (s : SS) : mRet m s = bd (m s) retK := bd_om fun a => rfl
@[simp] def doK : T × SS → Option Out
  | (_, s) => some (.nx s)
@[simp] theorem r_mDo (m : MX) (s : SS) : mDo m s = bd (m s) doK := bd_om fun a => rfl
@[simp] def setK2 (i : Nat) (fz : Fz) (τ : Tau) (d : D) : Option Out := some (.nx ⟨fset fz i (some d), tdel τ i⟩)
@[simp] def setK (i : Nat) : T × SS → Option Out
  | (t, ⟨fz, τ⟩) => bd t.fz (setK2 i fz τ)
@[simp] theorem r_mSet (i : Nat) (m : MX) (s : SS) : mSet i m s = bd (m s) (setK i) := bd_of fun a => bd_om fun d => rfl
@[simp] def setOK (i : Nat) : T × SS → Option Out
  | (t, ⟨fz, τ⟩) => if once τ = true ∧ i < fz.length then some (.nx ⟨fset fz i none, tset τ i t⟩) else none
@[simp] theorem r_mSetO (i : Nat) (m : MX) (s : SS) : mSetO i m s = bd (m s) (setOK i) := bd_of fun a => rfl
@[simp] theorem r_mPre (f : SS → Option SS) (m : MS) (s : SS) : mPre f m s = bd (f s) m := rfl
@[simp] def fzKb (i : Nat) (fz : Fz) (τ : Tau) (d : D) : Option SS := some ⟨fset fz i (some d), tdel τ i⟩
@[simp] def fzKa (i : Nat) (fz : Fz) (τ : Tau) : Option T → Option SS
  | none => some ⟨fz, τ⟩
  | some t => bd t.fz (fzKb i fz τ)
@[simp] theorem r_mFz (i : Nat) (fz : Fz) (τ : Tau) : mFz i ⟨fz, τ⟩ = fzKa i fz τ (tget τ i) := by
  unfold mFz
  cases h : tget τ i with
  | none => rfl
  | some t =>
    show (tget τ i).bind _ = bd _ _
    rw [h]
    exact bd_om fun a => rfl
@[simp] def forK (ws : List Nat) (mt : MG) (body : MS) : List D × SS → Option Out
  | (ds, s) => forL ws mt body ds s
@[simp] theorem r_mFor (ws : List Nat) (mi : MXI) (mt : MG) (body : MS) (s : SS) : mFor ws mi mt body s = bd (mi s) (forK ws mt body) := bd_of fun a => rfl
@[simp] theorem r_mWhile (n : Nat) (c : MXB) (body : MS) (s : SS) : mWhile n c body s = whL c body n s := rfl
@[simp] def asgK3 (ws : List Nat) (τ : Tau) (fz : Fz) : Option Out := some (.nx ⟨fz, tout ws τ⟩)
@[simp] def asgK2 (ws : List Nat) (mt : MG) (fz : Fz) (τ : Tau) (d : D) : Option Out := bd (mt d fz) (asgK3 ws τ)
@[simp] def asgK (ws : List Nat) (mt : MG) : T × SS → Option Out
  | (t, ⟨fz, τ⟩) => bd t.fz (asgK2 ws mt fz τ)
@[simp] theorem r_mAsg (ws : List Nat) (mt : MG) (m : MX) (s : SS) : mAsg ws mt m s = bd (m s) (asgK ws mt) := bd_of fun a => bd_of fun b => bd_om fun c => rfl
@[simp] def parK2 (i j : Nat) (fz : Fz) (τ : Tau) : List D → Option Out
  | [d, e] => some (.nx ⟨fset (fset fz i (some d)) j (some e), tdel (tdel τ i) j⟩)
  | _ => none
@[simp] def parK (i j : Nat) (fz : Fz) : List R × Tau → Option Out
  | (rs, τ) => bd (stL rs) (parK2 i j fz τ)
@[simp] theorem r_mPar (i j : Nat) (l : ML) (fz : Fz) (τ : Tau) : mPar i j l ⟨fz, τ⟩ = bd (l ⟨fz, []⟩ τ) (parK i j fz) := bd_of fun a => bd_of fun b => rfl
@[simp] def augK4 (i : Nat) (fz : Fz) (τ : Tau) (d : D) : Option Out := some (.nx ⟨fset fz i (some d), tdel τ i⟩)
@[simp] def augK3 (i : Nat) (fz : Fz) (τ : Tau) (r : R) : Option Out := bd r.st (augK4 i fz τ)
@[simp] def augK2 (i : Nat) (g : List R → Option R) (fz : Fz) (d : D) : R × Tau → Option Out
  | (r, τ) => bd (g [rd d, r]) (augK3 i fz τ)
@[simp] def augK (i : Nat) (g : List R → Option R) (m : MV) (fz : Fz) (τ : Tau) (d : D) : Option Out := bd (m ⟨fz, []⟩ τ) (augK2 i g fz d)
@[simp] theorem r_mAug (i : Nat) (g : List R → Option R) (m : MV) (fz : Fz) (τ : Tau) : mAug i g m ⟨fz, τ⟩ = bd (fget fz i) (augK i g m fz τ) := bd_of fun a => bd_of fun b => bd_of fun c => bd_om fun d => rfl
@[simp] def spK8 (x : Nat) (fz : Fz) (τ : Tau) (u : T) : Option Out := some (.nx ⟨fz, tset τ x u⟩)
@[simp] def spK7 (x : Nat) (fz : Fz) (u : T) (is : List Int) (τ : Tau) : D × T → Option Out
  | (_, w) => bd (setP u is w) (spK8 x fz τ)
@[simp] def spK6 (x : Nat) (fz : Fz) (d : D) (u : T) (is : List Int) (w : T) (τ : Tau) (i : Int) : Option Out := bd (gPut i w [d]) (spK7 x fz u is τ)
@[simp] def spK5 (x : Nat) (fz : Fz) (d : D) (u : T) (is : List Int) (w : T) : R × Tau → Option Out
  | (r, τ) => bd (asI r) (spK6 x fz d u is w τ)
@[simp] def spK4 (x : Nat) (mi : MV) (fz : Fz) (d : D) (u : T) : (List Int × T) × Tau → Option Out
  | ((is, w), τ) => bd (mi ⟨fz, [(x, u)]⟩ τ) (spK5 x fz d u is w)
@[simp] def spK3 (x : Nat) (mp : MP) (mi : MV) (fz : Fz) (τ : Tau) (d : D) (u : T) : Option Out := bd (mp u ⟨fz, [(x, u)]⟩ (tset τ x .hole)) (spK4 x mi fz d u)
@[simp] def spK2 (x : Nat) (mp : MP) (mi : MV) (fz : Fz) (τ : Tau) (d : D) : Option Out := bd (tget τ x) (spK3 x mp mi fz τ d)
@[simp] def spK1 (x : Nat) (mp : MP) (mi : MV) (fz : Fz) : R × Tau → Option Out
  | (r, τ) => bd r.st (spK2 x mp mi fz τ)
@[simp] theorem r_mSetP (x : Nat) (mp : MP) (me mi : MV) (fz : Fz) (τ : Tau) : mSetP x mp me mi ⟨fz, τ⟩ = bd (me ⟨fz, []⟩ τ) (spK1 x mp mi fz) :=
  bd_of fun a => bd_of fun b => bd_of fun c => bd_of fun d => bd_of fun e => bd_of fun f => bd_of fun g => bd_om fun h => rfl
@[simp] theorem inFz_nil : inFz [] [] = some [] := rfl
@[simp] def ifzK (x : Option D) (fz : Fz) : Option Fz := some (x :: fz)
@[simp] theorem inFz_t (ks : List Bool) (t : T) (ts : List T) : inFz (true :: ks) (t :: ts) = bd (inFz ks ts) (ifzK none) := by
  show (inFz ks ts).map (none :: ·) = _
  exact bd_om fun a => rfl
@[simp] theorem inFz_f (ks : List Bool) (d : D) (ts : List T) : inFz (false :: ks) (.leaf d :: ts) = bd (inFz ks ts) (ifzK (some d)) := by
  show (inFz ks ts).map (some d :: ·) = _
  exact bd_om fun a => rfl
@[simp] theorem inTau_nil (i : Nat) : inTau i [] [] = [] := rfl
@[simp] theorem inTau_t (i : Nat) (ks : List Bool) (t : T) (ts : List T) : inTau i (true :: ks) (t :: ts) = (i, t) :: inTau (i + 1) ks ts := rfl
@[simp] theorem inTau_f (i : Nat) (ks : List Bool) (t : T) (ts : List T) : inTau i (false :: ks) (t :: ts) = inTau (i + 1) ks ts := rfl
@[simp] theorem outT_nil (i : Nat) (τ : Tau) : outT i [] [] τ = some [] := rfl
@[simp] def otK (t : T) (ts : List T) : Option (List T) := some (t :: ts)
@[simp] def otK0 (i : Nat) (ks : List Bool) (ts : List T) (τ : Tau) (t : T) : Option (List T) := bd (outT (i + 1) ks ts (tset τ i .hole)) (otK t)
@[simp] theorem outT_t (i : Nat) (ks : List Bool) (t : T) (ts : List T) (τ : Tau) : outT i (true :: ks) (t :: ts) τ = bd (tget τ i) (otK0 i ks ts τ) := by
  show (tget τ i).bind _ = _
  exact bd_of fun a => bd_om fun b => rfl
@[simp] theorem outT_f (i : Nat) (ks : List Bool) (t : T) (ts : List T) (τ : Tau) : outT i (false :: ks) (t :: ts) τ = bd (outT (i + 1) ks ts τ) (otK t) := by
  show (outT (i + 1) ks ts τ).map (t :: ·) = _
  exact bd_om fun a => rfl
@[simp] def fnK3 (t : T) (ts : List T) : Option (T × List T) := some (t, ts)
@[simp] def fnK2 (ks : List Bool) (ts : List T) : Out → Option (T × List T)
  | .rt t s => bd (outT 0 ks ts s.ow) (fnK3 t)
  | .nx s => bd (outT 0 ks ts s.ow) (fnK3 (.leaf .none))
  | .bk _ => none
  | .ct _ => none
@[simp] def fnK (ks : List Bool) (n : Nat) (body : MS) (ts : List T) (fz : Fz) : Option (T × List T) := bd (body ⟨fz ++ List.replicate (n - ks.length) none, inTau 0 ks ts⟩) (fnK2 ks ts)
@[simp] theorem r_mFn (ks : List Bool) (n : Nat) (body : MS) (ts : List T) : mFn ks n body ts = bd (inFz ks ts) (fnK ks n body ts) := bd_of fun fz => bd_of fun o => by
  cases o with
  | rt t s => exact bd_om fun a => rfl
  | nx s => exact bd_om fun a => rfl
  | bk s => rfl
  | ct s => rfl
@[simp] def gpK2 (d : D) : Option R := some (rd d)
@[simp] def gpK (p : List D → Option D) (ds : List D) : Option R := bd (p ds) gpK2
@[simp] theorem r_gp (p : List D → Option D) (rs : List R) : gp p rs = bd (erL rs) (gpK p) := bd_of fun a => bd_om fun b => rfl
@[simp] theorem p_i2 (ok : Int → Int → Bool) (f : Int → Int → Int) (a b : Int) : pI2 ok f [.int a, .int b] = if ok a b = true then some (.int (f a b)) else none := rfl
@[simp] theorem p_c2 (f : Int → Int → Bool) (a b : Int) : pC2 f [.int a, .int b] = some (.bool (f a b)) := rfl
@[simp] theorem p_neg (a : Int) : pNeg [.int a] = some (.int (-a)) := rfl
@[simp] theorem p_abs (a : Int) : pAbs [.int a] = some (.int (if a < 0 then -a else a)) := rfl
@[simp] theorem p_min (a b : Int) : pMin2 [.int a, .int b] = some (.int (if b < a then b else a)) := rfl
@[simp] theorem p_max (a b : Int) : pMax2 [.int a, .int b] = some (.int (if b > a then b else a)) := rfl
@[simp] theorem p_int (a : Int) : pInt [.int a] = some (.int a) := rfl
@[simp] theorem p_intb (a : Bool) : pInt [.bool a] = some (.int (if a = true then 1 else 0)) := rfl
@[simp] theorem p_eq (a b : D) : pEq [a, b] = if SeqAt.shaped a = true ∧ SeqAt.shaped b = true then some (.bool (PyData.eqv a b)) else none := rfl
@[simp] theorem p_ne (a b : D) : pNe [a, b] = if SeqAt.shaped a = true ∧ SeqAt.shaped b = true then some (.bool (!PyData.eqv a b)) else none := rfl
@[simp] theorem p_isN (a : D) : pIsN [a, .none] = some (.bool (isNone a)) := rfl
@[simp] theorem p_notN (a : D) : pNotN [a, .none] = some (.bool (!isNone a)) := rfl
@[simp] theorem p_str (d : D) : pStr [d] = if okShow d = true then some (.str (strOf d)) else none := rfl
@[simp] theorem p_repr (d : D) : pRepr [d] = if okShow d = true then some (.str d.shown) else none := rfl
@[simp] theorem g_add (a b : Int) : gAdd [.val (.leaf (.int a)), .val (.leaf (.int b))] = some (rInt (a + b)) := rfl
@[simp] theorem g_adds (a b : Str) : gAdd [.val (.leaf (.str a)), .val (.leaf (.str b))] = if a.length + b.length ≤ 16000000 then some (rd (.str (a ++ b))) else none := rfl
@[simp] theorem g_addtt (a b : List D) : gAdd [.val (.leaf (.tuple a)), .val (.leaf (.tuple b))] = if a.length + b.length ≤ 16000000 then some (rd (.tuple (a ++ b))) else none := rfl
@[simp] theorem g_addff (a b : List D) : gAdd [.val (.fl a), .val (.fl b)] = if a.length + b.length ≤ 16000000 then some (.val (.fl (a ++ b))) else none := rfl
@[simp] theorem g_addfl (a b : List D) : gAdd [.val (.fl a), .val (.leaf (.list b))] = if a.length + b.length ≤ 16000000 then some (.val (.fl (a ++ b))) else none := rfl
@[simp] theorem g_addlf (a b : List D) : gAdd [.val (.leaf (.list a)), .val (.fl b)] = if a.length + b.length ≤ 16000000 then some (.val (.fl (a ++ b))) else none := rfl
@[simp] theorem g_addll (a b : List D) : gAdd [.val (.leaf (.list a)), .val (.leaf (.list b))] = if a.length + b.length ≤ 16000000 then some (.val (.fl (a ++ b))) else none := rfl
@[simp] theorem g_addwf (a b : List D) : gAdd [.vw (.fl a), .val (.fl b)] = if a.length + b.length ≤ 16000000 then some (.val (.fl (a ++ b))) else none := rfl
@[simp] theorem g_mul (a b : Int) : gMul [.val (.leaf (.int a)), .val (.leaf (.int b))] = if okMul a b = true then some (rInt (a * b)) else none := rfl
@[simp] theorem g_mulf (a : List D) (k : Int) : gMul [.val (.fl a), .val (.leaf (.int k))] = if (-4000000 ≤ k ∧ k ≤ 4000000) ∧ a.length * k.toNat ≤ 16000000 then some (.val (.fl (repD a k.toNat))) else none := rfl
@[simp] def ixK (d : D) : Option R := some (rd d)
@[simp] def ixKt (d : T) : Option R := some (.vw d)
@[simp] theorem ix_l (ds : List D) (i : Int) : gIx [.val (.leaf (.list ds)), .val (.leaf (.int i))] = bd (L2.atI ds i) ixK := bd_om fun a => rfl
@[simp] theorem ix_t (ds : List D) (i : Int) : gIx [.val (.leaf (.tuple ds)), .val (.leaf (.int i))] = bd (L2.atI ds i) ixK := bd_om fun a => rfl
@[simp] theorem ix_f (ds : List D) (i : Int) : gIx [.val (.fl ds), .val (.leaf (.int i))] = bd (L2.atI ds i) ixK := bd_om fun a => rfl
@[simp] theorem ix_wf (ds : List D) (i : Int) : gIx [.vw (.fl ds), .val (.leaf (.int i))] = bd (L2.atI ds i) ixK := bd_om fun a => rfl
@[simp] theorem ix_ws (ds : List D) (i : Int) : gIx [.vw (.scr ds), .val (.leaf (.int i))] = bd (L2.atI ds i) ixK := bd_om fun a => rfl
@[simp] theorem ix_wl (ds : List D) (i : Int) : gIx [.vw (.leaf (.list ds)), .val (.leaf (.int i))] = bd (L2.atI ds i) ixK := bd_om fun a => rfl
@[simp] theorem ix_wt (ds : List D) (i : Int) : gIx [.vw (.leaf (.tuple ds)), .val (.leaf (.int i))] = bd (L2.atI ds i) ixK := bd_om fun a => rfl
@[simp] theorem ix_wL (ds : List T) (i : Int) : gIx [.vw (.ls ds), .val (.leaf (.int i))] = bd (L2.atI ds i) ixKt := bd_om fun a => rfl
@[simp] theorem ix_wT (ds : List T) (i : Int) : gIx [.vw (.tup ds), .val (.leaf (.int i))] = bd (L2.atI ds i) ixKt := bd_om fun a => rfl
@[simp] theorem len_l (ds : List D) : gLen [.val (.leaf (.list ds))] = some (rInt ds.length) := rfl
@[simp] theorem len_t (ds : List D) : gLen [.val (.leaf (.tuple ds))] = some (rInt ds.length) := rfl
@[simp] theorem len_f (ds : List D) : gLen [.val (.fl ds)] = some (rInt ds.length) := rfl
@[simp] theorem len_wf (ds : List D) : gLen [.vw (.fl ds)] = some (rInt ds.length) := rfl
@[simp] theorem len_ws (ds : List D) : gLen [.vw (.scr ds)] = some (rInt ds.length) := rfl
@[simp] theorem len_wl (ds : List D) : gLen [.vw (.leaf (.list ds))] = some (rInt ds.length) := rfl
@[simp] theorem len_wt (ds : List D) : gLen [.vw (.leaf (.tuple ds))] = some (rInt ds.length) := rfl
@[simp] theorem len_wL (ds : List T) : gLen [.vw (.ls ds)] = some (rInt ds.length) := rfl
@[simp] theorem len_s (z : Str) : gLen [.val (.leaf (.str z))] = if z.length ≤ 16000000 then some (rInt z.length) else none := rfl
@[simp] def tupK (ds : List D) : Option R := some (rd (.tuple ds))
@[simp] def lstK (ds : List D) : Option R := some (.val (.fl ds))
@[simp] def lstKT (ds : List T) : Option R := some (.val (.ls ds))
@[simp] theorem r_gTupD (rs : List R) : gTupD rs = bd (stL rs) tupK := bd_om fun a => rfl
@[simp] theorem r_gLstD (rs : List R) : gLstD rs = bd (stL rs) lstK := bd_om fun a => rfl
@[simp] theorem r_gLstT (rs : List R) : gLstT rs = bd (tsR rs) lstKT := bd_om fun a => rfl
@[simp] def gliK : Bool × List D → Option R
  | (_, ds) => some (.val (.fl ds))
@[simp] theorem r_gList (r : R) : gList [r] = bd r.its gliK := bd_om fun a => rfl
@[simp] def gtuK : Bool × List D → Option R
  | (_, ds) => some (rd (.tuple ds))
@[simp] theorem r_gTuple (r : R) : gTuple [r] = bd r.its gtuK := bd_om fun a => rfl
@[simp] def gboolK (f : List Bool → Bool) (bs : List Bool) : Option R := some (rBool (f bs))
def allB (bs : List Bool) : Bool := bs.all id
def anyB (bs : List Bool) : Bool := bs.any id
@[simp] def gallK (f : List Bool → Bool) : Bool × List D → Option R
  | (true, ds) => bd (boolsD ds) (gboolK f)
  | (false, _) => none
@[simp] theorem r_gAll (r : R) : gAll [r] = bd r.its (gallK allB) := bd_of fun a => by
  obtain ⟨b, ds⟩ := a
  cases b with
  | true => exact bd_om fun a => rfl
  | false => rfl
@[simp] theorem r_gAny (r : R) : gAny [r] = bd r.its (gallK anyB) := bd_of fun a => by
  obtain ⟨b, ds⟩ := a
  cases b with
  | true => exact bd_om fun a => rfl
  | false => rfl
theorem boolsD_bs : ∀ bs : List Bool, boolsD (bs.map PyData.bool) = some bs
  | [] => rfl
  | b :: bs => by
    show (boolsD (bs.map PyData.bool)).map (b :: ·) = _
    rw [boolsD_bs bs]
    rfl
@[simp] theorem cut_l (ds : List D) (i j : Option Int) : cutR (.val (.leaf (.list ds))) i j = some (.val (.fl (cutD ds i j))) := rfl
@[simp] theorem cut_f (ds : List D) (i j : Option Int) : cutR (.val (.fl ds)) i j = some (.val (.fl (cutD ds i j))) := rfl
@[simp] theorem cut_wf (ds : List D) (i j : Option Int) : cutR (.vw (.fl ds)) i j = some (.val (.fl (cutD ds i j))) := rfl
@[simp] theorem cut_ws (ds : List D) (i j : Option Int) : cutR (.vw (.scr ds)) i j = some (.val (.fl (cutD ds i j))) := rfl
@[simp] theorem cut_t (ds : List D) (i j : Option Int) : cutR (.val (.leaf (.tuple ds))) i j = some (rd (.tuple (cutD ds i j))) := rfl
@[simp] theorem okMul_l {a b : Int} (h : -18446744073709551616 < a) (h' : a < 18446744073709551616) : okMul a b = true := decide_eq_true (.inl ⟨h, h'⟩)
@[simp] theorem okMul_r {a b : Int} (h : -18446744073709551616 < b) (h' : b < 18446744073709551616) : okMul a b = true := decide_eq_true (.inr ⟨h, h'⟩)
theorem emod_b (a m : Int) (h : 0 < m) : 0 ≤ a % m ∧ a % m < m := ⟨Int.emod_nonneg _ (by omega), Int.emod_lt_of_pos _ h⟩
end Tl

namespace Tl
open PySem PySem.Spec PyProof.Rows L2
section
variable {X : Cx} {x : Str} {p pos : Pos} {k : Nat} {m : MF}
end
section
variable {X : Cx} {K : PySem.W.Frag}
def rInT (K : PySem.W.Frag) : R2 := fun x y H Q => ∃ d ds, Dp K H x d ∧ Dp K H y (.tuple ds) ∧ SeqAt.shaped d = true ∧ SeqAt.shaped (.tuple ds) = true ∧ Q (.bl (ds.any fun z => PyData.eqv z d)) H
def rNotInT (K : PySem.W.Frag) : R2 := fun x y H Q => ∃ d ds, Dp K H x d ∧ Dp K H y (.tuple ds) ∧ SeqAt.shaped d = true ∧ SeqAt.shaped (.tuple ds) = true ∧ Q (.bl (!ds.any fun z => PyData.eqv z d)) H
theorem op_inT (hu : X.A.units + 65 < cLine) : OpR X (compareOp .In) (rInT X.K) := by
  intro pins s σ H x y v u Q I rx ry h
  obtain ⟨d, ds, hd, he, sd, se, q⟩ := h
  obtain ⟨as, r1⟩ := Dp.reads I d x v hd rx
  obtain ⟨bs, r2⟩ := Dp.reads I (.tuple ds) y u he ry
  exact SeqAt.in_tuple_reads r2 r1 (SeqAt.canLay_of_shaped se) (SeqAt.canLay_of_shaped sd) (room_in_shaped sd hu) ⟨.bl _, H, I, rfl, q⟩
theorem op_notInT (hu : X.A.units + 65 < cLine) : OpR X (compareOp .NotIn) (rNotInT X.K) := by
  intro pins s σ H x y v u Q I rx ry h
  obtain ⟨d, ds, hd, he, sd, se, q⟩ := h
  obtain ⟨as, r1⟩ := Dp.reads I d x v hd rx
  obtain ⟨bs, r2⟩ := Dp.reads I (.tuple ds) y u he ry
  exact SeqAt.notIn_tuple_reads r2 r1 (SeqAt.canLay_of_shaped se) (SeqAt.canLay_of_shaped sd) (room_in_shaped sd hu) ⟨.bl _, H, I, rfl, q⟩
def rInAll (K : PySem.W.Frag) : R2 := fun x y H Q => rInD K x y H Q ∨ rInT K x y H Q
def rNotInAll (K : PySem.W.Frag) : R2 := fun x y H Q => rNotInD K x y H Q ∨ rNotInT K x y H Q
theorem op_inAll (hu : X.A.units + 65 < cLine) : OpR X (compareOp .In) (rInAll X.K) := by
  intro pins s σ H x y v u Q I rx ry h
  rcases h with h | h
  · exact op_inD hu pins s σ H x y v u Q I rx ry h
  · exact op_inT hu pins s σ H x y v u Q I rx ry h
theorem op_notInAll (hu : X.A.units + 65 < cLine) : OpR X (compareOp .NotIn) (rNotInAll X.K) := by
  intro pins s σ H x y v u Q I rx ry h
  rcases h with h | h
  · exact op_notInD hu pins s σ H x y v u Q I rx ry h
  · exact op_notInT hu pins s σ H x y v u Q I rx ry h
def pIn (neg : Bool) : List D → Option D
  | [d, .list ds] => if SeqAt.shaped d = true ∧ SeqAt.shaped (.list ds) = true then some (.bool (if neg = true then !ds.any fun z => PyData.eqv z d else ds.any fun z => PyData.eqv z d)) else none
  | [d, .tuple ds] => if SeqAt.shaped d = true ∧ SeqAt.shaped (.tuple ds) = true then some (.bool (if neg = true then !ds.any fun z => PyData.eqv z d else ds.any fun z => PyData.eqv z d)) else none
  | _ => none
def gIn : List R → Option R := gp (pIn false)
def gNotIn : List R → Option R := gp (pIn true)
theorem pIn_cases {neg : Bool} {ds : List D} {d : D} (e : pIn neg ds = some d) : ∃ a c es, ds = [a, c] ∧ (c = .list es ∨ c = .tuple es) ∧ SeqAt.shaped a = true ∧ SeqAt.shaped c = true ∧ d = .bool (if neg = true then !es.any fun z => PyData.eqv z a else es.any fun z => PyData.eqv z a) := by
  match ds, e with
  | [a, .list es], e =>
    have e' : (if SeqAt.shaped a = true ∧ SeqAt.shaped (.list es) = true then some (PyData.bool (if neg = true then !es.any fun z => PyData.eqv z a else es.any fun z => PyData.eqv z a)) else none) = some d := e
    by_cases q : SeqAt.shaped a = true ∧ SeqAt.shaped (.list es) = true
    · rw [if_pos q] at e'
      cases e'
      exact ⟨a, _, es, rfl, .inl rfl, q.1, q.2, rfl⟩
    · rw [if_neg q] at e'
      cases e'
  | [a, .tuple es], e =>
    have e' : (if SeqAt.shaped a = true ∧ SeqAt.shaped (.tuple es) = true then some (PyData.bool (if neg = true then !es.any fun z => PyData.eqv z a else es.any fun z => PyData.eqv z a)) else none) = some d := e
    by_cases q : SeqAt.shaped a = true ∧ SeqAt.shaped (.tuple es) = true
    · rw [if_pos q] at e'
      cases e'
      exact ⟨a, _, es, rfl, .inr rfl, q.1, q.2, rfl⟩
    · rw [if_neg q] at e'
      cases e'
  | [], e => cases e
  | [_], e => cases e
  | _ :: _ :: _ :: _, e => simp [pIn] at e
  | [_, .none], e => cases e
  | [_, .bool _], e => cases e
  | [_, .int _], e => cases e
  | [_, .str _], e => cases e
  | [_, .dict _], e => cases e
theorem vr_in : VR K (two (rInAll K)) gIn := VR.plain fun ds d e H vs Q r k => by
  obtain ⟨a, c, es, rfl, hc, s1, s2, rfl⟩ := pIn_cases e
  obtain ⟨v, w, rfl, r1, r2⟩ := r.two
  have d1 := r1.dp a (shaped_lay s1)
  have d2 := r2.dp c (shaped_lay s2)
  rcases hc with rfl | rfl
  · exact ⟨v, w, rfl, .inl ⟨a, es, d1, d2, s1, s2, k _ fun F => .bl _⟩⟩
  · exact ⟨v, w, rfl, .inr ⟨a, es, d1, d2, s1, s2, k _ fun F => .bl _⟩⟩
theorem vr_notIn : VR K (two (rNotInAll K)) gNotIn := VR.plain fun ds d e H vs Q r k => by
  obtain ⟨a, c, es, rfl, hc, s1, s2, rfl⟩ := pIn_cases e
  obtain ⟨v, w, rfl, r1, r2⟩ := r.two
  have d1 := r1.dp a (shaped_lay s1)
  have d2 := r2.dp c (shaped_lay s2)
  rcases hc with rfl | rfl
  · exact ⟨v, w, rfl, .inl ⟨a, es, d1, d2, s1, s2, k _ fun F => .bl _⟩⟩
  · exact ⟨v, w, rfl, .inr ⟨a, es, d1, d2, s1, s2, k _ fun F => .bl _⟩⟩
theorem hu_in {j : Nat} (hr : RmG j X.A) : X.A.units + 65 < cLine := by
  have := hr.rm.un
  omega
@[simp] theorem r_gIn (rs : List R) : gIn rs = bd (erL rs) (gpK (pIn false)) := r_gp _ _
@[simp] theorem r_gNotIn (rs : List R) : gNotIn rs = bd (erL rs) (gpK (pIn true)) := r_gp _ _
@[simp] theorem p_inl (neg : Bool) (d : D) (ds : List D) : pIn neg [d, .list ds] = if SeqAt.shaped d = true ∧ SeqAt.shaped (.list ds) = true then some (.bool (if neg = true then !ds.any fun z => PyData.eqv z d else ds.any fun z => PyData.eqv z d)) else none := rfl
@[simp] theorem p_int' (neg : Bool) (d : D) (ds : List D) : pIn neg [d, .tuple ds] = if SeqAt.shaped d = true ∧ SeqAt.shaped (.tuple ds) = true then some (.bool (if neg = true then !ds.any fun z => PyData.eqv z d else ds.any fun z => PyData.eqv z d)) else none := rfl
end
def putS (i : Nat) (b : Bool) (r : R) (s : SS) : Option SS :=
  match b with
  | true => match r with
    | .val t => if once s.ow = true ∧ i < s.fz.length then some ⟨fset s.fz i none, tset s.ow i t⟩ else none
    | .vw _ => none
  | false => r.st.map fun d => ⟨fset s.fz i (some d), tdel s.ow i⟩
def putsS : List (Nat × Bool) → List R → SS → Option SS
  | [], [], s => some s
  | (i, b) :: is, r :: rs, s => (putS i b r s).bind fun s1 => putsS is rs s1
  | _, _, _ => none
def setsV : List (Nat × Bool) → List V → L2.St → L2.St
  | (i, _) :: is, v :: vs, σ => setsV is vs (σ.set i (some v))
  | _, _, σ => σ
section
variable {K : PySem.W.Frag}
theorem putS_ok {i : Nat} {b : Bool} {r : R} {s s' : SS} {F H : Hp} {σ : L2.St} {v : V} {A1 A3 A2 : List Addr} (e : putS i b r s = some s') (c : Cn F noH H (A1 ++ (A3 ++ A2))) (o : ROk K F noH H r v A1) (f : FzOk K F σ s.fz) (t : TauOk K F H σ s.ow A2) :
    ∃ F' A', Go F H (A1 ++ (A3 ++ A2)) F' H (A3 ++ A') ∧ Cn F' noH H (A3 ++ A') ∧ Same F F' ∧ FzOk K F' (σ.set i (some v)) s'.fz ∧ TauOk K F' H (σ.set i (some v)) s'.ow A' := by
  cases b with
  | true =>
    cases r with
    | vw _ => cases e
    | val x =>
      have e' : (if once s.ow = true ∧ i < s.fz.length then some (⟨fset s.fz i none, tset s.ow i x⟩ : SS) else none) = some s' := e
      by_cases q : once s.ow = true ∧ i < s.fz.length
      · rw [if_pos q] at e'
        cases e'
        have nd := c.nd
        obtain ⟨n1, n2, n3⟩ := List.nodup_append.mp nd
        obtain ⟨m1, m2, m3⟩ := List.nodup_append.mp n2
        have nn : (A1 ++ A2).Nodup := List.nodup_append.mpr ⟨n1, m2, fun a m b m' => n3 a m b (List.mem_append_right _ m')⟩
        obtain ⟨A', t', n', s3⟩ := t.setO q.1 (by rw [← f.1]; exact q.2) o nn
        have sub : ∀ a ∈ A3 ++ A', a ∈ A1 ++ (A3 ++ A2) := fun a m => by
          rcases List.mem_append.mp m with z | z
          · exact List.mem_append_right _ (List.mem_append_left _ z)
          · rcases List.mem_append.mp (s3 a z) with z | z
            · exact List.mem_append_left _ z
            · exact List.mem_append_right _ (List.mem_append_right _ z)
        have nd' : (A3 ++ A').Nodup := List.nodup_append.mpr ⟨m1, n', fun a m b m' => by
          rcases List.mem_append.mp (s3 b m') with z | z
          · exact fun q => n3 b z a (List.mem_append_left _ m) q.symm
          · exact m3 a m b z⟩
        exact ⟨F, A', Go.less sub, c.sub nd' sub, Same.refl F, f.drop i v, t'⟩
      · rw [if_neg q] at e'
        cases e'
  | false =>
    obtain ⟨d, e1, e2⟩ := Option.map_eq_some_iff.mp (show r.st.map _ = some s' from e)
    subst e2
    obtain ⟨F', g, c', s1, rr⟩ := o.freeze c e1
    obtain ⟨A', t', n', s3⟩ := (t.stay s1 fun _ _ _ q => q).setD c'.right.nd i v
    have sub : ∀ a ∈ A3 ++ A', a ∈ A3 ++ A2 := fun a m => (List.mem_append.mp m).elim (fun z => List.mem_append_left _ z) fun z => List.mem_append_right _ (s3 a z)
    have nd' : (A3 ++ A').Nodup := List.nodup_append.mpr ⟨c'.left.nd, n', fun a m b m' q => c'.apart a m (q ▸ s3 b m')⟩
    exact ⟨F', A', g.trans (Go.less sub), c'.sub nd' sub, s1, (f.mono s1).set rr i, t'⟩
theorem putsS_ok : ∀ {is : List (Nat × Bool)} {rs : List R} {s s' : SS} {F H : Hp} {σ : L2.St} {vs : List V} {A1 A2 : List Addr}, putsS is rs s = some s' → Cn F noH H (A1 ++ A2) → RsOk K F noH H rs vs A1 → FzOk K F σ s.fz → TauOk K F H σ s.ow A2 →
    ∃ F' A', Go F H (A1 ++ A2) F' H A' ∧ SAt K F' H (setsV is vs σ) s' A'
  | [], [], s, s', F, H, σ, vs, A1, A2, e, c, o, f, t => by
    cases e
    cases o
    exact ⟨F, A2, Go.refl, c, f, t⟩
  | [], _ :: _, _, _, _, _, _, _, _, _, e, _, _, _, _ => by cases e
  | _ :: _, [], _, _, _, _, _, _, _, _, e, _, _, _, _ => by cases e
  | (i, b) :: is, r :: rs, s, s', F, H, σ, _, _, A2, e, c, o, f, t => by
    obtain ⟨s1, e1, e2⟩ := Option.bind_eq_some_iff.mp (show (putS i b r s).bind _ = some s' from e)
    cases o with
    | cons o1 o2 =>
      rename_i v vs A1 A3
      rw [List.append_assoc] at c ⊢
      obtain ⟨F1, A4, g1, c1, sm, f1, t1⟩ := putS_ok e1 c o1 f t
      obtain ⟨F2, A5, g2, a2⟩ := putsS_ok e2 c1 (o2.stay sm fun _ _ _ q => q) f1 t1
      exact ⟨F2, A5, g1.trans g2, a2⟩
end
def mParG (is : List (Nat × Bool)) (l : ML) : MS := fun s => (l ⟨s.fz, []⟩ s.ow).bind fun p => (putsS is p.1 ⟨s.fz, p.2⟩).map .nx
section
variable {X : Cx} {Pr : List Nat} {st : Stmt}
theorem agree_sets : ∀ {is : List (Nat × Bool)} {vs : List V} {σ : L2.St}, (∀ p ∈ is, p.1 ∉ Pr) → Agree Pr σ (setsV is vs σ)
  | [], _, _, _ => Agree.refl
  | _ :: _, [], _, _ => Agree.refl
  | (i, b) :: is, v :: vs, σ, h => fun j m => (agree_sets (vs := vs) (fun p q => h p (List.mem_cons_of_mem _ q)) j m).trans (agree_set (h _ List.mem_cons_self) j m)
theorem sr_parG2 {a b : Expr} {i j : Nat} {bi bj : Bool} {l : ML} (p : PS X st (tPar i j (wpA X [a, b]))) (h : AR X [a, b] l) (hi : ∀ p ∈ [(i, bi), (j, bj)], p.1 ∉ Pr := by decide) : SR X Pr st (mParG [(i, bi), (j, bj)] l) :=
  ⟨fun s o em F H σ A D at_ k => by
    obtain ⟨⟨rs, τ1⟩, e1, em⟩ := Option.bind_eq_some_iff.mp em
    obtain ⟨s', e2, em⟩ := Option.map_eq_some_iff.mp em
    subst em
    refine wS p (h.run _ _ rs τ1 e1 F noH H σ A _ at_.at_ fun F1 H1 vs A1 A2 g1 c1 o1 t1 => ?_)
    obtain ⟨F2, A3, g2, a2⟩ := putsS_ok e2 c1 o1 (at_.fz.mono g1.ff) t1
    have hl := o1.length
    match rs, vs, hl, o1, e2, a2 with
    | [r1, r2], [v, w], _, _, _, a2 => exact ⟨v, w, rfl, k F2 H1 _ A3 (g1.trans g2) a2 (agree_sets (vs := [v, w]) hi)⟩
    | [], _, _, _, e2, _ => cases e2
    | [_], _, _, _, e2, _ =>
      obtain ⟨_, _, e2⟩ := Option.bind_eq_some_iff.mp (show (putS i bi _ _).bind _ = some s' from e2)
      cases e2
    | _ :: _ :: _ :: _, _, _, _, e2, _ =>
      obtain ⟨_, _, e2⟩ := Option.bind_eq_some_iff.mp (show (putS i bi _ _).bind _ = some s' from e2)
      obtain ⟨_, _, e2⟩ := Option.bind_eq_some_iff.mp (show (putS j bj _ _).bind _ = some s' from e2)
      cases e2⟩
end
@[simp] def psK3 (i : Nat) (fz : Fz) (τ : Tau) (d : D) : Option SS := some ⟨fset fz i (some d), tdel τ i⟩
@[simp] theorem r_putF (i : Nat) (r : R) (fz : Fz) (τ : Tau) : putS i false r ⟨fz, τ⟩ = bd r.st (psK3 i fz τ) := bd_om fun a => rfl
@[simp] theorem r_putT (i : Nat) (t : T) (fz : Fz) (τ : Tau) : putS i true (.val t) ⟨fz, τ⟩ = if once τ = true ∧ i < fz.length then some ⟨fset fz i none, tset τ i t⟩ else none := rfl
@[simp] theorem r_puts0 (s : SS) : putsS [] [] s = some s := rfl
@[simp] theorem r_puts1 (i : Nat) (b : Bool) (is : List (Nat × Bool)) (r : R) (rs : List R) (s : SS) : putsS ((i, b) :: is) (r :: rs) s = bd (putS i b r s) (putsS is rs) := bd_of fun a => rfl
@[simp] def pgK3 (s : SS) : Option Out := some (.nx s)
@[simp] def pgK (is : List (Nat × Bool)) (fz : Fz) : List R × Tau → Option Out
  | (rs, τ) => bd (putsS is rs ⟨fz, τ⟩) pgK3
@[simp] theorem r_mParG (is : List (Nat × Bool)) (l : ML) (fz : Fz) (τ : Tau) : mParG is l ⟨fz, τ⟩ = bd (l ⟨fz, []⟩ τ) (pgK is fz) := bd_of fun a => bd_om fun b => rfl
end Tl

namespace Tl
open PySem PySem.Spec PyProof.Rows L2
def gTupT : List R → Option R := fun rs => (tsR rs).map fun ds => .val (.tup ds)
section
variable {X : Cx} {pos : Pos}
theorem er_tupT {es : List Expr} {l : ML} {x1 : Nat} (ha : AR X es l) (hl : es.length ≤ 1000 := by decide) : ER X (.Tuple es x1 pos) (mOp gTupT l) := ⟨fun ro τ r τ' em F B H σ A Q a k => by
  obtain ⟨⟨rs, τ1⟩, e1, em⟩ := Option.bind_eq_some_iff.mp em
  obtain ⟨r2, e2, em⟩ := Option.map_eq_some_iff.mp em
  cases em
  obtain ⟨ts, e3, e4⟩ := Option.map_eq_some_iff.mp e2
  cases e4
  have hlen := ha.len _ _ _ _ e1
  refine wE (pe_tup paW) (ha.run ro τ rs τ1 e1 F B H σ A _ a fun F1 H1 vs A1 A2 g1 c1 o1 t1 => ⟨?_, fun p hp => ?_⟩)
  · rw [o1.length, hlen]
    exact Nat.le_of_lt (small1000 hl)
  · obtain ⟨g3, c3⟩ := c1.newF (o := .tup vs) hp
    have sh : ∀ q o, H1 q = some o → upd H1 p (.tup vs) q = some o := fun q o z => by
      rw [upd_ne (ne_of_none z hp)]
      exact z
    exact k _ _ (.ref p) A1 A2 (g1.trans g3) c3 (.tup (.inl (.inl upd_same)) (by rw [o1.length, hlen]; exact Nat.le_of_lt (small1000 hl)) ((o1.own e3).stay g3.ff fun q _ o z => sh q o z)) (t1.stay g3.ff fun q _ o z => sh q o z)⟩
end
@[simp] def tupKT (ds : List T) : Option R := some (.val (.tup ds))
@[simp] theorem r_gTupT (rs : List R) : gTupT rs = bd (tsR rs) tupKT := bd_om fun a => rfl
section
variable {K : PySem.W.Frag}
/-- the turns: the items to come, the trees made -/
def lcLoopT (vs : List Nat) (mt : MG) (mc : MB) (me : MV) (fw : Fz) (vw : Tau) : List D → List T → Tau → Option (List T × Tau)
  | [], acc, τ => some (acc, τ)
  | d :: ds, acc, τ => (mt d fw).bind fun fz => (mc ⟨fz, vw⟩ τ).bind fun p =>
      if p.1 = true then (me ⟨fz, vw⟩ p.2).bind fun q => q.1.t.bind fun y => lcLoopT vs mt mc me fw vw ds (acc ++ [y]) (tout vs q.2) else lcLoopT vs mt mc me fw vw ds acc (tout vs p.2)
def mLcT (vs : List Nat) (mi : MI) (mt : MG) (mc : MB) (me : MV) : MV := fun ro τ => (mi ro τ).bind fun p => (lcLoopT vs mt mc me (fwipe ro.fz vs) (tout vs ro.vw) p.1 [] (tout vs p.2)).map fun q => (.val (.ls q.1), q.2)
structure LcAtT (K : PySem.W.Frag) (F1 B H1 : Hp) (A1 : List Addr) (σ : L2.St) (vs : List Nat) (p : Addr) (τ : Tau) (acc : List T) (i : Nat) (Fc Hc : Hp) (Ai Ac : List Addr) (xs : List V) : Prop where
  go : Go F1 H1 A1 Fc Hc ((p :: Ai) ++ Ac)
  cn : Cn Fc B Hc ((p :: Ai) ++ Ac)
  at_ : Hc p = some (.lst xs)
  rl : OwnL K Fc Hc xs acc Ai
  tau : TauOk K Fc Hc σ τ Ac
  out : ∀ q ∈ τ, q.1 ∉ vs
  len : xs.length ≤ i
theorem lc_evT {wi : TI} {g : TG} {tt : TT} {te : TE} {vs ws : List Nat} {mi : MI} {mt : MG} {mc : MB} {me : MV} (hi : IV K wi mi) (hg : GV K g ws mt) (hw : ∀ j ∈ ws, j ∈ vs) (ht : TV K tt mc) (he : EV K te me) :
    EV K (tLc wi g tt te vs) (mLcT vs mi mt mc me) := ⟨fun ro τ r τ' em F B H σ A Q a k => by
  obtain ⟨⟨ds, τ1⟩, e1, em⟩ := Option.bind_eq_some_iff.mp em
  obtain ⟨⟨out, τ2⟩, e2, em⟩ := Option.map_eq_some_iff.mp em
  cases em
  refine hi.run ro τ ds τ1 e1 F B H σ A _ a fun F1 H1 A1 J g1 c1 t1 src => ?_
  intro p hp
  have ro1 := a.ro.mono g1.ff
  refine ⟨fun i m Hc => m = ds.length - i ∧ i ≤ ds.length ∧ ∃ (Fc : Hp) (τc : Tau) (acc : List T) (xs : List V) (Ai Ac : List Addr), lcLoopT vs mt mc me (fwipe ro.fz vs) (tout vs ro.vw) (ds.drop i) acc τc = some (out, τ2) ∧
      LcAtT K F1 B H1 A1 σ vs p τc acc i Fc Hc Ai Ac xs, ⟨ds.length, ?_⟩, ?_⟩
  · obtain ⟨A0, t0, n0, s0⟩ := t1.out vs c1.nd
    have g0 : Go F1 H1 A1 F1 H1 A0 := Go.less s0
    obtain ⟨g2, c2⟩ := (c1.sub n0 s0).newO (o := .lst []) hp
    refine ⟨by omega, Nat.zero_le _, F1, _, [], [], [], A0, e2, ⟨g0.trans g2, c2, upd_same, .nil, t0.stay g2.ff fun b m o q => ?_, fun q m => (tout_sub m).2, Nat.le_refl _⟩⟩
    rw [upd_ne (ne_of_none q hp)]
    exact q
  · rintro i m Hc ⟨rfl, hi', Fc, τc, acc, xs, Ai, Ac, el, L⟩
    have s1c : Same F1 Fc := L.go.ff
    have cc := L.cn
    by_cases hlt : i < ds.length
    · refine .inr ?_
      have ei : ds[i]? = some ds[i] := List.getElem?_eq_getElem hlt
      refine ⟨src.go Fc Hc s1c cc.fh cc.bh i _ ei, fun H' => ∃ (Fc : Hp) (τc : Tau) (acc : List T) (xs : List V) (Ai Ac : List Addr), lcLoopT vs mt mc me (fwipe ro.fz vs) (tout vs ro.vw) (ds.drop (i + 1)) acc τc = some (out, τ2) ∧
        LcAtT K F1 B H1 A1 σ vs p τc acc (i + 1) Fc H' Ai Ac xs, fun H' q => ⟨ds.length - (i + 1), by omega, rfl, hlt, q⟩, fun x H2 y => ?_⟩
      obtain ⟨F2, w1, rx⟩ := src.yld Fc Hc s1c cc.fh cc.bh i _ ei x H2 y
      obtain ⟨g2, c2⟩ := w1 B ((p :: Ai) ++ Ac) cc
      rw [List.drop_eq_getElem_cons hlt] at el
      obtain ⟨fz, f1, el⟩ := Option.bind_eq_some_iff.mp el
      obtain ⟨⟨b, τ3⟩, f2, el⟩ := Option.bind_eq_some_iff.mp el
      have stand : ∀ (b : Addr) (u : HO), Hc b = some u → H2 b = some u := fun b u q => (w1 noH [] ⟨cc.fh, same_noH, .nil, (fun _ z => nomatch z), (fun _ z => nomatch z), (fun _ z => nomatch z)⟩).1.keep b u (fun z => nomatch z) q
      have hp2 := stand _ _ L.at_
      have rl2 := L.rl.stay g2.ff fun b _ u q => stand b u q
      have tc2 := L.tau.stay g2.ff fun b _ u q => stand b u q
      have ro2 := ro1.mono (s1c.trans g2.ff)
      refine hg.run _ _ fz f1 F2 H2 (wipe σ vs) x _ rx c2.fh (ro2.fz.wipe vs) fun σ2 o2 l2 k2 => ⟨?_, ?_⟩
      · exact wipe_eq (l2.trans (wipe_length _ _)) fun j n => k2 j fun z => n (hw j z)
      · have offslot : ∀ j, j ∉ vs → σ2[j]? = σ[j]? := fun j n => (k2 j fun z => n (hw j z)).trans (wipe_out n)
        have to2 : TauOk K F2 H2 σ2 τc Ac := tc2.move fun q m => offslot q.1 (L.out q m)
        have vw2 : VwOk K F2 B σ2 (tout vs ro.vw) := VwOk.move (fun q m => ro2.vw q (tout_sub m).1) fun q m => offslot q.1 (tout_sub m).2
        have back : ∀ {τ : Tau} {F' H' : Hp} {A : List Addr}, TauOk K F' H' σ2 τ A → A.Nodup → ∃ A', TauOk K F' H' σ (tout vs τ) A' ∧ A'.Nodup ∧ ∀ a ∈ A', a ∈ A := fun t n => by
          obtain ⟨A', t', n', s'⟩ := t.out vs n
          exact ⟨A', t'.move fun q m => (offslot q.1 (tout_sub m).2).symm, n', s'⟩
        refine ht.run ⟨fz, tout vs ro.vw⟩ τc b τ3 f2 F2 B H2 σ2 Ac _ ⟨Cn.right (A1 := p :: Ai) c2, ⟨o2, vw2⟩, to2⟩ fun F3 H3 A3 g3 c3 t3 => ?_
        obtain ⟨g3', c3'⟩ := Go.framed (A1 := p :: Ai) c2 g3 c3
        have ap2 := Cn.apart (A1 := p :: Ai) c2
        have hp3 : H3 p = some (.lst xs) := g3.keep p _ (ap2 p List.mem_cons_self) hp2
        have rl3 := rl2.stay g3.ff fun b m u q => g3.keep b u (ap2 b (List.mem_cons_of_mem _ m)) q
        have g13 := (L.go.trans g2).trans g3'
        have keepin : ∀ {Al A A' : List Addr} {F H : Hp}, Cn F B H ((p :: Al) ++ A) → A'.Nodup → (∀ a ∈ A', a ∈ A) → Go F H ((p :: Al) ++ A) F H ((p :: Al) ++ A') ∧ Cn F B H ((p :: Al) ++ A') := fun {Al A A' F H} c n s => by
          have sub : ∀ b ∈ (p :: Al) ++ A', b ∈ (p :: Al) ++ A := fun b m => (List.mem_append.mp m).elim (fun z => List.mem_append_left _ z) fun z => List.mem_append_right _ (s b z)
          exact ⟨Go.less sub, c.sub (List.nodup_append.mpr ⟨c.left.nd, n, fun a m b m' q => c.apart a m (q ▸ s b m')⟩) sub⟩
        cases b with
        | false =>
          rw [if_neg Bool.false_ne_true] at el ⊢
          obtain ⟨A', t', n', s'⟩ := back t3 c3.nd
          obtain ⟨g4, c4⟩ := keepin c3' n' s'
          exact ⟨F3, tout vs τ3, acc, xs, Ai, A', el, ⟨g13.trans g4, c4, hp3, rl3, t', fun q m => (tout_sub m).2, Nat.le_succ_of_le L.len⟩⟩
        | true =>
          rw [if_pos rfl] at el ⊢
          obtain ⟨⟨z, τ4⟩, f3, el⟩ := Option.bind_eq_some_iff.mp el
          obtain ⟨yd, f4, el⟩ := Option.bind_eq_some_iff.mp el
          have ro3 : RoOk K F3 B σ2 ⟨fz, tout vs ro.vw⟩ := ⟨o2.mono g3.ff, vw2.mono g3.ff⟩
          refine he.run ⟨fz, tout vs ro.vw⟩ τ3 z τ4 f3 F3 B H3 σ2 A3 _ ⟨c3, ro3, t3⟩ fun F4 H4 u A4 A5 g4 c4 o4 t4 => ?_
          obtain ⟨g4', c4'⟩ := Go.framed (A1 := p :: Ai) c3' g4 c4
          have ap3 := Cn.apart (A1 := p :: Ai) c3'
          have hp4 : H4 p = some (.lst xs) := g4.keep p _ (ap3 p List.mem_cons_self) hp3
          have rl4 := rl3.stay g4.ff fun b m u q => g4.keep b u (ap3 b (List.mem_cons_of_mem _ m)) q
          have oy := o4.own f4
          rw [← List.append_assoc] at g4' c4'
          have c4'' : Cn F4 B H4 ((p :: (Ai ++ A4)) ++ A5) := c4'
          have g4'' : Go F3 H3 ((p :: Ai) ++ A3) F4 H4 ((p :: (Ai ++ A4)) ++ A5) := g4'
          obtain ⟨A', t', n', s'⟩ := back t4 c4''.right.nd
          obtain ⟨g6, c6⟩ := keepin c4'' n' s'
          obtain ⟨g7, c7⟩ := c6.write (o := .lst (xs ++ [u])) (p := p) List.mem_cons_self
          have np : ∀ b ∈ (Ai ++ A4) ++ A', b ≠ p := fun b m z => (List.nodup_cons.mp (show (p :: ((Ai ++ A4) ++ A')).Nodup from c6.nd)).1 (by rw [← z]; exact m)
          refine ⟨xs, hp4, Nat.lt_of_le_of_lt L.len (Nat.lt_of_lt_of_le hlt src.small), F4, tout vs τ4, acc ++ [yd], xs ++ [u], Ai ++ A4, A', el, ⟨((g13.trans g4'').trans g6).trans g7, c7, upd_same, ?_, t'.stay g7.ff fun b m o q => ?_, fun q m => (tout_sub m).2, ?_⟩⟩
          · have rl5 : OwnL K F4 H4 (xs ++ [u]) (acc ++ [yd]) (Ai ++ (A4 ++ [])) := rl4.append (.cons oy .nil)
            rw [List.append_nil] at rl5
            refine rl5.stay g7.ff fun b m o q => ?_
            rw [upd_ne (np b (List.mem_append_left _ m))]
            exact q
          · rw [upd_ne (np b (List.mem_append_right _ m))]
            exact q
          · rw [List.length_append]
            exact Nat.succ_le_succ L.len
    · have e : i = ds.length := by omega
      subst e
      rw [List.drop_length] at el
      cases el
      refine .inl ⟨src.stop Fc Hc s1c cc.fh cc.bh _ (Nat.le_refl _), ?_⟩
      exact k Fc Hc (.ref p) (p :: Ai) Ac (g1.trans L.go) cc (.ls L.at_ (Nat.le_trans L.len src.small) L.rl) L.tau⟩
end
section
variable {X : Cx} {scope : Scope} {elt tg iter c : Expr} {own : List (Str × Nat)} {pos : Pos} {ws : List Nat} {mi : MI} {mt : MG} {mc : MB} {me : MV}
theorem ev_lcT0 (hi : IR X tg iter mi) (hg : ∀ (s : Shared) (H0 : Hp) (C : Addr) (cl : List (Str × Addr)) (fp : List Addr), GR (X.blk s H0 scope (compEnvC scope cl C X.env) fp) tg ws mt) (hw : ∀ j ∈ ws, j ∈ own.map (·.2))
    (he : ∀ (s : Shared) (H0 : Hp) (C : Addr) (cl : List (Str × Addr)) (fp : List Addr), ER (X.blk s H0 scope (compEnvC scope cl C X.env) fp) elt me) : EV X.K (tLc0 X scope tg iter elt (own.map (·.2))) (mLcT (own.map (·.2)) mi mt mYes me) :=
  lc_evT hi (bG_of hg) hw tv_yes (bE_of he)
end
@[simp] def lcTK2 : List T × Tau → Option (R × Tau)
  | (ds, τ) => some (.val (.ls ds), τ)
@[simp] def lcTK (vs : List Nat) (mt : MG) (mc : MB) (me : MV) (fz : Fz) (vw : Tau) : List D × Tau → Option (R × Tau)
  | (ds, τ) => bd (lcLoopT vs mt mc me (fwipe fz vs) (tout vs vw) ds [] (tout vs τ)) lcTK2
@[simp] theorem r_mLcT (vs : List Nat) (mi : MI) (mt : MG) (mc : MB) (me : MV) (fz : Fz) (vw : Tau) (τ : Tau) : mLcT vs mi mt mc me ⟨fz, vw⟩ τ = bd (mi ⟨fz, vw⟩ τ) (lcTK vs mt mc me fz vw) := bd_of fun a => bd_om fun b => rfl
end Tl

namespace Tl
open PySem PySem.Spec PyProof.Rows L2
def T.withKids : T → List T → T
  | .ls _, ts => .ls ts
  | .tup _, ts => .tup ts
  | t, _ => t
def forOL (x : Nat) (body : MS) : Nat → Nat → List T → SS → Option (List T × Out)
  | 0, _, ts, s => some (ts, .nx s)
  | n + 1, j, ts, s => (ts[j]?).bind fun t => if once s.ow = true ∧ x < s.fz.length then (body ⟨fset s.fz x none, tset s.ow x t⟩).bind fun o => match o with
      | .nx s1 => (tget s1.ow x).bind fun t' => forOL x body n (j + 1) (ts.set j t') ⟨fset s1.fz x none, tdel s1.ow x⟩
      | .ct s1 => (tget s1.ow x).bind fun t' => forOL x body n (j + 1) (ts.set j t') ⟨fset s1.fz x none, tdel s1.ow x⟩
      | .bk s1 => (tget s1.ow x).map fun t' => (ts.set j t', .nx ⟨fset s1.fz x none, tdel s1.ow x⟩)
      | .rt r s1 => (tget s1.ow x).map fun t' => (ts.set j t', .rt r ⟨fset s1.fz x none, tdel s1.ow x⟩)
    else none
def endO (y : Nat) (u' : T) : Out → Option Out
  | .nx s => some (.nx ⟨s.fz, tset s.ow y u'⟩)
  | .rt r s => some (.rt r ⟨s.fz, tset s.ow y u'⟩)
  | _ => none
def mForO (y x : Nat) (mp : MP) (body : MS) : MS := fun s => (tget s.ow y).bind fun u => (mp u ⟨s.fz, [(y, u)]⟩ (tset s.ow y .hole)).bind fun p => p.1.2.kids.bind fun ts =>
  (forOL x body ts.length 0 ts ⟨s.fz, p.2⟩).bind fun q => (setP u p.1.1 (p.1.2.withKids q.1)).bind fun u' => endO y u' q.2
theorem tdel_tset : ∀ (τ : Tau) (i : Nat) (t : T), tdel (tset τ i t) i = tdel τ i
  | [], i, t => by
    show (if i = i then tdel [] i else _) = _
    rw [if_pos rfl]
  | (j, u) :: r, i, t => by
    show tdel (if j = i then (i, t) :: r else (j, u) :: tset r i t) i = (if j = i then tdel r i else (j, u) :: tdel r i)
    by_cases q : j = i
    · rw [if_pos q, if_pos q]
      show (if i = i then tdel r i else _) = _
      rw [if_pos rfl]
    · rw [if_neg q, if_neg q]
      show (if j = i then _ else (j, u) :: tdel (tset r i t) i) = _
      rw [if_neg q, tdel_tset r i t]
section
variable {X : Cx} {Pr : List Nat}
/-- what stands at a turn -/
structure FoAt (K : PySem.W.Frag) (F1 H1 : Hp) (A1 : List Addr) (P C0 R : List Addr) (xs : List V) (ts : List T) (s : SS) (Fi Hi : Hp) (σi : L2.St) (Ci Ai : List Addr) : Prop where
  go : Go F1 H1 A1 Fi Hi ((P ++ C0) ++ (R ++ (Ci ++ Ai)))
  cn : Cn Fi noH Hi ((P ++ C0) ++ (R ++ (Ci ++ Ai)))
  keep : ∀ b ∈ P ++ C0, ∀ q, H1 b = some q → Hi b = some q
  l : OwnL K Fi Hi xs ts Ci
  fz : FzOk K Fi σi s.fz
  ow : TauOk K Fi Hi σi s.ow Ai
def FinO (K : PySem.W.Frag) (Pr : List Nat) (F1 H1 : Hp) (A1 P C0 : List Addr) (xs : List V) (y : Nat) (v : V) (ts' : List T) (σ : L2.St) (D : Ends) : Out → Prop
  | .nx s2 => ∀ (Fi Hi : Hp) (σi : L2.St) (Ci Ai : List Addr), FoAt K F1 H1 A1 P C0 [] xs ts' s2 Fi Hi σi Ci Ai → Agree Pr σ σi → σi[y]? = some (some v) → D.nx σi Hi
  | .rt r s2 => ∀ (Fi Hi : Hp) (σi : L2.St) (w : V) (Ci Ar Ai : List Addr), FoAt K F1 H1 A1 P C0 Ar xs ts' s2 Fi Hi σi Ci Ai → Own K Fi Hi w r Ar → Agree Pr σ σi → σi[y]? = some (some v) → D.rt w Hi
  | _ => True
theorem forO_loop {x y : Nat} {mb : MS} {body : List Stmt} {J : It} {xs : List V} {P C0 : List Addr} {F1 H1 : Hp} {A1 : List Addr} {σ : L2.St} {v : V} {D : Ends} {ts ts' : List T} {s1 : SS} {o2 : Out} {Ca Aa : List Addr} (hb : SRs X (x :: y :: Pr) body mb) (hx : x ∉ Pr) (hxy : x ≠ y) (hv : σ[y]? = some (some v))
    (jgo : ∀ Fi Hi : Hp, Same F1 Fi → Same Fi Hi → (∀ b ∈ P, ∀ q, H1 b = some q → Hi b = some q) → ∀ i w, xs[i]? = some w → J.go i Hi)
    (jyld : ∀ Fi Hi : Hp, Same F1 Fi → Same Fi Hi → (∀ b ∈ P, ∀ q, H1 b = some q → Hi b = some q) → ∀ i w H2, J.yld i Hi w H2 → H2 = Hi ∧ xs[i]? = some w)
    (jstop : ∀ Fi Hi : Hp, Same F1 Fi → Same Fi Hi → (∀ b ∈ P, ∀ q, H1 b = some q → Hi b = some q) → ∀ i, xs.length ≤ i → J.stop i Hi)
    (e3 : forOL x mb ts.length 0 ts s1 = some (ts', o2)) (a : FoAt X.K F1 H1 A1 P C0 [] xs ts s1 F1 H1 σ Ca Aa)
    (fin : FinO X.K Pr F1 H1 A1 P C0 xs y v ts' σ D o2) :
    ∃ W : Nat → Nat → L2.St → Hp → Prop, (∃ m, W 0 m σ H1) ∧ ∀ i m σ H, W i m σ H →
      (J.stop i H ∧ D.nx σ H) ∨ (J.go i H ∧ ∃ N : L2.St → Hp → Prop, (∀ σ' H', N σ' H' → ∃ m', m' < m ∧ W (i + 1) m' σ' H') ∧ ∀ w H', J.yld i H w H' → gName x w σ H' fun σ2 H2 => wpB X body { D with nx := N, ct := N, bk := D.nx } σ2 H2) := by
  have hn : xs.length = ts.length := OwnL.length a.l
  refine ⟨fun i m σi Hi => m = ts.length - i ∧ i ≤ ts.length ∧ ∃ (Fi : Hp) (si : SS) (tsi : List T) (Ci Ai : List Addr), forOL x mb (ts.length - i) i tsi si = some (ts', o2) ∧ tsi.length = ts.length ∧ FoAt X.K F1 H1 A1 P C0 [] xs tsi si Fi Hi σi Ci Ai ∧ Agree Pr σ σi ∧ σi[y]? = some (some v),
    ⟨ts.length, by omega, Nat.zero_le _, F1, s1, ts, Ca, Aa, e3, rfl, a, Agree.refl, hv⟩, ?_⟩
  rintro i m σi Hi ⟨rfl, hi', Fi, si, tsi, Ci, Ai, el, hl, ai, ag, hvi⟩
  have kP : ∀ b ∈ P, ∀ q, H1 b = some q → Hi b = some q := fun b m q z => ai.keep b (List.mem_append_left _ m) q z
  by_cases hlt : i < ts.length
  · refine .inr ?_
    have hlx : i < xs.length := by omega
    have ei : xs[i]? = some xs[i] := List.getElem?_eq_getElem hlx
    refine ⟨jgo Fi Hi ai.go.ff ai.cn.fh kP i _ ei, fun σ' H' => ∃ (Fi : Hp) (si : SS) (tsi : List T) (Ci Ai : List Addr), forOL x mb (ts.length - (i + 1)) (i + 1) tsi si = some (ts', o2) ∧ tsi.length = ts.length ∧ FoAt X.K F1 H1 A1 P C0 [] xs tsi si Fi H' σ' Ci Ai ∧ Agree Pr σ σ' ∧ σ'[y]? = some (some v),
      fun σ' H' q => ⟨ts.length - (i + 1), by omega, rfl, hlt, q⟩, fun w H2 yl => ?_⟩
    obtain ⟨eH, ew⟩ := jyld Fi Hi ai.go.ff ai.cn.fh kP i w H2 yl
    subst eH
    rw [show ts.length - i = (ts.length - (i + 1)) + 1 by omega] at el
    obtain ⟨t, et, el⟩ := Option.bind_eq_some_iff.mp (show (tsi[i]?).bind _ = some (ts', o2) from el)
    by_cases q0 : once si.ow = true ∧ x < si.fz.length
    · rw [if_pos q0] at el
      obtain ⟨ob, eb, el⟩ := Option.bind_eq_some_iff.mp el
      obtain ⟨w', B1, C1, hw', ow, pm, back⟩ := ai.l.split et
      rw [ew] at hw'
      cases hw'
      -- the addresses: kept aside: P, C0, C1; the body's: B1, Ai
      have pm1 : ((P ++ C0) ++ (Ci ++ Ai)).Perm (((P ++ C0) ++ C1) ++ (B1 ++ Ai)) := by
        rw [List.append_assoc (P ++ C0) C1]
        refine List.Perm.append_left _ ?_
        refine (List.Perm.append_right Ai pm).trans ?_
        rw [← List.append_assoc]
        exact List.Perm.append_right Ai List.perm_append_comm
      have c1 := ai.cn.perm pm1
      obtain ⟨A', t', n', s'⟩ := ai.ow.setO q0.1 (by rw [← ai.fz.1]; exact q0.2) ow c1.right.nd
      have sub : ∀ b ∈ ((P ++ C0) ++ C1) ++ A', b ∈ ((P ++ C0) ++ C1) ++ (B1 ++ Ai) := fun b m => (List.mem_append.mp m).elim (fun z => List.mem_append_left _ z) fun z => List.mem_append_right _ (s' b z)
      have c2 : Cn Fi noH H2 (((P ++ C0) ++ C1) ++ A') := c1.sub (List.nodup_append.mpr ⟨c1.left.nd, n', fun b m b' m' q => c1.apart b m (q ▸ s' b' m')⟩) sub
      have g2 : Go F1 H1 A1 Fi H2 (((P ++ C0) ++ C1) ++ A') := (ai.go.perm (List.Perm.refl _) pm1).trans (Go.less sub)
      refine hb.run _ ob eb Fi H2 (σi.set x (some w)) A' _ ⟨c2.right, ai.fz.drop x w, t'⟩ ?_
      have hlen : x < σi.length := by rw [← ai.fz.1]; exact q0.2
      -- behind the body
      have after : ∀ {F' H' : Hp} {σ' : L2.St} {A2 Ar : List Addr} {s4 : SS} {t4 : T}, Go Fi H2 A' F' H' (Ar ++ A2) → Cn F' noH H' (Ar ++ A2) → FzOk X.K F' σ' s4.fz → TauOk X.K F' H' σ' s4.ow A2 → Agree (x :: y :: Pr) (σi.set x (some w)) σ' → tget s4.ow x = some t4 →
          ∃ Cf Af, FoAt X.K F1 H1 A1 P C0 Ar xs (tsi.set i t4) ⟨fset s4.fz x none, tdel s4.ow x⟩ F' H' σ' Cf Af ∧ Agree Pr σ σ' ∧ σ'[y]? = some (some v) := by
        intro F' H' σ' A2 Ar s4 t4 g c f t e ex
        obtain ⟨g3, c3⟩ := Go.framed c2 g c
        have kp : ∀ b ∈ (P ++ C0) ++ C1, ∀ q, H2 b = some q → H' b = some q := fun b m q z => g.keep b q (c2.apart b m) z
        obtain ⟨v4, B4, A4, hv4, o4, tt4, n4, s4'⟩ := t.take c.right.nd ex
        have ex4 : σ'[x]? = some (some w) := by
          rw [e x List.mem_cons_self, List.getElem?_set_self hlen]
        rw [ex4] at hv4
        cases hv4
        obtain ⟨A5, t5, n5, s5⟩ := tt4.del x (List.nodup_append.mp n4).2.1
        have td : tdel (tset s4.ow x .hole) x = tdel s4.ow x := tdel_tset s4.ow x .hole
        rw [td] at t5
        obtain ⟨Cf, ol, pf⟩ := back F' H' t4 B4 g.ff (fun b m q z => kp b (List.mem_append_right _ m) q z) o4
        -- addresses
        have m1 : ∀ b ∈ B4 ++ A5, b ∈ A2 := fun b m => s4' b ((List.mem_append.mp m).elim (fun z => List.mem_append_left _ z) fun z => List.mem_append_right _ (s5 b z))
        have nd45 : (B4 ++ A5).Nodup := List.nodup_append.mpr ⟨(List.nodup_append.mp n4).1, n5, fun b m b' m' q => (List.nodup_append.mp n4).2.2 b m b' (s5 b' m') q⟩
        have pmf : ((P ++ C0) ++ (Ar ++ (Cf ++ A5))).Perm (((P ++ C0) ++ C1) ++ (Ar ++ (B4 ++ A5))) := by
          have p1 : ((P ++ C0) ++ (Ar ++ (Cf ++ A5))).Perm ((P ++ C0) ++ (Ar ++ ((B4 ++ C1) ++ A5))) := List.Perm.append_left _ (List.Perm.append_left _ (List.Perm.append_right _ pf))
          refine p1.trans ?_
          refine List.perm_iff_count.mpr fun b => ?_
          simp only [List.count_append]
          omega
        have sub2 : ∀ b ∈ ((P ++ C0) ++ C1) ++ (Ar ++ (B4 ++ A5)), b ∈ ((P ++ C0) ++ C1) ++ (Ar ++ A2) := fun b m => by
          rcases List.mem_append.mp m with m | m
          · exact List.mem_append_left _ m
          · rcases List.mem_append.mp m with m | m
            · exact List.mem_append_right _ (List.mem_append_left _ m)
            · exact List.mem_append_right _ (List.mem_append_right _ (m1 b m))
        have nd2 : (((P ++ C0) ++ C1) ++ (Ar ++ (B4 ++ A5))).Nodup := by
          obtain ⟨a1, a2, a3⟩ := List.nodup_append.mp c3.nd
          obtain ⟨b1, b2, b3⟩ := List.nodup_append.mp a2
          refine List.nodup_append.mpr ⟨a1, List.nodup_append.mpr ⟨b1, nd45, fun b m b' m' q => b3 b m b' (m1 b' m') q⟩, fun b m b' m' q => ?_⟩
          rcases List.mem_append.mp m' with m' | m'
          · exact a3 b m b' (List.mem_append_left _ m') q
          · exact a3 b m b' (List.mem_append_right _ (m1 b' m')) q
        have c5 := (c3.sub nd2 sub2).perm pmf.symm
        have g5 := ((g2.trans g3).trans (Go.less sub2)).perm (List.Perm.refl _) pmf.symm
        refine ⟨Cf, A5, ⟨g5, c5, fun b m q z => ?_, ol, ?_, t5⟩, ?_, ?_⟩
        · exact kp b (List.mem_append_left _ m) q (ai.keep b m q z)
        · refine ⟨by rw [fset_length]; exact f.1, fun j d h => ?_⟩
          by_cases qj : j = x
          · subst qj
            cases fget_set_same h
          · rw [fget_set_ne qj] at h
            exact f.2 j d h
        · intro j m
          have nj : x ≠ j := fun z => hx (z ▸ m)
          rw [e j (List.mem_cons_of_mem _ (List.mem_cons_of_mem _ m)), List.getElem?_set_ne nj]
          exact ag j m
        · rw [e y (List.mem_cons_of_mem _ List.mem_cons_self), List.getElem?_set_ne hxy]
          exact hvi
      cases ob with
      | nx s4 =>
        obtain ⟨t4, ex, el⟩ := Option.bind_eq_some_iff.mp (show (tget s4.ow x).bind _ = some (ts', o2) from el)
        intro F' H' σ' A2 g a' e
        obtain ⟨Cf, Af, fa, ag', hv'⟩ := after (Ar := []) g a'.cn a'.fz a'.ow e ex
        exact ⟨F', _, tsi.set i t4, Cf, Af, el, by rw [List.length_set]; exact hl, fa, ag', hv'⟩
      | ct s4 =>
        obtain ⟨t4, ex, el⟩ := Option.bind_eq_some_iff.mp (show (tget s4.ow x).bind _ = some (ts', o2) from el)
        intro F' H' σ' A2 g a' e
        obtain ⟨Cf, Af, fa, ag', hv'⟩ := after (Ar := []) g a'.cn a'.fz a'.ow e ex
        exact ⟨F', _, tsi.set i t4, Cf, Af, el, by rw [List.length_set]; exact hl, fa, ag', hv'⟩
      | bk s4 =>
        obtain ⟨t4, ex, el⟩ := Option.map_eq_some_iff.mp (show (tget s4.ow x).map _ = some (ts', o2) from el)
        cases el
        intro F' H' σ' A2 g a' e
        obtain ⟨Cf, Af, fa, ag', hv'⟩ := after (Ar := []) g a'.cn a'.fz a'.ow e ex
        exact fin F' H' σ' Cf Af fa ag' hv'
      | rt r s4 =>
        obtain ⟨t4, ex, el⟩ := Option.map_eq_some_iff.mp (show (tget s4.ow x).map _ = some (ts', o2) from el)
        cases el
        intro F' H' σ' w0 Ar A2 g c o f t e
        obtain ⟨Cf, Af, fa, ag', hv'⟩ := after g c f t e ex
        exact fin F' H' σ' w0 Cf Ar Af fa o ag' hv'
    · rw [if_neg q0] at el
      cases el
  · have e : i = ts.length := by omega
    subst e
    rw [Nat.sub_self] at el
    cases el
    exact .inl ⟨jstop Fi Hi ai.go.ff ai.cn.fh kP _ (by omega), fin Fi Hi σi Ci Ai ai ag hvi⟩
/-- behind the walk the tree goes back to its slot -/
theorem forO_end {y : Nat} {D : Ends} {F1 H1 F H B' : Hp} {A A1 P C0 : List Addr} {xs : List V} {v yv : V} {w u u' : T} {is : List Int} {ts' : List T} {σ : L2.St} {o2 ob : Out} (em : endO y u' o2 = some ob) (k : OutOk X.K Pr F H σ A D ob) (g0 : Go F H A F1 H1 A1)
    (back : ∀ (F' H' : Hp) (u' t' : T) (B1 : List Addr), Same F F' → (∀ a ∈ C0, ∀ o, B' a = some o → H' a = some o) → Own X.K F' H' yv u' B1 → setP u is u' = some t' → ∃ A', Own X.K F' H' v t' A' ∧ A'.Perm (B1 ++ C0)) (hC : ∀ a ∈ C0, ∀ o, B' a = some o → H1 a = some o)
    (e4 : setP u is (w.withKids ts') = some u') (mk : ∀ (Fi Hi : Hp) (Ci : List Addr), Same F1 Fi → (∀ b ∈ P, ∀ q, H1 b = some q → Hi b = some q) → OwnL X.K Fi Hi xs ts' Ci → Own X.K Fi Hi yv (w.withKids ts') (P ++ Ci)) :
    FinO X.K Pr F1 H1 A1 P C0 xs y v ts' σ D o2 := by
  have put : ∀ (Fi Hi : Hp) (σi : L2.St) (Ci Ar Ai : List Addr) (s2 : SS), FoAt X.K F1 H1 A1 P C0 Ar xs ts' s2 Fi Hi σi Ci Ai → σi[y]? = some (some v) → ∃ A6, Go F H A Fi Hi (Ar ++ A6) ∧ Cn Fi noH Hi (Ar ++ A6) ∧ TauOk X.K Fi Hi σi (tset s2.ow y u') A6 := by
    intro Fi Hi σi Ci Ar Ai s2 a hv
    have ow := mk Fi Hi Ci a.go.ff (fun b m q z => a.keep b (List.mem_append_left _ m) q z) a.l
    obtain ⟨A5, o5, p5⟩ := back Fi Hi _ u' _ (g0.ff.trans a.go.ff) (fun b m q z => a.keep b (List.mem_append_right _ m) q (hC b m q z)) ow e4
    have pm : ((P ++ C0) ++ (Ar ++ (Ci ++ Ai))).Perm (Ar ++ (A5 ++ Ai)) := by
      refine List.perm_iff_count.mpr fun b => ?_
      have := List.perm_iff_count.mp p5 b
      simp only [List.count_append] at this ⊢
      omega
    have c := a.cn.perm pm
    have g := (g0.trans a.go).perm (List.Perm.refl _) pm
    obtain ⟨A6, t6, n6, s6⟩ := a.ow.put hv o5 c.right.nd
    have sub : ∀ b ∈ Ar ++ A6, b ∈ Ar ++ (A5 ++ Ai) := fun b m => (List.mem_append.mp m).elim (fun z => List.mem_append_left _ z) fun z => List.mem_append_right _ (s6 b z)
    have nd : (Ar ++ A6).Nodup := List.nodup_append.mpr ⟨c.left.nd, n6, fun b m b' m' q => c.apart b m (q ▸ s6 b' m')⟩
    exact ⟨A6, g.trans (Go.less sub), c.sub nd sub, t6⟩
  cases o2 with
  | nx s2 =>
    intro Fi Hi σi Ci Ai a ag hv
    cases em
    obtain ⟨A6, g, c, t⟩ := put Fi Hi σi Ci [] Ai s2 a hv
    exact k Fi Hi σi A6 g ⟨c, a.fz, t⟩ ag
  | rt r s2 =>
    intro Fi Hi σi w0 Ci Ar Ai a o ag hv
    cases em
    obtain ⟨A6, g, c, t⟩ := put Fi Hi σi Ci Ar Ai s2 a hv
    exact k Fi Hi σi w0 Ar A6 g c o a.fz t ag
  | bk s2 => trivial
  | ct s2 => trivial
theorem sr_forO {x y : Nat} {tg o : Expr} {body : List Stmt} {mp : MP} {mb : MS} {pos : Pos} (hp : PassesOwn (model X.prog X.w) X.A X.env X.xe) (hc : X.calm = true) (ho : PV X.K y (wpE X o) mp) (hg : PG X tg (gName x)) (hb : SRs X (x :: y :: Pr) body mb)
    (hx : x ∉ Pr := by decide) (hxy : x ≠ y := by decide) (hs : ∀ z, foldedSetIterable o X.env z = pure z := by intro _; rfl) : SR X Pr (.For tg o body [] pos) (mForO y x mp mb) := ⟨fun s ob em F H σ A D a k => by
  obtain ⟨u, e0, em⟩ := Option.bind_eq_some_iff.mp em
  obtain ⟨⟨⟨is, w⟩, τ1⟩, e1, em⟩ := Option.bind_eq_some_iff.mp em
  obtain ⟨ts, e2, em⟩ := Option.bind_eq_some_iff.mp em
  obtain ⟨⟨ts', o2⟩, e3, em⟩ := Option.bind_eq_some_iff.mp em
  obtain ⟨u', e4, em⟩ := Option.bind_eq_some_iff.mp em
  obtain ⟨v, A1, A2, B', hv, oH, tH, c, s', bs, oB, a2⟩ := glass a.at_ e0
  obtain ⟨yv, B0, C0, hw, ow, pm, back⟩ := Own.at oB (ho.get _ _ _ _ _ _ e1)
  have main : ∀ (P A0 : List Addr) (xs : List V), B0 = P ++ A0 → ∀ (F1 H1 : Hp) (A3 : List Addr) (J : It), Go F H A2 F1 H1 A3 → Cn F1 B' H1 A3 → TauOk X.K F1 H1 σ τ1 A3 → OwnL X.K F1 H1 xs ts A0 →
      (∀ (Fi Hi : Hp) (Ci : List Addr), Same F1 Fi → (∀ b ∈ P, ∀ q, H1 b = some q → Hi b = some q) → OwnL X.K Fi Hi xs ts' Ci → Own X.K Fi Hi yv (w.withKids ts') (P ++ Ci)) →
      (∀ Fi Hi : Hp, Same F1 Fi → Same Fi Hi → (∀ b ∈ P, ∀ q, H1 b = some q → Hi b = some q) → ∀ i w, xs[i]? = some w → J.go i Hi) →
      (∀ Fi Hi : Hp, Same F1 Fi → Same Fi Hi → (∀ b ∈ P, ∀ q, H1 b = some q → Hi b = some q) → ∀ i w H2, J.yld i Hi w H2 → H2 = Hi ∧ xs[i]? = some w) →
      (∀ Fi Hi : Hp, Same F1 Fi → Same Fi Hi → (∀ b ∈ P, ∀ q, H1 b = some q → Hi b = some q) → ∀ i, xs.length ≤ i → J.stop i Hi) →
      ∃ W : Nat → Nat → L2.St → Hp → Prop, (∃ m, W 0 m σ H1) ∧ ∀ i m σ H, W i m σ H →
        (J.stop i H ∧ D.nx σ H) ∨ (J.go i H ∧ ∃ N : L2.St → Hp → Prop, (∀ σ' H', N σ' H' → ∃ m', m' < m ∧ W (i + 1) m' σ' H') ∧ ∀ w H', J.yld i H w H' → gName x w σ H' fun σ2 H2 => wpB X body { D with nx := N, ct := N, bk := D.nx } σ2 H2) := by
    intro P A0 xs hB F1 H1 A3 J g1 c1 t1 l mk jg jy js
    obtain ⟨g3, c3⟩ := Go.framed c g1 (unglass bs c1)
    have pm1 : (A1 ++ A3).Perm ((P ++ C0) ++ ([] ++ (A0 ++ A3))) := by
      refine List.perm_iff_count.mpr fun b => ?_
      have := List.perm_iff_count.mp pm b
      rw [hB] at this
      simp only [List.count_append, List.nil_append] at this ⊢
      omega
    have g4 := ((Go.less s').trans g3).perm (List.Perm.refl _) pm1
    have c4 := c3.perm pm1
    have start : FoAt X.K F1 H1 ((P ++ C0) ++ ([] ++ (A0 ++ A3))) P C0 [] xs ts ⟨s.fz, τ1⟩ F1 H1 σ A0 A3 := ⟨Go.refl, c4, fun b m q z => z, l, a.fz.mono g1.ff, t1⟩
    exact forO_loop hb hx hxy hv jg jy js e3 start (forO_end em k g4 back (fun b m q z => c1.bh b q z) e4 mk)
  cases ow with
  | @ls p xs ts0 A0 h z l =>
    cases e2
    refine wS (ps_for hp hc (pi_list peW) hg pssW hs) (ho.run _ _ _ _ _ _ e1 F B' H σ A2 _ v _ a2 hv hw fun F1 H1 A3 g1 c1 t1 => ?_)
    have hp1 : H1 p = some (.lst xs) := c1.bh _ _ h
    refine ⟨p, rfl, ⟨xs, SqL.of hp1⟩, ?_⟩
    have stand : ∀ {Hi : Hp}, (∀ b ∈ [p], ∀ q, H1 b = some q → Hi b = some q) → SqL X.K Hi p xs := fun kp => SqL.of (kp p (List.mem_singleton.mpr rfl) _ hp1)
    refine main [p] A0 xs rfl F1 H1 A3 (Itl X.K p) g1 c1 t1 (l.stay g1.ff fun b m q z => c1.bh b q z) (fun Fi Hi Ci s1 kp ol => .ls (kp p (List.mem_singleton.mpr rfl) _ hp1) z ol)
      (fun Fi Hi s1 s2 kp i x' e => ⟨xs, x', stand kp, e⟩) (fun Fi Hi s1 s2 kp i x' H2 y' => ⟨y'.1, y'.2 xs (stand kp)⟩) (fun Fi Hi s1 s2 kp i l' => ⟨xs, stand kp, l'⟩)
  | @tup p xs ts0 _ h z l =>
    cases e2
    refine wS (ps_for hp hc (pi_tup peW) hg pssW hs) (ho.run _ _ _ _ _ _ e1 F B' H σ A2 _ v _ a2 hv hw fun F1 H1 A3 g1 c1 t1 => ?_)
    have hp1 : SqT X.K F1 p xs := sameT g1.ff h
    refine ⟨p, rfl, ⟨xs, sameT c1.fh hp1⟩, ?_⟩
    refine main [] B0 xs rfl F1 H1 A3 (Itt X.K p) g1 c1 t1 (l.stay g1.ff fun b m q z => c1.bh b q z) (fun Fi Hi Ci s1 kp ol => .tup (sameT s1 hp1) z ol)
      (fun Fi Hi s1 s2 kp i x' e => ⟨xs, x', sameT (s1.trans s2) hp1, e⟩) (fun Fi Hi s1 s2 kp i x' H2 y' => ⟨y'.1, y'.2 xs (sameT (s1.trans s2) hp1)⟩) (fun Fi Hi s1 s2 kp i l' => ⟨xs, sameT (s1.trans s2) hp1, l'⟩)
  | _ => cases e2⟩
end
@[simp] theorem wk_ls (a ts : List T) : T.withKids (.ls a) ts = .ls ts := rfl
@[simp] theorem wk_tup (a ts : List T) : T.withKids (.tup a) ts = .tup ts := rfl
@[simp] theorem endO_nx (y : Nat) (u : T) (fz : Fz) (τ : Tau) : endO y u (.nx ⟨fz, τ⟩) = some (.nx ⟨fz, tset τ y u⟩) := rfl
@[simp] def foK5 (y : Nat) (o2 : Out) (u' : T) : Option Out := endO y u' o2
@[simp] def foK4 (y : Nat) (u w : T) (is : List Int) : List T × Out → Option Out
  | (ts, o2) => bd (setP u is (w.withKids ts)) (foK5 y o2)
@[simp] def foK3 (y x : Nat) (body : MS) (fz : Fz) (u w : T) (is : List Int) (τ : Tau) (ts : List T) : Option Out := bd (forOL x body ts.length 0 ts ⟨fz, τ⟩) (foK4 y u w is)
@[simp] def foK2 (y x : Nat) (body : MS) (fz : Fz) (u : T) : (List Int × T) × Tau → Option Out
  | ((is, w), τ) => bd w.kids (foK3 y x body fz u w is τ)
@[simp] def foK (y x : Nat) (mp : MP) (body : MS) (fz : Fz) (τ : Tau) (u : T) : Option Out := bd (mp u ⟨fz, [(y, u)]⟩ (tset τ y .hole)) (foK2 y x body fz u)
@[simp] theorem r_mForO (y x : Nat) (mp : MP) (body : MS) (fz : Fz) (τ : Tau) : mForO y x mp body ⟨fz, τ⟩ = bd (tget τ y) (foK y x mp body fz τ) := bd_of fun a => bd_of fun b => bd_of fun c => bd_of fun d => bd_of fun e => rfl
end Tl

namespace Tl
open PySem PySem.Spec PyProof.Rows L2
def mChain (f f' : Int → Int → Bool) (ma mb mc : MV) : MV := fun ro τ => (ma ro τ).bind fun p => (asI p.1).bind fun i => (mb ro p.2).bind fun q => (asI q.1).bind fun j =>
  if f i j = true then (mc ro q.2).bind fun w => (asI w.1).map fun l => (rBool (f' j l), w.2) else some (rBool false, q.2)
section
variable {X : Cx} {a b c : Expr} {pos : Pos} {ma mb mc : MV} {f f' : Int → Int → Bool}
end
@[simp] def chK4 (f' : Int → Int → Bool) (j : Int) (τ : Tau) (l : Int) : Option (R × Tau) := some (rBool (f' j l), τ)
@[simp] def chK3 (f' : Int → Int → Bool) (j : Int) : R × Tau → Option (R × Tau)
  | (w, τ) => bd (asI w) (chK4 f' j τ)
def chK2' (f' : Int → Int → Bool) (mc : MV) (ro : Ro) (j : Int) (τ : Tau) : Bool → Option (R × Tau)
  | true => bd (mc ro τ) (chK3 f' j)
  | false => some (rBool false, τ)
@[simp] theorem chK2_t (f' : Int → Int → Bool) (mc : MV) (ro : Ro) (j : Int) (τ : Tau) : chK2' f' mc ro j τ true = bd (mc ro τ) (chK3 f' j) := rfl
@[simp] theorem chK2_f (f' : Int → Int → Bool) (mc : MV) (ro : Ro) (j : Int) (τ : Tau) : chK2' f' mc ro j τ false = some (rBool false, τ) := rfl
@[simp] def chK2 (f f' : Int → Int → Bool) (mc : MV) (ro : Ro) (i : Int) (τ : Tau) (j : Int) : Option (R × Tau) := chK2' f' mc ro j τ (f i j)
@[simp] def chK1 (f f' : Int → Int → Bool) (mc : MV) (ro : Ro) (i : Int) : R × Tau → Option (R × Tau)
  | (q, τ) => bd (asI q) (chK2 f f' mc ro i τ)
@[simp] def chK0 (f f' : Int → Int → Bool) (mb mc : MV) (ro : Ro) (τ : Tau) (i : Int) : Option (R × Tau) := bd (mb ro τ) (chK1 f f' mc ro i)
@[simp] def chK (f f' : Int → Int → Bool) (mb mc : MV) (ro : Ro) : R × Tau → Option (R × Tau)
  | (p, τ) => bd (asI p) (chK0 f f' mb mc ro τ)
@[simp] theorem r_mChain (f f' : Int → Int → Bool) (ma mb mc : MV) (ro : Ro) (τ : Tau) : mChain f f' ma mb mc ro τ = bd (ma ro τ) (chK f f' mb mc ro) := bd_of fun a => bd_of fun i => bd_of fun b => bd_of fun j => by
  show (if f i j = true then _ else _) = chK2' f' mc ro j b.2 (f i j)
  cases q : f i j with
  | true =>
    rw [if_pos rfl]
    exact bd_of fun w => bd_om fun l => rfl
  | false =>
    rw [if_neg Bool.false_ne_true]
    rfl
def fLt (i j : Int) : Bool := decide (i < j)
def fLe (i j : Int) : Bool := decide (i ≤ j)
def fGt (i j : Int) : Bool := decide (j < i)
def fGe (i j : Int) : Bool := decide (j ≤ i)
@[simp] theorem fLt_d (i j : Int) : fLt i j = decide (i < j) := rfl
@[simp] theorem fLe_d (i j : Int) : fLe i j = decide (i ≤ j) := rfl
@[simp] theorem fGt_d (i j : Int) : fGt i j = decide (j < i) := rfl
@[simp] theorem fGe_d (i j : Int) : fGe i j = decide (j ≤ i) := rfl
def isLstR (r : R) : Bool := match r.its with
  | some (true, _) => true
  | _ => false
def mLM (g : List R → Option R) (m0 : MV) (l : ML) : MV := fun ro τ => (m0 ro τ).bind fun p => if isLstR p.1 = true then (l ro p.2).bind fun q => (g (p.1 :: q.1)).map fun r => (r, q.2) else none
section
variable {X : Cx} {o e : Expr} {es : List Expr} {name : Str} {apos cpos : Pos} {id : String} {r : V → List V → Hp → VK → Prop} {g : List R → Option R} {m0 : MV} {l : ML}
end
def pIndex : List D → Option D
  | [.list ds, d] => if SeqAt.shaped (.list ds) = true ∧ SeqAt.shaped d = true then (ds.findIdx? fun z => PyData.eqv z d).map fun j => .int (j : Nat) else none
  | _ => none
@[simp] theorem p_index (ds : List D) (d : D) : pIndex [.list ds, d] = if SeqAt.shaped (.list ds) = true ∧ SeqAt.shaped d = true then (ds.findIdx? fun z => PyData.eqv z d).map fun j => .int (j : Nat) else none := rfl
@[simp] def lmK3 (τ : Tau) (r : R) : Option (R × Tau) := some (r, τ)
@[simp] def lmK2 (g : List R → Option R) (r : R) : List R × Tau → Option (R × Tau)
  | (rs, τ) => bd (g (r :: rs)) (lmK3 τ)
def lmK1 (g : List R → Option R) (l : ML) (ro : Ro) (r : R) (τ : Tau) : Bool → Option (R × Tau)
  | true => bd (l ro τ) (lmK2 g r)
  | false => none
@[simp] theorem lmK1_t (g : List R → Option R) (l : ML) (ro : Ro) (r : R) (τ : Tau) : lmK1 g l ro r τ true = bd (l ro τ) (lmK2 g r) := rfl
@[simp] def lmK (g : List R → Option R) (l : ML) (ro : Ro) : R × Tau → Option (R × Tau)
  | (r, τ) => lmK1 g l ro r τ (isLstR r)
@[simp] theorem r_mLM (g : List R → Option R) (m0 : MV) (l : ML) (ro : Ro) (τ : Tau) : mLM g m0 l ro τ = bd (m0 ro τ) (lmK g l ro) := bd_of fun a => by
  show (if isLstR a.1 = true then _ else none) = lmK1 g l ro a.1 a.2 (isLstR a.1)
  cases q : isLstR a.1 with
  | true =>
    rw [if_pos rfl]
    exact bd_of fun b => bd_om fun c => rfl
  | false =>
    rw [if_neg Bool.false_ne_true]
    rfl
@[simp] theorem isLstR_l (ds : List D) : isLstR (.val (.leaf (.list ds))) = true := rfl
@[simp] theorem isLstR_f (ds : List D) : isLstR (.val (.fl ds)) = true := rfl
@[simp] theorem isLstR_wf (ds : List D) : isLstR (.vw (.fl ds)) = true := rfl
end Tl

namespace Tl
open PySem PySem.Spec PyProof.Rows L2
section
variable {X : Cx}
abbrev TP := Addr × Int × Int
end
section
variable {α β : Type}
def insBy (lt : α → α → Bool) (x : α) : List α → List α
  | [] => [x]
  | y :: r => if lt y x = true then y :: insBy lt x r else x :: y :: r
def sortBy (lt : α → α → Bool) : List α → List α
  | [] => []
  | x :: r => insBy lt x (sortBy lt r)
theorem insBy_perm (lt : α → α → Bool) (x : α) : ∀ l : List α, (insBy lt x l).Perm (x :: l)
  | [] => List.Perm.refl _
  | y :: r => by
    unfold insBy
    split
    · exact (List.Perm.cons y (insBy_perm lt x r)).trans (List.Perm.swap x y r)
    · exact List.Perm.refl _
theorem sortBy_perm (lt : α → α → Bool) : ∀ l : List α, (sortBy lt l).Perm l
  | [] => List.Perm.refl _
  | x :: r => (insBy_perm lt x _).trans (List.Perm.cons x (sortBy_perm lt r))
end
abbrev ltI (a b : Int) : Bool := decide (a < b)
abbrev ltQ (a b : Int × Int) : Bool := SrtO.lexB a b
def pqD (p : Int × Int) : D := .tuple [.int p.1, .int p.2]
def pqsD : List D → Option (List (Int × Int))
  | [] => some []
  | .tuple [.int a, .int b] :: r => (pqsD r).map ((a, b) :: ·)
  | _ => none
/-- sorted(..) of a list of whole numbers, of pairs of them -/
def gSorted : List R → Option R
  | [x] => x.lst?.bind fun ds => match intsD ds with
    | some ns => some (.val (.fl ((sortBy ltI ns).map PyData.int)))
    | none => (pqsD ds).map fun ps => .val (.fl ((sortBy ltQ ps).map pqD))
  | _ => none
section
variable {K : PySem.W.Frag} {X : Cx}
theorem RepL.pairs {F : Hp} : ∀ {xs : List V} {ps : List (Int × Int)}, RepL K F xs (ps.map pqD) → ∃ tps : List TP, xs = tps.map (fun q => V.ref q.1) ∧ ps = tps.map (·.2) ∧ ∀ q ∈ tps, SqT K F q.1 [.int q.2.1, .int q.2.2]
  | _, [], h => by
    cases h
    exact ⟨[], rfl, rfl, fun _ m => nomatch m⟩
  | _, (i, j) :: ps, h => by
    cases h with
    | cons r t =>
      obtain ⟨tps, e1, e2, h3⟩ := RepL.pairs t
      cases r with
      | @tup a ys _ h1 h2 h4 =>
        obtain ⟨u, w, rfl, r1, r2⟩ := RepL.two h4
        cases r1.toInt
        cases r2.toInt
        refine ⟨(a, i, j) :: tps, by rw [e1]; rfl, by rw [e2]; rfl, fun q m => ?_⟩
        rcases List.mem_cons.mp m with rfl | m
        · exact h1
        · exact h3 q m
end
end Tl

namespace L2
open PySem PySem.Spec PyProof.Rows
section
variable {prog : Program} {w : World} {A : Around} {E : Value → Shared → Prop} {s : Shared}
end
section
variable {X : Cx}
end
end L2
namespace Tl
open PySem PySem.Spec PyProof.Rows L2
def tup? : R → Option (List D)
  | .val (.leaf (.tuple ds)) => some ds
  | _ => none
def gSortTu : List R → Option R
  | [x] => (tup? x).bind fun ds => (intsD ds).map fun ns => .val (.fl ((sortBy ltI ns).map PyData.int))
  | _ => none
@[simp] theorem r_gSortTu (ds : List D) : gSortTu [.val (.leaf (.tuple ds))] = (intsD ds).map fun ns => .val (.fl ((sortBy ltI ns).map PyData.int)) := rfl
end Tl

namespace Tl
open PySem PySem.Spec PyProof.Rows L2
def keyOf : D → Option Key
  | .int i => some (.inl i)
  | .str s => some (.inr s)
  | _ => none
@[simp] theorem keyOf_int (i : Int) : keyOf (.int i) = some (.inl i) := rfl
@[simp] theorem keyOf_str (i : Str) : keyOf (.str i) = some (.inr i) := rfl
def keyIsB : D → Key → Bool
  | .int a, .inl b => decide (a = b)
  | .str a, .inr b => decide (a = b)
  | _, _ => false
theorem keyIs_D (j k : Key) : keyIsB (keyD j) k = decide (j = k) := by
  cases j <;> cases k <;> simp [keyIsB, keyD]
section
variable {κ α : Type} [DecidableEq κ]
def valK (es : List (κ × α)) (k : κ) : Option α := (es.find? fun p => decide (p.1 = k)).map (·.2)
def putE (es : List (κ × α)) (k : κ) (d : α) : List (κ × α) := if (es.any fun p => decide (p.1 = k)) = true then es.map (fun p => if p.1 = k then (p.1, d) else p) else es ++ [(k, d)]
def dropE (es : List (κ × α)) (k : κ) : List (κ × α) := es.filter fun p => decide (p.1 ≠ k)
def mergeE (es more : List (κ × α)) : List (κ × α) := more.foldl (fun a p => putE a p.1 p.2) es
@[simp] theorem valK_nil (k : κ) : valK ([] : List (κ × α)) k = none := rfl
theorem valK_cons (p : κ × α) (es : List (κ × α)) (k : κ) : valK (p :: es) k = if p.1 = k then some p.2 else valK es k := by
  unfold valK
  rw [List.find?_cons]
  by_cases h : p.1 = k <;> simp [h]
@[simp] theorem mergeE_nil (es : List (κ × α)) : mergeE es [] = es := rfl
end
/-- what a dict's data hold at a key -/
def valE (es : List (D × D)) (k : Key) : Option D := (es.find? fun p => keyIsB p.1 k).map (·.2)
abbrev dkD (es : List (Key × D)) : List (D × D) := es.map fun p => (keyD p.1, p.2)
theorem valE_dk : ∀ (es : List (Key × D)) (k : Key), valE (dkD es) k = valK es k
  | [], _ => rfl
  | p :: es, k => by
    rw [valK_cons, ← valE_dk es k]
    unfold valE
    rw [show dkD (p :: es) = (keyD p.1, p.2) :: dkD es from rfl, List.find?_cons, keyIs_D]
    by_cases h : p.1 = k <;> simp [h]
section
variable {K : PySem.W.Frag} {F : Hp}
theorem Rep.key {v : V} {k : Key} (r : Rep K F v (keyD k)) : v = kV k := by
  cases k with
  | inl i => exact Rep.toInt r
  | inr i => exact Rep.toStr r
theorem RepK.val (k : Key) : ∀ {kvs : List (Key × V)} {es : List (D × D)}, RepK K F kvs es → (valV kvs k = none ∧ valE es k = none) ∨ ∃ v d, valV kvs k = some v ∧ valE es k = some d ∧ Rep K F v d
  | _, _, .nil => .inl ⟨rfl, rfl⟩
  | _, _, .cons (k := j) (v := v) (d := d) r t => by
    by_cases h : j = k
    · refine .inr ⟨v, d, valV_pos h, ?_, r⟩
      unfold valE
      rw [List.find?_cons, keyIs_D]
      simp [h]
    · have e : ∀ es, valE ((keyD j, d) :: es) k = valE es k := fun es => by
        unfold valE
        rw [List.find?_cons, keyIs_D]
        simp [h]
      rw [valV_neg h, e]
      exact RepK.val k t
theorem RepK.len : ∀ {kvs : List (Key × V)} {es : List (D × D)}, RepK K F kvs es → kvs.length = es.length
  | _, _, .nil => rfl
  | _, _, .cons _ t => by rw [List.length_cons, List.length_cons, RepK.len t]
def okDK : List (D × D) → Bool
  | (.none, _) :: _ => false
  | _ => true
theorem Rep.dict {v : V} {es : List (D × D)} (r : Rep K F v (.dict es)) (h : okDK es = true) : ∃ a kvs, v = .ref a ∧ F a = some (.dK kvs) ∧ RepK K F kvs es := by
  cases r with
  | dk h1 h2 => exact ⟨_, _, rfl, h1, h2⟩
  | dn h1 h2 => cases h
  | dl h1 h2 => cases h
  | xc => cases h
  | xf => cases h
  | ob => cases h
theorem okDK_dk (es : List (Key × D)) : okDK (dkD es) = true := by
  cases es with
  | nil => rfl
  | cons p es => cases p with | mk k d => cases k <;> rfl
end
def pDIn : List D → Option D
  | [k, .dict es] => if okDK es = true then (keyOf k).map fun k => .bool (valE es k).isSome else none
  | _ => none
def pDNotIn : List D → Option D
  | [k, .dict es] => if okDK es = true then (keyOf k).map fun k => .bool !(valE es k).isSome else none
  | _ => none
section
variable {K : PySem.W.Frag}
/-- d[k]: the dict frozen at once (what is told may be an object) -/
def pDGet : List D → Option D
  | [.dict es, k] => if okDK es = true then (keyOf k).bind fun k => valE es k else none
  | _ => none
/-- what is told is plain: a number, a text, a truth, None -/
def isPl : D → Bool
  | .none => true
  | .bool _ => true
  | .int _ => true
  | .str _ => true
  | _ => false
def pDGetP (ds : List D) : Option D := (pDGet ds).bind fun d => if isPl d = true then some d else none
end
section
variable {X : Cx} {a b : Expr} {ma mb : MV} {pos : Pos}
/-- {} -/
def mDNewK : MV := fun _ τ => some (.val (.dk []), τ)
end
section
variable {K : PySem.W.Frag} {F : Hp}
theorem KvOk.any {k : Key} : ∀ {kvs : List (Key × V)} {es : List (Key × D)}, KvOk K F kvs es → (kvs.any fun p => decide (p.1 = k)) = es.any fun p => decide (p.1 = k)
  | _, _, .nil => rfl
  | _, _, .cons h t => by rw [List.any_cons, List.any_cons, KvOk.any t, h.1]
theorem KvOk.set {k : Key} {v : V} {d : D} (r : Rep K F v d) : ∀ {kvs : List (Key × V)} {es : List (Key × D)}, KvOk K F kvs es → KvOk K F (kvs.map fun p => if p.1 = k then (p.1, v) else p) (es.map fun p => if p.1 = k then (p.1, d) else p)
  | _, _, .nil => .nil
  | _, _, .cons (a := p) (b := q) h t => by
    refine .cons ?_ (KvOk.set r t)
    show (if p.1 = k then (p.1, v) else p).1 = (if q.1 = k then (q.1, d) else q).1 ∧ Rep K F (if p.1 = k then (p.1, v) else p).2 (if q.1 = k then (q.1, d) else q).2
    by_cases e : q.1 = k
    · rw [if_pos e, if_pos (by rw [h.1]; exact e)]
      exact ⟨h.1, r⟩
    · rw [if_neg e, if_neg (by rw [h.1]; exact e)]
      exact h
theorem KvOk.app : ∀ {xs ys : List (Key × V)} {es fs : List (Key × D)}, KvOk K F xs es → KvOk K F ys fs → KvOk K F (xs ++ ys) (es ++ fs)
  | _, _, _, _, .nil, s => s
  | _, _, _, _, .cons h t, s => .cons h (KvOk.app t s)
theorem KvOk.put {k : Key} {v : V} {d : D} (r : Rep K F v d) {kvs : List (Key × V)} {es : List (Key × D)} (h : KvOk K F kvs es) : KvOk K F (L2.putK kvs k v) (putE es k d) := by
  unfold L2.putK putE
  rw [h.any (k := k)]
  split
  · exact h.set r
  · exact h.app (.cons ⟨rfl, r⟩ .nil)
theorem KvOk.drop {k : Key} : ∀ {kvs : List (Key × V)} {es : List (Key × D)}, KvOk K F kvs es → KvOk K F (L2.dropK kvs k) (dropE es k)
  | _, _, .nil => .nil
  | _, _, .cons (a := p) (b := q) h t => by
    unfold L2.dropK dropE
    rw [List.filter_cons, List.filter_cons, h.1]
    split
    · exact .cons h (KvOk.drop t)
    · exact KvOk.drop t
theorem KvOk.len {kvs : List (Key × V)} {es : List (Key × D)} (h : KvOk K F kvs es) : kvs.length = es.length := Paired.length h
theorem KvOk.val {k : Key} : ∀ {kvs : List (Key × V)} {es : List (Key × D)}, KvOk K F kvs es → (valV kvs k = none ∧ valK es k = none) ∨ ∃ v d, valV kvs k = some v ∧ valK es k = some d ∧ Rep K F v d
  | _, _, .nil => .inl ⟨rfl, rfl⟩
  | _, _, .cons (a := p) (b := q) h t => by
    rw [valK_cons]
    by_cases e : q.1 = k
    · rw [if_pos e, valV_pos (h.1.trans e)]
      exact .inr ⟨_, _, rfl, rfl, h.2⟩
    · rw [if_neg e, valV_neg (by rw [h.1]; exact e)]
      exact KvOk.val t
/-- pairs of a key and a thing, as a list of data -/
def entriesOf : List D → Option (List (Key × D))
  | [] => some []
  | .tuple [k, d] :: r => (keyOf k).bind fun k => (entriesOf r).map ((k, d) :: ·)
  | _ => none
/-- what stands owned as a dict -/
def isDk : T → Bool
  | .dk _ => true
  | _ => false
end
section
variable {X : Cx} {K : PySem.W.Frag}
/-- d.update(list of pairs) -/
def gDUpd : T → List D → Option (D × T)
  | .dk es, [.list ds] => (entriesOf ds).bind fun fs => if es.length + fs.length ≤ 16000000 then some (.none, .dk (mergeE es fs)) else none
  | _, _ => none
def gDPop : T → List D → Option (D × T)
  | .dk es, [k] => (keyOf k).bind fun k => (valK es k).map fun d => (d, .dk (dropE es k))
  | _, _ => none
def mMutD (i : Nat) (g : T → List D → Option (D × T)) (l : ML) : MV := fun ro τ => (tget τ i).bind fun t0 => if isDk t0 = true then (l ro τ).bind fun p => (stL p.1).bind fun ds => (tget p.2 i).bind fun t => (g t ds).map fun q => (rd q.1, tset p.2 i q.2) else none
/-- d[k] = e -/
def putD : T → Key → D → Option T
  | .dk es, k, d => if es.length < 16000000 then some (.dk (putE es k d)) else none
  | _, _, _ => none
def mSetD (x : Nat) (me mi : MV) : MS := fun s => (tget s.ow x).bind fun _ => (me ⟨s.fz, []⟩ s.ow).bind fun p => p.1.st.bind fun d => (mi ⟨s.fz, []⟩ p.2).bind fun q => q.1.er.bind fun kd => (keyOf kd).bind fun i => (tget q.2 x).bind fun t => (putD t i d).map fun t' => .nx ⟨s.fz, tset q.2 x t'⟩
end
end Tl

namespace Tl
open PySem PySem.Spec PyProof.Rows L2
section
variable {X : Cx} {x : Str} {pos : Pos}
end
@[simp] theorem r_mDNewK (ro : Ro) (τ : Tau) : mDNewK ro τ = some (.val (.dk []), τ) := rfl
@[simp] theorem fz_dk (es : List (Key × D)) : T.fz (.dk es) = some (.dict (dkD es)) := rfl
@[simp] theorem hole_dk (es : List (Key × D)) : isHole (.dk es) = false := rfl
@[simp] theorem isDk_dk (es : List (Key × D)) : isDk (.dk es) = true := rfl
@[simp] def mutDK0 (i : Nat) (g : T → List D → Option (D × T)) (l : ML) (ro : Ro) (τ : Tau) : Bool → Option (R × Tau)
  | true => bd (l ro τ) (mutK1 i g)
  | false => none
@[simp] def mutDK (i : Nat) (g : T → List D → Option (D × T)) (l : ML) (ro : Ro) (τ : Tau) (t : T) : Option (R × Tau) := mutDK0 i g l ro τ (isDk t)
@[simp] theorem r_mMutD (i : Nat) (g : T → List D → Option (D × T)) (l : ML) (ro : Ro) (τ : Tau) : mMutD i g l ro τ = bd (tget τ i) (mutDK i g l ro τ) := bd_of fun t => by
  unfold mutDK
  cases z : isDk t with
  | false => rw [if_neg Bool.false_ne_true]; rfl
  | true =>
    rw [if_pos rfl]
    exact bd_of fun a => bd_of fun b => bd_of fun c => bd_om fun d => rfl
@[simp] def dupK (es : List (Key × D)) (fs : List (Key × D)) : Option (D × T) := if es.length + fs.length ≤ 16000000 then some (.none, .dk (mergeE es fs)) else none
@[simp] theorem r_gDUpd (es : List (Key × D)) (ds : List D) : gDUpd (.dk es) [.list ds] = bd (entriesOf ds) (dupK es) := bd_of fun a => rfl
@[simp] def dpopK2 (es : List (Key × D)) (k : Key) (d : D) : Option (D × T) := some (d, .dk (dropE es k))
@[simp] def dpopK (es : List (Key × D)) (k : Key) : Option (D × T) := bd (valK es k) (dpopK2 es k)
@[simp] theorem r_gDPop (es : List (Key × D)) (d : D) : gDPop (.dk es) [d] = bd (keyOf d) (dpopK es) := bd_of fun a => bd_om fun b => rfl
@[simp] theorem r_putD (es : List (Key × D)) (k : Key) (d : D) : putD (.dk es) k d = if es.length < 16000000 then some (.dk (putE es k d)) else none := rfl
@[simp] def sdK7 (x : Nat) (fz : Fz) (τ : Tau) (u : T) : Option Out := some (.nx ⟨fz, tset τ x u⟩)
@[simp] def sdK6 (x : Nat) (fz : Fz) (τ : Tau) (d : D) (k : Key) (t : T) : Option Out := bd (putD t k d) (sdK7 x fz τ)
@[simp] def sdK5 (x : Nat) (fz : Fz) (τ : Tau) (d : D) (k : Key) : Option Out := bd (tget τ x) (sdK6 x fz τ d k)
@[simp] def sdK4 (x : Nat) (fz : Fz) (τ : Tau) (d : D) (kd : D) : Option Out := bd (keyOf kd) (sdK5 x fz τ d)
@[simp] def sdK3 (x : Nat) (fz : Fz) (d : D) : R × Tau → Option Out
  | (r, τ) => bd r.er (sdK4 x fz τ d)
@[simp] def sdK2 (x : Nat) (mi : MV) (fz : Fz) (τ : Tau) (d : D) : Option Out := bd (mi ⟨fz, []⟩ τ) (sdK3 x fz d)
@[simp] def sdK1 (x : Nat) (mi : MV) (fz : Fz) : R × Tau → Option Out
  | (r, τ) => bd r.st (sdK2 x mi fz τ)
@[simp] def sdK0 (x : Nat) (me mi : MV) (fz : Fz) (τ : Tau) (_ : T) : Option Out := bd (me ⟨fz, []⟩ τ) (sdK1 x mi fz)
@[simp] theorem r_mSetD (x : Nat) (me mi : MV) (fz : Fz) (τ : Tau) : mSetD x me mi ⟨fz, τ⟩ = bd (tget τ x) (sdK0 x me mi fz τ) :=
  bd_of fun a => bd_of fun b => bd_of fun c => bd_of fun d => bd_of fun e => bd_of fun f => bd_of fun g => bd_om fun h => rfl
@[simp] def dinK (es : List (D × D)) (k : Key) : Option D := some (.bool (valE es k).isSome)
@[simp] theorem p_din (k : D) (es : List (D × D)) : pDIn [k, .dict es] = if okDK es = true then bd (keyOf k) (dinK es) else none := by
  show (if okDK es = true then (keyOf k).map _ else none) = _
  split
  · exact bd_om fun a => rfl
  · rfl
@[simp] def dninK (es : List (D × D)) (k : Key) : Option D := some (.bool !(valE es k).isSome)
@[simp] theorem p_dnin (k : D) (es : List (D × D)) : pDNotIn [k, .dict es] = if okDK es = true then bd (keyOf k) (dninK es) else none := by
  show (if okDK es = true then (keyOf k).map _ else none) = _
  split
  · exact bd_om fun a => rfl
  · rfl
@[simp] theorem p_dget (k : D) (es : List (D × D)) : pDGet [.dict es, k] = if okDK es = true then bd (keyOf k) (valE es) else none := by
  show (if okDK es = true then (keyOf k).bind _ else none) = _
  split
  · exact bd_of fun a => rfl
  · rfl
@[simp] def dgpK2 (d : D) : Bool → Option D
  | true => some d
  | false => none
@[simp] def dgpK (d : D) : Option D := dgpK2 d (isPl d)
@[simp] theorem r_pDGetP (ds : List D) : pDGetP ds = bd (pDGet ds) dgpK := bd_of fun d => by
  unfold dgpK
  cases h : isPl d <;> rfl
@[simp] def gkK (p : List D → Option D) (ds : List D) : Option R := bd (p ds) gpK2
@[simp] theorem r_gk (p : List D → Option D) (rs : List R) : gk p rs = bd (stL rs) (gkK p) := bd_of fun a => bd_om fun b => rfl
@[simp] theorem isPl_int (i : Int) : isPl (.int i) = true := rfl
@[simp] theorem isPl_bool (i : Bool) : isPl (.bool i) = true := rfl
@[simp] theorem isPl_non : isPl .none = true := rfl
@[simp] theorem okDK_dk' (es : List (Key × D)) : okDK (dkD es) = true := okDK_dk es
@[simp] theorem valE_dk' (es : List (Key × D)) (k : Key) : valE (dkD es) k = valK es k := valE_dk es k
@[simp] def sortK2 (ds : List D) : Option (List Int) → Option R
  | some ns => some (.val (.fl ((sortBy ltI ns).map PyData.int)))
  | none => (pqsD ds).map fun ps => .val (.fl ((sortBy ltQ ps).map pqD))
def sortK (ds : List D) : Option R := sortK2 ds (intsD ds)
@[simp] theorem r_gSorted (x : R) : gSorted [x] = bd x.lst? sortK := bd_of fun ds => by
  unfold sortK
  cases intsD ds <;> rfl
@[simp] theorem lst_fl (ds : List D) : R.lst? (.val (.fl ds)) = some ds := rfl
@[simp] theorem lst_leaf (ds : List D) : R.lst? (.val (.leaf (.list ds))) = some ds := rfl
@[simp] theorem lst_vfl (ds : List D) : R.lst? (.vw (.fl ds)) = some ds := rfl
end Tl

namespace Tl
open PySem PySem.Spec PyProof.Rows L2
section
variable {X : Cx} {K : PySem.W.Frag}
def apT : T → T → Option T
  | .ls ts, u => if ts.length < 16000000 then some (.ls (ts ++ [u])) else none
  | _, _ => none
def mApT (i : Nat) (m : MV) : MV := fun ro τ => (tget τ i).bind fun t0 => if isLs t0 = true then (m ro τ).bind fun p => p.1.t.bind fun u => (tget p.2 i).bind fun t => (apT t u).map fun t' => (rd .none, tset p.2 i t') else none
theorem er_apT {o e : Expr} {apos cpos : Pos} {m : MV} {i : Nat} (ho : PE X o (tVar i)) (he : ER X e m)
    (hbase : attributeBase o "append" X.env (eval o X.env) = eval o X.env := by rfl)
    (hfew : ((backTo cpos (starEach [e] X.env)).all (fun x => !x.1) && (backToKw cpos (keywordEach [] X.env)).all (fun x => x.1.isSome)
      && decide (([e] : List Expr).length + ([] : List Keyword).length + (if ([] : List Keyword).isEmpty then 0 else 1) < 30)) = true := by rfl)
    (hline : (apos.endLine == cpos.line) = true := by rfl) (hs : starEach [e] X.env = (false, eval e X.env) :: starEach [] X.env := by rfl) (hplain : (backTo cpos (starEach [] X.env)).any (·.1) = false := by rfl) :
    ER X (.Call (.Attribute o "append" apos) [e] [] cpos) (mApT i m) := ⟨fun ro τ r' τ' em F B H σ A Q a k => by
  obtain ⟨t0, e0, em⟩ := Option.bind_eq_some_iff.mp em
  by_cases q0 : isLs t0 = true
  · rw [if_pos q0] at em
    obtain ⟨⟨r, τ1⟩, e1, em⟩ := Option.bind_eq_some_iff.mp em
    obtain ⟨u, e2, em⟩ := Option.bind_eq_some_iff.mp em
    obtain ⟨t, e3, em⟩ := Option.bind_eq_some_iff.mp em
    obtain ⟨t', e4, em⟩ := Option.map_eq_some_iff.mp em
    cases em
    obtain ⟨v, _, _, hv, ow0, _⟩ := a.tau.take a.cn.nd e0
    have ha : AR X [e] (mCons m mNil) := ar1 he hs
    refine wE (pe_bm PySem.F.plainAttrs_list PySem.F.slot_list_append PySem.F.type_list_append mt_append ho paW hbase hfew hline hs hplain) ⟨v, hv, ls_at q0 ow0, ha.run ro τ [r] τ1 (by show (m ro τ).bind _ = _; rw [e1]; rfl) F B H σ A _ a fun F1 H1 vs A1 A2 g1 c1 o1 t1 => ?_⟩
    cases o1 with
    | @cons _ _ x _ B1 B2 o1 o2 =>
      cases o2
      rw [List.append_nil] at g1 c1
      have ou := o1.own e2
      obtain ⟨w, A3, A4, hw, ow, t2, n2, s2⟩ := t1.take c1.right.nd e3
      rw [hv] at hw
      cases hw
      cases t with
      | ls ts =>
        have e4' : (if ts.length < 16000000 then some (T.ls (ts ++ [u])) else none) = some t' := e4
        by_cases qs : ts.length < 16000000
        · rw [if_pos qs] at e4'
          cases e4'
          cases ow with
          | @ls p ys _ A0 h1 h2 h3 =>
            have nd : (B1 ++ ((p :: A0) ++ A4)).Nodup := List.nodup_append.mpr ⟨c1.left.nd, n2, fun x m y m2 z => c1.apart x m (z ▸ s2 y m2)⟩
            have c2 : Cn F1 B H1 (B1 ++ ((p :: A0) ++ A4)) := c1.sub nd fun x m => (List.mem_append.mp m).elim (fun z => List.mem_append_left _ z) fun z => List.mem_append_right _ (s2 x z)
            have mp : p ∈ B1 ++ ((p :: A0) ++ A4) := List.mem_append_right _ (List.mem_append_left _ List.mem_cons_self)
            obtain ⟨g3, c3⟩ := c2.write (o := .lst (ys ++ [x])) mp
            have hl := OwnL.length h3
            have hz : (ys ++ [x]).length ≤ sizeLine := by
              rw [List.length_append, List.length_singleton]
              exact lt16 (by omega)
            have nB : ∀ b ∈ B1, b ≠ p := fun b m z => (List.nodup_append.mp nd).2.2 b m p (List.mem_append_left _ List.mem_cons_self) z
            have nA : ∀ b ∈ A0, b ≠ p := fun b m z => (List.nodup_cons.mp (List.nodup_append.mp n2).1).1 (z ▸ m)
            have n4 : ∀ b ∈ A4, b ≠ p := fun b m z => (List.nodup_append.mp n2).2.2 p List.mem_cons_self b m z.symm
            have st : ∀ (L : List Addr), (∀ b ∈ L, b ≠ p) → ∀ b ∈ L, ∀ o, H1 b = some o → upd H1 p (.lst (ys ++ [x])) b = some o := fun L n b m o q => by
              rw [upd_ne (n b m)]
              exact q
            have o3 : OwnL X.K F1 (upd H1 p (.lst (ys ++ [x]))) (ys ++ [x]) (ts ++ [u]) (A0 ++ (B1 ++ [])) := (h3.stay (Same.refl F1) (st A0 nA)).append (.cons (ou.stay (Same.refl F1) (st B1 nB)) .nil)
            have o4 : Own X.K F1 (upd H1 p (.lst (ys ++ [x]))) (.ref p) (.ls (ts ++ [u])) (p :: (A0 ++ (B1 ++ []))) := .ls upd_same hz o3
            have t4 := t2.stay (Same.refl F1) (st A4 n4)
            have pm : (B1 ++ ((p :: A0) ++ A4)).Perm ((p :: (A0 ++ (B1 ++ []))) ++ A4) := by
              rw [List.append_nil, ← List.append_assoc]
              refine List.Perm.append_right A4 ?_
              exact (List.perm_append_comm (l₁ := B1) (l₂ := p :: A0))
            obtain ⟨A5, t5, n5, s5⟩ := t4.put hv o4 (pm.nodup nd)
            rw [← tset_eq] at t5
            have c4 := c3.perm pm
            refine ⟨p, ys, x, rfl, rfl, h1, lt16 (by omega), ?_⟩
            have c5 : Cn F1 B (upd H1 p (.lst (ys ++ [x]))) ([] ++ A5) := c4.sub n5 s5
            refine k F1 _ .non [] A5 ?_ c5 (.leaf .non) t5
            have ga : Go F H A F1 (upd H1 p (.lst (ys ++ [x]))) (B1 ++ ((p :: A0) ++ A4)) := (g1.trans (Go.less fun x m => (List.mem_append.mp m).elim (fun z => List.mem_append_left _ z) fun z => List.mem_append_right _ (s2 x z))).trans g3
            exact ga.trans (Go.less fun x m => pm.mem_iff.mpr (s5 x m))
        · rw [if_neg qs] at e4'
          cases e4'
      | _ => cases e4
  · rw [if_neg q0] at em
    cases em⟩
theorem OwnL.erase {F H : Hp} : ∀ {vs : List V} {ts : List T} {A : List Addr} {j : Nat} {t : T}, OwnL K F H vs ts A → ts[j]? = some t → ∃ w B C, vs[j]? = some w ∧ Own K F H w t B ∧ OwnL K F H (vs.eraseIdx j) (ts.eraseIdx j) C ∧ A.Perm (B ++ C)
  | _, [], _, j, t, o, e => by cases e
  | _, t0 :: ts, _, 0, t, o, e => by
    cases o with
    | cons o1 o2 =>
      cases e
      exact ⟨_, _, _, rfl, o1, o2, List.Perm.refl _⟩
  | _, t0 :: ts, _, j + 1, t, o, e => by
    cases o with
    | cons o1 o2 =>
      rename_i v vs A1 A2
      obtain ⟨w, B, C, h1, h2, h3, h4⟩ := OwnL.erase o2 (show ts[j]? = some t from e)
      refine ⟨w, B, A1 ++ C, h1, h2, .cons o1 h3, ?_⟩
      refine (List.Perm.append_left A1 h4).trans ?_
      rw [← List.append_assoc, ← List.append_assoc]
      exact List.Perm.append_right C List.perm_append_comm
def popT : T → Int → Option (T × T)
  | .ls ts, i => if -16000000 ≤ i ∧ i ≤ 16000000 then (seqIndex? i ts.length).bind fun k => (ts[k]?).map fun u => (u, .ls (ts.eraseIdx k)) else none
  | _, _ => none
def mPopT (i : Nat) (m : MV) : MV := fun ro τ => (tget τ i).bind fun t0 => if isLs t0 = true then (m ro τ).bind fun p => (asI p.1).bind fun j => (tget p.2 i).bind fun t => (popT t j).map fun q => (.val q.1, tset p.2 i q.2) else none
end
@[simp] def apK4 (i : Nat) (τ : Tau) (t : T) : Option (R × Tau) := some (rd .none, tset τ i t)
@[simp] def apK3 (i : Nat) (τ : Tau) (u t : T) : Option (R × Tau) := bd (apT t u) (apK4 i τ)
@[simp] def apK2 (i : Nat) (τ : Tau) (u : T) : Option (R × Tau) := bd (tget τ i) (apK3 i τ u)
@[simp] def apK1 (i : Nat) : R × Tau → Option (R × Tau)
  | (r, τ) => bd r.t (apK2 i τ)
@[simp] def apK0 (i : Nat) (m : MV) (ro : Ro) (τ : Tau) : Bool → Option (R × Tau)
  | true => bd (m ro τ) (apK1 i)
  | false => none
@[simp] def apK (i : Nat) (m : MV) (ro : Ro) (τ : Tau) (t : T) : Option (R × Tau) := apK0 i m ro τ (isLs t)
@[simp] theorem r_mApT (i : Nat) (m : MV) (ro : Ro) (τ : Tau) : mApT i m ro τ = bd (tget τ i) (apK i m ro τ) := bd_of fun t => by
  unfold apK
  cases z : isLs t with
  | false => rw [if_neg Bool.false_ne_true]; rfl
  | true =>
    rw [if_pos rfl]
    exact bd_of fun a => bd_of fun b => bd_of fun c => bd_om fun d => rfl
@[simp] theorem r_apT (ts : List T) (u : T) : apT (.ls ts) u = if ts.length < 16000000 then some (.ls (ts ++ [u])) else none := rfl
@[simp] def ppK4 (i : Nat) (τ : Tau) : T × T → Option (R × Tau)
  | (u, t) => some (.val u, tset τ i t)
@[simp] def ppK3 (i : Nat) (τ : Tau) (j : Int) (t : T) : Option (R × Tau) := bd (popT t j) (ppK4 i τ)
@[simp] def ppK2 (i : Nat) (τ : Tau) (j : Int) : Option (R × Tau) := bd (tget τ i) (ppK3 i τ j)
@[simp] def ppK1 (i : Nat) : R × Tau → Option (R × Tau)
  | (r, τ) => bd (asI r) (ppK2 i τ)
@[simp] def ppK0 (i : Nat) (m : MV) (ro : Ro) (τ : Tau) : Bool → Option (R × Tau)
  | true => bd (m ro τ) (ppK1 i)
  | false => none
@[simp] def ppK (i : Nat) (m : MV) (ro : Ro) (τ : Tau) (t : T) : Option (R × Tau) := ppK0 i m ro τ (isLs t)
@[simp] theorem r_mPopT (i : Nat) (m : MV) (ro : Ro) (τ : Tau) : mPopT i m ro τ = bd (tget τ i) (ppK i m ro τ) := bd_of fun t => by
  unfold ppK
  cases z : isLs t with
  | false => rw [if_neg Bool.false_ne_true]; rfl
  | true =>
    rw [if_pos rfl]
    exact bd_of fun a => bd_of fun b => bd_of fun c => bd_om fun d => rfl
@[simp] theorem gtT_l (l : MGs) (ds : List D) (fz : Fz) : gtT l (.list ds) fz = l ds fz := rfl
end Tl

namespace Tl
open PySem PySem.Spec PyProof.Rows L2
def pIsB : List D → Option D
  | [.bool a, .bool b] => some (.bool (decide (a = b)))
  | _ => none
def pNotIsB : List D → Option D
  | [.bool a, .bool b] => some (.bool !(decide (a = b)))
  | _ => none
@[simp] theorem p_isB (a b : Bool) : pIsB [.bool a, .bool b] = some (.bool (decide (a = b))) := rfl
@[simp] theorem p_notIsB (a b : Bool) : pNotIsB [.bool a, .bool b] = some (.bool !(decide (a = b))) := rfl
section
variable {K : PySem.W.Frag} {X : Cx}
theorem vr_isB : VR K (two rIsB) (gp pIsB) := VR.plain fun ds d e H vs Q r k => by
  match ds, e with
  | [.bool a, .bool b], e =>
    cases e
    obtain ⟨v, w, rfl, r1, r2⟩ := r.two
    cases r1.toBl
    cases r2.toBl
    exact ⟨_, _, rfl, a, b, rfl, rfl, k _ fun F => .bl _⟩
/-- list(range(a, b)) -/
def mLRng2 (m n : MV) : MV := fun ro τ => (m ro τ).bind fun p => (asI p.1).bind fun a => (n ro p.2).bind fun q => (asI q.1).bind fun b => if 0 ≤ a ∧ a ≤ 4000000 ∧ 0 ≤ b ∧ b ≤ 4000000 then some (.val (.fl (rangeD a 1 (b - a).toNat)), q.2) else none
end
@[simp] def rg2K3 (i : Int) (τ : Tau) (j : Int) : Option (R × Tau) := if 0 ≤ i ∧ i ≤ 4000000 ∧ 0 ≤ j ∧ j ≤ 4000000 then some (.val (.fl (rangeD i 1 (j - i).toNat)), τ) else none
@[simp] def rg2K2 (i : Int) : R × Tau → Option (R × Tau)
  | (r, τ) => bd (asI r) (rg2K3 i τ)
@[simp] def rg2K1 (n : MV) (ro : Ro) (τ : Tau) (i : Int) : Option (R × Tau) := bd (n ro τ) (rg2K2 i)
@[simp] def rg2K (n : MV) (ro : Ro) : R × Tau → Option (R × Tau)
  | (r, τ) => bd (asI r) (rg2K1 n ro τ)
@[simp] theorem r_mLRng2 (m n : MV) (ro : Ro) (τ : Tau) : mLRng2 m n ro τ = bd (m ro τ) (rg2K n ro) := bd_of fun a => bd_of fun b => bd_of fun c => bd_of fun d => rfl
end Tl

namespace Tl
open PySem PySem.Spec PyProof.Rows L2
section
variable {X : Cx} {K : PySem.W.Frag}
/-- a tuple times 0, times 1 -/
def pMulT : List D → Option D
  | [.tuple (a :: ds), .int j] => if j = 1 then some (.tuple (a :: ds)) else if j = 0 then some (.tuple []) else none
  | _ => none
end
@[simp] theorem p_mulT (a : D) (ds : List D) (j : Int) : pMulT [.tuple (a :: ds), .int j] = if j = 1 then some (.tuple (a :: ds)) else if j = 0 then some (.tuple []) else none := rfl
end Tl

namespace Tl
open PySem PySem.Spec PyProof.Rows L2
end Tl

namespace Tl
open PySem PySem.Spec PyProof.Rows L2
end Tl

namespace Tl
open PySem PySem.Spec PyProof.Rows L2
section
variable {K : PySem.W.Frag} {X : L2.Cx}
end
end Tl

namespace Tl
open PySem PySem.Spec PyProof.Rows L2
section
variable {X : L2.Cx} {Pr : List Nat}
end
end Tl

namespace Tl
open PySem PySem.Spec PyProof.Rows L2
def plainT : T → Bool
  | .fl ds => ds.all isPl
  | .dk es => es.all fun p => isPl p.2
  | _ => false
def mLookT (m : MF) (l : MCA) : MV := fun ro τ => (l ro τ).bind fun p => (leafs p.1).bind fun ts => (m ts).bind fun r => if plainT r.1 = true then some (.val r.1, p.2) else none
section
variable {X : L2.Cx} {e : Expr} {es : List Expr}
variable {x : Str} {p pos : Pos} {k n : Nat} {m : MF} {l : MCA}
end
end Tl

namespace Tl
open PySem PySem.Spec PyProof.Rows L2
def cSeeL (m : MF) (l : MCA) : MCA := fun ro τ => (l ro τ).bind fun p => (leafs p.1).bind fun ts => (m ts).bind fun r => r.1.fz.map fun d => ([.d d], p.2)
section
variable {X : L2.Cx} {e : Expr} {es : List Expr}
variable {x : Str} {p pos : Pos} {k n : Nat} {m : MF} {l : MCA}
end
@[simp] def seeLK4 (τ : Tau) (d : D) : Option (List CArg × Tau) := some ([.d d], τ)
@[simp] def seeLK3 (τ : Tau) : T × List T → Option (List CArg × Tau)
  | (r, _) => bd r.fz (seeLK4 τ)
@[simp] def seeLK2 (f : MF) (τ : Tau) (ts : List T) : Option (List CArg × Tau) := bd (f ts) (seeLK3 τ)
@[simp] def seeLK (f : MF) : List CArg × Tau → Option (List CArg × Tau)
  | (cs, τ) => bd (leafs cs) (seeLK2 f τ)
@[simp] theorem r_cSeeL (f : MF) (l : MCA) (ro : Ro) (τ : Tau) : cSeeL f l ro τ = bd (l ro τ) (seeLK f) := bd_of fun a => bd_of fun b => bd_of fun c => bd_om fun d => rfl
end Tl

namespace Tl
open PySem PySem.Spec PyProof.Rows L2
section
variable {X : L2.Cx}
def gExtendA : T → List D → Option (D × T)
  | .fl xs, [.list es] => if xs.length + es.length ≤ 16000000 then some (.none, .fl (xs ++ es)) else none
  | .fl xs, [.tuple es] => if xs.length + es.length ≤ 16000000 then some (.none, .fl (xs ++ es)) else none
  | _, _ => none
@[simp] theorem g_extendAl (xs es : List D) : gExtendA (.fl xs) [.list es] = if xs.length + es.length ≤ 16000000 then some (.none, .fl (xs ++ es)) else none := rfl
@[simp] theorem g_extendAt (xs es : List D) : gExtendA (.fl xs) [.tuple es] = if xs.length + es.length ≤ 16000000 then some (.none, .fl (xs ++ es)) else none := rfl
end
end Tl

namespace Tl
open PySem PySem.Spec PyProof.Rows L2
section
variable {X : L2.Cx}
end
end Tl

namespace Tl
open PySem PySem.Spec PyProof.Rows L2
section
variable {prog : Program} {w : World} {A : Around} {E : Value → Shared → Prop} {s : Shared}
end
def pN2 (f : Int → Int → D) : List D → Option D
  | [.int a, .int b] => some (f a b)
  | [.bool a, .int b] => some (f (b2i a) b)
  | _ => none
def pN3 (f : Int → Int → D) : List D → Option D
  | [.int a, .int b] => some (f a b)
  | [.bool a, .int b] => some (f (b2i a) b)
  | [.int a, .bool b] => some (f a (b2i b))
  | _ => none
section
variable {X : L2.Cx}
end
@[simp] theorem p_n2 (f : Int → Int → D) (a b : Int) : pN2 f [.int a, .int b] = some (f a b) := rfl
@[simp] theorem p_n2b (f : Int → Int → D) (a : Bool) (b : Int) : pN2 f [.bool a, .int b] = some (f (b2i a) b) := rfl
@[simp] theorem p_n3 (f : Int → Int → D) (a b : Int) : pN3 f [.int a, .int b] = some (f a b) := rfl
@[simp] theorem p_n3b (f : Int → Int → D) (a : Bool) (b : Int) : pN3 f [.bool a, .int b] = some (f (b2i a) b) := rfl
@[simp] theorem p_n3c (f : Int → Int → D) (a : Int) (b : Bool) : pN3 f [.int a, .bool b] = some (f a (b2i b)) := rfl
end Tl

namespace PySem
open Sem (wp)
section
variable {prog : Program} {w : World} {A : Around} {E : Value → Shared → Prop} {s : Shared}
end
end PySem
namespace L2
open PySem PySem.Spec PyProof.Rows
/-- the tuple at a, each item in a new pair -/
def Itet (K : PySem.W.Frag) (a : Addr) : It :=
  ⟨fun i H => ∃ (xs : List V) (x : V), SqT K H a xs ∧ xs[i]? = some x, fun i H v H' => ∃ T x, v = .ref T ∧ H T = none ∧ H' = upd H T (.tup [.int (i : Nat), x]) ∧ ∀ xs, SqT K H a xs → xs[i]? = some x, fun i H => ∃ xs : List V, SqT K H a xs ∧ xs.length ≤ i⟩
def iEnumE (K : PySem.W.Frag) (ta : TA) : TI := fun σ H R => ta σ H fun vs H1 => ∃ a xs, vs = [.ref a] ∧ ((SqL K H1 a xs ∧ R (Ite K a) H1) ∨ (SqT K H1 a xs ∧ R (Itet K a) H1))
end L2
namespace Tl
open PySem PySem.Spec PyProof.Rows L2 RZ
section
variable {K : PySem.W.Frag} {F B H : Hp}
end
section
variable {X : L2.Cx} {e : Expr} {p pos tpos : Pos} {elts : List Expr} {kk : Nat}
def iEnumE (m : MV) : MI := fun ro τ => (m ro τ).bind fun p => p.1.its.bind fun q => some (enumFrom 0 q.2, p.2)
@[simp] def enE : Bool × List D → Tau → Option (List D × Tau) := fun q τ => some (enumFrom 0 q.2, τ)
end
@[simp] def enEK2 (τ : Tau) (q : Bool × List D) : Option (List D × Tau) := some (enumFrom 0 q.2, τ)
@[simp] def enEK : R × Tau → Option (List D × Tau)
  | (r, τ) => bd r.its (enEK2 τ)
@[simp] theorem r_iEnumE (m : MV) (ro : Ro) (τ : Tau) : iEnumE m ro τ = bd (m ro τ) enEK := bd_of fun a => bd_of fun b => rfl
end Tl

namespace PySem
open Sem (wp)
section
variable {prog : Program} {w : World} {A : Around} {E : Value → Shared → Prop} {s : Shared}
end
section
variable {prog : Program} {w : World} {A : Around} {E : Value → Shared → Prop} {s : Shared}
end
end PySem
namespace L2
open PySem PySem.Spec PyProof.Rows
end L2
namespace Tl
open PySem PySem.Spec PyProof.Rows L2 RZ
section
variable {K : PySem.W.Frag} {F B H : Hp}
end
section
variable {X : L2.Cx} {e : Expr} {p pos p2 pos2 tpos : Pos} {elts : List Expr} {kk : Nat}
def iEnR (m : MV) : MI := fun ro τ => (m ro τ).bind fun p => p.1.its.bind fun q => if q.1 = true then some (enumFrom 0 q.2.reverse, p.2) else none
end
@[simp] def enRK2 (τ : Tau) : Bool × List D → Option (List D × Tau)
  | (true, ds) => some (enumFrom 0 ds.reverse, τ)
  | (false, _) => none
@[simp] def enRK : R × Tau → Option (List D × Tau)
  | (r, τ) => bd r.its (enRK2 τ)
@[simp] theorem r_iEnR (m : MV) (ro : Ro) (τ : Tau) : iEnR m ro τ = bd (m ro τ) enRK := bd_of fun a => bd_of fun b => by
  obtain ⟨q, ds⟩ := b
  cases q <;> rfl
end Tl

namespace L2
open PySem PySem.Spec PyProof.Rows
section
variable {X : Cx}
end
end L2
namespace Tl
open PySem PySem.Spec PyProof.Rows L2
section
variable {K : PySem.W.Frag}
/-- alike data, that can be laid and told apart -/
def okMn (ds : List D) : Bool := (ds.all fun x => ds.all fun y => PySem.W.alike x y) && (ds.all fun x => !isNone x) && PyData.plainAll ds && PyData.canLayAll0 ds && decide (PyData.depthAll ds ≤ 60)
def gMnD (mn : D → List D → D) : List R → Option R
  | [x] => x.its.bind fun p => if p.1 = true then (match p.2 with
    | d :: ds => if okMn (d :: ds) = true then some (rd (mn d ds)) else none
    | [] => none) else none
  | _ => none
end
@[simp] def mnK (mn : D → List D → D) : Bool × List D → Option R
  | (true, d :: ds) => if okMn (d :: ds) = true then some (rd (mn d ds)) else none
  | _ => none
@[simp] theorem r_gMnD (mn : D → List D → D) (r : R) : gMnD mn [r] = bd r.its (mnK mn) := bd_of fun a => by
  obtain ⟨b, ds⟩ := a
  cases b <;> cases ds <;> rfl
end Tl

namespace L2
open PySem PySem.Spec PyProof.Rows
section
variable {X : Cx}
end
end L2
namespace Tl
open PySem PySem.Spec PyProof.Rows L2
section
variable {K : PySem.W.Frag}
end
section
variable {X : Cx} {a b : Expr} {ma mb : MV} {x : Str} {p pos kpos : Pos}
end
@[simp] def mxK2 (es : List D) : D → Option R
  | .int z => (match es with
      | d :: ds => if okMn (d :: ds) = true then some (rd (PySem.W.maxD d ds)) else none
      | [] => some (rd (.int z)))
  | _ => none
@[simp] def mxK (r : R) : Bool × List D → Option R
  | (true, es) => bd r.er (mxK2 es)
  | _ => none
end Tl

namespace Tl
open PySem PySem.Spec PyProof.Rows L2
def strsD : List D → Option (List Str)
  | [] => some []
  | .str s :: ds => (strsD ds).map (s :: ·)
  | _ => none
@[simp] theorem strsD_strs : ∀ ys : List Str, strsD (ys.map PyData.str) = some ys
  | [] => rfl
  | y :: ys => by
    show (strsD (ys.map PyData.str)).map (y :: ·) = _
    rw [strsD_strs ys]
    rfl
section
variable {K : PySem.W.Frag} {F : Hp}
def okJoin (a : Str) (ys : List Str) : Bool := decide ((ys.map (·.length)).sum + ys.length * a.length ≤ 16777216)
def gJoin : List R → Option R
  | [x, y] => match x.er with
    | some (.str a) => y.its.bind fun p => (strsD p.2).bind fun ys => if okJoin a ys = true then some (rd (.str (Txt.join a ys))) else none
    | _ => none
  | _ => none
def okSplit (a b : Str) : Bool := !(b.length == 0) && decide (a.length ≤ 10000000) && decide ((Txt.split a b).length ≤ 16000000)
def gSplit : List R → Option R
  | [x, y] => x.er.bind fun d => y.er.bind fun e => match d, e with
    | .str a, .str b => if okSplit a b = true then some (.val (.fl ((Txt.split a b).map PyData.str))) else none
    | _, _ => none
  | _ => none
def pIntS : List D → Option D
  | [.str a] => if a.length ≤ 640 then (PySem.intText? a).map PyData.int else none
  | _ => none
def signsD (z : Str) : List D := z.cps.toList.map fun c => .str ⟨#[c]⟩
end
section
variable {X : Cx} {a b : Expr} {tg e o : Expr} {ma mb : MV} {apos pos : Pos} {ka : Str}
def iTxt (m : MV) : MI := fun ro τ => (m ro τ).bind fun p => p.1.er.bind fun d => match d with
  | .str z => if z.length ≤ 16000000 then some (signsD z, p.2) else none
  | _ => none
def mTxt2 (m n : MV) : ML := fun ro τ => (m ro τ).bind fun p => p.1.er.bind fun d => match d with
  | .str _ => (n ro p.2).map fun q => ([p.1, q.1], q.2)
  | _ => none
end
@[simp] def txK2 (n : MV) (ro : Ro) (p : R × Tau) : D → Option (List R × Tau)
  | .str _ => bd (n ro p.2) fun q => some ([p.1, q.1], q.2)
  | _ => none
@[simp] def txK (n : MV) (ro : Ro) (p : R × Tau) : Option (List R × Tau) := bd p.1.er (txK2 n ro p)
@[simp] theorem r_mTxt2 (m n : MV) (ro : Ro) (τ : Tau) : mTxt2 m n ro τ = bd (m ro τ) (txK n ro) := bd_of fun a => bd_of fun d => by
  cases d <;> first | rfl | (show (n ro a.2).map _ = bd (n ro a.2) _; cases n ro a.2 <;> rfl)
@[simp] def jnK2 (a : Str) (p : Bool × List D) : Option R := bd (strsD p.2) fun ys => if okJoin a ys = true then some (rd (.str (Txt.join a ys))) else none
@[simp] def jnK (y : R) : D → Option R
  | .str a => bd y.its (jnK2 a)
  | _ => none
@[simp] theorem r_gJoin (x y : R) : gJoin [x, y] = bd x.er (jnK y) := by
  show (match x.er with
    | some (.str a) => y.its.bind fun p => (strsD p.2).bind fun ys => if okJoin a ys = true then some (rd (.str (Txt.join a ys))) else none
    | _ => none) = _
  cases x.er with
  | none => rfl
  | some d => cases d <;> first | rfl | exact bd_of fun a => bd_of fun b => rfl
@[simp] def splK2 : D → D → Option R
  | .str a, .str b => if okSplit a b = true then some (.val (.fl ((Txt.split a b).map PyData.str))) else none
  | _, _ => none
@[simp] def splK (y : R) (d : D) : Option R := bd y.er (splK2 d)
@[simp] theorem r_gSplit (x y : R) : gSplit [x, y] = bd x.er (splK y) := bd_of fun a => bd_of fun b => by
  cases a <;> first | rfl | (cases b <;> rfl)
@[simp] theorem p_intS (a : Str) : pIntS [.str a] = if a.length ≤ 640 then (PySem.intText? a).map PyData.int else none := rfl
@[simp] def itxK (τ : Tau) : D → Option (List D × Tau)
  | .str z => if z.length ≤ 16000000 then some (signsD z, τ) else none
  | _ => none
@[simp] def itxK0 (p : R × Tau) : Option (List D × Tau) := bd p.1.er (itxK p.2)
@[simp] theorem r_iTxt (m : MV) (ro : Ro) (τ : Tau) : iTxt m ro τ = bd (m ro τ) itxK0 := bd_of fun a => bd_of fun b => by
  cases b <;> rfl
end Tl

namespace L2
open PySem PySem.Spec PyProof.Rows
section
variable {X : Cx}
end
end L2
namespace Tl
open PySem PySem.Spec PyProof.Rows L2
section
variable {K : PySem.W.Frag} {F : Hp}
/-- the sorted list -/
def sortD (ds : List D) : List D := ds.mergeSort (PySem.W.dataLe false id)
def tupB : D → Bool
  | .tuple (_ :: _) => true
  | _ => false
def okSo (ds : List D) : Bool := (ds.all fun x => ds.all fun y => PySem.W.alike x y) && ds.all tupB && PyData.canLayAll0 ds && decide (PyData.depthAll ds ≤ 60)
def gSortA : List R → Option R
  | [x] => x.lst?.bind fun ds => if okSo ds = true then some (.val (.fl (sortD ds))) else none
  | _ => none
end
@[simp] def sortAK (ds : List D) : Option R := if okSo ds = true then some (.val (.fl (sortD ds))) else none
@[simp] theorem r_gSortA (x : R) : gSortA [x] = bd x.lst? sortAK := bd_of fun ds => rfl
end Tl

namespace Tl
open PySem PySem.Spec PyProof.Rows L2
section
variable {X : L2.Cx} {Pr : List Nat} {st : Stmt}
end
end Tl

namespace L2
open PySem PySem.Spec PyProof.Rows
def Itzm (K : PySem.W.Frag) (n1 n2 : Nat) (a b : Addr) : It :=
  ⟨fun i H => ∃ (xs ys : List V) (x y : V), SqT K H a xs ∧ SqL K H b ys ∧ xs.length = n1 ∧ ys.length = n2 ∧ xs[i]? = some x ∧ ys[i]? = some y,
    fun i H v H' => ∃ T x y, v = .ref T ∧ H T = none ∧ H' = upd H T (.tup [x, y]) ∧ (∀ xs, SqT K H a xs → xs[i]? = some x) ∧ ∀ ys, SqL K H b ys → ys[i]? = some y,
    fun i H => ∃ xs ys : List V, SqT K H a xs ∧ SqL K H b ys ∧ xs.length = n1 ∧ ys.length = n2 ∧ (n1 ≤ i ∨ n2 ≤ i)⟩
def iZipX (K : PySem.W.Frag) (ta : TA) : TI := fun σ H R => ta σ H fun vs H1 => ∃ a b xs ys, vs = [.ref a, .ref b] ∧ SqT K H1 a xs ∧ SqL K H1 b ys ∧ R (Itzm K xs.length ys.length a b) H1
end L2
namespace Tl
open PySem PySem.Spec PyProof.Rows L2 RZ
section
variable {K : PySem.W.Frag} {F B : Hp}
end
section
variable {X : L2.Cx} {e e2 : Expr} {p pos tpos : Pos} {elts : List Expr} {kk : Nat}
/-- zip of a tuple and a list -/
def iZipX (m n : MV) : MI := fun ro τ => (m ro τ).bind fun p => p.1.its.bind fun q => (n ro p.2).bind fun p' => p'.1.its.bind fun q' => if q.1 = false ∧ q'.1 = true then some (zipD q.2 q'.2, p'.2) else none
end
@[simp] def zpX4 (τ : Tau) (b : Bool) (ds : List D) : Bool × List D → Option (List D × Tau)
  | (c, es) => if b = false ∧ c = true then some (zipD ds es, τ) else none
@[simp] def zpX3 (b : Bool) (ds : List D) : R × Tau → Option (List D × Tau)
  | (r, τ) => bd r.its (zpX4 τ b ds)
@[simp] def zpX2 (n : MV) (ro : Ro) (τ : Tau) : Bool × List D → Option (List D × Tau)
  | (b, ds) => bd (n ro τ) (zpX3 b ds)
@[simp] def zpX (n : MV) (ro : Ro) : R × Tau → Option (List D × Tau)
  | (r, τ) => bd r.its (zpX2 n ro τ)
@[simp] theorem r_iZipX (m n : MV) (ro : Ro) (τ : Tau) : iZipX m n ro τ = bd (m ro τ) (zpX n ro) := bd_of fun a => bd_of fun b => bd_of fun c => bd_of fun d => rfl
end Tl

namespace L2
open PySem PySem.Spec PyProof.Rows
section
variable {P : Program} {w : World} {A : Around} {E : Value → Shared → Prop} {s : Shared}
end
section
variable {X : Cx}
end
end L2
namespace Tl
open PySem PySem.Spec PyProof.Rows L2
/-- the numbers of a list, rising, each once -/
def insS (x : Int) : List Int → List Int
  | [] => [x]
  | y :: r => if x < y then x :: y :: r else if x = y then y :: r else y :: insS x r
def sset : List Int → List Int
  | [] => []
  | x :: r => insS x (sset r)
def gSortSet : List R → Option R
  | [x] => x.lst?.bind fun ds => (intsD ds).bind fun ns => if ns.length < 60 then some (.val (.fl ((sset ns).map PyData.int))) else none
  | _ => none
section
variable {X : L2.Cx}
end
@[simp] def ssK (ns : List Int) : Option R := if ns.length < 60 then some (.val (.fl ((sset ns).map PyData.int))) else none
@[simp] def ssK0 (ds : List D) : Option R := bd (intsD ds) ssK
@[simp] theorem r_gSortSet (x : R) : gSortSet [x] = bd x.lst? ssK0 := bd_of fun ds => bd_of fun ns => rfl
end Tl

namespace L2
open PySem PySem.Spec PyProof.Rows
theorem nodup_sub_len {α : Type} [DecidableEq α] : ∀ {l m : List α}, l.Nodup → (∀ x ∈ l, x ∈ m) → l.length ≤ m.length
  | [], _, _, _ => Nat.zero_le _
  | x :: l, m, n, s => by
    obtain ⟨n1, n2⟩ := List.nodup_cons.mp n
    have mx := s x List.mem_cons_self
    have := nodup_sub_len (l := l) (m := m.erase x) n2 fun y my => (List.mem_erase_of_ne fun (e : y = x) => n1 (by rw [← e]; exact my)).mpr (s y (List.mem_cons_of_mem _ my))
    rw [List.length_erase_of_mem mx] at this
    have := List.length_pos_of_mem mx
    rw [List.length_cons]
    omega
theorem SetR.few {w : World} {h : Heap} {a : Addr} {ns U : List Int} {c : Nat} (R : SetR w h a (fun j => decide (j ∈ ns)) c) (s : ∀ k ∈ ns, k ∈ U) : c ≤ U.length := by
  obtain ⟨o, es, ep, t, ho, hx, hd, g, nd, hm, hb, hf, hn, _⟩ := R
  have := nodup_sub_len (m := U) nd fun k mk => s k (of_decide_eq_true ((hm k).mpr mk))
  rw [List.length_map, Array.length_toList] at this
  omega
section
variable {X : Cx}
end
end L2
namespace Tl
open PySem PySem.Spec PyProof.Rows L2
def gSortSetG : List R → Option R
  | [x] => x.lst?.bind fun ds => (intsD ds).bind fun ns => if ns.length < 4000 ∧ (sset ns).length < 64 then some (.val (.fl ((sset ns).map PyData.int))) else none
  | _ => none
section
variable {X : L2.Cx}
end
@[simp] def ssGK (ns : List Int) : Option R := if ns.length < 4000 ∧ (sset ns).length < 64 then some (.val (.fl ((sset ns).map PyData.int))) else none
@[simp] def ssGK0 (ds : List D) : Option R := bd (intsD ds) ssGK
@[simp] theorem r_gSortSetG (x : R) : gSortSetG [x] = bd x.lst? ssGK0 := bd_of fun ds => bd_of fun ns => rfl
end Tl

namespace Tl
open PySem PySem.Spec PyProof.Rows L2
def gRevL : List R → Option R
  | [x] => x.lst?.map fun ds => .val (.fl ds.reverse)
  | _ => none
section
variable {X : L2.Cx}
end
@[simp] def rvlK (ds : List D) : Option R := some (.val (.fl ds.reverse))
@[simp] theorem r_gRevL (x : R) : gRevL [x] = bd x.lst? rvlK := bd_om fun ds => rfl
end Tl

namespace Tl
open PySem PySem.Spec PyProof.Rows L2
section
variable {K : PySem.W.Frag}
theorem OwnL.rev {F H : Hp} : ∀ {xs : List V} {ts : List T} {A : List Addr}, OwnL K F H xs ts A → ∃ B, OwnL K F H xs.reverse ts.reverse B ∧ A.Perm B
  | _, _, _, .nil => ⟨[], .nil, List.Perm.refl _⟩
  | _ :: _, _ :: _, _, .cons (A := A1) (B := A2) o t => by
    obtain ⟨B, ob, pb⟩ := OwnL.rev t
    rw [List.reverse_cons, List.reverse_cons]
    refine ⟨B ++ (A1 ++ []), ob.append (.cons o .nil), ?_⟩
    rw [List.append_nil]
    exact List.perm_append_comm.trans (List.Perm.append_right A1 pb)
def gRevT : T → List D → Option (D × T)
  | .fl xs, [] => some (.none, .fl xs.reverse)
  | .ls xs, [] => some (.none, .ls xs.reverse)
  | _, _ => none
theorem mu_revT : MU K rReverse gRevT := by
  intro t ds z t' e F B H v vs A Q c o r k
  match t, ds, e with
  | .ls ts, [], e =>
    cases e
    cases r
    cases o with
    | @ls a ys _ A0 h1 h2 h3 =>
      obtain ⟨g, c'⟩ := c.write (o := .lst ys.reverse) (p := a) List.mem_cons_self
      have np : ∀ b ∈ A0, b ≠ a := fun b m z => (List.nodup_cons.mp c.nd).1 (z ▸ m)
      obtain ⟨A2, o2, p2⟩ := OwnL.rev (h3.stay (H' := upd H a (.lst ys.reverse)) (Same.refl F) fun b m o q => by
        rw [upd_ne (np b m)]
        exact q)
      have pp : (a :: A0).Perm (a :: A2) := List.Perm.cons a p2
      exact ⟨a, ys, rfl, rfl, h1, k _ .non (a :: A2) (g.trans (Go.less fun x m => pp.mem_iff.mpr m)) (c'.perm pp) (.ls upd_same (by rw [List.length_reverse]; exact h2) o2) .non⟩
  | .fl xs, [], e =>
    cases e
    cases r
    cases o with
    | fl h1 h2 h3 =>
      rename_i a ys
      obtain ⟨g, c', o'⟩ := fl_write c rfl (by rw [List.length_reverse]; exact h2) h3.reverse
      exact ⟨a, ys, rfl, rfl, h1, k _ .non _ g c' o' .non⟩
end
@[simp] theorem g_revT (xs : List D) : gRevT (.fl xs) [] = some (.none, .fl xs.reverse) := rfl
@[simp] theorem g_revTls (xs : List T) : gRevT (.ls xs) [] = some (.none, .ls xs.reverse) := rfl
end Tl

namespace Tl
open PySem PySem.Spec PyProof.Rows L2 RZ
/-- x..[i] := d -/
def putP (x : Nat) (mp : MP) (mi : MV) (fz : Fz) (d : D) (τ : Tau) : Option Tau := (tget τ x).bind fun u => (mp u ⟨fz, [(x, u)]⟩ (tset τ x .hole)).bind fun q => (mi ⟨fz, [(x, u)]⟩ q.2).bind fun r => (asI r.1).bind fun i =>
  (gPut i q.1.2 [d]).bind fun w => (setP u q.1.1 w.2).map fun u' => tset r.2 x u'
section
variable {X : L2.Cx}
def pair2 : D → Option (D × D)
  | .tuple [a, b] => some (a, b)
  | _ => none
def mSetP2 (x : Nat) (mp : MP) (mi : MV) (y : Nat) (mq : MP) (mj : MV) (me : MV) : MS := fun s => (me ⟨s.fz, []⟩ s.ow).bind fun p => p.1.st.bind fun d => (pair2 d).bind fun ab => (putP x mp mi s.fz ab.1 p.2).bind fun τ => (putP y mq mj s.fz ab.2 τ).map fun τ' => .nx ⟨s.fz, τ'⟩
end
@[simp] theorem r_pair2 (a b : D) : pair2 (.tuple [a, b]) = some (a, b) := rfl
@[simp] def pwK5 (x : Nat) (τ : Tau) (u : T) : Option Tau := some (tset τ x u)
@[simp] def pwK4 (x : Nat) (u : T) (is : List Int) (τ : Tau) : D × T → Option Tau
  | (_, w) => bd (setP u is w) (pwK5 x τ)
@[simp] def pwK3 (x : Nat) (d : D) (u : T) (is : List Int) (w : T) (τ : Tau) (i : Int) : Option Tau := bd (gPut i w [d]) (pwK4 x u is τ)
@[simp] def pwK2 (x : Nat) (d : D) (u : T) (is : List Int) (w : T) : R × Tau → Option Tau
  | (r, τ) => bd (asI r) (pwK3 x d u is w τ)
@[simp] def pwK1 (x : Nat) (mi : MV) (fz : Fz) (d : D) (u : T) : (List Int × T) × Tau → Option Tau
  | ((is, w), τ) => bd (mi ⟨fz, [(x, u)]⟩ τ) (pwK2 x d u is w)
@[simp] def pwK (x : Nat) (mp : MP) (mi : MV) (fz : Fz) (d : D) (τ : Tau) (u : T) : Option Tau := bd (mp u ⟨fz, [(x, u)]⟩ (tset τ x .hole)) (pwK1 x mi fz d u)
@[simp] theorem r_putP (x : Nat) (mp : MP) (mi : MV) (fz : Fz) (d : D) (τ : Tau) : putP x mp mi fz d τ = bd (tget τ x) (pwK x mp mi fz d τ) :=
  bd_of fun u => bd_of fun q => bd_of fun r => bd_of fun i => bd_of fun w => bd_om fun u' => rfl
@[simp] def s2K5 (fz : Fz) (τ : Tau) : Option Out := some (.nx ⟨fz, τ⟩)
@[simp] def s2K4 (y : Nat) (mq : MP) (mj : MV) (fz : Fz) (d : D) (τ : Tau) : Option Out := bd (putP y mq mj fz d τ) (s2K5 fz)
@[simp] def s2K3 (x : Nat) (mp : MP) (mi : MV) (y : Nat) (mq : MP) (mj : MV) (fz : Fz) (τ : Tau) : D × D → Option Out
  | (a, b) => bd (putP x mp mi fz a τ) (s2K4 y mq mj fz b)
@[simp] def s2K2 (x : Nat) (mp : MP) (mi : MV) (y : Nat) (mq : MP) (mj : MV) (fz : Fz) (τ : Tau) (d : D) : Option Out := bd (pair2 d) (s2K3 x mp mi y mq mj fz τ)
@[simp] def s2K1 (x : Nat) (mp : MP) (mi : MV) (y : Nat) (mq : MP) (mj : MV) (fz : Fz) : R × Tau → Option Out
  | (r, τ) => bd r.st (s2K2 x mp mi y mq mj fz τ)
@[simp] theorem r_mSetP2 (x : Nat) (mp : MP) (mi : MV) (y : Nat) (mq : MP) (mj : MV) (me : MV) (fz : Fz) (τ : Tau) : mSetP2 x mp mi y mq mj me ⟨fz, τ⟩ = bd (me ⟨fz, []⟩ τ) (s2K1 x mp mi y mq mj fz) :=
  bd_of fun p => bd_of fun d => bd_of fun ab => bd_of fun τ1 => bd_om fun τ2 => rfl
end Tl

namespace Tl
open PySem PySem.Spec PyProof.Rows L2
def pBool : List D → Option D
  | [.int a] => some (.bool (a != 0))
  | [.bool b] => some (.bool b)
  | _ => none
@[simp] theorem p_bool (a : Int) : pBool [.int a] = some (.bool (a != 0)) := rfl
@[simp] theorem p_boolb (a : Bool) : pBool [.bool a] = some (.bool a) := rfl
end Tl

namespace Tl
open PySem PySem.Spec PyProof.Rows L2
section
variable {X : Cx} {K : PySem.W.Frag} {F B H : Hp}
/-- {x: c} -/
def mDisp1 (j : Nat) (d : D) : MV := fun ro τ => (fget ro.fz j).bind fun kd => (keyOf kd).map fun k => (.val (.dk [(k, d)]), τ)
def ddOf : List T → Option (List (Key × List (Key × D)))
  | [] => some []
  | .tup [.leaf kd, .dk ys] :: r => (keyOf kd).bind fun k => (ddOf r).map ((k, ys) :: ·)
  | _ => none
theorem OwnD.keys : ∀ {kvs : List (Key × V)} {es : List (Key × List (Key × D))} {A : List Addr}, OwnD K F H kvs es A → kvs.map (·.1) = es.map (·.1)
  | _, _, _, .nil => rfl
  | _, _, _, .cons _ _ t => congrArg (_ :: ·) (OwnD.keys t)
def gDictT : List R → Option R
  | [.val (.ls ts)] => (ddOf ts).bind fun es => if (es.map (·.1)).Nodup then some (.val (.dd es)) else none
  | _ => none
end
end Tl

namespace Tl
open PySem PySem.Spec PyProof.Rows L2
section
variable {X : L2.Cx} {K : PySem.W.Frag} {F B H : Hp} {a b : Expr} {ma mb : MV} {p q pos : Pos}
def listDD : D → Option R
  | .dict es => if okDK es = true ∧ es.length ≤ 16000000 then some (.val (.fl (es.map (·.1)))) else none
  | _ => none
def gListD : List R → Option R
  | [x] => x.er.bind listDD
  | _ => none
end
end Tl

namespace Tl
open PySem PySem.Spec PyProof.Rows L2
section
variable {X : L2.Cx} {K : PySem.W.Frag} {F B H : Hp}
def setDD {α : Type} : List (Key × α) → Key → α → List (Key × α)
  | [], _, _ => []
  | p :: es, k, z => if p.1 = k then (p.1, z) :: es else p :: setDD es k z
theorem OwnD.at {k : Key} {xs : List (Key × D)} : ∀ {kvs : List (Key × V)} {es : List (Key × List (Key × D))} {A : List Addr}, OwnD K F H kvs es A → valK es k = some xs → ∃ b kx, valV kvs k = some (.ref b) ∧ H b = some (.dK kx) ∧ KvOk K F kx xs ∧ b ∈ A
  | _, _, _, .nil, e => by cases e
  | _, _, _, .cons (k := j) (b := b) h r t, e => by
    rw [valK_cons] at e
    by_cases q : j = k
    · rw [if_pos q] at e
      cases e
      exact ⟨b, _, valV_pos q, h, r, List.mem_cons_self⟩
    · rw [if_neg q] at e
      obtain ⟨b', kx, e1, e2, e3, e4⟩ := OwnD.at t e
      exact ⟨b', kx, by rw [valV_neg q]; exact e1, e2, e3, List.mem_cons_of_mem _ e4⟩
theorem OwnD.ne {k1 k2 : Key} {b : Addr} : ∀ {kvs : List (Key × V)} {es : List (Key × List (Key × D))} {A : List Addr}, OwnD K F H kvs es A → A.Nodup → valV kvs k1 = some (.ref b) → valV kvs k2 = some (.ref b) → k1 = k2
  | _, _, _, .nil, _, e, _ => by cases e
  | _, _, _, .cons (k := j) (b := c) h r t, n, e, e' => by
    have out : ∀ {kvs : List (Key × V)} {es : List (Key × List (Key × D))} {A : List Addr} {k : Key}, OwnD K F H kvs es A → valV kvs k = some (.ref b) → b ∈ A := by
      intro kvs es A k o
      induction o with
      | nil => intro e; cases e
      | @cons j' b' xs ys kvs es A h r t ih =>
        intro e
        by_cases q : j' = k
        · rw [valV_pos q] at e
          cases e
          exact List.mem_cons_self
        · rw [valV_neg q] at e
          exact List.mem_cons_of_mem _ (ih e)
    obtain ⟨n1, n2⟩ := List.nodup_cons.mp n
    by_cases q1 : j = k1
    · by_cases q2 : j = k2
      · rw [← q1, ← q2]
      · rw [valV_pos q1] at e
        cases e
        rw [valV_neg q2] at e'
        exact absurd (out t e') n1
    · by_cases q2 : j = k2
      · rw [valV_pos q2] at e'
        cases e'
        rw [valV_neg q1] at e
        exact absurd (out t e) n1
      · rw [valV_neg q1] at e
        rw [valV_neg q2] at e'
        exact OwnD.ne t n2 e e'
theorem OwnD.put {k : Key} {b : Addr} {kz : List (Key × V)} {z : List (Key × D)} (r : KvOk K F kz z) : ∀ {kvs : List (Key × V)} {es : List (Key × List (Key × D))} {A : List Addr}, OwnD K F H kvs es A → A.Nodup → valV kvs k = some (.ref b) → OwnD K F (upd H b (.dK kz)) kvs (setDD es k z) A
  | _, _, _, .nil, _, e => by cases e
  | _, _, _, .cons (k := j) (b := c) h r' t, n, e => by
    obtain ⟨n1, n2⟩ := List.nodup_cons.mp n
    unfold setDD
    by_cases q : j = k
    · rw [valV_pos q] at e
      cases e
      rw [if_pos q]
      exact .cons upd_same r (t.stay (Same.refl F) fun a m o y => by
        have e3 : a ≠ b := fun e2 => by
          subst e2
          exact n1 m
        rw [upd_ne e3]
        exact y)
    · rw [valV_neg q] at e
      rw [if_neg q]
      have hb : c ≠ b := fun y => by
        subst y
        have out : ∀ {kvs : List (Key × V)} {es : List (Key × List (Key × D))} {A : List Addr}, OwnD K F H kvs es A → valV kvs k = some (.ref c) → c ∈ A := by
          intro kvs es A o
          induction o with
          | nil => intro e; cases e
          | @cons j' b' xs ys kvs es A h r t ih =>
            intro e
            by_cases q : j' = k
            · rw [valV_pos q] at e
              cases e
              exact List.mem_cons_self
            · rw [valV_neg q] at e
              exact List.mem_cons_of_mem _ (ih e)
        exact n1 (out t e)
      exact .cons (by rw [upd_ne hb]; exact h) r' (OwnD.put r t n2 e)
def updDD : T → Fz → Nat → Nat → Option T
  | .dd es, fz, j1, j2 => (fget fz j1).bind fun d1 => (keyOf d1).bind fun k1 => (fget fz j2).bind fun d2 => (keyOf d2).bind fun k2 => (valK es k1).bind fun xs => (valK es k2).bind fun ys => if k1 ≠ k2 ∧ xs.length + ys.length ≤ 16000000 then some (.dd (setDD es k1 (mergeE xs ys))) else none
  | _, _, _, _ => none
def mUpdDD (i j1 j2 : Nat) : MV := fun ro τ => (tget τ i).bind fun t => (updDD t ro.fz j1 j2).map fun t' => (rd .none, tset τ i t')
end
end Tl

namespace Tl
open PySem PySem.Spec PyProof.Rows L2
section
variable {X : L2.Cx} {K : PySem.W.Frag} {F B H : Hp}
def entK : List (D × D) → Option (List (Key × D))
  | [] => some []
  | (k, d) :: r => (keyOf k).bind fun k => (entK r).map ((k, d) :: ·)
theorem entK_dk : ∀ es : List (Key × D), entK (dkD es) = some es
  | [] => rfl
  | (k, d) :: es => by
    have e : keyOf (keyD k) = some k := by cases k <;> rfl
    show (keyOf (keyD k)).bind _ = _
    rw [e]
    show (entK (dkD es)).map _ = _
    rw [entK_dk es]
    rfl
def gDUpdD : T → List D → Option (D × T)
  | .dk es, [.dict ds] => (entK ds).bind fun fs => if es.length + fs.length ≤ 16000000 then some (.none, .dk (mergeE es fs)) else none
  | _, _ => none
def augD (f : Int → Int) : T → D → Option T
  | .dk es, kd => (keyOf kd).bind fun k => (valK es k).bind fun d => match d with
    | .int i => if es.length < 16000000 then some (.dk (putE es k (.int (f i)))) else none
    | _ => none
  | _, _ => none
def mAugD (x j : Nat) (f : Int → Int) : MS := fun s => (tget s.ow x).bind fun t => (fget s.fz j).bind fun kd => (augD f t kd).map fun t' => .nx ⟨s.fz, tset s.ow x t'⟩
end
end Tl

namespace Tl
open PySem PySem.Spec PyProof.Rows L2
section
variable {K : PySem.W.Frag} {F F' B H H' : Hp} {d : Addr} {od : Obj} {ks : List (Key × V)}
/-- all but what stands at d -/
def dropH (F : Hp) (d : Addr) : Hp := fun b => if b = d then none else F b
theorem drop_ne {a : Addr} {o : HO} (h : a ≠ d) (e : F a = some o) : dropH F d a = some o := by
  unfold dropH
  rw [if_neg h]
  exact e
theorem lk_lst {a : Addr} {xs : List V} (hd : F d = some (.frz od (.dK ks))) (e : F a = some (.lst xs)) : a ≠ d := fun z => by
  subst z
  rw [hd] at e
  cases e
theorem lk_dk {a : Addr} {xs : List (Key × V)} (hd : F d = some (.frz od (.dK ks))) (e : F a = some (.dK xs)) : a ≠ d := fun z => by
  subst z
  rw [hd] at e
  cases e
theorem lk_dn {a : Addr} {xs : List (NK × Addr × V)} (hd : F d = some (.frz od (.dK ks))) (e : F a = some (dnO a xs)) : a ≠ d := fun z => by
  subst z
  rw [hd] at e
  cases e
theorem lk_dl {a : Addr} {o : Obj} {xs : List (NK × Addr × V)} (hd : F d = some (.frz od (.dK ks))) (e : F a = some (.frz o (dnO a xs))) : a ≠ d := fun z => by
  subst z
  rw [hd] at e
  cases e
theorem lk_sqT {a : Addr} {xs : List V} (hd : F d = some (.frz od (.dK ks))) (h : SqT K F a xs) : SqT K (dropH F d) a xs := by
  rcases h with h | h
  · rcases h with h | ⟨o, h⟩
    · exact .inl (.inl (drop_ne (fun z => by subst z; rw [hd] at h; cases h) h))
    · exact .inl (.inr ⟨o, drop_ne (fun z => by subst z; rw [hd] at h; cases h) h⟩)
  · exact .inr h
theorem lk_ext {a : Addr} {φ : Heap → Prop} (hd : F d = some (.frz od (.dK ks))) (h : F a = some (.ext φ)) : a ≠ d := fun z => by
  subst z
  rw [hd] at h
  cases h
theorem lk_xd {a : Addr} {fs : List (Str × V)} (hd : F d = some (.frz od (.dK ks))) (h : F a = some (.xd fs)) : a ≠ d := fun z => by
  subst z
  rw [hd] at h
  cases h
theorem lk_ins {a C dx : Addr} {fs : List (Str × V)} (hd : F d = some (.frz od (.dK ks))) (h : F a = some (.ins C dx fs)) : a ≠ d := fun z => by
  subst z
  rw [hd] at h
  cases h
theorem Rep.drop {v : V} {x : D} (hd : F d = some (.frz od (.dK ks))) (h : Rep K F v x) : Rep K (dropH F d) v x :=
  Rep.rec (K := K) (F := F) (motive_1 := fun v d' _ => Rep K (dropH F d) v d') (motive_2 := fun v d' _ => RepL K (dropH F d) v d') (motive_3 := fun v d' _ => RepK K (dropH F d) v d') (motive_4 := fun v d' _ => RepN K (dropH F d) v d')
    .non .bl .int .str (fun h z _ r => .lst (drop_ne (lk_lst hd h) h) z r) (fun h z _ r => .tup (lk_sqT hd h) z r) (fun h _ r => .dk (drop_ne (lk_dk hd h) h) r) (fun h _ r => .dn (drop_ne (lk_dn hd h) h) r) (fun h _ r => .dl (drop_ne (lk_dl hd h) h) r)
    (fun h k n => .xc (drop_ne (lk_ext hd h) h) k n) (fun h k n g _ r => .xf (drop_ne (lk_ext hd h) h) k n (drop_ne (lk_xd hd g) g) r) (fun n h o z _ r => .ob n (drop_ne (lk_ins hd h) h) o z r)
    .nil (fun _ _ a b => .cons a b) .nil (fun _ _ a b => .cons a b) .nil (fun k _ _ _ a b c => .cons k a b c) h
end
end Tl

namespace Tl
open PySem PySem.Spec PyProof.Rows L2
section
variable {X : L2.Cx} {Pr : List Nat}
/-- d[k] of an owned dict (locked or not), kept -/
def dkOf : T → Option (List (Key × D))
  | .dk es => some es
  | .lk es => some es
  | _ => none
def mGetO (i : Nat) (mb : MV) : MV := fun ro τ => (tget τ i).bind fun _ => (mb ro τ).bind fun p => p.1.er.bind fun kd => (keyOf kd).bind fun k => (tget p.2 i).bind fun t => (dkOf t).bind fun es => (valK es k).map fun d => (rd d, p.2)
end
end Tl

namespace Tl
open PySem PySem.Spec PyProof.Rows L2
section
variable {X : L2.Cx} {K : PySem.W.Frag} {F F' B H : Hp}
abbrev halfE (es : List (Key × List (Key × D))) : List (Key × D) := es.map fun p => (p.1, .dict (dkD p.2))
def halfR : R → R
  | .val (.dd es) => .val (.dk (halfE es))
  | r => r
def mHalf (m : MV) : MV := fun ro τ => (m ro τ).map fun p => (halfR p.1, p.2)
end
@[simp] def dsK2 (d : D) (τ : Tau) (k : Key) : Option (R × Tau) := some (.val (.dk [(k, d)]), τ)
@[simp] def dsK (d : D) (τ : Tau) (kd : D) : Option (R × Tau) := bd (keyOf kd) (dsK2 d τ)
@[simp] theorem r_mDisp1 (j : Nat) (d : D) (ro : Ro) (τ : Tau) : mDisp1 j d ro τ = bd (fget ro.fz j) (dsK d τ) := bd_of fun a => bd_om fun b => rfl
@[simp] theorem fz_dd (es : List (Key × List (Key × D))) : T.fz (.dd es) = some (.dict (ddD es)) := rfl
@[simp] theorem fz_lk (es : List (Key × D)) : T.fz (.lk es) = none := rfl
@[simp] theorem hole_dd (es : List (Key × List (Key × D))) : isHole (.dd es) = false := rfl
@[simp] theorem hole_lk (es : List (Key × D)) : isHole (.lk es) = false := rfl
@[simp] theorem okDK_dd (es : List (Key × List (Key × D))) : okDK (ddD es) = true := by
  cases es with
  | nil => rfl
  | cons p es => cases p with | mk k d => cases k <;> rfl
theorem valE_dd : ∀ (es : List (Key × List (Key × D))) (k : Key), valE (ddD es) k = (valK es k).map fun xs => .dict (dkD xs)
  | [], _ => rfl
  | p :: es, k => by
    rw [valK_cons]
    unfold valE
    rw [show ddD (p :: es) = (keyD p.1, .dict (dkD p.2)) :: ddD es from rfl, List.find?_cons, keyIs_D]
    by_cases h : p.1 = k
    · simp [h]
    · have := valE_dd es k
      unfold valE at this
      rw [decide_eq_false h, if_neg h]
      exact this
@[simp] theorem valE_dd' (es : List (Key × List (Key × D))) (k : Key) : valE (ddD es) k = (valK es k).map fun xs => .dict (dkD xs) := valE_dd es k
@[simp] def gdtK (es : List (Key × List (Key × D))) : Option R := if (es.map (·.1)).Nodup then some (.val (.dd es)) else none
@[simp] theorem r_gDictT (ts : List T) : gDictT [.val (.ls ts)] = bd (ddOf ts) gdtK := bd_of fun a => rfl
@[simp] def hfK : R × Tau → Option (R × Tau)
  | (r, τ) => some (halfR r, τ)
@[simp] theorem r_mHalf (m : MV) (ro : Ro) (τ : Tau) : mHalf m ro τ = bd (m ro τ) hfK := bd_om fun a => rfl
@[simp] theorem half_dd (es : List (Key × List (Key × D))) : halfR (.val (.dd es)) = .val (.dk (halfE es)) := rfl
@[simp] theorem half_dk (es : List (Key × D)) : halfR (.val (.dk es)) = .val (.dk es) := rfl
@[simp] theorem r_gListD (x : R) : gListD [x] = bd x.er listDD := bd_of fun a => rfl
/-- d[k].update(d[j]) -/
@[simp] def udK5 (es : List (Key × List (Key × D))) (k1 k2 : Key) (xs ys : List (Key × D)) : Option T := if k1 ≠ k2 ∧ xs.length + ys.length ≤ 16000000 then some (.dd (setDD es k1 (mergeE xs ys))) else none
@[simp] def udK4 (es : List (Key × List (Key × D))) (k1 k2 : Key) (xs : List (Key × D)) : Option T := bd (valK es k2) (udK5 es k1 k2 xs)
@[simp] def udK3 (es : List (Key × List (Key × D))) (k1 k2 : Key) : Option T := bd (valK es k1) (udK4 es k1 k2)
@[simp] def udK2 (es : List (Key × List (Key × D))) (k1 : Key) (d2 : D) : Option T := bd (keyOf d2) (udK3 es k1)
@[simp] def udK1 (es : List (Key × List (Key × D))) (fz : Fz) (j2 : Nat) (k1 : Key) : Option T := bd (fget fz j2) (udK2 es k1)
@[simp] def udK0 (es : List (Key × List (Key × D))) (fz : Fz) (j2 : Nat) (d1 : D) : Option T := bd (keyOf d1) (udK1 es fz j2)
@[simp] theorem r_updDD (es : List (Key × List (Key × D))) (fz : Fz) (j1 j2 : Nat) : updDD (.dd es) fz j1 j2 = bd (fget fz j1) (udK0 es fz j2) :=
  bd_of fun a => bd_of fun b => bd_of fun c => bd_of fun d => bd_of fun e => bd_of fun f => rfl
@[simp] def muK2 (i : Nat) (τ : Tau) (t : T) : Option (R × Tau) := some (rd .none, tset τ i t)
@[simp] def muK1 (i j1 j2 : Nat) (fz : Fz) (τ : Tau) (t : T) : Option (R × Tau) := bd (updDD t fz j1 j2) (muK2 i τ)
@[simp] theorem r_mUpdDD (i j1 j2 : Nat) (ro : Ro) (τ : Tau) : mUpdDD i j1 j2 ro τ = bd (tget τ i) (muK1 i j1 j2 ro.fz τ) := bd_of fun a => bd_om fun b => rfl
/-- reading an owned dict -/
@[simp] theorem dkOf_dk (es : List (Key × D)) : dkOf (.dk es) = some es := rfl
@[simp] theorem dkOf_lk (es : List (Key × D)) : dkOf (.lk es) = some es := rfl
@[simp] def goK6 (τ : Tau) (d : D) : Option (R × Tau) := some (rd d, τ)
@[simp] def goK5 (τ : Tau) (k : Key) (es : List (Key × D)) : Option (R × Tau) := bd (valK es k) (goK6 τ)
@[simp] def goK4 (τ : Tau) (k : Key) (t : T) : Option (R × Tau) := bd (dkOf t) (goK5 τ k)
@[simp] def goK3 (i : Nat) (τ : Tau) (k : Key) : Option (R × Tau) := bd (tget τ i) (goK4 τ k)
@[simp] def goK2 (i : Nat) (τ : Tau) (kd : D) : Option (R × Tau) := bd (keyOf kd) (goK3 i τ)
@[simp] def goK1 (i : Nat) : R × Tau → Option (R × Tau)
  | (r, τ) => bd r.er (goK2 i τ)
@[simp] def goK0 (i : Nat) (mb : MV) (ro : Ro) (τ : Tau) (_ : T) : Option (R × Tau) := bd (mb ro τ) (goK1 i)
@[simp] theorem r_mGetO (i : Nat) (mb : MV) (ro : Ro) (τ : Tau) : mGetO i mb ro τ = bd (tget τ i) (goK0 i mb ro τ) :=
  bd_of fun a => bd_of fun b => bd_of fun c => bd_of fun d => bd_of fun e => bd_of fun f => bd_om fun g => rfl
/-- d[k] += c -/
@[simp] def auK3 (f : Int → Int) (es : List (Key × D)) (k : Key) : D → Option T
  | .int i => if es.length < 16000000 then some (.dk (putE es k (.int (f i)))) else none
  | _ => none
@[simp] def auK2 (f : Int → Int) (es : List (Key × D)) (k : Key) : Option T := bd (valK es k) (auK3 f es k)
@[simp] theorem r_augD (f : Int → Int) (es : List (Key × D)) (kd : D) : augD f (.dk es) kd = bd (keyOf kd) (auK2 f es) := bd_of fun a => bd_of fun b => by
  cases b <;> rfl
@[simp] def maK2 (x : Nat) (s : SS) (t : T) : Option Out := some (.nx ⟨s.fz, tset s.ow x t⟩)
@[simp] def maK1 (x : Nat) (f : Int → Int) (s : SS) (t : T) (kd : D) : Option Out := bd (augD f t kd) (maK2 x s)
@[simp] def maK0 (x j : Nat) (f : Int → Int) (s : SS) (t : T) : Option Out := bd (fget s.fz j) (maK1 x f s t)
@[simp] theorem r_mAugD (x j : Nat) (f : Int → Int) (s : SS) : mAugD x j f s = bd (tget s.ow x) (maK0 x j f s) := bd_of fun a => bd_of fun b => bd_om fun c => rfl
/-- d.update(dict) -/
@[simp] def duK (es : List (Key × D)) (fs : List (Key × D)) : Option (D × T) := if es.length + fs.length ≤ 16000000 then some (.none, .dk (mergeE es fs)) else none
@[simp] theorem r_gDUpdD (es : List (Key × D)) (ds : List (D × D)) : gDUpdD (.dk es) [.dict ds] = bd (entK ds) (duK es) := bd_of fun a => rfl
@[simp] theorem entK_dk' (es : List (Key × D)) : entK (dkD es) = some es := entK_dk es
@[simp] def lkK2 (τ : Tau) (es : List (Key × D)) : Option (List D × Tau) := if es.length ≤ 16000000 then some (es.map fun p => keyD p.1, τ) else none
end Tl

namespace Tl
open PySem PySem.Spec PyProof.Rows L2
section
variable {X : L2.Cx} {K : PySem.W.Frag}
def gLenD : List R → Option R
  | [x] => x.er.bind fun d => match d with
    | .dict es => if okDK es = true then some (rInt (es.length : Nat)) else none
    | _ => none
  | _ => none
/-- x in d -/
def inO (neg : Bool) (t : T) (kd : D) : Option Bool := (keyOf kd).bind fun k => (dkOf t).map fun es => if neg then !(valK es k).isSome else (valK es k).isSome
def mInO (neg : Bool) (i : Nat) (mb : MV) : MV := fun ro τ => (mb ro τ).bind fun p => p.1.er.bind fun kd => (tget p.2 i).bind fun t => (inO neg t kd).map fun b => (rd (.bool b), p.2)
variable {a b : Expr} {ma : MV} {pos : Pos} {i j : Nat}
end
@[simp] theorem r_gLenD (es : List (D × D)) : gLenD [.val (.leaf (.dict es))] = if okDK es = true then some (rInt (es.length : Nat)) else none := rfl
@[simp] theorem r_gLenDk (es : List (Key × D)) : gLenD [.val (.dk es)] = some (rInt (es.length : Nat)) := by
  show (if okDK (dkD es) = true then some (rInt ((dkD es).length : Nat)) else none) = _
  rw [if_pos (okDK_dk es), List.length_map]
@[simp] theorem r_gLenDv (es : List (Key × D)) : gLenD [.vw (.dk es)] = some (rInt (es.length : Nat)) := by
  show (if okDK (dkD es) = true then some (rInt ((dkD es).length : Nat)) else none) = _
  rw [if_pos (okDK_dk es), List.length_map]
@[simp] def inOK4 (τ : Tau) (b : Bool) : Option (R × Tau) := some (rd (.bool b), τ)
@[simp] def inOK3 (neg : Bool) (kd : D) (τ : Tau) (t : T) : Option (R × Tau) := bd (inO neg t kd) (inOK4 τ)
@[simp] def inOK2 (neg : Bool) (i : Nat) (τ : Tau) (kd : D) : Option (R × Tau) := bd (tget τ i) (inOK3 neg kd τ)
@[simp] def inOK (neg : Bool) (i : Nat) : R × Tau → Option (R × Tau)
  | (r, τ) => bd r.er (inOK2 neg i τ)
@[simp] theorem r_mInO (neg : Bool) (i : Nat) (mb : MV) (ro : Ro) (τ : Tau) : mInO neg i mb ro τ = bd (mb ro τ) (inOK neg i) := bd_of fun a => bd_of fun b => bd_of fun c => bd_om fun d => rfl
@[simp] theorem inO_dk (neg : Bool) (es : List (Key × D)) (kd : D) : inO neg (.dk es) kd = (keyOf kd).map fun k => if neg then !(valK es k).isSome else (valK es k).isSome := by
  unfold inO
  cases keyOf kd <;> rfl
@[simp] theorem inO_lk (neg : Bool) (es : List (Key × D)) (kd : D) : inO neg (.lk es) kd = (keyOf kd).map fun k => if neg then !(valK es k).isSome else (valK es k).isSome := by
  unfold inO
  cases keyOf kd <;> rfl
end Tl

namespace Tl
open PySem PySem.Spec PyProof.Rows L2
mutual
def nk : D → Option NK
  | .none => some .none
  | .int i => some (.num i)
  | .tuple ds => (nkL ds).map .tup
  | _ => none
def nkL : List D → Option (List NK)
  | [] => some []
  | d :: ds => (nk d).bind fun k => (nkL ds).map (k :: ·)
end
def keyN (d : D) : Option NK := (nk d).bind fun k => if okN k = true then some k else none
mutual
theorem nk_ok : ∀ (d : D) (k : NK), nk d = some k → d = k.data ∧ tfree k = true
  | .none, k, e => by
    cases e
    exact ⟨rfl, rfl⟩
  | .int i, k, e => by
    cases e
    exact ⟨rfl, rfl⟩
  | .tuple ds, k, e => by
    obtain ⟨ks, e1, e2⟩ := Option.map_eq_some_iff.mp (show (nkL ds).map NestedKey.tup = some k from e)
    subst e2
    obtain ⟨h1, h2⟩ := nkL_ok ds ks e1
    subst h1
    exact ⟨rfl, h2⟩
  | .bool _, _, e => by cases e
  | .str _, _, e => by cases e
  | .list _, _, e => by cases e
  | .dict _, _, e => by cases e
theorem nkL_ok : ∀ (ds : List D) (ks : List NK), nkL ds = some ks → ds = NestedKey.datas ks ∧ tfreeL ks = true
  | [], ks, e => by
    cases e
    exact ⟨rfl, rfl⟩
  | d :: ds, ks, e => by
    obtain ⟨k, e1, e⟩ := Option.bind_eq_some_iff.mp (show (nk d).bind _ = some ks from e)
    obtain ⟨r, e2, e3⟩ := Option.map_eq_some_iff.mp e
    subst e3
    obtain ⟨h1, h2⟩ := nk_ok d k e1
    obtain ⟨h3, h4⟩ := nkL_ok ds r e2
    subst h1 h3
    refine ⟨rfl, ?_⟩
    show (tfree k && tfreeL r) = true
    rw [h2, h4]
    rfl
end
mutual
theorem nk_data : ∀ (k : NK), tfree k = true → nk k.data = some k
  | .none, _ => rfl
  | .num _, _ => rfl
  | .text _, h => by cases h
  | .tup ks, h => by
    show (nkL (NestedKey.datas ks)).map NestedKey.tup = _
    rw [nkL_datas ks h]
    rfl
theorem nkL_datas : ∀ (ks : List NK), tfreeL ks = true → nkL (NestedKey.datas ks) = some ks
  | [], _ => rfl
  | k :: ks, h => by
    have h' : (tfree k && tfreeL ks) = true := h
    rw [Bool.and_eq_true] at h'
    show (nk k.data).bind (fun k => (nkL (NestedKey.datas ks)).map (k :: ·)) = _
    rw [nk_data k h'.1, nkL_datas ks h'.2]
    rfl
end
def valN (kvs : List (NK × Addr × V)) (k : NK) : Option V := (kvs.find? fun p => decide (p.1 = k)).map (·.2.2)
def putN (kvs : List (NK × Addr × V)) (k : NK) (b : Addr) (v : V) : List (NK × Addr × V) :=
  if (kvs.any fun p => decide (p.1 = k)) = true then kvs.map (fun p => if p.1 = k then (p.1, p.2.1, v) else p) else kvs ++ [(k, b, v)]
abbrev KN : List (NK × Addr × V) → List (NK × Addr × Value) → Prop := Paired fun p q => p.1 = q.1 ∧ p.2.1 = q.2.1 ∧ RelV p.2.2 q.2.2
def DnAt (H : Hp) (a : Addr) (kvs : List (NK × Addr × V)) : Prop := H a = some (dnO a kvs) ∨ ∃ o, H a = some (.frz o (dnO a kvs))
def NH (K : PySem.W.Frag) (H : Hp) (kvs : List (NK × Addr × V)) : Prop := ∀ p ∈ kvs, okN p.1 = true ∧ Rep K H (.ref p.2.1) p.1.data
theorem valN_cons (p : NK × Addr × V) (kvs : List (NK × Addr × V)) (k : NK) : valN (p :: kvs) k = if p.1 = k then some p.2.2 else valN kvs k := by
  unfold valN
  rw [List.find?_cons]
  by_cases h : p.1 = k <;> simp [h]
theorem atKey_cons {κ : Type} [DecidableEq κ] (p : κ × Addr × Value) (kvs : List (κ × Addr × Value)) (k : κ) : atKey (p :: kvs) k = if p.1 = k then some p.2 else atKey kvs k := by
  unfold atKey
  rw [List.find?_cons]
  by_cases h : p.1 = k <;> simp [h]
theorem KN.val (k : NK) : ∀ {kvs : List (NK × Addr × V)} {xs : List (NK × Addr × Value)}, KN kvs xs → RelO (valN kvs k) ((atKey xs k).map (·.2))
  | _, _, .nil => True.intro
  | _, _, .cons (a := p) (b := q) h t => by
    rw [valN_cons, atKey_cons, h.1]
    by_cases e : q.1 = k
    · rw [if_pos e, if_pos e]
      exact h.2.2
    · rw [if_neg e, if_neg e]
      exact KN.val k t
theorem KN.anyS (k : NK) : ∀ {kvs : List (NK × Addr × V)} {xs : List (NK × Addr × Value)}, KN kvs xs → (kvs.any fun p => decide (p.1 = k)) = (atKey xs k).isSome
  | _, _, .nil => rfl
  | _, _, .cons (a := p) (b := q) h t => by
    rw [List.any_cons, atKey_cons, h.1, KN.anyS k t]
    by_cases e : q.1 = k <;> simp [e]
theorem KN.repl {k : NK} {v : V} {u : Value} (r : RelV v u) : ∀ {kvs : List (NK × Addr × V)} {xs : List (NK × Addr × Value)}, KN kvs xs → KN (kvs.map fun p => if p.1 = k then (p.1, p.2.1, v) else p) (xs.map (PySem.putAt k u))
  | _, _, .nil => .nil
  | _, _, .cons (a := p) (b := q) h t => by
    refine .cons ?_ (KN.repl r t)
    unfold PySem.putAt
    show (if p.1 = k then (p.1, p.2.1, v) else p).1 = (if q.1 = k then (q.1, q.2.1, u) else q).1 ∧ (if p.1 = k then (p.1, p.2.1, v) else p).2.1 = (if q.1 = k then (q.1, q.2.1, u) else q).2.1 ∧ RelV (if p.1 = k then (p.1, p.2.1, v) else p).2.2 (if q.1 = k then (q.1, q.2.1, u) else q).2.2
    by_cases e : q.1 = k
    · rw [if_pos e, if_pos (show p.1 = k from h.1.trans e)]
      exact ⟨h.1, h.2.1, r⟩
    · rw [if_neg e, if_neg (show ¬ p.1 = k from fun z => e (h.1.symm.trans z))]
      exact h
theorem KN.snoc {p : NK × Addr × V} {q : NK × Addr × Value} (hq : p.1 = q.1 ∧ p.2.1 = q.2.1 ∧ RelV p.2.2 q.2.2) : ∀ {kvs : List (NK × Addr × V)} {xs : List (NK × Addr × Value)}, KN kvs xs → KN (kvs ++ [p]) (xs ++ [q])
  | _, _, .nil => .cons hq .nil
  | _, _, .cons h t => .cons h (KN.snoc hq t)
theorem KN.put {k : NK} {b : Addr} {v : V} {u : Value} (r : RelV v u) {kvs : List (NK × Addr × V)} {xs : List (NK × Addr × Value)} (h : KN kvs xs) : KN (putN kvs k b v) (storedH xs k b u) := by
  unfold putN storedH
  rw [h.anyS k]
  by_cases e : (atKey xs k).isSome = true
  · rw [if_pos e, if_pos e]
    exact KN.repl r h
  · rw [if_neg e, if_neg e]
    exact KN.snoc ⟨rfl, rfl, r⟩ h
theorem NH.put {K : PySem.W.Frag} {H : Hp} {kvs : List (NK × Addr × V)} {k : NK} {b : Addr} {v : V} (h : NH K H kvs) (o : okN k = true) (r : Rep K H (.ref b) k.data) : NH K H (putN kvs k b v) := by
  intro p m
  unfold putN at m
  split at m
  · obtain ⟨q, m1, e⟩ := List.mem_map.mp m
    by_cases z : q.1 = k
    · rw [if_pos z] at e
      subst e
      exact h q m1
    · rw [if_neg z] at e
      subst e
      exact h q m1
  · rcases List.mem_append.mp m with m | m
    · exact h p m
    · rw [List.mem_singleton.mp m]
      exact ⟨o, r⟩
theorem NH.mono {K : PySem.W.Frag} {H H' : Hp} {kvs : List (NK × Addr × V)} (h : NH K H kvs) (s : Same H H') : NH K H' kvs := fun p m => ⟨(h p m).1, (h p m).2.mono s⟩
theorem DnAt.mono {H H' : Hp} {a : Addr} {kvs : List (NK × Addr × V)} (h : DnAt H a kvs) (s : Same H H') : DnAt H' a kvs := by
  rcases h with h | ⟨o, h⟩
  · exact .inl (s _ _ h)
  · exact .inr ⟨o, s _ _ h⟩
section
variable {X : Cx} {pins : List (Addr × Obj)} {σ : L2.St} {H : Hp} {s : Shared}
variable {a b : Addr} {v : V} {u r : Value} {o : Option V} {A : Around} {E : Value → Shared → Prop}
end
section
variable {X : Cx} {o i e value : Expr} {pos pos' tpos : Pos} {td ty tv : TE}
end
end Tl

namespace Tl
open PySem PySem.Spec PyProof.Rows L2
/-- the pairs of such a dict, as data -/
def ndOf : D → Option (List (D × D))
  | .dict ((.none, .none) :: es) => some es
  | .dict ((.none, .bool true) :: es) => some es
  | _ => none
abbrev ndD (es : List (NK × D)) : List (D × D) := es.map fun p => (p.1.data, p.2)
def valD (es : List (D × D)) (k : NK) : Option D := (es.find? fun p => decide (nk p.1 = some k)).map (·.2)
theorem valD_cons (p : D × D) (es : List (D × D)) (k : NK) : valD (p :: es) k = if nk p.1 = some k then some p.2 else valD es k := by
  unfold valD
  rw [List.find?_cons]
  by_cases h : nk p.1 = some k <;> simp [h]
theorem nk_iff {j k : NK} (h : tfree k = true) : nk j.data = some k ↔ j = k := by
  refine ⟨fun e => ?_, fun e => by rw [e]; exact nk_data k h⟩
  have inj : ∀ (a b : NK), a.data = b.data → a = b := by
    intro a
    refine NestedKey.rec (motive_1 := fun a => ∀ b : NK, a.data = b.data → a = b) (motive_2 := fun as => ∀ bs : List NK, NestedKey.datas as = NestedKey.datas bs → as = bs) ?_ ?_ ?_ ?_ ?_ ?_ a
    · intro b e
      cases b <;> first | rfl | cases e
    · intro i b e
      cases b with
      | num j => cases e; rfl
      | _ => cases e
    · intro i b e
      cases b with
      | text j => cases e; rfl
      | _ => cases e
    · intro ks ih b e
      cases b with
      | tup js =>
        have e' : PyData.tuple (NestedKey.datas ks) = PyData.tuple (NestedKey.datas js) := e
        rw [ih js (PyData.tuple.inj e')]
      | _ => cases e
    · intro bs e
      cases bs with
      | nil => rfl
      | cons b bs => cases e
    · intro a as ih ihs bs e
      cases bs with
      | nil => cases e
      | cons b bs =>
        have e' : a.data :: NestedKey.datas as = b.data :: NestedKey.datas bs := e
        obtain ⟨e1, e2⟩ := List.cons.inj e'
        rw [ih b e1, ihs bs e2]
  exact inj j k (nk_ok _ _ e).1
theorem valD_nd (es : List (NK × D)) {k : NK} (h : tfree k = true) : valD (ndD es) k = valK es k := by
  induction es with
  | nil => rfl
  | cons p es ih =>
    rw [show ndD (p :: es) = (p.1.data, p.2) :: ndD es from rfl, valD_cons, valK_cons, ih]
    by_cases e : p.1 = k
    · rw [if_pos e, if_pos ((nk_iff h).mpr e)]
    · rw [if_neg e, if_neg fun z => e ((nk_iff h).mp z)]
section
variable {K : PySem.W.Frag} {F : Hp}
theorem Rep.nd {v : V} {d : D} {es : List (D × D)} (r : Rep K F v d) (h : ndOf d = some es) : ∃ a kvs, v = .ref a ∧ DnAt F a kvs ∧ RepN K F kvs es := by
  cases r with
  | dn h1 h2 =>
    cases h
    exact ⟨_, _, rfl, .inl h1, h2⟩
  | dl h1 h2 =>
    cases h
    exact ⟨_, _, rfl, .inr ⟨_, h1⟩, h2⟩
  | @dk a kvs es' h1 h2 =>
    cases h2 with
    | nil => cases h
    | @cons k v vs d ds r t =>
      cases k <;> cases h
  | _ => cases h
theorem RepN.val {k : NK} (hk : okN k = true) : ∀ {kvs : List (NK × Addr × V)} {es : List (D × D)}, RepN K F kvs es → (valN kvs k = none ∧ valD es k = none) ∨ ∃ v d, valN kvs k = some v ∧ valD es k = some d ∧ Rep K F v d
  | _, _, .nil => .inl ⟨rfl, rfl⟩
  | _, _, .cons (k := j) o r q t => by
    rw [valN_cons, valD_cons]
    by_cases e : j = k
    · rw [if_pos e, if_pos ((nk_iff (okN_free hk)).mpr e)]
      exact .inr ⟨_, _, rfl, rfl, q⟩
    · rw [if_neg e, if_neg fun z => e ((nk_iff (okN_free hk)).mp z)]
      exact RepN.val hk t
theorem RepN.len : ∀ {kvs : List (NK × Addr × V)} {es : List (D × D)}, RepN K F kvs es → kvs.length = es.length
  | _, _, .nil => rfl
  | _, _, .cons _ _ _ t => by rw [List.length_cons, List.length_cons, RepN.len t]
theorem NvOk.len {kvs : List (NK × Addr × V)} {es : List (NK × D)} (h : NvOk K F kvs es) : kvs.length = es.length := Paired.length h
theorem NvOk.val {k : NK} : ∀ {kvs : List (NK × Addr × V)} {es : List (NK × D)}, NvOk K F kvs es → (valN kvs k = none ∧ valK es k = none) ∨ ∃ v d, valN kvs k = some v ∧ valK es k = some d ∧ Rep K F v d
  | _, _, .nil => .inl ⟨rfl, rfl⟩
  | _, _, .cons (a := p) (b := q) h t => by
    rw [valN_cons, valK_cons]
    by_cases e : q.1 = k
    · rw [if_pos e, if_pos (h.1.trans e)]
      exact .inr ⟨_, _, rfl, rfl, h.2.2.2⟩
    · rw [if_neg e, if_neg (by rw [h.1]; exact e)]
      exact NvOk.val t
theorem NvOk.any {k : NK} : ∀ {kvs : List (NK × Addr × V)} {es : List (NK × D)}, NvOk K F kvs es → (kvs.any fun p => decide (p.1 = k)) = es.any fun p => decide (p.1 = k)
  | _, _, .nil => rfl
  | _, _, .cons h t => by rw [List.any_cons, List.any_cons, NvOk.any t, h.1]
theorem NvOk.set {k : NK} {v : V} {d : D} (r : Rep K F v d) : ∀ {kvs : List (NK × Addr × V)} {es : List (NK × D)}, NvOk K F kvs es → NvOk K F (kvs.map fun p => if p.1 = k then (p.1, p.2.1, v) else p) (es.map fun p => if p.1 = k then (p.1, d) else p)
  | _, _, .nil => .nil
  | _, _, .cons (a := p) (b := q) h t => by
    refine .cons ?_ (NvOk.set r t)
    show (if p.1 = k then (p.1, p.2.1, v) else p).1 = (if q.1 = k then (q.1, d) else q).1 ∧ okN (if p.1 = k then (p.1, p.2.1, v) else p).1 = true ∧ Rep K F (.ref (if p.1 = k then (p.1, p.2.1, v) else p).2.1) (if p.1 = k then (p.1, p.2.1, v) else p).1.data ∧ Rep K F (if p.1 = k then (p.1, p.2.1, v) else p).2.2 (if q.1 = k then (q.1, d) else q).2
    by_cases e : q.1 = k
    · rw [if_pos e, if_pos (show p.1 = k from h.1.trans e)]
      exact ⟨h.1, h.2.1, h.2.2.1, r⟩
    · rw [if_neg e, if_neg (show ¬ p.1 = k from fun z => e (h.1.symm.trans z))]
      exact h
theorem NvOk.snoc {p : NK × Addr × V} {q : NK × D} (hq : p.1 = q.1 ∧ okN p.1 = true ∧ Rep K F (.ref p.2.1) p.1.data ∧ Rep K F p.2.2 q.2) : ∀ {kvs : List (NK × Addr × V)} {es : List (NK × D)}, NvOk K F kvs es → NvOk K F (kvs ++ [p]) (es ++ [q])
  | _, _, .nil => .cons hq .nil
  | _, _, .cons h t => .cons h (NvOk.snoc hq t)
theorem NvOk.put {k : NK} {b : Addr} {v : V} {d : D} (o : okN k = true) (rk : Rep K F (.ref b) k.data) (r : Rep K F v d) {kvs : List (NK × Addr × V)} {es : List (NK × D)} (h : NvOk K F kvs es) : NvOk K F (putN kvs k b v) (putE es k d) := by
  unfold putN putE
  rw [NvOk.any h (k := k)]
  split
  · exact NvOk.set r h
  · exact NvOk.snoc ⟨rfl, o, rk, r⟩ h
/-- k in d, d[k], as data -/
def pNIn : List D → Option D
  | [k, x] => (ndOf x).bind fun es => (keyN k).map fun k => .bool (valD es k).isSome
  | _ => none
def pNNotIn : List D → Option D
  | [k, x] => (ndOf x).bind fun es => (keyN k).map fun k => .bool !(valD es k).isSome
  | _ => none
def pNGet : List D → Option D
  | [x, k] => (ndOf x).bind fun es => (keyN k).bind fun k => valD es k
  | _ => none
end
section
variable {X : Cx} {a b : Expr} {ma mb : MV} {pos : Pos}
/-- {} -/
def mDNewN : MV := fun _ τ => some (.val (.dn []), τ)
/-- d[k], d an owned one: what is told is kept -/
def dnOf : T → Option (List (NK × D))
  | .dn es => some es
  | _ => none
/-- what the dict in the slot i holds at a key: an owned one, or a frozen one -/
def hasN (ro : Ro) (τ : Tau) (i : Nat) : Bool := match tget τ i with
  | some (.dn _) => true
  | some _ => false
  | none => match fget ro.fz i with
    | some d => (ndOf d).isSome
    | none => false
def lookN (ro : Ro) (τ : Tau) (i : Nat) (k : NK) : Option (Option D) := match tget τ i with
  | some (.dn es) => some (valK es k)
  | some _ => none
  | none => (fget ro.fz i).bind fun d => (ndOf d).map fun es => valD es k
def mNGetO (i : Nat) (mb : MV) : MV := fun ro τ => if hasN ro τ i = true then (mb ro τ).bind fun p => p.1.er.bind fun kd => (keyN kd).bind fun k => (lookN ro p.2 i k).bind fun o => o.map fun d => (rd d, p.2) else none
end
def mNGetOr (i : Nat) (l : ML) : MV := fun ro τ => if hasN ro τ i = true then (l ro τ).bind fun p => (stL p.1).bind fun ds => match ds with
  | [kd, x] => (keyN kd).bind fun k => (lookN ro p.2 i k).map fun o => (rd (o.getD x), p.2)
  | _ => none
  else none
end Tl

namespace Tl
open PySem PySem.Spec PyProof.Rows L2
section
variable {X : Cx} {Pr : List Nat}
/-- d[k] = e -/
def putDN : T → NK → D → Option T
  | .dn es, k, d => if es.length < 16000000 then some (.dn (putE es k d)) else none
  | _, _, _ => none
def mSetN (x : Nat) (me mi : MV) : MS := fun s => (tget s.ow x).bind fun _ => (me ⟨s.fz, []⟩ s.ow).bind fun p => p.1.st.bind fun d => (mi ⟨s.fz, []⟩ p.2).bind fun q => q.1.st.bind fun kd => (keyN kd).bind fun i => (tget q.2 x).bind fun t => (putDN t i d).map fun t' => .nx ⟨s.fz, tset q.2 x t'⟩
end
def entriesN : List D → Option (List (NK × D))
  | [] => some []
  | .tuple [k, d] :: r => (keyN k).bind fun k => (entriesN r).map ((k, d) :: ·)
  | _ => none
section
variable {X : Cx}
end
section
variable {K : PySem.W.Frag}
def gDictN : List R → Option R
  | [x] => x.lst?.bind fun ds => (entriesN ds).map fun es => .val (.dn (mergeE [] es))
  | _ => none
def gLenN : List R → Option R
  | [x] => x.er.bind fun d => (ndOf d).map fun es => rInt (es.length : Nat)
  | _ => none
theorem RepN.keys {F : Hp} : ∀ {kvs : List (NK × Addr × V)} {es : List (D × D)}, RepN K F kvs es → RepL K F (kvs.map fun x => V.ref x.2.1) (es.map (·.1))
  | _, _, .nil => .nil
  | _, _, .cons _ r _ t => .cons r (RepN.keys t)
/-- as a thing whose keys are kept: a dict that is seen counts -/
def R.sn : R → Option D
  | .vw (.dn es) => T.fz (.dn es)
  | x => x.st
def gListN : List R → Option R
  | [x] => x.sn.bind fun d => (ndOf d).bind fun es => if es.length ≤ 16000000 then some (.val (.fl (es.map (·.1)))) else none
  | _ => none
end
section
variable {X : Cx} {Pr : List Nat}
/-- the slot's dict locked and frozen, for good -/
def mFzN (i : Nat) : SS → Option SS := fun s => match tget s.ow i with
  | some (.dn es) => some ⟨fset s.fz i (some (.dict ((.none, .bool true) :: ndD es))), tdel s.ow i⟩
  | _ => some s
/-- the keys of a dict that was locked and frozen -/
def lkOf : D → Option (List (D × D))
  | .dict ((.none, .bool true) :: es) => some es
  | _ => none
def iNk (m : MV) : MI := fun ro τ => (m ro τ).bind fun p => p.1.st.bind fun d => (lkOf d).bind fun es => if es.length ≤ 16000000 then some (es.map (·.1), p.2) else none
end
end Tl

namespace Tl
open PySem PySem.Spec PyProof.Rows L2
@[simp] theorem r_mDNewN (ro : Ro) (τ : Tau) : mDNewN ro τ = some (.val (.dn []), τ) := rfl
@[simp] theorem fz_dn (es : List (NK × D)) : T.fz (.dn es) = some (.dict ((.none, .none) :: ndD es)) := rfl
@[simp] theorem hole_dn (es : List (NK × D)) : isHole (.dn es) = false := rfl
@[simp] theorem dnOf_dn (es : List (NK × D)) : dnOf (.dn es) = some es := rfl
@[simp] theorem ndOf_n (es : List (D × D)) : ndOf (.dict ((.none, .none) :: es)) = some es := rfl
@[simp] theorem ndOf_l (es : List (D × D)) : ndOf (.dict ((.none, .bool true) :: es)) = some es := rfl
@[simp] theorem lkOf_l (es : List (D × D)) : lkOf (.dict ((.none, .bool true) :: es)) = some es := rfl
@[simp] theorem nk_none : nk .none = some .none := rfl
@[simp] theorem nk_int (i : Int) : nk (.int i) = some (.num i) := rfl
@[simp] def nkK (ks : List NK) : Option NK := some (.tup ks)
@[simp] theorem nk_tup (ds : List D) : nk (.tuple ds) = bd (nkL ds) nkK := bd_om fun a => rfl
@[simp] theorem nkL_nil : nkL [] = some [] := rfl
@[simp] def nkLK2 (k : NK) (ks : List NK) : Option (List NK) := some (k :: ks)
@[simp] def nkLK (ds : List D) (k : NK) : Option (List NK) := bd (nkL ds) (nkLK2 k)
@[simp] theorem nkL_cons (d : D) (ds : List D) : nkL (d :: ds) = bd (nk d) (nkLK ds) := bd_of fun a => bd_om fun b => rfl
@[simp] def keyNK (k : NK) : Option NK := if okN k = true then some k else none
@[simp] theorem okN_tup' (ks : List NK) : okN (.tup ks) = (tfreeL ks && decide ((NestedKey.tup ks).depth ≤ 8)) := rfl
@[simp] theorem tfree_num (i : Int) : tfree (.num i) = true := rfl
@[simp] theorem tfree_none : tfree .none = true := rfl
@[simp] theorem tfree_tup (ks : List NK) : tfree (.tup ks) = tfreeL ks := rfl
@[simp] theorem tfreeL_nil : tfreeL [] = true := rfl
@[simp] theorem tfreeL_cons (k : NK) (ks : List NK) : tfreeL (k :: ks) = (tfree k && tfreeL ks) := rfl
@[simp] theorem depth_num (i : Int) : (NestedKey.num i).depth = 0 := rfl
@[simp] theorem depth_none : NestedKey.none.depth = 0 := rfl
@[simp] theorem depth_tup (ks : List NK) : (NestedKey.tup ks).depth = NestedKey.depthAll ks + 1 := rfl
@[simp] theorem depthAll_nil : NestedKey.depthAll [] = 0 := rfl
@[simp] theorem depthAll_cons (k : NK) (ks : List NK) : NestedKey.depthAll (k :: ks) = max k.depth (NestedKey.depthAll ks) := rfl
@[simp] theorem valD_nd' (es : List (NK × D)) (k : NK) (h : tfree k = true) : valD (ndD es) k = valK es k := valD_nd es h
@[simp] def ninK2 (es : List (D × D)) (k : NK) : Option D := some (.bool (valD es k).isSome)
@[simp] def ninK (kd : D) (es : List (D × D)) : Option D := bd (keyN kd) (ninK2 es)
@[simp] theorem p_nin (kd x : D) : pNIn [kd, x] = bd (ndOf x) (ninK kd) := bd_of fun a => bd_om fun b => rfl
@[simp] def nninK2 (es : List (D × D)) (k : NK) : Option D := some (.bool !(valD es k).isSome)
@[simp] def nninK (kd : D) (es : List (D × D)) : Option D := bd (keyN kd) (nninK2 es)
@[simp] theorem p_nnin (kd x : D) : pNNotIn [kd, x] = bd (ndOf x) (nninK kd) := bd_of fun a => bd_om fun b => rfl
@[simp] def ngetK2 (es : List (D × D)) (k : NK) : Option D := valD es k
@[simp] def ngetK (kd : D) (es : List (D × D)) : Option D := bd (keyN kd) (ngetK2 es)
@[simp] theorem p_nget (kd x : D) : pNGet [x, kd] = bd (ndOf x) (ngetK kd) := bd_of fun a => bd_of fun b => rfl
@[simp] def hasK (fz : Fz) (i : Nat) : Option T → Bool
  | some (.dn _) => true
  | some _ => false
  | none => match fget fz i with
    | some d => (ndOf d).isSome
    | none => false
@[simp] theorem r_hasN (fz : Fz) (vw τ : Tau) (i : Nat) : hasN ⟨fz, vw⟩ τ i = hasK fz i (tget τ i) := by
  unfold hasN
  cases tget τ i with
  | none => rfl
  | some t => cases t <;> rfl
@[simp] def lookF (k : NK) (es : List (D × D)) : Option (Option D) := some (valD es k)
@[simp] def lookF0 (k : NK) (d : D) : Option (Option D) := bd (ndOf d) (lookF k)
@[simp] def lookNK (fz : Fz) (i : Nat) (k : NK) : Option T → Option (Option D)
  | some (.dn es) => some (valK es k)
  | some _ => none
  | none => bd (fget fz i) (lookF0 k)
@[simp] theorem r_lookN (fz : Fz) (vw τ : Tau) (i : Nat) (k : NK) : lookN ⟨fz, vw⟩ τ i k = lookNK fz i k (tget τ i) := by
  unfold lookN
  cases tget τ i with
  | none => exact bd_of fun a => bd_om fun b => rfl
  | some t => cases t <;> rfl
@[simp] def ngK6 (τ : Tau) (d : D) : Option (R × Tau) := some (rd d, τ)
@[simp] def ngK5 (τ : Tau) (o : Option D) : Option (R × Tau) := bd o (ngK6 τ)
@[simp] def ngK3 (i : Nat) (ro : Ro) (τ : Tau) (k : NK) : Option (R × Tau) := bd (lookN ro τ i k) (ngK5 τ)
@[simp] def ngK2 (i : Nat) (ro : Ro) (τ : Tau) (kd : D) : Option (R × Tau) := bd (keyN kd) (ngK3 i ro τ)
@[simp] def ngK1 (i : Nat) (ro : Ro) : R × Tau → Option (R × Tau)
  | (r, τ) => bd r.er (ngK2 i ro τ)
@[simp] def ngK0 (i : Nat) (mb : MV) (ro : Ro) (τ : Tau) : Bool → Option (R × Tau)
  | true => bd (mb ro τ) (ngK1 i ro)
  | false => none
@[simp] theorem r_mNGetO (i : Nat) (mb : MV) (ro : Ro) (τ : Tau) : mNGetO i mb ro τ = ngK0 i mb ro τ (hasN ro τ i) := by
  unfold mNGetO
  cases hasN ro τ i with
  | false => rfl
  | true => exact bd_of fun a => bd_of fun b => bd_of fun c => bd_of fun d => bd_om fun e => rfl
/-- d.get(k, x) -/
@[simp] def gorK5 (τ : Tau) (x : D) (o : Option D) : Option (R × Tau) := some (rd (o.getD x), τ)
@[simp] def gorK4 (i : Nat) (ro : Ro) (τ : Tau) (x : D) (k : NK) : Option (R × Tau) := bd (lookN ro τ i k) (gorK5 τ x)
@[simp] def gorK3 (i : Nat) (ro : Ro) (τ : Tau) : List D → Option (R × Tau)
  | [kd, x] => bd (keyN kd) (gorK4 i ro τ x)
  | _ => none
@[simp] def gorK2 (i : Nat) (ro : Ro) : List R × Tau → Option (R × Tau)
  | (rs, τ) => bd (stL rs) (gorK3 i ro τ)
@[simp] def gorK1 (i : Nat) (l : ML) (ro : Ro) (τ : Tau) : Bool → Option (R × Tau)
  | true => bd (l ro τ) (gorK2 i ro)
  | false => none
@[simp] theorem r_mNGetOr (i : Nat) (l : ML) (ro : Ro) (τ : Tau) : mNGetOr i l ro τ = gorK1 i l ro τ (hasN ro τ i) := by
  unfold mNGetOr
  cases hasN ro τ i with
  | false => rfl
  | true =>
    refine bd_of fun a => bd_of fun b => ?_
    match b with
    | [] => rfl
    | [_] => rfl
    | [kd, x] => exact bd_of fun k => bd_om fun o => rfl
    | _ :: _ :: _ :: _ => rfl
/-- d[k] = e -/
@[simp] theorem r_putDN (es : List (NK × D)) (k : NK) (d : D) : putDN (.dn es) k d = if es.length < 16000000 then some (.dn (putE es k d)) else none := rfl
@[simp] def snK7 (x : Nat) (fz : Fz) (τ : Tau) (u : T) : Option Out := some (.nx ⟨fz, tset τ x u⟩)
@[simp] def snK6 (x : Nat) (fz : Fz) (τ : Tau) (d : D) (k : NK) (t : T) : Option Out := bd (putDN t k d) (snK7 x fz τ)
@[simp] def snK5 (x : Nat) (fz : Fz) (τ : Tau) (d : D) (k : NK) : Option Out := bd (tget τ x) (snK6 x fz τ d k)
@[simp] def snK4 (x : Nat) (fz : Fz) (τ : Tau) (d : D) (kd : D) : Option Out := bd (keyN kd) (snK5 x fz τ d)
@[simp] def snK3 (x : Nat) (fz : Fz) (d : D) : R × Tau → Option Out
  | (r, τ) => bd r.st (snK4 x fz τ d)
@[simp] def snK2 (x : Nat) (mi : MV) (fz : Fz) (τ : Tau) (d : D) : Option Out := bd (mi ⟨fz, []⟩ τ) (snK3 x fz d)
@[simp] def snK1 (x : Nat) (mi : MV) (fz : Fz) : R × Tau → Option Out
  | (r, τ) => bd r.st (snK2 x mi fz τ)
@[simp] def snK0 (x : Nat) (me mi : MV) (fz : Fz) (τ : Tau) (_ : T) : Option Out := bd (me ⟨fz, []⟩ τ) (snK1 x mi fz)
@[simp] theorem r_mSetN (x : Nat) (me mi : MV) (fz : Fz) (τ : Tau) : mSetN x me mi ⟨fz, τ⟩ = bd (tget τ x) (snK0 x me mi fz τ) :=
  bd_of fun a => bd_of fun b => bd_of fun c => bd_of fun d => bd_of fun e => bd_of fun f => bd_of fun g => bd_om fun h => rfl
/-- dict(..), len, list -/
@[simp] def gdnK (es : List (NK × D)) : Option R := some (.val (.dn (mergeE [] es)))
@[simp] def gdnK0 (ds : List D) : Option R := bd (entriesN ds) gdnK
@[simp] theorem r_gDictN (x : R) : gDictN [x] = bd x.lst? gdnK0 := bd_of fun a => bd_om fun b => rfl
@[simp] def glnK (es : List (D × D)) : Option R := some (rInt (es.length : Nat))
@[simp] def glnK0 (d : D) : Option R := bd (ndOf d) glnK
@[simp] theorem r_gLenN (x : R) : gLenN [x] = bd x.er glnK0 := bd_of fun a => bd_om fun b => rfl
@[simp] def gliNK (es : List (D × D)) : Option R := if es.length ≤ 16000000 then some (.val (.fl (es.map (·.1)))) else none
@[simp] def gliNK0 (d : D) : Option R := bd (ndOf d) gliNK
@[simp] theorem sn_val (t : T) : R.sn (.val t) = t.fz := rfl
@[simp] theorem sn_vwl (d : D) : R.sn (.vw (.leaf d)) = some d := rfl
@[simp] theorem sn_vwn (es : List (NK × D)) : R.sn (.vw (.dn es)) = T.fz (.dn es) := rfl
@[simp] theorem r_gListN (x : R) : gListN [x] = bd x.sn gliNK0 := bd_of fun a => bd_of fun b => rfl
/-- walks -/
@[simp] def inkK (τ : Tau) (es : List (D × D)) : Option (List D × Tau) := if es.length ≤ 16000000 then some (es.map (·.1), τ) else none
@[simp] def inkK1 (τ : Tau) (d : D) : Option (List D × Tau) := bd (lkOf d) (inkK τ)
@[simp] def inkK0 : R × Tau → Option (List D × Tau)
  | (r, τ) => bd r.st (inkK1 τ)
@[simp] theorem r_iNk (m : MV) (ro : Ro) (τ : Tau) : iNk m ro τ = bd (m ro τ) inkK0 := bd_of fun a => bd_of fun b => bd_of fun c => rfl
@[simp] def fzNK (i : Nat) (fz : Fz) (τ : Tau) : Option T → Option SS
  | some (.dn es) => some ⟨fset fz i (some (.dict ((.none, .bool true) :: ndD es))), tdel τ i⟩
  | _ => some ⟨fz, τ⟩
@[simp] theorem r_mFzN (i : Nat) (fz : Fz) (τ : Tau) : mFzN i ⟨fz, τ⟩ = fzNK i fz τ (tget τ i) := by
  unfold mFzN
  show (match tget τ i with
    | some (.dn es) => _
    | _ => _) = _
  cases tget τ i with
  | none => rfl
  | some t => cases t <;> rfl
@[simp] theorem nd_nil : ndD [] = [] := rfl
@[simp] theorem nd_cons (p : NK × D) (es : List (NK × D)) : ndD (p :: es) = (p.1.data, p.2) :: ndD es := rfl
end Tl

namespace Tl
open PySem PySem.Spec PyProof.Rows L2
section
variable {X : Cx} {pos : Pos}
/-- {k: v} -/
def mDisp1N (mk mv : MV) : MV := fun ro τ => (mk ro τ).bind fun p => p.1.st.bind fun kd => (mv ro p.2).bind fun q => q.1.st.bind fun d => (keyN kd).map fun k => (.val (.dn [(k, d)]), q.2)
@[simp] def d1nK4 (τ : Tau) (d : D) (k : NK) : Option (R × Tau) := some (.val (.dn [(k, d)]), τ)
@[simp] def d1nK3 (kd : D) (τ : Tau) (d : D) : Option (R × Tau) := bd (keyN kd) (d1nK4 τ d)
@[simp] def d1nK2 (kd : D) : R × Tau → Option (R × Tau)
  | (r, τ) => bd r.st (d1nK3 kd τ)
@[simp] def d1nK1 (mv : MV) (ro : Ro) (τ : Tau) (kd : D) : Option (R × Tau) := bd (mv ro τ) (d1nK2 kd)
@[simp] def d1nK0 (mv : MV) (ro : Ro) : R × Tau → Option (R × Tau)
  | (r, τ) => bd r.st (d1nK1 mv ro τ)
@[simp] theorem r_mDisp1N (mk mv : MV) (ro : Ro) (τ : Tau) : mDisp1N mk mv ro τ = bd (mk ro τ) (d1nK0 mv ro) := bd_of fun a => bd_of fun b => bd_of fun c => bd_of fun d => bd_om fun e => rfl
end
end Tl

namespace Tl
open PySem PySem.Spec PyProof.Rows L2
def rngS : List Int → Option (List D)
  | [i, j, c] => if c = 2 ∧ (-8000000 ≤ i ∧ i ≤ 8000000) ∧ -8000000 ≤ j ∧ j ≤ 8000000 then some (rangeD i c ((j - i + 1) / 2).toNat) else none
  | _ => none
def iRngS (l : ML) : MI := fun ro τ => (l ro τ).bind fun p => (asInts p.1).bind fun ns => (rngS ns).map fun ds => (ds, p.2)
section
variable {X : Cx} {tg : Expr} {p pos : Pos}
end
@[simp] def rgSK3 (τ : Tau) (ds : List D) : Option (List D × Tau) := some (ds, τ)
@[simp] def rgSK2 (τ : Tau) (ns : List Int) : Option (List D × Tau) := bd (rngS ns) (rgSK3 τ)
@[simp] def rgSK : List R × Tau → Option (List D × Tau)
  | (rs, τ) => bd (asInts rs) (rgSK2 τ)
@[simp] theorem r_iRngS (l : ML) (ro : Ro) (τ : Tau) : iRngS l ro τ = bd (l ro τ) rgSK := bd_of fun a => bd_of fun b => bd_om fun c => rfl
@[simp] theorem rngS3 (i j c : Int) : rngS [i, j, c] = if c = 2 ∧ (-8000000 ≤ i ∧ i ≤ 8000000) ∧ -8000000 ≤ j ∧ j ≤ 8000000 then some (rangeD i c ((j - i + 1) / 2).toNat) else none := rfl
end Tl

namespace L2
open PySem PySem.Spec PyProof.Rows
section
variable {X : Cx}
end
end L2
namespace Tl
open PySem PySem.Spec PyProof.Rows L2
def pCount : List D → Option D
  | [.list ds, d] => if SeqAt.shaped (.list ds) = true ∧ SeqAt.shaped d = true ∧ PyData.plainAll ds = true ∧ d.plain = true ∧ PyData.depthAll ds ≤ 60 then some (.int ((ds.countP fun z => PyData.eqv z d : Nat) : Int)) else none
  | _ => none
@[simp] theorem p_count (ds : List D) (d : D) : pCount [.list ds, d] = if SeqAt.shaped (.list ds) = true ∧ SeqAt.shaped d = true ∧ PyData.plainAll ds = true ∧ d.plain = true ∧ PyData.depthAll ds ≤ 60 then some (.int ((ds.countP fun z => PyData.eqv z d : Nat) : Int)) else none := rfl
end Tl

namespace Tl
open PySem PySem.Spec PyProof.Rows L2
def andI (a b : Int) : Int := ((a.toNat &&& b.toNat : Nat) : Int)
def orI (a b : Int) : Int := ((a.toNat ||| b.toNat : Nat) : Int)
@[simp] theorem andI_nat (a b : Nat) : andI (a : Int) (b : Int) = ((a &&& b : Nat) : Int) := rfl
@[simp] theorem orI_nat (a b : Nat) : orI (a : Int) (b : Int) = ((a ||| b : Nat) : Int) := rfl
end Tl

namespace Tl
open PySem PySem.Spec PyProof.Rows L2
section
variable {X : L2.Cx} {K : PySem.W.Frag} {F F' B H : Hp}
def gIxT : List R → Option R
  | [.val (.tup ts), .val (.leaf (.int i))] => (atI ts i).map .val
  | rs => gIx rs
theorem vr_ixT : VR K (two (rIx K)) gIxT := by
  intro rs z e F B H vs A Q c o k
  have old : gIx rs = some z → two (rIx K) vs H Q := fun e' => vr_ix rs z e' F B H vs A Q c o k
  unfold gIxT at e
  split at e
  · rename_i ts i
    obtain ⟨t, e1, e2⟩ := Option.map_eq_some_iff.mp e
    subst e2
    cases o with
    | cons o1 o2 =>
      cases o2 with
      | cons o2 o3 =>
        cases o3
        rename_i v A1 w A2 
        have o1' : Own K F H v (.tup ts) A1 := o1
        have o2' : Own K F H w (.leaf (.int i)) A2 := o2
        cases o2' with
        | leaf ri =>
          cases o1' with
          | tup h3 h4 h5 =>
            rename_i a xs
            obtain ⟨j, f1, f2⟩ := Option.bind_eq_some_iff.mp (show (ixN ts.length i).bind (fun j => ts[j]?) = some t from e1)
            obtain ⟨u, B1, C1, g1, g2, g3, _⟩ := OwnL.split h5 f2
            have e3 : L2.atI xs i = some u := by
              show (ixN xs.length i).bind (fun j => xs[j]?) = some u
              rw [OwnL.length h5, f1]
              exact g1
            have c' : Cn F B H A1 := by simpa using c
            have sb : ∀ b ∈ B1, b ∈ A1 := fun b m => g3.mem_iff.mpr (List.mem_append_left _ m)
            have nd : B1.Nodup := (List.nodup_append.mp (g3.nodup_iff.mp c'.nd)).1
            refine ⟨_, _, rfl, .inr (.inl ⟨_, _, i, u, rfl, ri.toInt, sameT c'.fh h3, e3, k F H u B1 (Go.less fun b m => by simp [sb b m]) (c'.sub nd sb) g2⟩)⟩
  · exact old e
end
@[simp] theorem r_gIxT (ts : List T) (i : Int) : gIxT [.val (.tup ts), .val (.leaf (.int i))] = (atI ts i).map .val := rfl
end Tl

namespace Tl
open PySem PySem.Spec PyProof.Rows L2
section
variable {X : Cx} {Pr : List Nat} {st1 st2 : Stmt} {sts : List Stmt} {c o1 o2 ev rows ix : Expr} {pos pos2 : Pos} {x1 x2 y : Nat} {mc : MB} {mp1 mp2 : MP} {me mi : MV}
/-- the store by the second name: the tree u of slot x stands behind glass, its part at the place is is the value of slot y -/
def mAlSt (x : Nat) (u : T) (is : List Int) (w : T) (me mi : MV) : MS := fun s => (me ⟨s.fz, [(x, u)]⟩ s.ow).bind fun p => p.1.st.bind fun d => (mi ⟨s.fz, [(x, u)]⟩ p.2).bind fun r => (asI r.1).bind fun i =>
  (gPut i w [d]).bind fun z => (setP u is z.2).map fun u' => .nx ⟨s.fz, tset r.2 x u'⟩
/-- y = a[..] if c else b[..] : then what follows -/
def mAls (mc : MB) (x1 : Nat) (mp1 : MP) (x2 : Nat) (mp2 : MP) (y : Nat) (k : Nat → T → List Int → T → MS) : MS := fun s => (mc ⟨s.fz, []⟩ s.ow).bind fun p => if p.1 = true then
    (tget p.2 x1).bind fun u => (mp1 u ⟨s.fz, [(x1, u)]⟩ (tset p.2 x1 .hole)).bind fun q => k x1 u q.1.1 q.1.2 ⟨fset s.fz y none, tdel q.2 y⟩
  else (tget p.2 x2).bind fun u => (mp2 u ⟨s.fz, [(x2, u)]⟩ (tset p.2 x2 .hole)).bind fun q => k x2 u q.1.1 q.1.2 ⟨fset s.fz y none, tdel q.2 y⟩
/-- .. the slot must be there -/
def mAl2 (y : Nat) (m : MS) : MS := fun s => if y < s.fz.length then m s else none
/-- the second name let go -/
def mAlNo (x : Nat) (u : T) : MS := fun s => some (.nx ⟨s.fz, tset s.ow x u⟩)
/-- y = a[..] if c else b[..]; if d: y[k] = e -/
def mAlIf (mt : MB) (x : Nat) (u : T) (is : List Int) (w : T) (me mi : MV) : MS := fun s => (mt ⟨s.fz, [(x, u)]⟩ s.ow).bind fun p => if p.1 = true then mAlSt x u is w me mi ⟨s.fz, p.2⟩ else mAlNo x u ⟨s.fz, p.2⟩
end
abbrev AlK := Nat → T → List Int → T → MS
@[simp] def alK0 (m : MS) (s : SS) : Bool → Option Out
  | true => m s
  | false => none
@[simp] theorem r_mAl2 (y : Nat) (m : MS) (fz : Fz) (τ : Tau) : mAl2 y m ⟨fz, τ⟩ = alK0 m ⟨fz, τ⟩ (decide (y < fz.length)) := by
  unfold mAl2
  by_cases q : y < fz.length
  · simp [q]
  · simp [q]
@[simp] def alsK4 (x y : Nat) (k : AlK) (fz : Fz) (u : T) : (List Int × T) × Tau → Option Out
  | ((is, w), τ) => k x u is w ⟨fset fz y none, tdel τ y⟩
@[simp] def alsK3 (x : Nat) (mp : MP) (y : Nat) (k : AlK) (fz : Fz) (τ : Tau) (u : T) : Option Out := bd (mp u ⟨fz, [(x, u)]⟩ (tset τ x .hole)) (alsK4 x y k fz u)
@[simp] def alsK2 (x1 : Nat) (mp1 : MP) (x2 : Nat) (mp2 : MP) (y : Nat) (k : AlK) (fz : Fz) (τ : Tau) : Bool → Option Out
  | true => bd (tget τ x1) (alsK3 x1 mp1 y k fz τ)
  | false => bd (tget τ x2) (alsK3 x2 mp2 y k fz τ)
@[simp] def alsK (x1 : Nat) (mp1 : MP) (x2 : Nat) (mp2 : MP) (y : Nat) (k : AlK) (fz : Fz) : Bool × Tau → Option Out
  | (b, τ) => alsK2 x1 mp1 x2 mp2 y k fz τ b
@[simp] theorem r_mAls (mc : MB) (x1 : Nat) (mp1 : MP) (x2 : Nat) (mp2 : MP) (y : Nat) (k : AlK) (fz : Fz) (τ : Tau) : mAls mc x1 mp1 x2 mp2 y k ⟨fz, τ⟩ = bd (mc ⟨fz, []⟩ τ) (alsK x1 mp1 x2 mp2 y k fz) := bd_of fun a => by
  obtain ⟨b, τ'⟩ := a
  cases b with
  | true =>
    rw [if_pos rfl]
    exact bd_of fun u => bd_of fun q => rfl
  | false =>
    rw [if_neg Bool.false_ne_true]
    exact bd_of fun u => bd_of fun q => rfl
@[simp] def asK5 (x : Nat) (u : T) (is : List Int) (w : T) (fz : Fz) (d : D) (τ : Tau) (i : Int) : Option Out := bd (gPut i w [d]) (spK7 x fz u is τ)
@[simp] def asK4 (x : Nat) (u : T) (is : List Int) (w : T) (fz : Fz) (d : D) : R × Tau → Option Out
  | (r, τ) => bd (asI r) (asK5 x u is w fz d τ)
@[simp] def asK3 (x : Nat) (u : T) (is : List Int) (w : T) (mi : MV) (fz : Fz) (τ : Tau) (d : D) : Option Out := bd (mi ⟨fz, [(x, u)]⟩ τ) (asK4 x u is w fz d)
@[simp] def asK2 (x : Nat) (u : T) (is : List Int) (w : T) (mi : MV) (fz : Fz) : R × Tau → Option Out
  | (r, τ) => bd r.st (asK3 x u is w mi fz τ)
@[simp] theorem r_mAlSt (x : Nat) (u : T) (is : List Int) (w : T) (me mi : MV) (fz : Fz) (τ : Tau) : mAlSt x u is w me mi ⟨fz, τ⟩ = bd (me ⟨fz, [(x, u)]⟩ τ) (asK2 x u is w mi fz) :=
  bd_of fun a => bd_of fun b => bd_of fun c => bd_of fun d => bd_of fun e => bd_om fun f => rfl
@[simp] theorem r_mAlNo (x : Nat) (u : T) (fz : Fz) (τ : Tau) : mAlNo x u ⟨fz, τ⟩ = some (.nx ⟨fz, tset τ x u⟩) := rfl
@[simp] def aiK2 (x : Nat) (u : T) (is : List Int) (w : T) (me mi : MV) (fz : Fz) (τ : Tau) : Bool → Option Out
  | true => mAlSt x u is w me mi ⟨fz, τ⟩
  | false => mAlNo x u ⟨fz, τ⟩
@[simp] def aiK (x : Nat) (u : T) (is : List Int) (w : T) (me mi : MV) (fz : Fz) : Bool × Tau → Option Out
  | (b, τ) => aiK2 x u is w me mi fz τ b
@[simp] theorem r_mAlIf (mt : MB) (x : Nat) (u : T) (is : List Int) (w : T) (me mi : MV) (fz : Fz) (τ : Tau) : mAlIf mt x u is w me mi ⟨fz, τ⟩ = bd (mt ⟨fz, [(x, u)]⟩ τ) (aiK x u is w me mi fz) := bd_of fun a => by
  obtain ⟨b, τ'⟩ := a
  cases b with
  | true => rfl
  | false => rfl
end Tl

namespace Tl
open PySem PySem.Spec PyProof.Rows L2
def mForT (y x : Nat) (ml mh : MO) (body : MS) : MS := fun s => (tget s.ow y).bind fun u => (ml ⟨s.fz, [(y, u)]⟩ (tset s.ow y .hole)).bind fun p => (mh ⟨s.fz, [(y, u)]⟩ p.2).bind fun q => match u, p.1, q.1 with
  | .tup (t0 :: ts), some 1, none => (forOL x body ts.length 0 ts ⟨s.fz, q.2⟩).bind fun r => endO y (.tup (t0 :: r.1)) r.2
  | _, _, _ => none
section
variable {X : Cx} {Pr : List Nat}
end
@[simp] def ftK4 (y : Nat) (t0 : T) : List T × Out → Option Out
  | (ts, o2) => endO y (.tup (t0 :: ts)) o2
@[simp] theorem r_mForT (y x : Nat) (ml mh : MO) (body : MS) (fz : Fz) (τ : Tau) : mForT y x ml mh body ⟨fz, τ⟩ = bd (tget τ y) fun u => bd (ml ⟨fz, [(y, u)]⟩ (tset τ y .hole)) fun p => bd (mh ⟨fz, [(y, u)]⟩ p.2) fun q => match u, p.1, q.1 with
  | .tup (t0 :: ts), some 1, none => bd (forOL x body ts.length 0 ts ⟨fz, q.2⟩) (ftK4 y t0)
  | _, _, _ => none := rfl
end Tl

namespace Tl
open PySem PySem.Spec PyProof.Rows L2
section
variable {K : PySem.W.Frag}
abbrev MIV := Ro → Tau → Option (List T × Tau)
structure VSrc (K : PySem.W.Frag) (F B : Hp) (J : It) (xs : List V) (ts : List T) : Prop where
  small : xs.length ≤ sizeLine
  own : ∃ A, OwnL K F B xs ts A
  go : ∀ F1 H1 : Hp, Same F F1 → Same F1 H1 → Same B H1 → ∀ i v, xs[i]? = some v → J.go i H1
  yld : ∀ F1 H1 : Hp, Same F F1 → Same F1 H1 → Same B H1 → ∀ i x H2, J.yld i H1 x H2 → H2 = H1 ∧ xs[i]? = some x
  stop : ∀ F1 H1 : Hp, Same F F1 → Same F1 H1 → Same B H1 → ∀ i, xs.length ≤ i → J.stop i H1
structure IVV (K : PySem.W.Frag) (t : TI) (m : MIV) : Prop where
  run : ∀ (ro : Ro) (τ : Tau) (ts : List T) (τ' : Tau), m ro τ = some (ts, τ') → ∀ (F B H : Hp) (σ : L2.St) (A : List Addr) (Rr : It → Hp → Prop), At K F B H σ ro τ A →
    (∀ (F' H' : Hp) (A2 : List Addr) (J : It) (xs : List V), Go F H A F' H' A2 → Cn F' B H' A2 → TauOk K F' H' σ τ' A2 → VSrc K F' B J xs ts → Rr J H') → t σ H Rr
def lcLoopV (x : Nat) (vs : List Nat) (me : MV) (fw : Fz) (vw : Tau) : List T → List D → Tau → Option (List D × Tau)
  | [], acc, τ => some (acc, τ)
  | t :: ts, acc, τ => (me ⟨fw, (x, t) :: vw⟩ τ).bind fun q => q.1.st.bind fun y => lcLoopV x vs me fw vw ts (acc ++ [y]) (tout vs q.2)
def mLcV (x : Nat) (vs : List Nat) (mi : MIV) (me : MV) : MV := fun ro τ => (mi ro τ).bind fun p => if x < ro.fz.length then (lcLoopV x vs me (fwipe ro.fz vs) (tout vs ro.vw) p.1 [] (tout vs p.2)).map fun q => (.val (.fl q.1), q.2) else none
theorem OwnL.at {F H : Hp} : ∀ {xs : List V} {ts : List T} {A : List Addr} {i : Nat} {v : V} {t : T}, OwnL K F H xs ts A → xs[i]? = some v → ts[i]? = some t → ∃ B, Own K F H v t B
  | _, _, _, i, v, t, .nil, e, _ => by cases e
  | _, _, _, 0, v, t, .cons o _, e, e' => by
    cases e
    cases e'
    exact ⟨_, o⟩
  | _, _, _, i + 1, v, t, .cons _ l, e, e' => OwnL.at l e e'
theorem lc_evV {wi : TI} {g : TG} {te : TE} {x : Nat} {vs : List Nat} {mi : MIV} {me : MV} (hi : IVV K wi mi) (hg : ∀ {v : V} {σ : L2.St} {H : Hp} {Q : L2.St → Hp → Prop}, gName x v σ H Q → g v σ H Q) (hx : x ∈ vs) (he : EV K te me) :
    EV K (tLc wi g tYes te vs) (mLcV x vs mi me) := ⟨fun ro τ r τ' em F B H σ A Q a k => by
  obtain ⟨⟨ts, τ1⟩, e1, em⟩ := Option.bind_eq_some_iff.mp em
  by_cases q0 : x < ro.fz.length
  · rw [if_pos q0] at em
    obtain ⟨⟨out, τ2⟩, e2, em⟩ := Option.map_eq_some_iff.mp em
    cases em
    refine hi.run ro τ ts τ1 e1 F B H σ A _ a fun F1 H1 A1 J vals g1 c1 t1 src => ?_
    intro p hp
    have ro1 := a.ro.mono g1.ff
    obtain ⟨Aw, owl⟩ := src.own
    have len : vals.length = ts.length := OwnL.length owl
    refine ⟨fun i m Hc => m = ts.length - i ∧ i ≤ ts.length ∧ ∃ (Fc : Hp) (τc : Tau) (acc : List D) (xs : List V) (Ac : List Addr), lcLoopV x vs me (fwipe ro.fz vs) (tout vs ro.vw) (ts.drop i) acc τc = some (out, τ2) ∧
        LcAt K F1 B H1 A1 σ vs p τc acc i Fc Hc Ac xs, ⟨ts.length, ?_⟩, ?_⟩
    · obtain ⟨A0, t0, n0, s0⟩ := t1.out vs c1.nd
      have g0 : Go F1 H1 A1 F1 H1 A0 := Go.less s0
      obtain ⟨g2, c2⟩ := (c1.sub n0 s0).newO (o := .lst []) hp
      refine ⟨by omega, Nat.zero_le _, F1, _, [], [], A0, e2, ⟨g0.trans g2, c2, upd_same, .nil, t0.stay g2.ff fun b m o q => ?_, fun q m => (tout_sub m).2, Nat.le_refl _⟩⟩
      rw [upd_ne (ne_of_none q hp)]
      exact q
    · rintro i m Hc ⟨rfl, hi', Fc, τc, acc, xs, Ac, el, L⟩
      have s1c : Same F1 Fc := L.go.ff
      have cc := L.cn
      by_cases hlt : i < ts.length
      · refine .inr ?_
        have ev : vals[i]? = some vals[i] := List.getElem?_eq_getElem (by omega)
        have et : ts[i]? = some ts[i] := List.getElem?_eq_getElem hlt
        refine ⟨src.go Fc Hc s1c cc.fh cc.bh i _ ev, fun H' => ∃ (Fc : Hp) (τc : Tau) (acc : List D) (xs : List V) (Ac : List Addr), lcLoopV x vs me (fwipe ro.fz vs) (tout vs ro.vw) (ts.drop (i + 1)) acc τc = some (out, τ2) ∧
          LcAt K F1 B H1 A1 σ vs p τc acc (i + 1) Fc H' Ac xs, fun H' q => ⟨ts.length - (i + 1), by omega, rfl, hlt, q⟩, fun w H2 y => ?_⟩
        obtain ⟨rfl, ew⟩ := src.yld Fc Hc s1c cc.fh cc.bh i w H2 y
        obtain ⟨Ow, ow⟩ := OwnL.at owl ew et
        rw [List.drop_eq_getElem_cons hlt] at el
        have ro2 := ro1.mono s1c
        refine hg ?_
        show _ ∧ _
        have hlen : x < (wipe σ vs).length := by rw [wipe_length, ← a.ro.fz.1]; exact q0
        have off : ∀ j, j ≠ x → ((wipe σ vs).set x (some w))[j]? = (wipe σ vs)[j]? := fun j n => List.getElem?_set_ne fun z => n z.symm
        refine ⟨?_, ?_⟩
        · exact wipe_eq (by rw [List.length_set, wipe_length]) fun j n => off j fun z => n (by rw [z]; exact hx)
        · have offslot : ∀ j, j ∉ vs → ((wipe σ vs).set x (some w))[j]? = σ[j]? := fun j n => (off j fun z => n (by rw [z]; exact hx)).trans (wipe_out n)
          generalize hσ2 : (wipe σ vs).set x (some w) = σ2 at *
          have tc2 := L.tau
          have to2 : TauOk K Fc H2 σ2 τc Ac := tc2.move fun q m => offslot q.1 (L.out q m)
          have fz2 : FzOk K Fc σ2 (fwipe ro.fz vs) := by
            obtain ⟨l0, f0⟩ := ro2.fz.wipe vs
            refine ⟨by rw [← hσ2, List.length_set]; exact l0, fun j d h => ?_⟩
            have nj : j ≠ x := fun z => by
              subst z
              obtain ⟨v, hv, _⟩ := f0 j d h
              exact (wipe_some hv).2 hx
            rw [off j nj]
            exact f0 j d h
          have vw2 : VwOk K Fc B σ2 ((x, ts[i]) :: tout vs ro.vw) := fun q m => by
            rcases List.mem_cons.mp m with rfl | m
            · exact ⟨w, Ow, by rw [← hσ2, List.getElem?_set_self hlen], ow.stay s1c fun _ _ _ q => q⟩
            · exact VwOk.move (fun q m => ro2.vw q (tout_sub m).1) (fun q m => offslot q.1 (tout_sub m).2) q m
          have back : ∀ {τ : Tau} {F' H' : Hp} {A : List Addr}, TauOk K F' H' σ2 τ A → A.Nodup → ∃ A', TauOk K F' H' σ (tout vs τ) A' ∧ A'.Nodup ∧ ∀ a ∈ A', a ∈ A := fun t n => by
            obtain ⟨A', t', n', s'⟩ := t.out vs n
            exact ⟨A', t'.move fun q m => (offslot q.1 (tout_sub m).2).symm, n', s'⟩
          have keepin : ∀ {A A' : List Addr} {F H : Hp}, Cn F B H ([p] ++ A) → A'.Nodup → (∀ a ∈ A', a ∈ A) → Go F H ([p] ++ A) F H (p :: A') ∧ Cn F B H (p :: A') := fun {A A' F H} c n s => by
            have sub : ∀ b ∈ p :: A', b ∈ [p] ++ A := fun b m => (List.mem_cons.mp m).elim (fun z => z ▸ List.mem_cons_self) fun z => List.mem_cons_of_mem _ (s b z)
            exact ⟨Go.less sub, c.sub (List.nodup_cons.mpr ⟨fun z => (List.nodup_cons.mp c.nd).1 (s p z), n⟩) sub⟩
          unfold tYes
          dsimp only
          rw [if_pos rfl]
          obtain ⟨⟨z, τ4⟩, f3, el⟩ := Option.bind_eq_some_iff.mp (show (me ⟨fwipe ro.fz vs, (x, ts[i]) :: tout vs ro.vw⟩ τc).bind _ = some (out, τ2) from el)
          obtain ⟨yd, f4, el⟩ := Option.bind_eq_some_iff.mp el
          refine he.run ⟨fwipe ro.fz vs, (x, ts[i]) :: tout vs ro.vw⟩ τc z τ4 f3 Fc B H2 σ2 Ac _ ⟨Cn.right (A1 := [p]) cc, ⟨fz2, vw2⟩, to2⟩ fun F4 H4 u A4 A5 g4 c4 o4 t4 => ?_
          obtain ⟨g4', c4'⟩ := Go.framed (A1 := [p]) cc g4 c4
          have pn3 : p ∉ Ac := Cn.apart (A1 := [p]) cc p (List.mem_singleton.mpr rfl)
          have hp4 : H4 p = some (.lst xs) := g4.keep p _ pn3 L.at_
          obtain ⟨F5, g5, c5, s5, ry⟩ := o4.freeze c4 f4
          obtain ⟨g5', c5'⟩ := Go.framed (A1 := [p]) c4' g5 c5
          have t5 := t4.stay s5 fun _ _ _ q => q
          obtain ⟨A', t', n', s'⟩ := back t5 c5.nd
          obtain ⟨g6, c6⟩ := keepin c5' n' s'
          obtain ⟨g7, c7⟩ := c6.write (o := .lst (xs ++ [u])) (p := p) List.mem_cons_self
          refine ⟨xs, hp4, Nat.lt_of_le_of_lt L.len (Nat.lt_of_lt_of_le (by omega) src.small), F5, tout vs τ4, acc ++ [yd], xs ++ [u], A', el, ⟨((((L.go.trans g4').trans g5').trans g6).trans g7), c7, upd_same, ?_, t'.stay g7.ff fun b m o q => ?_, fun q m => (tout_sub m).2, ?_⟩⟩
          · exact ((L.rl.mono g4.ff).mono s5).append (.cons ry .nil)
          · have nb : b ≠ p := fun z => (List.nodup_cons.mp c6.nd).1 (by rw [← z]; exact m)
            rw [upd_ne nb]
            exact q
          · rw [List.length_append]
            exact Nat.succ_le_succ L.len
      · have e : i = ts.length := by omega
        subst e
        rw [List.drop_length] at el
        cases el
        refine .inl ⟨src.stop Fc Hc s1c cc.fh cc.bh _ (by omega), ?_⟩
        exact k Fc Hc (.ref p) [p] Ac (g1.trans L.go) cc (.fl L.at_ (Nat.le_trans L.len (by have := src.small; omega)) L.rl) L.tau
  · rw [if_neg q0] at em
    cases em⟩
end
section
variable {X : Cx} {scope : Scope} {elt tg iter : Expr} {own : List (Str × Nat)} {pos : Pos} {mi : MIV} {me : MV}
theorem ev_lcV {x : Nat} (hi : IVV X.K (wpI X tg iter) mi) (hg : ∀ (s : Shared) (H0 : Hp) (C : Addr) (cl : List (Str × Addr)) (fp : List Addr), PG (X.blk s H0 scope (compEnvC scope cl C X.env) fp) tg (gName x)) (hx : x ∈ own.map (·.2))
    (he : ∀ (s : Shared) (H0 : Hp) (C : Addr) (cl : List (Str × Addr)) (fp : List Addr), ER (X.blk s H0 scope (compEnvC scope cl C X.env) fp) elt me) : EV X.K (tLc0 X scope tg iter elt (own.map (·.2))) (mLcV x (own.map (·.2)) mi me) :=
  lc_evV hi (fun h s H0 C cl fp => wG (hg s H0 C cl fp) h) hx (bE_of he)
/-- y, an owned list of owned things -/
def iSeeV (y : Nat) : MIV := fun ro τ => (tget ro.vw y).bind fun u => match u with
  | .ls ts => some (ts, τ)
  | _ => none
theorem ivv_see {y : Nat} {o : Expr} (ho : PE X o (tVar y)) : IVV X.K (wpI X tg o) (iSeeV y) := ⟨fun ro τ ts τ' em F B H σ A Rr a k => by
  obtain ⟨u, e0, em⟩ := Option.bind_eq_some_iff.mp em
  match u, e0, em with
  | .ls ts0, e0, em =>
    cases em
    obtain ⟨v, A', hv, ow⟩ := a.ro.vw _ (tget_mem e0)
    cases ow with
    | @ls p xs _ A2 h z l =>
      refine wI (pi_list ho) ⟨.ref p, hv, p, rfl, ⟨xs, SqL.of (a.cn.bh _ _ h)⟩, ?_⟩
      refine k F H A (Itl X.K p) xs Go.refl a.cn a.tau ⟨z, ⟨_, l⟩, fun F1 H1 s1 s2 sb i v e => ⟨xs, v, SqL.of (sb _ _ h), e⟩, fun F1 H1 s1 s2 sb i x H2 y => ⟨y.1, y.2 xs (SqL.of (sb _ _ h))⟩, fun F1 H1 s1 s2 sb i l' => ⟨xs, SqL.of (sb _ _ h), l'⟩⟩⟩
/-- y[1:], y an owned tuple -/
def iCutV (y : Nat) (ml mh : MO) : MIV := fun ro τ => (tget ro.vw y).bind fun u => (ml ro τ).bind fun p => (mh ro p.2).bind fun q => match u, p.1, q.1 with
  | .tup (_ :: ts), some 1, none => some (ts, q.2)
  | _, _, _ => none
end
@[simp] theorem r_iSeeV (y : Nat) (ro : Ro) (τ : Tau) : iSeeV y ro τ = bd (tget ro.vw y) fun u => match u with
  | .ls ts => some (ts, τ)
  | _ => none := rfl
@[simp] theorem r_iCutV (y : Nat) (ml mh : MO) (ro : Ro) (τ : Tau) : iCutV y ml mh ro τ = bd (tget ro.vw y) fun u => bd (ml ro τ) fun p => bd (mh ro p.2) fun q => match u, p.1, q.1 with
  | .tup (_ :: ts), some 1, none => some (ts, q.2)
  | _, _, _ => none := rfl
@[simp] def lcvK2 : List D × Tau → Option (R × Tau)
  | (ds, τ) => some (.val (.fl ds), τ)
@[simp] theorem r_mLcV (x : Nat) (vs : List Nat) (mi : MIV) (me : MV) (fz : Fz) (vw τ : Tau) : mLcV x vs mi me ⟨fz, vw⟩ τ = bd (mi ⟨fz, vw⟩ τ) fun p => if x < fz.length then bd (lcLoopV x vs me (fwipe fz vs) (tout vs vw) p.1 [] (tout vs p.2)) lcvK2 else none := bd_of fun a => by
  by_cases q : x < fz.length
  · rw [if_pos q, if_pos q]
    cases lcLoopV x vs me (fwipe fz vs) (tout vs vw) a.1 [] (tout vs a.2) <;> rfl
  · rw [if_neg q, if_neg q]
end Tl

namespace Tl
open PySem PySem.Spec PyProof.Rows L2
/-- the class of a caught exception -/
def xcls : D → Option Str
  | .dict ((.none, .str c) :: _) => some c
  | _ => none
/-- what is asked of classes: (a class, another one, whether the first is the other one or below it) -/
abbrev Kin := List (Str × Str × Bool)
def kinB (R : Kin) (c c' : Str) : Option Bool := (R.find? fun p => decide (p.1 = c) && decide (p.2.1 = c')).map (·.2.2)
section
variable {K : PySem.W.Frag} {H : Hp}
end
section
variable {X : Cx} {e : Expr} {m : MV} {p pos cp tp : Pos} {kk : Nat} {c : Str} {R : Kin}
/-- isinstance(x, C), x a caught exception -/
def mIsx (R : Kin) (c : Str) (m : MV) : MV := fun ro τ => (m ro τ).bind fun q => q.1.er.bind fun d => (xcls d).bind fun c0 => (kinB R c0 c).map fun b => (rBool b, q.2)
/-- one of them -/
def anyIn (R : Kin) (c0 : Str) : List Str → Option Bool
  | [] => some false
  | c :: cs => (kinB R c0 c).bind fun b => if b = true then some true else anyIn R c0 cs
def mIsxT (R : Kin) (cs : List Str) (m : MV) : MV := fun ro τ => (m ro τ).bind fun q => q.1.er.bind fun d => (xcls d).bind fun c0 => (anyIn R c0 cs).map fun b => (rBool b, q.2)
/-- isinstance(x, ValueError) -/
def mIsxV (m : MV) : MV := fun ro τ => (m ro τ).bind fun q => q.1.er.bind fun d => (xcls d).map fun _ => (rBool true, q.2)
/-- x.f, x a caught exception -/
def xfld (f : Str) (cs : List Str) : D → Option D
  | .dict [(.none, .str c), (.str g, d)] => if g = f ∧ c ∈ cs then some d else none
  | _ => none
def mXf (f : Str) (cs : List Str) (m : MV) : MV := fun ro τ => (m ro τ).bind fun q => q.1.st.bind fun d => (xfld f cs d).map fun z => (rd z, q.2)
end
end Tl

namespace Tl
open PySem PySem.Spec PyProof.Rows L2
/-- how a piece ends that may raise -/
inductive OX where
  | o (o : Out)
  | xc (c : Str) (fs : List (Str × D)) (s : SS)
abbrev MSX := SS → Option OX
/-- an exception in the air: its class, its dict -/
def XcAt (K : PySem.W.Frag) (F : Hp) (c : Str) (fs : List (Str × D)) (cls : Value) (d : Option Addr) : Prop :=
  ∃ C, cls = .ref C ∧ XcC K C ∧ PySem.W.nsIn K mainGlobals c = some (some (.ref C)) ∧ ((fs = [] ∧ d = none) ∨ ∃ f x dx v, fs = [(f, x)] ∧ d = some dx ∧ F dx = some (.xd [(f, v)]) ∧ Rep K F v x)
theorem XcAt.mono {K : PySem.W.Frag} {F F' : Hp} {c : Str} {fs : List (Str × D)} {cls : Value} {d : Option Addr} (h : XcAt K F c fs cls d) (s : Same F F') : XcAt K F' c fs cls d := by
  obtain ⟨C, e, k, n, h⟩ := h
  refine ⟨C, e, k, n, ?_⟩
  rcases h with h | ⟨f, x, dx, v, h1, h2, h3, h4⟩
  · exact .inl h
  · exact .inr ⟨f, x, dx, v, h1, h2, s _ _ h3, h4.mono s⟩
def OXOk (K : PySem.W.Frag) (Pr : List Nat) (F H : Hp) (σ : L2.St) (A : List Addr) (D : Ends) (W : WX) : OX → Prop
  | .o o => OutOk K Pr F H σ A D o
  | .xc c fs s => ∀ (F' H' : Hp) (σ' : L2.St) (A' : List Addr) (cls : Value) (d : Option Addr), Go F H A F' H' A' → SAt K F' H' σ' s A' → Agree Pr σ σ' → XcAt K F' c fs cls d → W cls d σ' H'
theorem OXOk.behind {K : PySem.W.Frag} {Pr : List Nat} {F H F1 H1 : Hp} {σ σ1 : L2.St} {A A1 : List Addr} {D : Ends} {W : WX} {o : OX} (k : OXOk K Pr F H σ A D W o) (g : Go F H A F1 H1 A1) (e : Agree Pr σ σ1) : OXOk K Pr F1 H1 σ1 A1 D W o := by
  cases o with
  | o o => exact OutOk.behind k g e
  | xc c fs s => exact fun F' H' σ' A' cls d g' a e' x => k F' H' σ' A' cls d (g.trans g') a (fun i m => (e' i m).trans (e i m)) x
section
variable {X : Cx} {Pr : List Nat} {st : Stmt} {sts : List Stmt} {e : Expr} {pos : Pos} {i : Nat}
/-- a plain statement -/
def oX (m : MS) : MSX := fun s => (m s).map .o
def mSeqX (m n : MSX) : MSX := fun s => (m s).bind fun o => match o with
  | .o (.nx s') => n s'
  | .o o => some (.o o)
  | .xc c fs s' => some (.xc c fs s')
def mNxX : MSX := fun s => some (.o (.nx s))
def mIfX (c : MXB) (m n : MSX) : MSX := fun s => (c s).bind fun p => if p.1 = true then m p.2 else n p.2
def forLX (ws : List Nat) (mt : MG) (body : MSX) : List D → SS → Option OX
  | [], s => some (.o (.nx s))
  | d :: ds, s => (mt d s.fz).bind fun fz => (body ⟨fz, tout ws s.ow⟩).bind fun o => match o with
    | .o (.nx s1) => forLX ws mt body ds s1
    | .o (.ct s1) => forLX ws mt body ds s1
    | .o (.bk s1) => some (.o (.nx s1))
    | .o (.rt t s1) => some (.o (.rt t s1))
    | .xc c fs s1 => some (.xc c fs s1)
def mForX (ws : List Nat) (mi : MXI) (mt : MG) (body : MSX) : MSX := fun s => (mi s).bind fun p => forLX ws mt body p.1 p.2
end
end Tl

namespace Tl
open PySem PySem.Spec PyProof.Rows L2
/-- what a def tells: a result, or an exception; what its owned arguments are behind it -/
abbrev MFX := List T → Option ((T × List T) ⊕ (Str × List (Str × D) × List T))
def fnXK (ks : List Bool) (ts : List T) : OX → Option ((T × List T) ⊕ (Str × List (Str × D) × List T))
  | .o (.nx s) => (outT 0 ks ts s.ow).map fun ts' => .inl (.leaf .none, ts')
  | .o (.rt t s) => (outT 0 ks ts s.ow).map fun ts' => .inl (t, ts')
  | .xc c fs s => (outT 0 ks ts s.ow).map fun ts' => .inr (c, fs, ts')
  | _ => none
def mFnX (ks : List Bool) (n : Nat) (body : MSX) : MFX := fun ts => (inFz ks ts).bind fun fz => (body ⟨fz ++ List.replicate (n - ks.length) none, inTau 0 ks ts⟩).bind fun o => fnXK ks ts o
section
variable {P : Program} {w : World} {K : PySem.W.Frag} {mg : Str → Option Value} {base : Heap}
end
abbrev MVX := Ro → Tau → Option ((R × Tau) ⊕ (Str × List (Str × D) × Tau))
section
variable {X : Cx} {cx : CXT} {n : Nat} {f : Addr} {fd : FuncData} {ps : List Str} {sp : Sp} {E : L2.St → XK}
variable {x : Str} {p pos : Pos} {e : Expr} {es : List Expr} {t : TA}
end
def callXK (cs : List CArg) (τ2 : Tau) : (T × List T) ⊕ (Str × List (Str × D) × List T) → Option ((R × Tau) ⊕ (Str × List (Str × D) × Tau))
  | .inl (z, ts') => (backT cs ts' τ2).map fun τ3 => .inl (.val z, τ3)
  | .inr (c, fs, ts') => (backT cs ts' τ2).map fun τ3 => .inr (c, fs, τ3)
def mCallX (m : MFX) (l : MCA) : MVX := fun ro τ => (l ro τ).bind fun p => (buildT p.1 p.2).bind fun q => (m q.1).bind fun z => callXK p.1 q.2 z
section
variable {X : Cx} {e : Expr} {es : List Expr} {x : Str} {p pos : Pos} {k n : Nat} {m : MFX} {l : MCA}
end
end Tl

namespace Tl
open PySem PySem.Spec PyProof.Rows L2
abbrev ZX := (T × SS) ⊕ (Str × List (Str × D) × SS)
def mXVk (fz : Fz) : (R × Tau) ⊕ (Str × List (Str × D) × Tau) → Option ZX
  | .inl (.val x, τ) => some (.inl (x, ⟨fz, τ⟩))
  | .inl (.vw (.leaf d), τ) => some (.inl (.leaf d, ⟨fz, τ⟩))
  | .inl _ => none
  | .inr (c, fs, τ) => some (.inr (c, fs, ⟨fz, τ⟩))
def mXV (m : MVX) : SS → Option ZX := fun s => (m ⟨s.fz, []⟩ s.ow).bind (mXVk s.fz)
section
variable {X : Cx} {Pr : List Nat} {st : Stmt} {e : Expr} {pos : Pos} {i : Nat} {m : MVX} {W : WX}
def mDoX (m : MVX) : MSX := fun s => (mXV m s).map fun z => match z with
  | .inl (_, s') => .o (.nx s')
  | .inr (c, fs, s') => .xc c fs s'
def mRetX (m : MVX) : MSX := fun s => (mXV m s).map fun z => match z with
  | .inl (x, s') => .o (.rt x s')
  | .inr (c, fs, s') => .xc c fs s'
def mSetX (i : Nat) (m : MVX) : MSX := fun s => (mXV m s).bind fun z => match z with
  | .inl (x, s') => x.fz.map fun d => .o (.nx ⟨fset s'.fz i (some d), tdel s'.ow i⟩)
  | .inr (c, fs, s') => some (.xc c fs s')
end
section
variable {X : Cx} {x n : Str} {c : Value} {i j : Nat} {body : List Stmt} {b₀ : Stmt} {np pos pos' : Pos}
end
def xcD (c : Str) (fs : List (Str × D)) : D := .dict ((.none, .str c) :: fs.map fun p => (.str p.1, p.2))
def mTryK (cs : List Str) (i j : Nat) (mb : MSX) : MS := fun s => (mb s).bind fun o => match o with
  | .o o => some o
  | .xc c fs s' => if c ∈ cs then some (.nx ⟨fset (fset s'.fz j (some (xcD c fs))) i none, tdel (tdel s'.ow j) i⟩) else none
theorem XcAt.rep {K : PySem.W.Frag} {F : Hp} {c : Str} {fs : List (Str × D)} {cls : Value} {d : Option Addr} {a C : Addr} (h : XcAt K F c fs cls d) (e : cls = .ref C) (na : F a = none) : Rep K (upd F a (xcO a C d)) (.ref a) (xcD c fs) := by
  obtain ⟨C', ec, k, n, h⟩ := h
  rw [ec] at e
  cases e
  have s : Same F (upd F a (xcO a C d)) := fun b u q => by
    rw [upd_ne fun z => by rw [z, na] at q; cases q]
    exact q
  rcases h with ⟨rfl, rfl⟩ | ⟨f, x, dx, v, rfl, rfl, h3, h4⟩
  · exact .xc upd_same k n
  · exact .xf upd_same k n (s _ _ h3) (h4.mono s)
section
variable {X : Cx} {Pr : List Nat} {x n : Str} {i j : Nat} {body : List Stmt} {b₀ : Stmt} {np pos pos' : Pos} {cs : List Str} {mb : MSX}
end
end Tl

namespace Tl
open PySem PySem.Spec PyProof.Rows L2
section
variable {X : Cx} {o e : Expr} {es : List Expr} {to te : TE} {ta : TA} {f b : Str} {p p' p1 p2 pos : Pos}
end
section
variable {P : Program} {w : World} {K : PySem.W.Frag} {mg : Str → Option Value} {base : Heap}
end
section
variable {X : Cx} {Pr : List Nat} {x m f : Str} {j k : Nat} {p p2 pos pos' : Pos} {e : Expr}
def mRz (x : Str) : MSX := fun s => some (.xc x [] s)
def mRi (x f : Str) (m : MX) : MSX := fun s => (m s).bind fun p => p.1.fz.map fun d => .xc x [(f, d)] p.2
end
end Tl

namespace Tl
open PySem PySem.Spec PyProof.Rows L2
def kb (c c' : Str) : Bool := c == c' || c' == "LaneError"
section
variable {K : PySem.W.Frag} {mg : Str → Option Value} {h : Heap}
end
end Tl

namespace Tl
open PySem PySem.Spec PyProof.Rows L2
@[simp] def oXK (o : Out) : Option OX := some (.o o)
@[simp] theorem r_oX (m : MS) (s : SS) : oX m s = bd (m s) oXK := bd_om fun a => rfl
@[simp] def seqXK (n : MSX) : OX → Option OX
  | .o (.nx s) => n s
  | .o (.rt t s) => some (.o (.rt t s))
  | .o (.bk s) => some (.o (.bk s))
  | .o (.ct s) => some (.o (.ct s))
  | .xc c fs s => some (.xc c fs s)
@[simp] theorem r_mSeqX (m n : MSX) (s : SS) : mSeqX m n s = bd (m s) (seqXK n) := bd_of fun o => by
  cases o with
  | xc c fs s => rfl
  | o o => cases o <;> rfl
@[simp] theorem r_mNxX (s : SS) : mNxX s = some (.o (.nx s)) := rfl
def ifXK (m n : MSX) : Bool × SS → Option OX
  | (true, s) => m s
  | (false, s) => n s
@[simp] theorem ifXK_t (m n : MSX) (s : SS) : ifXK m n (true, s) = m s := rfl
@[simp] theorem ifXK_f (m n : MSX) (s : SS) : ifXK m n (false, s) = n s := rfl
@[simp] theorem r_mIfX (c : MXB) (m n : MSX) (s : SS) : mIfX c m n s = bd (c s) (ifXK m n) := bd_of fun a => by
  obtain ⟨b, s⟩ := a
  cases b <;> rfl
@[simp] theorem r_mRz (x : Str) (s : SS) : mRz x s = some (.xc x [] s) := rfl
@[simp] def riK2 (x f : Str) (s : SS) (d : D) : Option OX := some (.xc x [(f, d)] s)
@[simp] def riK (x f : Str) : T × SS → Option OX
  | (t, s) => bd t.fz (riK2 x f s)
@[simp] theorem r_mRi (x f : Str) (m : MX) (s : SS) : mRi x f m s = bd (m s) (riK x f) := bd_of fun a => bd_om fun d => rfl
@[simp] theorem r_mXV (m : MVX) (fz : Fz) (τ : Tau) : mXV m ⟨fz, τ⟩ = bd (m ⟨fz, []⟩ τ) (mXVk fz) := rfl
@[simp] theorem mXVk_val (fz : Fz) (x : T) (τ : Tau) : mXVk fz (.inl (.val x, τ)) = some (.inl (x, ⟨fz, τ⟩)) := rfl
@[simp] theorem mXVk_xc (fz : Fz) (c : Str) (fs : List (Str × D)) (τ : Tau) : mXVk fz (.inr (c, fs, τ)) = some (.inr (c, fs, ⟨fz, τ⟩)) := rfl
@[simp] def doXK : ZX → Option OX
  | .inl (_, s') => some (.o (.nx s'))
  | .inr (c, fs, s') => some (.xc c fs s')
@[simp] theorem r_mDoX (m : MVX) (s : SS) : mDoX m s = bd (mXV m s) doXK := bd_om fun z => by
  match z with
  | .inl _ => rfl
  | .inr _ => rfl
@[simp] def retXK : ZX → Option OX
  | .inl (t, s') => some (.o (.rt t s'))
  | .inr (c, fs, s') => some (.xc c fs s')
@[simp] theorem r_mRetX (m : MVX) (s : SS) : mRetX m s = bd (mXV m s) retXK := bd_om fun z => by
  match z with
  | .inl _ => rfl
  | .inr _ => rfl
@[simp] def setXK2 (i : Nat) (s : SS) (d : D) : Option OX := some (.o (.nx ⟨fset s.fz i (some d), tdel s.ow i⟩))
@[simp] def setXK (i : Nat) : ZX → Option OX
  | .inl (t, s') => bd t.fz (setXK2 i s')
  | .inr (c, fs, s') => some (.xc c fs s')
@[simp] theorem r_mSetX (i : Nat) (m : MVX) (s : SS) : mSetX i m s = bd (mXV m s) (setXK i) := bd_of fun z => by
  match z with
  | .inl _ => exact bd_om fun d => rfl
  | .inr _ => rfl
@[simp] theorem forLX_nil (ws : List Nat) (mt : MG) (body : MSX) (s : SS) : forLX ws mt body [] s = some (.o (.nx s)) := rfl
@[simp] def forXK (ws : List Nat) (mt : MG) (body : MSX) : List D × SS → Option OX
  | (ds, s) => forLX ws mt body ds s
@[simp] theorem r_mForX (ws : List Nat) (mi : MXI) (mt : MG) (body : MSX) (s : SS) : mForX ws mi mt body s = bd (mi s) (forXK ws mt body) := bd_of fun a => rfl
@[simp] def tryKK (cs : List Str) (i j : Nat) : OX → Option Out
  | .o o => some o
  | .xc c fs s' => if c ∈ cs then some (.nx ⟨fset (fset s'.fz j (some (xcD c fs))) i none, tdel (tdel s'.ow j) i⟩) else none
@[simp] theorem r_mTryK (cs : List Str) (i j : Nat) (mb : MSX) (s : SS) : mTryK cs i j mb s = bd (mb s) (tryKK cs i j) := bd_of fun o => by cases o <;> rfl
@[simp] def callXK3 (z : T) (τ : Tau) : Option ((R × Tau) ⊕ (Str × List (Str × D) × Tau)) := some (.inl (.val z, τ))
@[simp] def callXK4 (c : Str) (fs : List (Str × D)) (τ : Tau) : Option ((R × Tau) ⊕ (Str × List (Str × D) × Tau)) := some (.inr (c, fs, τ))
@[simp] def callXK2 (cs : List CArg) (τ : Tau) : (T × List T) ⊕ (Str × List (Str × D) × List T) → Option ((R × Tau) ⊕ (Str × List (Str × D) × Tau))
  | .inl (z, ts) => bd (backT cs ts τ) (callXK3 z)
  | .inr (c, fs, ts) => bd (backT cs ts τ) (callXK4 c fs)
@[simp] def callXK1 (f : MFX) (cs : List CArg) : List T × Tau → Option ((R × Tau) ⊕ (Str × List (Str × D) × Tau))
  | (ts, τ) => bd (f ts) (callXK2 cs τ)
@[simp] def callXK0 (f : MFX) : List CArg × Tau → Option ((R × Tau) ⊕ (Str × List (Str × D) × Tau))
  | (cs, τ) => bd (buildT cs τ) (callXK1 f cs)
@[simp] theorem r_mCallX (f : MFX) (l : MCA) (ro : Ro) (τ : Tau) : mCallX f l ro τ = bd (l ro τ) (callXK0 f) := bd_of fun a => bd_of fun b => bd_of fun c => by
  match c with
  | .inl (z, ts) => exact bd_om fun d => rfl
  | .inr (c, fs, ts) => exact bd_om fun d => rfl
@[simp] def fnXK3 (t : T) (ts : List T) : Option ((T × List T) ⊕ (Str × List (Str × D) × List T)) := some (.inl (t, ts))
@[simp] def fnXK4 (c : Str) (fs : List (Str × D)) (ts : List T) : Option ((T × List T) ⊕ (Str × List (Str × D) × List T)) := some (.inr (c, fs, ts))
@[simp] def fnXK2 (ks : List Bool) (ts : List T) : OX → Option ((T × List T) ⊕ (Str × List (Str × D) × List T))
  | .o (.rt t s) => bd (outT 0 ks ts s.ow) (fnXK3 t)
  | .o (.nx s) => bd (outT 0 ks ts s.ow) (fnXK3 (.leaf .none))
  | .xc c fs s => bd (outT 0 ks ts s.ow) (fnXK4 c fs)
  | .o (.bk _) => none
  | .o (.ct _) => none
@[simp] def fnXK0 (ks : List Bool) (n : Nat) (body : MSX) (ts : List T) (fz : Fz) : Option ((T × List T) ⊕ (Str × List (Str × D) × List T)) := bd (body ⟨fz ++ List.replicate (n - ks.length) none, inTau 0 ks ts⟩) (fnXK2 ks ts)
@[simp] theorem r_mFnX (ks : List Bool) (n : Nat) (body : MSX) (ts : List T) : mFnX ks n body ts = bd (inFz ks ts) (fnXK0 ks n body ts) := bd_of fun fz => bd_of fun o => by
  cases o with
  | xc c fs s => exact bd_om fun a => rfl
  | o o =>
    cases o with
    | rt t s => exact bd_om fun a => rfl
    | nx s => exact bd_om fun a => rfl
    | bk s => rfl
    | ct s => rfl
@[simp] def isxK2 (kr : Kin) (c : Str) (τ : Tau) (c0 : Str) : Option (R × Tau) := (kinB kr c0 c).map fun b => (rBool b, τ)
@[simp] def isxK1 (kr : Kin) (c : Str) (τ : Tau) (d : D) : Option (R × Tau) := bd (xcls d) (isxK2 kr c τ)
@[simp] def isxK (kr : Kin) (c : Str) : R × Tau → Option (R × Tau)
  | (r, τ) => bd r.er (isxK1 kr c τ)
@[simp] theorem r_mIsx (kr : Kin) (c : Str) (m : MV) (ro : Ro) (τ : Tau) : mIsx kr c m ro τ = bd (m ro τ) (isxK kr c) := bd_of fun a => bd_of fun d => bd_of fun z => rfl
@[simp] def isxTK2 (kr : Kin) (cs : List Str) (τ : Tau) (c0 : Str) : Option (R × Tau) := (anyIn kr c0 cs).map fun b => (rBool b, τ)
@[simp] def isxTK1 (kr : Kin) (cs : List Str) (τ : Tau) (d : D) : Option (R × Tau) := bd (xcls d) (isxTK2 kr cs τ)
@[simp] def isxTK (kr : Kin) (cs : List Str) : R × Tau → Option (R × Tau)
  | (r, τ) => bd r.er (isxTK1 kr cs τ)
@[simp] theorem r_mIsxT (kr : Kin) (cs : List Str) (m : MV) (ro : Ro) (τ : Tau) : mIsxT kr cs m ro τ = bd (m ro τ) (isxTK kr cs) := bd_of fun a => bd_of fun d => bd_of fun z => rfl
@[simp] def isxVK2 (τ : Tau) (c0 : Str) : Option (R × Tau) := some (rBool true, τ)
@[simp] def isxVK1 (τ : Tau) (d : D) : Option (R × Tau) := bd (xcls d) (isxVK2 τ)
@[simp] def isxVK : R × Tau → Option (R × Tau)
  | (r, τ) => bd r.er (isxVK1 τ)
@[simp] theorem r_mIsxV (m : MV) (ro : Ro) (τ : Tau) : mIsxV m ro τ = bd (m ro τ) isxVK := bd_of fun a => bd_of fun d => bd_om fun z => rfl
@[simp] def xfK2 (τ : Tau) (d : D) : Option (R × Tau) := some (rd d, τ)
@[simp] def xfK1 (f : Str) (cs : List Str) (τ : Tau) (d : D) : Option (R × Tau) := bd (xfld f cs d) (xfK2 τ)
@[simp] def xfK (f : Str) (cs : List Str) : R × Tau → Option (R × Tau)
  | (r, τ) => bd r.st (xfK1 f cs τ)
@[simp] theorem r_mXf (f : Str) (cs : List Str) (m : MV) (ro : Ro) (τ : Tau) : mXf f cs m ro τ = bd (m ro τ) (xfK f cs) := bd_of fun a => bd_of fun d => bd_om fun z => rfl
@[simp] theorem xcls_xcD (c : Str) (fs : List (Str × D)) : xcls (xcD c fs) = some c := rfl
end Tl

namespace Tl
open PySem PySem.Spec PyProof.Rows L2
section
variable {α β : Type}
def fldL (f : Str) : List Str → List α → Option α
  | n :: ns, t :: ts => if n = f then some t else fldL f ns ts
  | _, _ => none
def setL (f : Str) (y : α) : List Str → List α → List α
  | n :: ns, t :: ts => if n = f then y :: ts else t :: setL f y ns ts
  | _, _ => [y]
def setNs (f : Str) : List Str → List Str
  | [] => [f]
  | n :: ns => if n = f then n :: ns else n :: setNs f ns
end
/-- what the walk asks of a class: its own attribute's name -/
structure ObF (K : PySem.W.Frag) (cn f : Str) : Prop where
  ok : ∀ C, PySem.W.nsIn K mainGlobals cn = some (some (.ref C)) → Cls K C ∧ NoAttr K C f
section
variable {K : PySem.W.Frag} {F F' H H' : Hp}
theorem OwnL.fld {f : Str} {t : T} : ∀ {ns : List Str} {vs : List V} {ts : List T} {A : List Addr}, OwnL K F H vs ts A → fldL f ns ts = some t → ∃ v A', fldL f ns vs = some v ∧ Own K F H v t A'
  | [], _, _, _, _, e => by cases e
  | n :: ns, _, _, _, .nil, e => by cases e
  | n :: ns, _, _, _, .cons (v := v) (vs := vs) (t := t0) (ts := ts) o r, e => by
    have e : (if n = f then some t0 else fldL f ns ts) = some t := e
    show ∃ w A', (if n = f then some v else fldL f ns vs) = some w ∧ Own K F H w t A'
    by_cases q : n = f
    · rw [if_pos q] at e ⊢
      cases e
      exact ⟨v, _, rfl, o⟩
    · rw [if_neg q] at e ⊢
      exact OwnL.fld r e
end
section
variable {X : Cx} {e o : Expr} {f cn : Str} {pos : Pos} {m : MV}
/-- an object as data: its fields -/
def obE (cn : Str) : D → Option (List (D × D))
  | .dict ((.none, .tuple [.str c]) :: es) => if c = cn then some es else none
  | _ => none
def fldE (f : Str) : List (D × D) → Option D
  | (.str n, d) :: es => if n = f then some d else fldE f es
  | _ => none
theorem RepL.fldE {K : PySem.W.Frag} {F : Hp} {f : Str} {d : D} : ∀ {ns : List Str} {vs : List V} {ds : List D}, RepL K F vs ds → Tl.fldE f (fldD ns ds) = some d → ∃ v, fldL f ns vs = some v ∧ Rep K F v d
  | [], _, _, _, e => by cases e
  | n :: ns, _, _, .nil, e => by cases e
  | n :: ns, _, _, .cons (v := v) (vs := vs) (d := d0) (ds := ds) r t, e => by
    have e : (if n = f then some d0 else Tl.fldE f (fldD ns ds)) = some d := e
    show ∃ w, (if n = f then some v else fldL f ns vs) = some w ∧ Rep K F w d
    by_cases q : n = f
    · rw [if_pos q] at e ⊢
      cases e
      exact ⟨v, rfl, r⟩
    · rw [if_neg q] at e ⊢
      exact RepL.fldE t e
/-- o.f, looked at -/
def gFldD (cn f : Str) (d : D) : Option R := (obE cn d).bind fun es => (fldE f es).map rd
def gFld (cn f : Str) : R → Option R
  | .vw (.ob c ns ts) => if c = cn then (fldL f ns ts).map .vw else none
  | .vw (.leaf d) => gFldD cn f d
  | .val (.leaf d) => gFldD cn f d
  | _ => none
def mFld (cn f : Str) (m : MV) : MV := fun ro τ => (m ro τ).bind fun p => (gFld cn f p.1).map fun r => (r, p.2)
/-- x.f = e -/
def asT : R → Option T
  | .val t => some t
  | .vw (.leaf d) => some (.leaf d)
  | .vw _ => none
def setOb (cn f : Str) (u : T) : T → Option T
  | .ob c ns ts => if c = cn ∧ ns.length < 900 then some (.ob c (setNs f ns) (setL f u ns ts)) else none
  | _ => none
def mSetF (x : Nat) (cn f : Str) (me : MV) : MS := fun s => (me ⟨s.fz, []⟩ s.ow).bind fun p => (asT p.1).bind fun u => (tget p.2 x).bind fun t => (setOb cn f u t).map fun t' => .nx ⟨s.fz, tset p.2 x t'⟩
end
end Tl

namespace Tl
open PySem PySem.Spec PyProof.Rows L2
section
variable {X : Cx} {e : Expr} {n : Nat} {m : MF} {l : MCA} {wp : L2.St → Hp → (List V → Hp → Prop) → Prop}
end
section
variable {X : Cx} {cx : CXT} {k : Nat} {C f : Addr} {fd : FuncData} {ps : List Str} {sp : Sp} {E : XK} {m : Str} {o e : Expr} {es : List Expr} {pos apos : Pos} {pl : Sem Bool}
end
/-- fields' names without a method's -/
def noF (m : Str) : List (D × D) → Bool
  | [] => true
  | (.str n, _) :: es => !decide (n = m) && noF m es
  | _ => false
section
variable {X : Cx} {C : Addr} {cn m : Str} {o : Expr} {es : List Expr} {mo : MV} {l : MCA} {i : Nat}
/-- an object that nothing changes any more, its method's arguments behind it -/
def cMe (cn m : Str) (mo : MV) (l : MCA) : MCA := fun ro τ => (mo ro τ).bind fun p => p.1.st.bind fun d => (obE cn d).bind fun es => if noF m es = true then (l ro p.2).map fun q => (.d d :: q.1, q.2) else none
/-- an object that is owned by a name -/
def isOb (cn m : Str) : T → Bool
  | .ob c ns _ => decide (c = cn) && !ns.contains m
  | _ => false
def cMeIo (cn m : Str) (i : Nat) (l : MCA) : MCA := fun ro τ => (tget τ i).bind fun t => if isOb cn m t = true then (l ro τ).map fun q => (.io i :: q.1, q.2) else none
end
section
variable {X : Cx} {k j n : Nat} {cn m b x : Str} {mf : MF} {o e : Expr} {es : List Expr} {mo : MV} {l : MCA} {i : Nat} {p p1 p2 pos apos : Pos} {pl : Sem Bool}
end
def mMk (cn : Str) (mf : MF) (l : MCA) : MV := fun ro τ => (l ro τ).bind fun p => (buildT p.1 p.2).bind fun q => (mf (.ob cn [] [] :: q.1)).bind fun r => match r with
  | (.leaf .none, o :: ts') => (backT p.1 ts' q.2).map fun τ' => (.val o, τ')
  | _ => none
section
variable {X : Cx} {cx : CXT} {k : Nat} {C f : Addr} {fd : FuncData} {ps : List Str} {sp : Sp} {E : XK} {x : Str} {e : Expr} {es : List Expr} {p pos : Pos}
theorem RmG.make {k : Nat} {A : Around} (r : RmG (k + 1) A) (C : Addr) (us : List Value) (kw : List (Str × Value)) : RmG k (A.under (.builtin "type.__call__" ⟨.ref C :: us, kw⟩)) := by
  refine ⟨r.rm.make C us kw, ?_⟩
  have g := r.gd
  have h : (Code.builtin "type.__call__" ⟨.ref C :: us, kw⟩).isGuard = false := by
    show guardIds.contains "type.__call__" = false
    decide +kernel
  have h2 : (Code.builtin "type.__call__" ⟨.ref C :: us, kw⟩).guards = [] := by simp [Code.guards, h]
  simp [Around.under, pushGuards, h2, g]
end
section
variable {X : Cx} {k j n : Nat} {x : Str} {mf : MF} {e : Expr} {es : List Expr} {l : MCA} {p pos : Pos}
end
section
variable {P : Program} {w : World} {K : PySem.W.Frag} {mg : Str → Option Value} {base : Heap}
/-- the class cn, and that no class of it has these names -/
structure ObK (K : PySem.W.Frag) (cn : Str) (fs : List Str) : Prop where
  ex : ∃ C, PySem.W.nsIn K mainGlobals cn = some (some (.ref C)) ∧ ObC K C ∧ ∀ f ∈ fs, NoAttr K C f
theorem ObK.fld {cn f : Str} {fs : List Str} (h : ObK K cn fs) (m : f ∈ fs := by decide) : ObF K cn f := ⟨fun C hC => by
  obtain ⟨C', h1, h2, h3⟩ := h.ex
  rw [h1] at hC
  injection hC with hC
  injection hC with hC
  injection hC with hC
  subst hC
  exact ⟨h2.cl, h3 f m⟩⟩
/-- .. as the class's __init__ -/
def In (K : PySem.W.Frag) (mg : Str → Option Value) (cn qual : Str) (st : Stmt) (ps : List Str) : Prop := ∃ (C f : Addr) (fd : FuncData), mg cn = some (.ref C) ∧ PySem.W.nsIn K mainGlobals cn = some (some (.ref C)) ∧ Mk K C f ∧ Fun K "__init__" qual st f fd ∧ Binds K fd ps []
section
variable {cn b m qual : Str} {st : Stmt} {N ps fs : List Str} {k : Nat} {mb : MS}
end
end
end Tl

namespace Tl
open PySem PySem.Spec PyProof.Rows L2
theorem toNat_inj {x y : Char} (h : x.toNat = y.toNat) : x = y := by
  have : x.val.toNat = y.val.toNat := h
  exact Char.ext (UInt32.toNat_inj.mp this)
@[simp] theorem ofs_inj (a b : String) : (Str.ofString a = Str.ofString b) = (a = b) := by
  refine propext ⟨fun h => ?_, fun h => by rw [h]⟩
  rw [Str.ofString_eq_toList, Str.ofString_eq_toList] at h
  injection h with h
  have := congrArg Array.toList h
  have := (List.map_inj_right (fun x y => toNat_inj)).mp this
  exact String.toList_inj.mp this
@[simp] def fldK1 (τ : Tau) (r : R) : Option (R × Tau) := some (r, τ)
@[simp] def fldK (cn f : Str) : R × Tau → Option (R × Tau)
  | (r, τ) => bd (gFld cn f r) (fldK1 τ)
@[simp] theorem r_mFld (cn f : Str) (m : MV) (ro : Ro) (τ : Tau) : mFld cn f m ro τ = bd (m ro τ) (fldK cn f) := bd_of fun a => bd_om fun b => rfl
@[simp] def gFldK (f : Str) (es : List (D × D)) : Option R := bd (fldE f es) fun d => some (rd d)
@[simp] theorem r_gFldD (cn f : Str) (d : D) : gFldD cn f d = bd (obE cn d) (gFldK f) := bd_of fun a => bd_om fun b => rfl
@[simp] theorem r_gFld1 (cn f : Str) (d : D) : gFld cn f (.val (.leaf d)) = gFldD cn f d := rfl
@[simp] theorem r_gFld2 (cn f : Str) (d : D) : gFld cn f (.vw (.leaf d)) = gFldD cn f d := rfl
@[simp] theorem r_gFld3 (cn f c : Str) (ns : List Str) (ts : List T) : gFld cn f (.vw (.ob c ns ts)) = if c = cn then bd (fldL f ns ts) (fun t => some (.vw t)) else none := by
  show (if c = cn then (fldL f ns ts).map R.vw else none) = _
  by_cases q : c = cn
  · rw [if_pos q, if_pos q]
    exact bd_om fun a => rfl
  · rw [if_neg q, if_neg q]
@[simp] theorem obE_ob (cn c : Str) (es : List (D × D)) : obE cn (.dict ((.none, .tuple [.str c]) :: es)) = if c = cn then some es else none := rfl
@[simp] theorem fldE_c (f n : Str) (d : D) (es : List (D × D)) : fldE f ((.str n, d) :: es) = if n = f then some d else fldE f es := rfl
@[simp] theorem fldL_c {α : Type} (f n : Str) (t : α) (ns : List Str) (ts : List α) : fldL f (n :: ns) (t :: ts) = if n = f then some t else fldL f ns ts := rfl
@[simp] theorem setL_c {α : Type} (f n : Str) (y t : α) (ns : List Str) (ts : List α) : setL f y (n :: ns) (t :: ts) = if n = f then y :: ts else t :: setL f y ns ts := rfl
@[simp] theorem setL_n {α : Type} (f : Str) (y : α) (ts : List α) : setL f y [] ts = [y] := by cases ts <;> rfl
@[simp] theorem setNs_c (f n : Str) (ns : List Str) : setNs f (n :: ns) = if n = f then n :: ns else n :: setNs f ns := rfl
@[simp] theorem setNs_n (f : Str) : setNs f [] = [f] := rfl
@[simp] theorem fldD_n (ds : List D) : fldD [] ds = [] := rfl
@[simp] theorem fldD_c (n : Str) (ns : List Str) (d : D) (ds : List D) : fldD (n :: ns) (d :: ds) = (.str n, d) :: fldD ns ds := rfl
@[simp] theorem noF_n (m : Str) : noF m [] = true := rfl
@[simp] theorem noF_c (m n : Str) (d : D) (es : List (D × D)) : noF m ((.str n, d) :: es) = (!decide (n = m) && noF m es) := rfl
@[simp] theorem hole_ob (c : Str) (ns : List Str) (ts : List T) : isHole (.ob c ns ts) = false := rfl
@[simp] theorem asT_v (t : T) : asT (.val t) = some t := rfl
@[simp] theorem asT_w (d : D) : asT (.vw (.leaf d)) = some (.leaf d) := rfl
@[simp] theorem setOb_ob (cn f c : Str) (u : T) (ns : List Str) (ts : List T) : setOb cn f u (.ob c ns ts) = if c = cn ∧ ns.length < 900 then some (.ob c (setNs f ns) (setL f u ns ts)) else none := rfl
@[simp] theorem isOb_ob (cn m c : Str) (ns : List Str) (ts : List T) : isOb cn m (.ob c ns ts) = (decide (c = cn) && !ns.contains m) := rfl
@[simp] def fzObK (cn : Str) (ns : List Str) (ds : List D) : Option D := some (.dict ((.none, .tuple [.str cn]) :: fldD ns ds))
@[simp] theorem fz_ob (cn : Str) (ns : List Str) (ts : List T) : T.fz (.ob cn ns ts) = bd (T.fzL ts) (fzObK cn ns) := by
  show (T.fzL ts).map _ = _
  exact bd_om fun a => rfl
@[simp] def meK3 (d : D) (l : MCA) (ro : Ro) (τ : Tau) (m : Str) (es : List (D × D)) : Option (List CArg × Tau) := if noF m es = true then bd (l ro τ) (caK3 (.d d)) else none
@[simp] def meK2 (cn m : Str) (l : MCA) (ro : Ro) (τ : Tau) (d : D) : Option (List CArg × Tau) := bd (obE cn d) (meK3 d l ro τ m)
@[simp] def meK (cn m : Str) (l : MCA) (ro : Ro) : R × Tau → Option (List CArg × Tau)
  | (r, τ) => bd r.st (meK2 cn m l ro τ)
@[simp] theorem r_cMe (cn m : Str) (mo : MV) (l : MCA) (ro : Ro) (τ : Tau) : cMe cn m mo l ro τ = bd (mo ro τ) (meK cn m l ro) := bd_of fun a => bd_of fun b => bd_of fun c => by
  show (if noF m c = true then (l ro a.2).map _ else none) = (if noF m c = true then bd (l ro a.2) (caK3 (.d b)) else none)
  by_cases q : noF m c = true
  · rw [if_pos q, if_pos q]
    exact bd_om fun a => rfl
  · rw [if_neg q, if_neg q]
@[simp] def meIK (cn m : Str) (i : Nat) (l : MCA) (ro : Ro) (τ : Tau) (t : T) : Option (List CArg × Tau) := if isOb cn m t = true then bd (l ro τ) (caK3 (.io i)) else none
@[simp] theorem r_cMeIo (cn m : Str) (i : Nat) (l : MCA) (ro : Ro) (τ : Tau) : cMeIo cn m i l ro τ = bd (tget τ i) (meIK cn m i l ro τ) := bd_of fun a => by
  show (if isOb cn m a = true then (l ro τ).map _ else none) = (if isOb cn m a = true then bd (l ro τ) (caK3 (.io i)) else none)
  by_cases q : isOb cn m a = true
  · rw [if_pos q, if_pos q]
    exact bd_om fun a => rfl
  · rw [if_neg q, if_neg q]
@[simp] def mkK3 (o : T) (τ : Tau) : Option (R × Tau) := some (.val o, τ)
@[simp] def mkK2 (cs : List CArg) (τ : Tau) : T × List T → Option (R × Tau)
  | (.leaf .none, o :: ts') => bd (backT cs ts' τ) (mkK3 o)
  | _ => none
@[simp] def mkK1 (cn : Str) (f : MF) (cs : List CArg) : List T × Tau → Option (R × Tau)
  | (ts, τ) => bd (f (.ob cn [] [] :: ts)) (mkK2 cs τ)
@[simp] def mkK0 (cn : Str) (f : MF) : List CArg × Tau → Option (R × Tau)
  | (cs, τ) => bd (buildT cs τ) (mkK1 cn f cs)
@[simp] theorem r_mMk (cn : Str) (f : MF) (l : MCA) (ro : Ro) (τ : Tau) : mMk cn f l ro τ = bd (l ro τ) (mkK0 cn f) := bd_of fun a => bd_of fun b => bd_of fun c => by
  obtain ⟨z, ts⟩ := c
  cases z with
  | leaf d =>
    cases d with
    | none =>
      cases ts with
      | nil => rfl
      | cons o ts' => exact bd_om fun d => rfl
    | _ => rfl
  | _ => rfl
@[simp] def setFK3 (fz : Fz) (x : Nat) (τ : Tau) (t' : T) : Option Out := some (.nx ⟨fz, tset τ x t'⟩)
@[simp] def setFK2 (fz : Fz) (x : Nat) (cn f : Str) (τ : Tau) (u : T) (t : T) : Option Out := bd (setOb cn f u t) (setFK3 fz x τ)
@[simp] def setFK1 (fz : Fz) (x : Nat) (cn f : Str) (τ : Tau) (u : T) : Option Out := bd (tget τ x) (setFK2 fz x cn f τ u)
@[simp] def setFK (fz : Fz) (x : Nat) (cn f : Str) : R × Tau → Option Out
  | (r, τ) => bd (asT r) (setFK1 fz x cn f τ)
@[simp] theorem r_mSetF (x : Nat) (cn f : Str) (me : MV) (s : SS) : mSetF x cn f me s = bd (me ⟨s.fz, []⟩ s.ow) (setFK s.fz x cn f) := bd_of fun a => bd_of fun b => bd_of fun c => bd_om fun d => rfl
end Tl
namespace Tl
open PySem PySem.Spec PyProof.Rows L2
/-- what is kept as data -/
def mKp (m : MV) : MV := fun ro τ => (m ro τ).bind fun p => p.1.st.map fun d => (rd d, p.2)
@[simp] def kpK1 (τ : Tau) (d : D) : Option (R × Tau) := some (rd d, τ)
@[simp] def kpK : R × Tau → Option (R × Tau)
  | (r, τ) => bd r.st (kpK1 τ)
@[simp] theorem r_mKp (m : MV) (ro : Ro) (τ : Tau) : mKp m ro τ = bd (m ro τ) kpK := bd_of fun a => bd_om fun b => rfl
end Tl

namespace Tl
open PySem PySem.Spec PyProof.Rows L2
def dkNm (ro : Ro) (τ : Tau) (i : Nat) : Option (List (D × D)) := match tget τ i with
  | some (.dk es) => some (dkD es)
  | some _ => none
  | none => (fget ro.fz i).bind fun d => match d with
    | .dict es => if okDK es = true then some es else none
    | _ => none
def keyE : D → Option Key
  | .int i => some (.inl i)
  | .str x => some (.inr x)
  | _ => none
def scalE (d : D) : Option R := if isScal (.leaf d) = true then some (rd d) else none
def getE (c : D) (es : List (D × D)) (k : Key) : Option R := match valE es k with
  | some d => scalE d
  | none => some (rd c)
def mDGetC (i j : Nat) (c : D) : MV := fun ro τ => (dkNm ro τ i).bind fun es => (fget ro.fz j).bind fun d => (keyE d).bind fun k => (getE c es k).map fun r => (r, τ)
section
variable {X : Cx} {K : PySem.W.Frag} {F B H : Hp} {σ : L2.St} {A : List Addr} {ro : Ro} {τ : Tau}
end
@[simp] def dgcK3 (τ : Tau) (r : R) : Option (R × Tau) := some (r, τ)
@[simp] def dgcK2 (c : D) (es : List (D × D)) (τ : Tau) (k : Key) : Option (R × Tau) := bd (getE c es k) (dgcK3 τ)
@[simp] def dgcK1 (c : D) (es : List (D × D)) (τ : Tau) (d : D) : Option (R × Tau) := bd (keyE d) (dgcK2 c es τ)
@[simp] def dgcK (j : Nat) (c : D) (fz : Fz) (τ : Tau) (es : List (D × D)) : Option (R × Tau) := bd (fget fz j) (dgcK1 c es τ)
@[simp] theorem r_mDGetC (i j : Nat) (c : D) (ro : Ro) (τ : Tau) : mDGetC i j c ro τ = bd (dkNm ro τ i) (dgcK j c ro.fz τ) := bd_of fun a => bd_of fun b => bd_of fun d => bd_om fun e => rfl
@[simp] theorem keyE_i (i : Int) : keyE (.int i) = some (.inl i) := rfl
@[simp] theorem keyE_s (i : Str) : keyE (.str i) = some (.inr i) := rfl
end Tl
namespace Tl
open PySem PySem.Spec PyProof.Rows L2
section
variable {X : Cx} {a b : Expr} {rest : List Expr} {pos : Pos} {ta tb : TE}
def mOrV (m n : MV) : MV := fun ro τ => (m ro τ).bind fun p => p.1.er.bind fun d => (truD d).bind fun c => if c = true then some (p.1, p.2) else n ro p.2
end
@[simp] def orVK3 (r : R) (τ : Tau) (n : MV) (ro : Ro) (c : Bool) : Option (R × Tau) := if c = true then some (r, τ) else n ro τ
@[simp] def orVK2 (r : R) (τ : Tau) (n : MV) (ro : Ro) (d : D) : Option (R × Tau) := bd (truD d) (orVK3 r τ n ro)
@[simp] def orVK (n : MV) (ro : Ro) : R × Tau → Option (R × Tau)
  | (r, τ) => bd r.er (orVK2 r τ n ro)
@[simp] theorem r_mOrV (m n : MV) (ro : Ro) (τ : Tau) : mOrV m n ro τ = bd (m ro τ) (orVK n ro) := bd_of fun a => bd_of fun b => bd_of fun c => rfl
end Tl

namespace Tl
open PySem PySem.Spec PyProof.Rows L2
def outF : List Nat → Fz → Fz
  | [], f => f
  | w :: ws, f => outF ws (fset f w none)
def pkB (ws ps : List Nat) (n m : Nat) : Bool := decide (m = n) && (List.range n).all fun j => ws.contains j || ps.contains j
/-- i looked at; ws: the slots that may change; ps: those that don't -/
def mPeek (ws ps : List Nat) (i : Nat) (m : MS) : MS := fun s => (tget s.ow i).bind fun t => t.fz.bind fun d => (m ⟨fset s.fz i (some d), []⟩).bind fun o => match o with
  | .nx s' => if pkB ws ps s.fz.length s'.fz.length = true then some (.nx ⟨outF ws s.fz, tout ws s.ow⟩) else none
  | .rt t' s' => if pkB ws ps s.fz.length s'.fz.length = true ∧ isScal t' = true then some (.rt t' ⟨outF ws s.fz, tout ws s.ow⟩) else none
  | _ => none
section
variable {X : Cx} {Pr : List Nat} {st : Stmt}
end
@[simp] def pkK3 (ws ps : List Nat) (fz : Fz) (τ : Tau) : Out → Option Out
  | .nx s' => if pkB ws ps fz.length s'.fz.length = true then some (.nx ⟨outF ws fz, tout ws τ⟩) else none
  | .rt t' s' => if pkB ws ps fz.length s'.fz.length = true ∧ isScal t' = true then some (.rt t' ⟨outF ws fz, tout ws τ⟩) else none
  | .bk _ => none
  | .ct _ => none
@[simp] def pkK2 (ws ps : List Nat) (i : Nat) (m : MS) (fz : Fz) (τ : Tau) (d : D) : Option Out := bd (m ⟨fset fz i (some d), []⟩) (pkK3 ws ps fz τ)
@[simp] def pkK1 (ws ps : List Nat) (i : Nat) (m : MS) (fz : Fz) (τ : Tau) (t : T) : Option Out := bd t.fz (pkK2 ws ps i m fz τ)
@[simp] theorem r_mPeek (ws ps : List Nat) (i : Nat) (m : MS) (fz : Fz) (τ : Tau) : mPeek ws ps i m ⟨fz, τ⟩ = bd (tget τ i) (pkK1 ws ps i m fz τ) := bd_of fun a => bd_of fun b => bd_of fun o => by
  cases o <;> rfl
@[simp] theorem outF_nil (f : Fz) : outF [] f = f := rfl
@[simp] theorem outF_cons (w : Nat) (ws : List Nat) (f : Fz) : outF (w :: ws) f = outF ws (fset f w none) := rfl
end Tl

namespace Tl
open PySem PySem.Spec PyProof.Rows L2
def lexLt (ns ms : List Int) : Bool := Ob.lexAt (fun j => decide (ns.getD j 0 = ms.getD j 0)) (fun j => decide (ns.getD j 0 < ms.getD j 0)) (decide (ns.length < ms.length)) 0 (min ns.length ms.length)
def lexLe (ns ms : List Int) : Bool := Ob.lexAt (fun j => decide (ns.getD j 0 = ms.getD j 0)) (fun j => decide (ns.getD j 0 ≤ ms.getD j 0)) (decide (ns.length ≤ ms.length)) 0 (min ns.length ms.length)
def pTlt : List D → Option D
  | [.tuple ds, .tuple es] => (intsD ds).bind fun ns => (intsD es).map fun ms => .bool (lexLt ns ms)
  | _ => none
def pTle : List D → Option D
  | [.tuple ds, .tuple es] => (intsD ds).bind fun ns => (intsD es).map fun ms => .bool (lexLe ns ms)
  | _ => none
@[simp] def tltK2 (ns ms : List Int) : Option D := some (.bool (lexLt ns ms))
@[simp] def tltK (es : List D) (ns : List Int) : Option D := bd (intsD es) (tltK2 ns)
@[simp] theorem r_pTlt (ds es : List D) : pTlt [.tuple ds, .tuple es] = bd (intsD ds) (tltK es) := bd_of fun a => bd_om fun b => rfl
@[simp] def tleK2 (ns ms : List Int) : Option D := some (.bool (lexLe ns ms))
@[simp] def tleK (es : List D) (ns : List Int) : Option D := bd (intsD es) (tleK2 ns)
@[simp] theorem r_pTle (ds es : List D) : pTle [.tuple ds, .tuple es] = bd (intsD ds) (tleK es) := bd_of fun a => bd_om fun b => rfl
end Tl

namespace Tl
open PySem PySem.Spec PyProof.Rows L2
def lstLe (ns ms : List Int) : Bool := SeqAt.firstLt (fun j => decide (ns.getD j 0 = ms.getD j 0)) (fun j => decide (ns.getD j 0 ≤ ms.getD j 0)) (decide (ns.length ≤ ms.length)) (List.range (min ns.length ms.length))
def pLle : List D → Option D
  | [.list ds, .list es] => (intsD ds).bind fun ns => (intsD es).map fun ms => .bool (lstLe ns ms)
  | _ => none
@[simp] def lleK2 (ns ms : List Int) : Option D := some (.bool (lstLe ns ms))
@[simp] def lleK (es : List D) (ns : List Int) : Option D := bd (intsD es) (lleK2 ns)
@[simp] theorem r_pLle (ds es : List D) : pLle [.list ds, .list es] = bd (intsD ds) (lleK es) := bd_of fun a => bd_om fun b => rfl
end Tl

namespace Tl
open PySem PySem.Spec PyProof.Rows L2
inductive Stp where
  | ix (i : Int)
  | fl (cn f : Str)
section
variable {K : PySem.W.Frag} {F F' B B' H H' F1 H1 : Hp} {σ : L2.St} {A A' A1 A2 : List Addr} {i : Nat} {ro : Ro} {τ τ' : Tau}
def T.fld (cn f : Str) : T → Option T
  | .ob c ns ts => if c = cn then fldL f ns ts else none
  | _ => none
def T.putF : T → Str → T → Option T
  | .ob c ns ts, f, u => some (.ob c ns (setL f u ns ts))
  | _, _, _ => none
def setQ : T → List Stp → T → Option T
  | _, [], u => some u
  | t, .ix i :: is, u => t.kids.bind fun ts => (ixN ts.length i).bind fun j => (ts[j]?).bind fun w => (setQ w is u).bind fun w' => t.put j w'
  | t, .fl cn f :: is, u => (t.fld cn f).bind fun w => (setQ w is u).bind fun w' => t.putF f w'
/-- the value at the way's end -/
def wayQ (K : PySem.W.Frag) (F H : Hp) : V → List Stp → V → Prop
  | v, [], w => v = w
  | v, .ix i :: is, w => ∃ (p : Addr) (xs : List V) (y : V), v = .ref p ∧ (H p = some (.lst xs) ∨ SqT K F p xs) ∧ L2.atI xs i = some y ∧ wayQ K F H y is w
  | v, .fl cn f :: is, w => ∃ (p C dx : Addr) (fs : List (Str × V)) (y : V), v = .ref p ∧ H p = some (.ins C dx fs) ∧ PySem.W.nsIn K mainGlobals cn = some (some (.ref C)) ∧ fs.lookup f = some y ∧ wayQ K F H y is w
theorem wayQ.snoc : ∀ {is : List Stp} {v w : V} {j : Int}, wayQ K F H v (is ++ [.ix j]) w → ∃ x p xs, wayQ K F H v is x ∧ x = .ref p ∧ (H p = some (.lst xs) ∨ SqT K F p xs) ∧ L2.atI xs j = some w
  | [], v, w, j, ⟨p, xs, y, e, q, e2, h⟩ => by
    have h' : y = w := h
    subst h'
    exact ⟨v, p, xs, rfl, e, q, e2⟩
  | .ix i :: is, v, w, j, ⟨p, xs, y, e, q, e2, h⟩ => by
    obtain ⟨x, p', xs', h1, h2, h3, h4⟩ := wayQ.snoc h
    exact ⟨x, p', xs', ⟨p, xs, y, e, q, e2, h1⟩, h2, h3, h4⟩
  | .fl cn f :: is, v, w, j, ⟨p, C, dx, fs, y, e, q, q2, e2, h⟩ => by
    obtain ⟨x, p', xs', h1, h2, h3, h4⟩ := wayQ.snoc h
    exact ⟨x, p', xs', ⟨p, C, dx, fs, y, e, q, q2, e2, h1⟩, h2, h3, h4⟩
end
abbrev MQ := T → Ro → Tau → Option ((List Stp × T) × Tau)
def qHere : MQ := fun u _ τ => some (([], u), τ)
def qAt (mb : MQ) (mi : MV) : MQ := fun u ro τ => (mb u ro τ).bind fun p => (mi ro p.2).bind fun q => (asI q.1).bind fun i => p.1.2.kids.bind fun ts => (L2.atI ts i).map fun w => ((p.1.1 ++ [.ix i], w), q.2)
def qFl (cn f : Str) (mb : MQ) : MQ := fun u ro τ => (mb u ro τ).bind fun p => (p.1.2.fld cn f).map fun w => ((p.1.1 ++ [.fl cn f], w), p.2)
section
variable {X : Cx} {K : PySem.W.Frag} {F F' B B' H H' F1 H1 : Hp} {σ : L2.St} {A A' A1 A2 : List Addr} {i : Nat} {ro : Ro} {τ τ' : Tau} {pos : Pos}
theorem wayQ.mono {K : PySem.W.Frag} {F F' B : Hp} (g : Same F F') : ∀ {is : List Stp} {v w : V}, wayQ K F B v is w → wayQ K F' B v is w
  | [], _, _, h => h
  | .ix i :: is, v, w, ⟨p, xs, y, e, h, k, r⟩ => ⟨p, xs, y, e, h.imp id (fun z => sameT g z), k, wayQ.mono g r⟩
  | .fl cn f :: is, v, w, ⟨p, C, dx, fs, y, e, h, k, l, r⟩ => ⟨p, C, dx, fs, y, e, h, k, l, wayQ.mono g r⟩
/-- [a, b][e], a and b places of the one thing -/
def qSel (m1 m2 : MQ) (mi : MV) : MQ := fun u ro τ => (m1 u ro τ).bind fun p => (m2 u ro p.2).bind fun q => (mi ro q.2).bind fun r => (asI r.1).bind fun i => (L2.atI [p.1, q.1] i).map fun z => (z, r.2)
def mMutQ (x : Nat) (mp : MQ) (g : T → List D → Option (D × T)) (l : ML) : MV := fun ro τ => (tget τ x).bind fun u => (mp u ⟨ro.fz, (x, u) :: ro.vw⟩ (tset τ x .hole)).bind fun p => if isLs p.1.2 = true then
  (l ⟨ro.fz, (x, u) :: ro.vw⟩ p.2).bind fun q => (stL q.1).bind fun ds => (g p.1.2 ds).bind fun r => (setQ u p.1.1 r.2).map fun u' => (rd r.1, tset q.2 x u') else none
/-- what is at a place, taken out -/
def mTkQ (x : Nat) (mp : MQ) : MV := fun ro τ => (tget τ x).bind fun u => (mp u ⟨ro.fz, (x, u) :: ro.vw⟩ (tset τ x .hole)).bind fun p => (setQ u p.1.1 .hole).map fun u' => (.val p.1.2, tset p.2 x u')
def mSetQ (x : Nat) (mp : MQ) (me mi : MV) : MS := fun s => (me ⟨s.fz, []⟩ s.ow).bind fun p => p.1.st.bind fun d => (tget p.2 x).bind fun u => (mp u ⟨s.fz, [(x, u)]⟩ (tset p.2 x .hole)).bind fun q => (mi ⟨s.fz, [(x, u)]⟩ q.2).bind fun r => (asI r.1).bind fun i =>
  (gPut i q.1.2 [d]).bind fun w => (setQ u q.1.1 w.2).map fun u' => .nx ⟨s.fz, tset r.2 x u'⟩
end
end Tl

namespace Tl
open PySem PySem.Spec PyProof.Rows L2
@[simp] theorem kids_ob (c : Str) (ns : List Str) (ts : List T) : T.kids (.ob c ns ts) = none := rfl
@[simp] theorem fld_ob (cn f c : Str) (ns : List Str) (ts : List T) : T.fld cn f (.ob c ns ts) = if c = cn then fldL f ns ts else none := rfl
@[simp] theorem putF_ob (f c : Str) (ns : List Str) (ts : List T) (u : T) : T.putF (.ob c ns ts) f u = some (.ob c ns (setL f u ns ts)) := rfl
@[simp] theorem setQ_nil (t u : T) : setQ t [] u = some u := rfl
@[simp] def setQK3 (t : T) (j : Nat) (w : T) : Option T := t.put j w
@[simp] def setQK2 (t : T) (is : List Stp) (u : T) (j : Nat) (w : T) : Option T := bd (setQ w is u) (setQK3 t j)
@[simp] def setQK1 (t : T) (is : List Stp) (u : T) (ts : List T) (j : Nat) : Option T := bd (ts[j]?) (setQK2 t is u j)
@[simp] def setQK (t : T) (i : Int) (is : List Stp) (u : T) (ts : List T) : Option T := bd (ixN ts.length i) (setQK1 t is u ts)
@[simp] theorem setQ_ix (t : T) (i : Int) (is : List Stp) (u : T) : setQ t (.ix i :: is) u = bd t.kids (setQK t i is u) := by
  show t.kids.bind _ = _
  exact bd_of fun ts => bd_of fun j => bd_of fun w => bd_of fun w' => rfl
@[simp] def setQF2 (t : T) (f : Str) (w : T) : Option T := t.putF f w
@[simp] def setQF1 (t : T) (f : Str) (is : List Stp) (u : T) (w : T) : Option T := bd (setQ w is u) (setQF2 t f)
@[simp] theorem setQ_fl (t : T) (cn f : Str) (is : List Stp) (u : T) : setQ t (.fl cn f :: is) u = bd (t.fld cn f) (setQF1 t f is u) := by
  show (t.fld cn f).bind _ = _
  exact bd_of fun w => bd_of fun w' => rfl
@[simp] theorem r_qHere (u : T) (ro : Ro) (τ : Tau) : qHere u ro τ = some (([], u), τ) := rfl
@[simp] def qAtK4 (is : List Stp) (i : Int) (τ : Tau) (w : T) : Option ((List Stp × T) × Tau) := some ((is ++ [.ix i], w), τ)
@[simp] def qAtK3 (is : List Stp) (i : Int) (τ : Tau) (ts : List T) : Option ((List Stp × T) × Tau) := bd (L2.atI ts i) (qAtK4 is i τ)
@[simp] def qAtK2 (is : List Stp) (w : T) (τ : Tau) (i : Int) : Option ((List Stp × T) × Tau) := bd w.kids (qAtK3 is i τ)
@[simp] def qAtK1 (is : List Stp) (w : T) : R × Tau → Option ((List Stp × T) × Tau)
  | (r, τ) => bd (asI r) (qAtK2 is w τ)
@[simp] def qAtK (mi : MV) (ro : Ro) : (List Stp × T) × Tau → Option ((List Stp × T) × Tau)
  | ((is, w), τ) => bd (mi ro τ) (qAtK1 is w)
@[simp] theorem r_qAt (mb : MQ) (mi : MV) (u : T) (ro : Ro) (τ : Tau) : qAt mb mi u ro τ = bd (mb u ro τ) (qAtK mi ro) := bd_of fun a => bd_of fun b => bd_of fun c => bd_of fun d => bd_om fun e => rfl
@[simp] def qFlK1 (is : List Stp) (cn f : Str) (τ : Tau) (w : T) : Option ((List Stp × T) × Tau) := some ((is ++ [.fl cn f], w), τ)
@[simp] def qFlK (cn f : Str) : (List Stp × T) × Tau → Option ((List Stp × T) × Tau)
  | ((is, w), τ) => bd (w.fld cn f) (qFlK1 is cn f τ)
@[simp] theorem r_qFl (cn f : Str) (mb : MQ) (u : T) (ro : Ro) (τ : Tau) : qFl cn f mb u ro τ = bd (mb u ro τ) (qFlK cn f) := bd_of fun a => bd_om fun b => rfl
@[simp] def qSelK3 (p q : List Stp × T) (τ : Tau) (i : Int) : Option ((List Stp × T) × Tau) := bd (L2.atI [p, q] i) fun z => some (z, τ)
@[simp] def qSelK2 (p q : List Stp × T) : R × Tau → Option ((List Stp × T) × Tau)
  | (r, τ) => bd (asI r) (qSelK3 p q τ)
@[simp] def qSelK1 (mi : MV) (ro : Ro) (p : List Stp × T) : (List Stp × T) × Tau → Option ((List Stp × T) × Tau)
  | (q, τ) => bd (mi ro τ) (qSelK2 p q)
@[simp] def qSelK (m2 : MQ) (mi : MV) (u : T) (ro : Ro) : (List Stp × T) × Tau → Option ((List Stp × T) × Tau)
  | (p, τ) => bd (m2 u ro τ) (qSelK1 mi ro p)
@[simp] theorem r_qSel (m1 m2 : MQ) (mi : MV) (u : T) (ro : Ro) (τ : Tau) : qSel m1 m2 mi u ro τ = bd (m1 u ro τ) (qSelK m2 mi u ro) := bd_of fun a => bd_of fun b => bd_of fun c => bd_of fun d => bd_om fun e => rfl
@[simp] def mqK5 (x : Nat) (z : D) (τ : Tau) (u : T) : Option (R × Tau) := some (rd z, tset τ x u)
@[simp] def mqK4 (x : Nat) (u : T) (is : List Stp) (τ : Tau) : D × T → Option (R × Tau)
  | (z, w) => bd (setQ u is w) (mqK5 x z τ)
@[simp] def mqK3 (x : Nat) (g : T → List D → Option (D × T)) (u : T) (is : List Stp) (w : T) (τ : Tau) (ds : List D) : Option (R × Tau) := bd (g w ds) (mqK4 x u is τ)
@[simp] def mqK2 (x : Nat) (g : T → List D → Option (D × T)) (u : T) (is : List Stp) (w : T) : List R × Tau → Option (R × Tau)
  | (rs, τ) => bd (stL rs) (mqK3 x g u is w τ)
@[simp] def mqK1 (x : Nat) (g : T → List D → Option (D × T)) (l : ML) (fz : Fz) (vw : Tau) (u : T) (is : List Stp) (w : T) (τ : Tau) : Bool → Option (R × Tau)
  | true => bd (l ⟨fz, (x, u) :: vw⟩ τ) (mqK2 x g u is w)
  | false => none
@[simp] def mqK0 (x : Nat) (g : T → List D → Option (D × T)) (l : ML) (fz : Fz) (vw : Tau) (u : T) : (List Stp × T) × Tau → Option (R × Tau)
  | ((is, w), τ) => mqK1 x g l fz vw u is w τ (isLs w)
@[simp] def mqK (x : Nat) (mp : MQ) (g : T → List D → Option (D × T)) (l : ML) (fz : Fz) (vw : Tau) (τ : Tau) (u : T) : Option (R × Tau) := bd (mp u ⟨fz, (x, u) :: vw⟩ (tset τ x .hole)) (mqK0 x g l fz vw u)
@[simp] theorem r_mMutQ (x : Nat) (mp : MQ) (g : T → List D → Option (D × T)) (l : ML) (fz : Fz) (vw : Tau) (τ : Tau) : mMutQ x mp g l ⟨fz, vw⟩ τ = bd (tget τ x) (mqK x mp g l fz vw τ) := bd_of fun u => bd_of fun a => by
  obtain ⟨⟨is, w⟩, τ'⟩ := a
  show _ = mqK1 x g l fz vw u is w τ' (isLs w)
  cases z : isLs w with
  | false => rw [if_neg Bool.false_ne_true]; rfl
  | true =>
    rw [if_pos rfl]
    exact bd_of fun a => bd_of fun b => bd_of fun c => bd_om fun d => rfl
@[simp] def tkQK2 (x : Nat) (w : T) (τ : Tau) (u : T) : Option (R × Tau) := some (.val w, tset τ x u)
@[simp] def tkQK1 (x : Nat) (u : T) : (List Stp × T) × Tau → Option (R × Tau)
  | ((is, w), τ) => bd (setQ u is .hole) (tkQK2 x w τ)
@[simp] def tkQK (x : Nat) (mp : MQ) (fz : Fz) (vw : Tau) (τ : Tau) (u : T) : Option (R × Tau) := bd (mp u ⟨fz, (x, u) :: vw⟩ (tset τ x .hole)) (tkQK1 x u)
@[simp] theorem r_mTkQ (x : Nat) (mp : MQ) (fz : Fz) (vw : Tau) (τ : Tau) : mTkQ x mp ⟨fz, vw⟩ τ = bd (tget τ x) (tkQK x mp fz vw τ) := bd_of fun u => bd_of fun a => bd_om fun b => rfl
@[simp] def sQfK8 (x : Nat) (fz : Fz) (τ : Tau) (u : T) : Option Out := some (.nx ⟨fz, tset τ x u⟩)
@[simp] def sQfK7 (x : Nat) (fz : Fz) (u : T) (is : List Stp) (τ : Tau) : D × T → Option Out
  | (_, w) => bd (setQ u is w) (sQfK8 x fz τ)
@[simp] def sQfK6 (x : Nat) (fz : Fz) (d : D) (u : T) (is : List Stp) (w : T) (τ : Tau) (i : Int) : Option Out := bd (gPut i w [d]) (sQfK7 x fz u is τ)
@[simp] def sQfK5 (x : Nat) (fz : Fz) (d : D) (u : T) (is : List Stp) (w : T) : R × Tau → Option Out
  | (r, τ) => bd (asI r) (sQfK6 x fz d u is w τ)
@[simp] def sQfK4 (x : Nat) (mi : MV) (fz : Fz) (d : D) (u : T) : (List Stp × T) × Tau → Option Out
  | ((is, w), τ) => bd (mi ⟨fz, [(x, u)]⟩ τ) (sQfK5 x fz d u is w)
@[simp] def sQfK3 (x : Nat) (mp : MQ) (mi : MV) (fz : Fz) (τ : Tau) (d : D) (u : T) : Option Out := bd (mp u ⟨fz, [(x, u)]⟩ (tset τ x .hole)) (sQfK4 x mi fz d u)
@[simp] def sQfK2 (x : Nat) (mp : MQ) (mi : MV) (fz : Fz) (τ : Tau) (d : D) : Option Out := bd (tget τ x) (sQfK3 x mp mi fz τ d)
@[simp] def sQfK1 (x : Nat) (mp : MQ) (mi : MV) (fz : Fz) : R × Tau → Option Out
  | (r, τ) => bd r.st (sQfK2 x mp mi fz τ)
@[simp] theorem r_mSetQ (x : Nat) (mp : MQ) (me mi : MV) (fz : Fz) (τ : Tau) : mSetQ x mp me mi ⟨fz, τ⟩ = bd (me ⟨fz, []⟩ τ) (sQfK1 x mp mi fz) :=
  bd_of fun a => bd_of fun b => bd_of fun c => bd_of fun d => bd_of fun e => bd_of fun f => bd_of fun g => bd_om fun h => rfl
end Tl

namespace Tl
open PySem PySem.Spec PyProof.Rows L2
section
variable {prog : Program} {w : World} {A : Around} {E : Value → Shared → Prop} {s : Shared} {r : Addr} {a b i : Int} {t u v tk : Tok}
end
section
variable {X : L2.Cx} {a b c : Expr} {ta : TE} {pos p pos2 : Pos}
def pRg1 (neg : Bool) : List D → Option D
  | [.int i, .int n] => some (.bool (neg != (decide (0 ≤ i) && decide (i < n))))
  | _ => none
variable {ma mb : MV}
def pRg2 (neg : Bool) : List D → Option D
  | [.int i, .int n, .int m] => some (.bool (neg != (decide (n ≤ i) && decide (i < m))))
  | _ => none
variable {mc : MV}
end
@[simp] theorem p_rg1 (neg : Bool) (i n : Int) : pRg1 neg [.int i, .int n] = some (.bool (neg != (decide (0 ≤ i) && decide (i < n)))) := rfl
@[simp] theorem p_rg2 (neg : Bool) (i n m : Int) : pRg2 neg [.int i, .int n, .int m] = some (.bool (neg != (decide (n ≤ i) && decide (i < m)))) := rfl
end Tl

namespace Tl
open PySem PySem.Spec PyProof.Rows L2
section
variable {K : PySem.W.Frag} {F B H : Hp}
theorem OwnL.rs : ∀ {vs : List V} {ts : List T} {A : List Addr}, OwnL K F H vs ts A → RsOk K F B H (ts.map .val) vs A
  | _, [], _, h => by
    cases h
    exact .nil
  | _, _ :: ts, _, h => by
    cases h with
    | cons h1 h2 => exact .cons h1 (OwnL.rs h2)
end
def mUnT (is : List (Nat × Bool)) (m : MX) : MS := fun s => (m s).bind fun p => match p.1 with
  | .tup ts => (putsS is (ts.map .val) p.2).map .nx
  | _ => none
section
variable {X : Cx} {Pr : List Nat} {st : Stmt} {e : Expr} {m : MV}
end
@[simp] def unK (is : List (Nat × Bool)) : T × SS → Option Out
  | (.tup ts, s) => bd (putsS is (ts.map .val) s) pgK3
  | _ => none
@[simp] theorem r_mUnT (is : List (Nat × Bool)) (m : MX) (s : SS) : mUnT is m s = bd (m s) (unK is) := bd_of fun a => by
  obtain ⟨t, s1⟩ := a
  cases t with
  | tup ts => exact bd_om fun b => rfl
  | _ => rfl
@[simp] def lkiK (τ : Tau) (es : List (Key × D)) : Option (List D × Tau) := if es.length ≤ 16000000 then some (es.map fun p => .tuple [keyD p.1, p.2], τ) else none
/-- x in d as a test, d owned -/
def mInB (neg : Bool) (i : Nat) (ma : MV) : MB := fun ro τ => (mInO neg i ma ro τ).bind fun p => match p.1 with
  | .val (.leaf (.bool b)) => some (b, p.2)
  | _ => none
section
variable {X : L2.Cx} {a b : Expr} {ma : MV} {pos : Pos} {i j : Nat}
end
@[simp] def inBK : R × Tau → Option (Bool × Tau)
  | (.val (.leaf (.bool b)), τ) => some (b, τ)
  | _ => none
@[simp] theorem r_mInB (neg : Bool) (i : Nat) (ma : MV) (ro : Ro) (τ : Tau) : mInB neg i ma ro τ = bd (mInO neg i ma ro τ) inBK := bd_of fun a => by
  obtain ⟨r, τ'⟩ := a
  match r with
  | .val (.leaf (.bool _)) => rfl
  | .val (.leaf .none) => rfl
  | .val (.leaf (.int _)) => rfl
  | .val (.leaf (.str _)) => rfl
  | .val (.leaf (.list _)) => rfl
  | .val (.leaf (.tuple _)) => rfl
  | .val (.leaf (.dict _)) => rfl
  | .val (.fl _) => rfl
  | .val (.ls _) => rfl
  | .val (.tup _) => rfl
  | .val (.dk _) => rfl
  | .val (.dn _) => rfl
  | .val (.dd _) => rfl
  | .val (.lk _) => rfl
  | .val (.scr _) => rfl
  | .val (.ob _ _ _) => rfl
  | .val .hole => rfl
  | .vw _ => rfl
end Tl

namespace Tl
open PySem PySem.Spec PyProof.Rows L2
def mTupK (i : Nat) (m : MV) : MV := fun ro τ => match tget τ i with
  | some t0 => if isHole t0 = true then none else (mBr i m ro τ).bind fun p => p.1.st.bind fun d => (tget p.2 i).bind fun t => some (.val (.tup [t, .leaf d]), tset p.2 i .hole)
  | none => none
section
variable {X : L2.Cx} {a b : Expr} {pos : Pos} {i x1 : Nat} {m : MV}
theorem er_tupK (ha : PE X a (tVar i)) (hb : ER X b m) (hs : starEach [a, b] X.env = (false, eval a X.env) :: starEach [b] X.env := by rfl) (hs2 : starEach [b] X.env = (false, eval b X.env) :: starEach [] X.env := by rfl) : ER X (.Tuple [a, b] x1 pos) (mTupK i m) := ⟨fun ro τ r τ' em F B H σ A Q at_ k => by
  unfold mTupK at em
  cases e0 : tget τ i with
  | none => rw [e0] at em; cases em
  | some t0 =>
    rw [e0] at em
    have em : (if isHole t0 = true then none else (mBr i m ro τ).bind fun p => p.1.st.bind fun d => (tget p.2 i).bind fun t => some (R.val (.tup [t, .leaf d]), tset p.2 i .hole)) = some (r, τ') := em
    by_cases q : isHole t0 = true
    · rw [if_pos q] at em
      cases em
    · rw [if_neg q] at em
      obtain ⟨⟨y, τ1⟩, e1, em⟩ := Option.bind_eq_some_iff.mp em
      obtain ⟨d, e2, em⟩ := Option.bind_eq_some_iff.mp em
      obtain ⟨t, e3, em⟩ := Option.bind_eq_some_iff.mp em
      cases em
      obtain ⟨v, _, _, hv, _, _, _, _⟩ := at_.tau.take at_.cn.nd e0
      refine wE (pe_tup paW) (wA (pa_cons ha (pa_cons peW pa_nil hs2) hs) ⟨v, hv, (ev_br hb i).run ro τ y τ1 e1 F B H σ A _ at_ fun F1 H1 w A1 A2 g1 c1 o1 t1 => ?_⟩)
      obtain ⟨F2, g2, c2, s2, rr⟩ := o1.freeze c1 e2
      have t2 := t1.stay s2 fun _ _ _ q => q
      obtain ⟨v', B1, B2, hv', ov, t4, n4, s4⟩ := t2.take c2.nd e3
      rw [hv] at hv'
      cases hv'
      refine ⟨Nat.le_of_lt (small1000 (show 2 ≤ 1000 by decide)), fun p hp => ?_⟩
      have c3 := c2.sub n4 s4
      obtain ⟨g3, c4⟩ := c3.newF (o := .tup [v, w]) hp
      have sh : ∀ b ∈ B1 ++ B2, ∀ o, H1 b = some o → upd H1 p (.tup [v, w]) b = some o := fun b _ o z => by
        rw [upd_ne (ne_of_none z hp)]
        exact z
      have big : 2 ≤ sizeLine := Nat.le_of_lt (small1000 (show 2 ≤ 1000 by decide))
      have own : Own X.K _ (upd H1 p (.tup [v, w])) (.ref p) (.tup [t, .leaf d]) (B1 ++ ([] ++ [])) :=
        .tup (xs := [v, w]) (.inl (.inl upd_same)) big (.cons (ov.stay g3.ff fun b m o z => sh b (List.mem_append_left _ m) o z) (.cons (.leaf (rr.mono g3.ff)) .nil))
      rw [List.append_nil, List.append_nil] at own
      exact k _ _ (.ref p) B1 B2 (((g1.trans g2).trans (Go.less s4)).trans g3) c4 own (t4.stay g3.ff fun b m o z => sh b (List.mem_append_right _ m) o z)⟩
end
@[simp] def tkpK3 (i : Nat) (τ : Tau) (d : D) (t : T) : Option (R × Tau) := some (.val (.tup [t, .leaf d]), tset τ i .hole)
@[simp] def tkpK2 (i : Nat) (τ : Tau) (d : D) : Option (R × Tau) := bd (tget τ i) (tkpK3 i τ d)
@[simp] def tkpK1 (i : Nat) : R × Tau → Option (R × Tau)
  | (r, τ) => bd r.st (tkpK2 i τ)
@[simp] def tkpK (i : Nat) (m : MV) (ro : Ro) (τ : Tau) (t0 : T) : Option (R × Tau) := if isHole t0 = true then none else bd (mBr i m ro τ) (tkpK1 i)
@[simp] theorem r_mTupK (i : Nat) (m : MV) (ro : Ro) (τ : Tau) : mTupK i m ro τ = bd (tget τ i) (tkpK i m ro τ) := by
  unfold mTupK
  cases tget τ i with
  | none => rfl
  | some t =>
    show (if isHole t = true then none else _) = tkpK i m ro τ t
    unfold tkpK
    split
    · rfl
    · exact bd_of fun a => bd_of fun b => bd_of fun c => rfl
end Tl

namespace Tl
open PySem PySem.Spec PyProof.Rows L2
section
variable {K : PySem.W.Frag}
def lcLoopU (x : Nat) (vs : List Nat) (me : MV) (fw : Fz) (vw : Tau) : List T → List T → Tau → Option (List T × Tau)
  | [], acc, τ => some (acc, τ)
  | t :: ts, acc, τ => (me ⟨fw, (x, t) :: vw⟩ τ).bind fun q => q.1.t.bind fun y => lcLoopU x vs me fw vw ts (acc ++ [y]) (tout vs q.2)
def mLcU (x : Nat) (vs : List Nat) (mi : MIV) (me : MV) : MV := fun ro τ => (mi ro τ).bind fun p => if x < ro.fz.length then (lcLoopU x vs me (fwipe ro.fz vs) (tout vs ro.vw) p.1 [] (tout vs p.2)).map fun q => (.val (.ls q.1), q.2) else none
theorem lc_evU {wi : TI} {g : TG} {te : TE} {x : Nat} {vs : List Nat} {mi : MIV} {me : MV} (hi : IVV K wi mi) (hg : ∀ {v : V} {σ : L2.St} {H : Hp} {Q : L2.St → Hp → Prop}, gName x v σ H Q → g v σ H Q) (hx : x ∈ vs) (he : EV K te me) :
    EV K (tLc wi g tYes te vs) (mLcU x vs mi me) := ⟨fun ro τ r τ' em F B H σ A Q a k => by
  obtain ⟨⟨ts, τ1⟩, e1, em⟩ := Option.bind_eq_some_iff.mp em
  by_cases q0 : x < ro.fz.length
  · rw [if_pos q0] at em
    obtain ⟨⟨out, τ2⟩, e2, em⟩ := Option.map_eq_some_iff.mp em
    cases em
    refine hi.run ro τ ts τ1 e1 F B H σ A _ a fun F1 H1 A1 J vals g1 c1 t1 src => ?_
    intro p hp
    have ro1 := a.ro.mono g1.ff
    obtain ⟨Aw, owl⟩ := src.own
    have len : vals.length = ts.length := OwnL.length owl
    refine ⟨fun i m Hc => m = ts.length - i ∧ i ≤ ts.length ∧ ∃ (Fc : Hp) (τc : Tau) (acc : List T) (xs : List V) (Ai Ac : List Addr), lcLoopU x vs me (fwipe ro.fz vs) (tout vs ro.vw) (ts.drop i) acc τc = some (out, τ2) ∧
        LcAtT K F1 B H1 A1 σ vs p τc acc i Fc Hc Ai Ac xs, ⟨ts.length, ?_⟩, ?_⟩
    · obtain ⟨A0, t0, n0, s0⟩ := t1.out vs c1.nd
      have g0 : Go F1 H1 A1 F1 H1 A0 := Go.less s0
      obtain ⟨g2, c2⟩ := (c1.sub n0 s0).newO (o := .lst []) hp
      refine ⟨by omega, Nat.zero_le _, F1, _, [], [], [], A0, e2, ⟨g0.trans g2, c2, upd_same, .nil, t0.stay g2.ff fun b m o q => ?_, fun q m => (tout_sub m).2, Nat.le_refl _⟩⟩
      rw [upd_ne (ne_of_none q hp)]
      exact q
    · rintro i m Hc ⟨rfl, hi', Fc, τc, acc, xs, Ai, Ac, el, L⟩
      have s1c : Same F1 Fc := L.go.ff
      have cc := L.cn
      by_cases hlt : i < ts.length
      · refine .inr ?_
        have ev : vals[i]? = some vals[i] := List.getElem?_eq_getElem (by omega)
        have et : ts[i]? = some ts[i] := List.getElem?_eq_getElem hlt
        refine ⟨src.go Fc Hc s1c cc.fh cc.bh i _ ev, fun H' => ∃ (Fc : Hp) (τc : Tau) (acc : List T) (xs : List V) (Ai Ac : List Addr), lcLoopU x vs me (fwipe ro.fz vs) (tout vs ro.vw) (ts.drop (i + 1)) acc τc = some (out, τ2) ∧
          LcAtT K F1 B H1 A1 σ vs p τc acc (i + 1) Fc H' Ai Ac xs, fun H' q => ⟨ts.length - (i + 1), by omega, rfl, hlt, q⟩, fun w H2 y => ?_⟩
        obtain ⟨rfl, ew⟩ := src.yld Fc Hc s1c cc.fh cc.bh i w H2 y
        obtain ⟨Ow, ow⟩ := OwnL.at owl ew et
        rw [List.drop_eq_getElem_cons hlt] at el
        have ro2 := ro1.mono s1c
        refine hg ?_
        show _ ∧ _
        have hlen : x < (wipe σ vs).length := by rw [wipe_length, ← a.ro.fz.1]; exact q0
        have off : ∀ j, j ≠ x → ((wipe σ vs).set x (some w))[j]? = (wipe σ vs)[j]? := fun j n => List.getElem?_set_ne fun z => n z.symm
        refine ⟨?_, ?_⟩
        · exact wipe_eq (by rw [List.length_set, wipe_length]) fun j n => off j fun z => n (by rw [z]; exact hx)
        · have offslot : ∀ j, j ∉ vs → ((wipe σ vs).set x (some w))[j]? = σ[j]? := fun j n => (off j fun z => n (by rw [z]; exact hx)).trans (wipe_out n)
          generalize hσ2 : (wipe σ vs).set x (some w) = σ2 at *
          have tc2 := L.tau
          have to2 : TauOk K Fc H2 σ2 τc Ac := tc2.move fun q m => offslot q.1 (L.out q m)
          have fz2 : FzOk K Fc σ2 (fwipe ro.fz vs) := by
            obtain ⟨l0, f0⟩ := ro2.fz.wipe vs
            refine ⟨by rw [← hσ2, List.length_set]; exact l0, fun j d h => ?_⟩
            have nj : j ≠ x := fun z => by
              subst z
              obtain ⟨v, hv, _⟩ := f0 j d h
              exact (wipe_some hv).2 hx
            rw [off j nj]
            exact f0 j d h
          have vw2 : VwOk K Fc B σ2 ((x, ts[i]) :: tout vs ro.vw) := fun q m => by
            rcases List.mem_cons.mp m with rfl | m
            · exact ⟨w, Ow, by rw [← hσ2, List.getElem?_set_self hlen], ow.stay s1c fun _ _ _ q => q⟩
            · exact VwOk.move (fun q m => ro2.vw q (tout_sub m).1) (fun q m => offslot q.1 (tout_sub m).2) q m
          have back : ∀ {τ : Tau} {F' H' : Hp} {A : List Addr}, TauOk K F' H' σ2 τ A → A.Nodup → ∃ A', TauOk K F' H' σ (tout vs τ) A' ∧ A'.Nodup ∧ ∀ a ∈ A', a ∈ A := fun t n => by
            obtain ⟨A', t', n', s'⟩ := t.out vs n
            exact ⟨A', t'.move fun q m => (offslot q.1 (tout_sub m).2).symm, n', s'⟩
          have keepin : ∀ {Al A A' : List Addr} {F H : Hp}, Cn F B H ((p :: Al) ++ A) → A'.Nodup → (∀ a ∈ A', a ∈ A) → Go F H ((p :: Al) ++ A) F H ((p :: Al) ++ A') ∧ Cn F B H ((p :: Al) ++ A') := fun {Al A A' F H} c n s => by
            have sub : ∀ b ∈ (p :: Al) ++ A', b ∈ (p :: Al) ++ A := fun b m => (List.mem_append.mp m).elim (fun z => List.mem_append_left _ z) fun z => List.mem_append_right _ (s b z)
            exact ⟨Go.less sub, c.sub (List.nodup_append.mpr ⟨c.left.nd, n, fun a m b m' q => c.apart a m (q ▸ s b m')⟩) sub⟩
          unfold tYes
          dsimp only
          rw [if_pos rfl]
          obtain ⟨⟨z, τ4⟩, f3, el⟩ := Option.bind_eq_some_iff.mp (show (me ⟨fwipe ro.fz vs, (x, ts[i]) :: tout vs ro.vw⟩ τc).bind _ = some (out, τ2) from el)
          obtain ⟨yd, f4, el⟩ := Option.bind_eq_some_iff.mp el
          refine he.run ⟨fwipe ro.fz vs, (x, ts[i]) :: tout vs ro.vw⟩ τc z τ4 f3 Fc B H2 σ2 Ac _ ⟨Cn.right (A1 := p :: Ai) cc, ⟨fz2, vw2⟩, to2⟩ fun F4 H4 u A4 A5 g4 c4 o4 t4 => ?_
          obtain ⟨g4', c4'⟩ := Go.framed (A1 := p :: Ai) cc g4 c4
          have ap3 := Cn.apart (A1 := p :: Ai) cc
          have hp4 : H4 p = some (.lst xs) := g4.keep p _ (ap3 p List.mem_cons_self) L.at_
          have rl4 := L.rl.stay g4.ff fun b m u q => g4.keep b u (ap3 b (List.mem_cons_of_mem _ m)) q
          have oy := o4.own f4
          rw [← List.append_assoc] at g4' c4'
          have c4'' : Cn F4 B H4 ((p :: (Ai ++ A4)) ++ A5) := c4'
          have g4'' : Go Fc H2 ((p :: Ai) ++ Ac) F4 H4 ((p :: (Ai ++ A4)) ++ A5) := g4'
          obtain ⟨A', t', n', s'⟩ := back t4 c4''.right.nd
          obtain ⟨g6, c6⟩ := keepin c4'' n' s'
          obtain ⟨g7, c7⟩ := c6.write (o := .lst (xs ++ [u])) (p := p) List.mem_cons_self
          have np : ∀ b ∈ (Ai ++ A4) ++ A', b ≠ p := fun b m z => (List.nodup_cons.mp (show (p :: ((Ai ++ A4) ++ A')).Nodup from c6.nd)).1 (by rw [← z]; exact m)
          refine ⟨xs, hp4, Nat.lt_of_le_of_lt L.len (Nat.lt_of_lt_of_le (by omega) src.small), F4, tout vs τ4, acc ++ [yd], xs ++ [u], Ai ++ A4, A', el, ⟨((L.go.trans g4'').trans g6).trans g7, c7, upd_same, ?_, t'.stay g7.ff fun b m o q => ?_, fun q m => (tout_sub m).2, ?_⟩⟩
          · have rl5 : OwnL K F4 H4 (xs ++ [u]) (acc ++ [yd]) (Ai ++ (A4 ++ [])) := rl4.append (.cons oy .nil)
            rw [List.append_nil] at rl5
            refine rl5.stay g7.ff fun b m o q => ?_
            rw [upd_ne (np b (List.mem_append_left _ m))]
            exact q
          · rw [upd_ne (np b (List.mem_append_right _ m))]
            exact q
          · rw [List.length_append]
            exact Nat.succ_le_succ L.len
      · have e : i = ts.length := by omega
        subst e
        rw [List.drop_length] at el
        cases el
        refine .inl ⟨src.stop Fc Hc s1c cc.fh cc.bh _ (by omega), ?_⟩
        exact k Fc Hc (.ref p) (p :: Ai) Ac (g1.trans L.go) cc (.ls L.at_ (Nat.le_trans L.len (by have := src.small; omega)) L.rl) L.tau
  · rw [if_neg q0] at em
    cases em⟩
end
section
variable {X : Cx} {scope : Scope} {elt tg iter : Expr} {own : List (Str × Nat)} {pos : Pos} {mi : MIV} {me : MV}
theorem ev_lcU {x : Nat} (hi : IVV X.K (wpI X tg iter) mi) (hg : ∀ (s : Shared) (H0 : Hp) (C : Addr) (cl : List (Str × Addr)) (fp : List Addr), PG (X.blk s H0 scope (compEnvC scope cl C X.env) fp) tg (gName x)) (hx : x ∈ own.map (·.2))
    (he : ∀ (s : Shared) (H0 : Hp) (C : Addr) (cl : List (Str × Addr)) (fp : List Addr), ER (X.blk s H0 scope (compEnvC scope cl C X.env) fp) elt me) : EV X.K (tLc0 X scope tg iter elt (own.map (·.2))) (mLcU x (own.map (·.2)) mi me) :=
  lc_evU hi (fun h s H0 C cl fp => wG (hg s H0 C cl fp) h) hx (bE_of he)
end
@[simp] def lcuK2 : List T × Tau → Option (R × Tau)
  | (ds, τ) => some (.val (.ls ds), τ)
@[simp] theorem r_mLcU (x : Nat) (vs : List Nat) (mi : MIV) (me : MV) (fz : Fz) (vw τ : Tau) : mLcU x vs mi me ⟨fz, vw⟩ τ = bd (mi ⟨fz, vw⟩ τ) fun p => if x < fz.length then bd (lcLoopU x vs me (fwipe fz vs) (tout vs vw) p.1 [] (tout vs p.2)) lcuK2 else none := bd_of fun a => by
  by_cases q : x < fz.length
  · rw [if_pos q, if_pos q]
    cases lcLoopU x vs me (fwipe fz vs) (tout vs vw) a.1 [] (tout vs a.2) <;> rfl
  · rw [if_neg q, if_neg q]
end Tl

namespace Tl
open PySem PySem.Spec PyProof.Rows L2
section
variable {X : L2.Cx}
end
/-- sorted(d), d keyed by tuples -/
def gSortN : List R → Option R
  | [x] => x.sn.bind fun d => (ndOf d).bind fun es => if es.length ≤ 16000000 ∧ okSo (es.map (·.1)) = true then some (.val (.fl (sortD (es.map (·.1))))) else none
  | _ => none
@[simp] def sortNK (es : List (D × D)) : Option R := if es.length ≤ 16000000 ∧ okSo (es.map (·.1)) = true then some (.val (.fl (sortD (es.map (·.1))))) else none
@[simp] def sortNK0 (d : D) : Option R := bd (ndOf d) sortNK
@[simp] theorem r_gSortN (x : R) : gSortN [x] = bd x.sn sortNK0 := bd_of fun a => bd_of fun b => rfl
end Tl

namespace Tl
open PySem PySem.Spec PyProof.Rows L2
mutual
/-- numbers, truths, texts, None, tuples of these -/
def lfD : D → Bool
  | .tuple ds => lfL ds
  | .list _ => false
  | .dict _ => false
  | _ => true
def lfL : List D → Bool
  | [] => true
  | d :: ds => lfD d && lfL ds
end
def lfT : T → Bool
  | .leaf d => lfD d
  | .fl ds => lfL ds
  | _ => false
def expF : List Nat → Fz → Tau → Option Fz
  | [], f, _ => some f
  | i :: is, f, τ => match tget τ i with
    | some t => (T.fz t).bind fun d => expF is (fset f i (some d)) τ
    | none => expF is f τ
def mThE (is : List Nat) (m : MV) : MV := fun ro τ => (expF is ro.fz τ).bind fun f => (m ⟨f, []⟩ []).bind fun p => match p with
  | (.val r, []) => if lfT r = true then some (.val r, τ) else none
  | _ => none
section
variable {X : Cx} {K : PySem.W.Frag} {F F' B B' H H' F1 H1 : Hp} {σ : L2.St} {A A' A1 A2 : List Addr} {i : Nat} {ro : Ro} {τ τ' : Tau}
def mThB (is : List Nat) (m : MB) : MB := fun ro τ => (mThE is (mOfB m) ro τ).bind fun p => (asB p.1).map fun b => (b, p.2)
end
@[simp] theorem lfL_nil : lfL [] = true := rfl
@[simp] theorem lfL_cons (d : D) (ds : List D) : lfL (d :: ds) = (lfD d && lfL ds) := rfl
@[simp] theorem lfD_i (i : Int) : lfD (.int i) = true := rfl
@[simp] theorem lfD_b (i : Bool) : lfD (.bool i) = true := rfl
@[simp] theorem lfD_s (i : Str) : lfD (.str i) = true := rfl
@[simp] theorem lfD_n : lfD .none = true := rfl
@[simp] theorem lfD_t (ds : List D) : lfD (.tuple ds) = lfL ds := rfl
@[simp] theorem lfT_l (d : D) : lfT (.leaf d) = lfD d := rfl
@[simp] theorem lfT_f (d : List D) : lfT (.fl d) = lfL d := rfl
@[simp] theorem expF_nil (f : Fz) (τ : Tau) : expF [] f τ = some f := rfl
@[simp] def expK2 (is : List Nat) (i : Nat) (f : Fz) (τ : Tau) (d : D) : Option Fz := expF is (fset f i (some d)) τ
@[simp] def expK (is : List Nat) (i : Nat) (f : Fz) (τ : Tau) : Option T → Option Fz
  | some t => bd (T.fz t) (expK2 is i f τ)
  | none => expF is f τ
@[simp] theorem expF_cons (i : Nat) (is : List Nat) (f : Fz) (τ : Tau) : expF (i :: is) f τ = expK is i f τ (tget τ i) := by
  show (match tget τ i with
    | some t => (T.fz t).bind fun d => expF is (fset f i (some d)) τ
    | none => expF is f τ) = _
  cases tget τ i with
  | none => rfl
  | some t => exact bd_of fun d => rfl
@[simp] def thK2 (τ : Tau) : R × Tau → Option (R × Tau)
  | (.val r, []) => if lfT r = true then some (.val r, τ) else none
  | _ => none
@[simp] def thK (m : MV) (τ : Tau) (f : Fz) : Option (R × Tau) := bd (m ⟨f, []⟩ []) (thK2 τ)
@[simp] theorem r_mThE (is : List Nat) (m : MV) (ro : Ro) (τ : Tau) : mThE is m ro τ = bd (expF is ro.fz τ) (thK m τ) := bd_of fun a => bd_of fun b => by
  obtain ⟨r, t⟩ := b
  cases r with
  | val r => cases t <;> rfl
  | vw r => rfl
@[simp] def thBK2 (τ : Tau) (b : Bool) : Option (Bool × Tau) := some (b, τ)
@[simp] def thBK : R × Tau → Option (Bool × Tau)
  | (r, τ) => bd (asB r) (thBK2 τ)
@[simp] theorem r_mThB (is : List Nat) (m : MB) (ro : Ro) (τ : Tau) : mThB is m ro τ = bd (mThE is (mOfB m) ro τ) thBK := bd_of fun a => bd_om fun b => rfl
end Tl

namespace La
open PySem PySem.Spec PyProof.Rows L2 Tl
def b_taken_by_houses_k11 : MS := (mSeq (mRet (mX (mOp gTupT (mCons (mBr 1 (mLcU 2 [2] (iSeeV 1) (mBr 2 (mOp gList (mCons (mSee 2) mNil))))) (mCons (mLcT [3, 4, 5] (iSeq (mBin gIx (mVar 0) (mC (.int 1)))) (gtT (gtCons (gtN 3) (gtCons (gtN 4) (gtCons (gtN 5) gtNil)))) mYes (mBr 1 (mOp gList (mCons (mBin gIx (mSee 1) (mVar 4)) mNil)))) mNil))))) mNx)
def m_taken_by_houses_k11 : MF := mFn [false, true] 6 b_taken_by_houses_k11
def b_is_by_houses : MS := (mSeq (mRet (mX (mOp gAll (mCons (mLc [2, 3] (iZipM (mBin gIx (mVar 0) (mC (.int 1))) (mBin gIx (mVar 1) (mC (.int 1)))) (gtT (gtCons (gtN 2) (gtCons (gtN 3) gtNil))) mYes (mBin (gp pEq) (mVar 3) (mBin gIx (mBin gIx (mVar 1) (mC (.int 0))) (mBin gIx (mVar 2) (mC (.int 1)))))) mNil)))) mNx)
def m_is_by_houses : MF := mFn [false, false] 4 b_is_by_houses
def b_law_cell_at : MS := (mSeq (mRet (mX (mBr 0 (mIf (mBrB 0 (mBinB gLt (mVar 1) (mOp gLen (mCons (mSee 0) mNil)))) (mBin gIx (mSee 0) (mVar 1)) (mC (.int 0)))))) mNx)
def m_law_cell_at : MF := mFn [true, false] 2 b_law_cell_at
def b_law_tape : MS := (mSeq (mSet 2 (mX (mCall m_law_cell_at (cIo 0 (cCons (mVar 1) cNil))))) (mSeq (mRet (mX (mOp gLstD (mCons (mBin gMul (mOp (gp pAbs) (mCons (mVar 2) mNil)) (mOp (gp pInt) (mCons (mBin gGe (mOp (gp pAbs) (mCons (mVar 2) mNil)) (mBin gPow (mC (.int 10)) (mC (.int 18)))) mNil))) (mCons (mBin gMod (mBin gMul (mBin gAdd (mBin gAdd (mBin gMod (mVar 2) (mC (.int 2147483647))) (mBin gMul (mC (.int 6907)) (mVar 1))) (mC (.int 29))) (mC (.int 48271))) (mC (.int 2147483629))) (mCons (mC (.int 0)) mNil)))))) mNx))
def m_law_tape : MF := mFn [true, false] 3 b_law_tape
def b_law_take : MS := (mSeq (mIfS (mXB (mBrB 0 (mBinB gGt (mBin gIx (mSee 0) (mC (.int 0))) (mC (.int 0))))) (mSeq (mSet 2 (mX (mBr 0 (mBin gMod (mBin gIx (mSee 0) (mC (.int 0))) (mVar 1))))) (mSeq (mSetP 0 pHere (mBr 0 (mBin gDiv (mBin gIx (mSee 0) (mC (.int 0))) (mVar 1))) (mC (.int 0))) (mSeq (mRet (mX (mVar 2))) mNx))) mNx) (mSeq (mSetP 0 pHere (mBr 0 (mBin gAdd (mBin gIx (mSee 0) (mC (.int 2))) (mC (.int 1)))) (mC (.int 2))) (mSeq (mSet 3 (mX (mBr 0 (mBin gMod (mBin gMul (mBin gAdd (mBin gIx (mSee 0) (mC (.int 1))) (mBin gMul (mC (.int 39373)) (mBin gIx (mSee 0) (mC (.int 2))))) (mBin gAdd (mC (.int 48271)) (mBin gIx (mSee 0) (mC (.int 2))))) (mC (.int 2147483647)))))) (mSeq (mSetP 0 pHere (mBr 0 (mBin gMod (mBin gAdd (mBin gMul (mVar 3) (mBin gAdd (mBin gMod (mVar 3) (mC (.int 40009))) (mC (.int 7)))) (mBin gIx (mSee 0) (mC (.int 2)))) (mC (.int 2147483629)))) (mC (.int 1))) (mSeq (mRet (mX (mBr 0 (mBin gMod (mBin gDiv (mBin gMod (mBin gMul (mBin gIx (mSee 0) (mC (.int 1))) (mBin gAdd (mBin gMod (mBin gIx (mSee 0) (mC (.int 1))) (mC (.int 1009))) (mC (.int 3)))) (mC (.int 998244353))) (mC (.int 7))) (mVar 1))))) mNx)))))
def m_law_take : MF := mFn [true, false] 4 b_law_take
def b_law_room : MS := (mSeq (mRet (mX (mBin gIx (mOp gLstD (mCons (mC (.int 1)) (mCons (mC (.int 2)) (mCons (mBin gAdd (mC (.int 1)) (mCall m_law_take (cIo 0 (cCons (mC (.int 4)) cNil)))) mNil)))) (mCall m_law_take (cIo 0 (cCons (mC (.int 3)) cNil)))))) mNx)
def m_law_room : MF := mFn [true] 1 b_law_room
def b_law_net : MS := (mSeq (mSet 1 (mX (mCall m_law_take (cIo 0 (cCons (mC (.int 4)) cNil))))) (mSeq (mSet 2 (mX (mBin (gp pEq) (mCall m_law_take (cIo 0 (cCons (mC (.int 8)) cNil))) (mC (.int 0))))) (mSeq (mSet 3 (mX (mIf (mTru (mVar 2)) (mBin gAdd (mC (.int 7)) (mCall m_law_take (cIo 0 (cCons (mC (.int 6)) cNil)))) (mBin gAdd (mC (.int 2)) (mCall m_law_take (cIo 0 (cCons (mC (.int 5)) cNil))))))) (mSeq (mSetO 4 (mX (mOp gLstD mNil))) (mSeq (mIfS (mXB (mBinB (gp pEq) (mVar 1) (mC (.int 0)))) (mSeq (mSet 5 (mX (mBin gAdd (mC (.int 1)) (mCall m_law_take (cIo 0 (cCons (mC (.int 2)) cNil)))))) (mSeq (mFor [6] (mXI (iRng (mCons (mVar 3) mNil))) (gtN 6) (mSeq (mDo (mX (mMut 4 gExtend (mCons (mLc [8] (iRng (mCons (mVar 5) mNil)) (gtN 8) mYes (mOp gTupD (mCons (mVar 6) (mCons (mBin gMod (mBin gAdd (mVar 6) (mC (.int 1))) (mVar 3)) (mCons (mCall m_law_room (cIo 0 cNil)) mNil))))) mNil)))) mNx)) mNx)) mNx) (mSeq (mIfS (mXB (mBinB (gp pEq) (mVar 1) (mC (.int 1)))) (mSeq (mFor [6] (mXI (iRng (mCons (mC (.int 1)) (mCons (mVar 3) mNil)))) (gtN 6) (mSeq (mSet 7 (mX (mCall m_law_take (cIo 0 (cCons (mVar 6) cNil))))) (mSeq (mDo (mX (mMut 4 gExtend (mCons (mOp gLstD (mCons (mOp gTupD (mCons (mVar 6) (mCons (mVar 7) (mCons (mCall m_law_room (cIo 0 cNil)) mNil)))) (mCons (mOp gTupD (mCons (mVar 7) (mCons (mVar 6) (mCons (mCall m_law_room (cIo 0 cNil)) mNil)))) mNil))) mNil)))) mNx))) mNx) mNx) (mSeq (mFor [8] (mXI (iRng (mCons (mCall m_law_take (cIo 0 (cCons (mC (.int 12)) cNil))) mNil))) (gtN 8) (mSeq (mSet 9 (mX (mCall m_law_take (cIo 0 (cCons (mVar 3) cNil))))) (mSeq (mSet 10 (mX (mBin gMod (mBin gAdd (mBin gAdd (mVar 9) (mC (.int 1))) (mCall m_law_take (cIo 0 (cCons (mBin Tl.gSub (mVar 3) (mC (.int 1))) cNil)))) (mVar 3)))) (mSeq (mDo (mX (mMut 4 gInsert (mCons (mCall m_law_take (cIo 0 (cCons (mBr 4 (mBin gAdd (mOp gLen (mCons (mSee 4) mNil)) (mC (.int 1)))) cNil))) (mCons (mOp gTupD (mCons (mVar 9) (mCons (mVar 10) (mCons (mCall m_law_room (cIo 0 cNil)) mNil)))) mNil))))) (mSeq (mIfS (mXB (mBinB (gp pEq) (mVar 1) (mC (.int 1)))) (mSeq (mDo (mX (mMut 4 gAppend (mCons (mOp gTupD (mCons (mVar 10) (mCons (mVar 9) (mCons (mCall m_law_room (cIo 0 cNil)) mNil)))) mNil)))) mNx) mNx) mNx))))) (mSeq (mRet (mX (mOp gTupD (mCons (mVar 3) (mCons (mBr 4 (mCut (mSee 4) oNone (oSome (mIf (mTru (mVar 2)) (mC (.int 40)) (mC (.int 16)))))) mNil))))) mNx))))))))
def m_law_net : MF := mFn [true] 11 b_law_net
def b_law_some : MS := (mSeq (mSet 2 (mX (mLc [3] (iSeq (mVar 1)) (gtN 3) (mBinB (gp pEq) (mCall m_law_take (cIo 0 (cCons (mC (.int 2)) cNil))) (mC (.int 0))) (mVar 3)))) (mSeq (mRet (mX (mIf (mBinB (gp pNe) (mVar 2) (mOp gLstD mNil)) (mVar 2) (mOp gLstD (mCons (mBin gIx (mVar 1) (mCall m_law_take (cIo 0 (cCons (mOp gLen (mCons (mVar 1) mNil)) cNil)))) mNil))))) mNx))
def m_law_some : MF := mFn [true, false] 4 b_law_some
def b_law_taken_to : MS := (mSeq (mSetO 4 (mX (mLc [8] (iRng (mCons (mBin gIx (mVar 1) (mC (.int 0))) mNil)) (gtN 8) mYes (mOp gTupD mNil)))) (mSeq (mSetO 5 (mX (mOp gLstD (mCons (mVar 2) mNil)))) (mSeq (mSet 6 (mX (mIf (mBinB gGt (mCall m_law_take (cIo 0 (cCons (mC (.int 3)) cNil))) (mC (.int 0))) (mBin gIx (mVar 1) (mC (.int 0))) (mCall m_law_take (cIo 0 (cCons (mBin gIx (mVar 1) (mC (.int 0))) cNil)))))) (mSeq (mWhile whF (mXB (mBrB 5 (mBinB gLe (mOp gLen (mCons (mSee 5) mNil)) (mVar 6)))) (mSeq (mSet 7 (mX (mLc [9, 10] (iEnumM (mBin gIx (mVar 1) (mC (.int 1)))) (gtT (gtCons (gtN 9) (gtCons (gtN 10) gtNil))) (mAndB (mBrB 5 (mBinB gIn (mBin gIx (mVar 10) (mC (.int 1))) (mSee 5))) (mBrB 5 (mBinB gNotIn (mBin gIx (mVar 10) (mC (.int 0))) (mSee 5)))) (mVar 9)))) (mSeq (mIfS (mXB (mBinB (gp pEq) (mVar 7) (mOp gLstD mNil))) (mSeq (mRet (mX (mTk 4))) mNx) mNx) (mSeq (mSet 8 (mX (mBin gIx (mBin gIx (mBin gIx (mVar 1) (mC (.int 1))) (mBin gIx (mVar 7) (mCall m_law_take (cIo 0 (cCons (mOp gLen (mCons (mVar 7) mNil)) cNil))))) (mC (.int 0))))) (mSeq (mSetP 4 pHere (mOp gTuple (mCons (mCut (mCall m_law_some (cIo 0 (cCons (mLc [9] (iSeq (mVar 7)) (gtN 9) (mBinB (gp pEq) (mBin gIx (mBin gIx (mBin gIx (mVar 1) (mC (.int 1))) (mVar 9)) (mC (.int 0))) (mVar 8)) (mVar 9)) cNil))) oNone (oSome (mVar 3))) mNil)) (mVar 8)) (mSeq (mDo (mX (mMut 5 gAppend (mCons (mVar 8) mNil)))) mNx)))))) (mSeq (mRet (mX (mTk 4))) mNx)))))
def m_law_taken_to : MF := mFn [true, false, false, false] 11 b_law_taken_to
def b_law_by_houses_k11 : MS := (mSeq (mRet (mX (mTupK 1 (mLc [2, 3, 4] (iSeq (mBin gIx (mVar 0) (mC (.int 1)))) (gtT (gtCons (gtN 2) (gtCons (gtN 3) (gtCons (gtN 4) gtNil)))) mYes (mBr 1 (mLc [5] (iRng (mCons (mBin gIx (mVar 0) (mC (.int 0))) mNil)) (gtN 5) mYes (mBin gIx (mBin gIx (mSee 1) (mVar 3)) (mVar 5)))))))) mNx)
def m_law_by_houses_k11 : MF := mFn [false, true] 6 b_law_by_houses_k11
def b_law_way_by_houses_k11 : MS := (mSeq (mSet 3 (mX (mLc [4] (iRng (mCons (mBin gIx (mVar 1) (mC (.int 0))) mNil)) (gtN 4) mYes (mCall m_law_taken_to (cIo 0 (cCons (mVar 1) (cCons (mVar 4) (cCons (mVar 2) cNil)))))))) (mSeq (mRet (mX (mCall m_law_by_houses_k11 (cCons (mVar 1) (cOw (mLcT [5] (iRng (mCons (mBin gIx (mVar 1) (mC (.int 0))) mNil)) (gtN 5) mYes (mLc [6] (iSeq (mVar 3)) (gtN 6) mYes (mBin gIx (mVar 6) (mVar 5)))) cNil))))) mNx))
def m_law_way_by_houses_k11 : MF := mFn [true, false, false] 7 b_law_way_by_houses_k11
def b_law_way_k11 : MS := (mSeq (mSet 2 (mX (mBin gIx (mOp gLstD (mCons (mC (.int 1)) (mCons (mC (.int 2)) (mCons (mC (.int 4)) mNil)))) (mCall m_law_take (cIo 0 (cCons (mC (.int 3)) cNil)))))) (mSeq (mSet 3 (mX (mCall m_law_take (cIo 0 (cCons (mC (.int 4)) cNil))))) (mSeq (mAsg [4, 5] (gtT (gtCons (gtN 4) (gtCons (gtN 5) gtNil))) (mX (mCall m_law_way_by_houses_k11 (cIo 0 (cCons (mVar 1) (cCons (mVar 2) cNil)))))) (mSeq (mIfS (mXB (mBinB gLt (mVar 3) (mC (.int 2)))) (mSeq (mRet (mX (mOp gTupD (mCons (mVar 4) (mCons (mVar 5) mNil))))) mNx) mNx) (mSeq (mSetO 6 (mX (mOp gLstD mNil))) (mSeq (mFor [7] (mXI (iSeq (mBin gIx (mOp gLstD (mCons (mVar 5) (mCons (mVar 4) mNil))) (mBin Tl.gSub (mVar 3) (mC (.int 2)))))) (gtN 7) (mSeq (mDo (mX (mMut 6 gAppend (mCons (mLc [8] (iSeq (mVar 7)) (gtN 8) mYes (mIf (mBinB (gp pNe) (mVar 8) (mOp gTupD mNil)) (mOp gTuple (mCons (mCall m_law_some (cIo 0 (cCons (mOp gList (mCons (mVar 8) mNil)) cNil))) mNil)) (mOp gTupD mNil))) mNil)))) mNx)) (mSeq (mPre (mFz 6) (mRet (mX (mIf (mBinB (gp pEq) (mVar 3) (mC (.int 2))) (mOp gTupD (mCons (mVar 4) (mCons (mVar 6) mNil))) (mOp gTupD (mCons (mVar 6) (mCons (mVar 5) mNil))))))) mNx)))))))
def m_law_way_k11 : MF := mFn [true, false] 9 b_law_way_k11
def b_law_same (r : MF) : MS := (mSeq (mIfS (mXB (mTru (mIsi2 isListD isTupD (mVar 1)))) (mSeq (mIfS (mXB (mOrB (mBinB (gp pNe) (mIsi isListD (mVar 0)) (mIsi isListD (mVar 1))) (mBinB (gp pNe) (mIsi isTupD (mVar 0)) (mIsi isTupD (mVar 1))))) (mSeq (mRet (mX (mC (.bool false)))) mNx) mNx) (mSeq (mIfS (mXB (mBinB (gp pNe) (mOp gLen (mCons (mVar 0) mNil)) (mOp gLen (mCons (mVar 1) mNil)))) (mSeq (mRet (mX (mC (.bool false)))) mNx) mNx) (mSeq (mRet (mX (mOp gAll (mCons (mLc [2, 3] (iZipM (mVar 0) (mVar 1)) (gtT (gtCons (gtN 2) (gtCons (gtN 3) gtNil))) mYes (mCall r (cCons (mVar 2) (cCons (mVar 3) cNil)))) mNil)))) mNx))) mNx) (mSeq (mIfS (mXB (mOrB (mBinB (gp pIsN) (mVar 1) (mC .none)) (mTru (mIsi isStrD (mVar 1))))) (mSeq (mRet (mX (mAnd (mBin (gp pEq) (mVar 0) (mVar 1)) (mBin (gp pEq) (mIsi isStrD (mVar 0)) (mIsi isStrD (mVar 1)))))) mNx) mNx) (mSeq (mIfS (mXB (mTru (mIsi isBoolD (mVar 1)))) (mSeq (mRet (mX (mAnd (mIsi isBoolD (mVar 0)) (mBin (gp pEq) (mVar 0) (mVar 1))))) mNx) mNx) (mSeq (mRet (mX (mAnd (mIsi isIntD (mVar 0)) (mAnd (mNot (mIsi isBoolD (mVar 0))) (mBin (gp pEq) (mVar 0) (mVar 1)))))) mNx))))
def m_law_same : Nat → MF
  | 0 => mFn [false, false] 4 fun _ => none
  | j + 1 => mFn [false, false] 4 (b_law_same (m_law_same j))
def b_law_otherwise_k11 : MS := (mSeq (mParG [(3, true), (4, true)] (mCons (mLcT [12] (iSeq (mBin gIx (mVar 2) (mC (.int 0)))) (gtN 12) mYes (mOp gList (mCons (mVar 12) mNil))) (mCons (mLcT [12] (iSeq (mBin gIx (mVar 2) (mC (.int 1)))) (gtN 12) mYes (mOp gList (mCons (mVar 12) mNil))) mNil))) (mSeq (mPar 5 6 (mCons (mCall m_law_take (cIo 0 (cCons (mC (.int 3)) cNil))) (mCons (mCall m_law_take (cIo 0 (cCons (mBin gIx (mVar 1) (mC (.int 0))) cNil))) mNil))) (mSeq (mIfS (mXB (mBinB (gp pEq) (mBin gIx (mVar 1) (mC (.int 1))) (mOp gLstD mNil))) (mSeq (mPre (mFz 4) (mPre (mFz 3) (mRet (mX (mOp gTupD (mCons (mVar 3) (mCons (mVar 4) mNil))))))) mNx) mNx) (mSeq (mSet 7 (mX (mCall m_law_take (cIo 0 (cCons (mOp gLen (mCons (mBin gIx (mVar 1) (mC (.int 1))) mNil)) cNil))))) (mSeq (mSet 8 (mX (mBin gIx (mBin gIx (mBin gIx (mVar 1) (mC (.int 1))) (mVar 7)) (mC (.int 1))))) (mSeq (mSet 9 (mX (mOp gTuple (mCons (mLc [10, 11] (iEnumM (mBin gIx (mVar 1) (mC (.int 1)))) (gtT (gtCons (gtN 10) (gtCons (gtN 11) gtNil))) (mAndB (mBinB (gp pEq) (mBin gIx (mVar 11) (mC (.int 0))) (mVar 8)) (mBinB (gp pEq) (mCall m_law_take (cIo 0 (cCons (mC (.int 2)) cNil))) (mC (.int 0)))) (mVar 10)) mNil)))) (mSeq (mIfS (mXB (mBinB (gp pEq) (mVar 8) (mVar 6))) (mSeq (mPre (mFz 4) (mPre (mFz 3) (mRet (mX (mOp gTupD (mCons (mVar 3) (mCons (mVar 4) mNil))))))) mNx) mNx) (mSeq (mIfS (mXB (mBinB (gp pEq) (mVar 5) (mC (.int 0)))) (mSeq (mSetP 4 (pAt pHere (mVar 7)) (mVar 9) (mVar 6)) mNx) (mSeq (mIfS (mXB (mBinB (gp pEq) (mVar 5) (mC (.int 1)))) (mSeq (mFor [10, 11] (mXI (iEnumM (mBin gIx (mVar 1) (mC (.int 1))))) (gtT (gtCons (gtN 10) (gtCons (gtN 11) gtNil))) (mSeq (mIfS (mXB (mBinB (gp pEq) (mBin gIx (mVar 11) (mC (.int 1))) (mVar 8))) (mSeq (mSetP 4 (pAt pHere (mVar 10)) (mVar 9) (mVar 6)) mNx) mNx) mNx)) mNx) (mSeq (mSetP 3 (pAt pHere (mVar 8)) (mVar 9) (mVar 6)) mNx)) mNx)) (mSeq (mPre (mFz 4) (mPre (mFz 3) (mRet (mX (mOp gTupD (mCons (mVar 3) (mCons (mVar 4) mNil))))))) mNx)))))))))
def m_law_otherwise_k11 : MF := mFn [true, false, false] 13 b_law_otherwise_k11
def b_law_due : MS := (mSeq (mFor [2, 3] (mXI (iZipM (mBin gIx (mVar 0) (mC (.int 1))) (mBin gIx (mVar 1) (mC (.int 1))))) (gtT (gtCons (gtN 2) (gtCons (gtN 3) gtNil))) (mSeq (mIfS (mXB (mBinB (gp pNe) (mOp gList (mCons (mVar 3) mNil)) (mOp gList (mCons (mBin gIx (mBin gIx (mVar 1) (mC (.int 0))) (mBin gIx (mVar 2) (mC (.int 1)))) mNil)))) (mSeq (mRet (mX (mC (.bool false)))) mNx) mNx) mNx)) (mSeq (mRet (mX (mC (.bool true)))) mNx))
def m_law_due : MF := mFn [false, false] 4 b_law_due
def b_law_right_k11 : MS := (mSeq (mSet 1 (mX (mCall m_law_net (cIo 0 cNil)))) (mSeq (mSetO 2 (mX (mBin gIxT (mCall m_law_way_by_houses_k11 (cIo 0 (cCons (mVar 1) (cCons (mBin gIx (mOp gLstD (mCons (mC (.int 1)) (mCons (mC (.int 2)) (mCons (mC (.int 9)) mNil)))) (mCall m_law_take (cIo 0 (cCons (mC (.int 3)) cNil)))) cNil)))) (mC (.int 0))))) (mSeq (mSet 3 (mX (mOp gTupD (mCons (mBr 2 (mLcV 6 [6] (iSeeV 2) (mOp gList (mCons (mSee 6) mNil)))) (mCons (mBr 2 (mLc [12, 13, 14] (iSeq (mBin gIx (mVar 1) (mC (.int 1)))) (gtT (gtCons (gtN 12) (gtCons (gtN 13) (gtCons (gtN 14) gtNil)))) mYes (mOp gList (mCons (mBin gIx (mSee 2) (mVar 13)) mNil)))) mNil))))) (mSeq (mSetO 4 (mX (mBr 2 (mLcU 6 [6] (iSeeV 2) (mBr 6 (mOp gList (mCons (mSee 6) mNil))))))) (mSeq (mSetO 5 (mX (mCall m_taken_by_houses_k11 (cCons (mVar 1) (cIo 2 cNil))))) (mSeq (mIfS (mXB (mOrB (mBrB 5 (mNotB (mTru (mLook (m_law_same 60) (cSee (mSee 5) (cSee (mVar 3) cNil)))))) (mBrB 2 (mBrB 4 (mBinB (gp pNe) (mSee 2) (mSee 4)))))) (mSeq (mRet (mX (mC (.bool false)))) mNx) mNx) (mSeq (mDo (mX (mMutP 2 (pAt pHere (mC (.int 0))) gAppend (mCons (mOp gTupD mNil) mNil)))) (mSeq (mDo (mX (mApT 2 (mOp gLstD mNil)))) (mSeq (mIfS (mXB (mBrB 5 (mNotB (mTru (mLook (m_law_same 60) (cSee (mSee 5) (cSee (mVar 3) cNil))))))) (mSeq (mRet (mX (mC (.bool false)))) mNx) mNx) (mSeq (mDo (mX (mMutP 5 (pAt (pAt pHere (mC (.int 0))) (mC (.int 0))) gAppend (mCons (mOp gTupD mNil) mNil)))) (mSeq (mDo (mX (mMutP 5 (pAt pHere (mC (.int 0))) gRevT mNil))) (mSeq (mForO 5 6 (pAt pHere (mC (.int 1))) (mSeq (mDo (mX (mMut 6 gAppend (mCons (mOp gTupD (mCons (mC (.int 0)) mNil)) mNil)))) mNx)) (mSeq (mIfS (mXB (mNotB (mTru (mLook (m_law_same 60) (cSee (mCall m_taken_by_houses_k11 (cCons (mVar 1) (cIo 4 cNil))) (cSee (mVar 3) cNil)))))) (mSeq (mRet (mX (mC (.bool false)))) mNx) mNx) (mSeq (mFor [7] (mXI (iRng (mCons (mC (.int 8)) mNil))) (gtN 7) (mSeq (mSet 8 (mX (mCall m_law_otherwise_k11 (cIo 0 (cCons (mVar 1) (cCons (mVar 3) cNil)))))) (mSeq (mSet 9 (mX (mOp (gp pRepr) (mCons (mVar 8) mNil)))) (mSeq (mSet 10 (mX (mCall m_is_by_houses (cCons (mVar 1) (cCons (mVar 8) cNil))))) (mSeq (mIfS (mXB (mOrB (mNotB (mTru (mIsi isBoolD (mVar 10)))) (mOrB (mBinB (gp pNe) (mVar 10) (mCall m_law_due (cCons (mVar 1) (cCons (mVar 8) cNil)))) (mBinB (gp pNe) (mOp (gp pRepr) (mCons (mVar 8) mNil)) (mVar 9))))) (mSeq (mRet (mX (mC (.bool false)))) mNx) mNx) mNx))))) (mSeq (mSet 11 (mX (mCall m_law_way_k11 (cIo 0 (cCons (mVar 1) cNil))))) (mSeq (mRet (mX (mAnd (mBin (gp pEq) (mCall m_is_by_houses (cCons (mVar 1) (cCons (mVar 11) cNil))) (mCall m_law_due (cCons (mVar 1) (cCons (mVar 11) cNil)))) (mBin (gp pIsB) (mCall m_is_by_houses (cCons (mVar 1) (cCons (mVar 3) cNil))) (mC (.bool true)))))) mNx))))))))))))))))
def m_law_right_k11 : MF := mFn [true] 15 b_law_right_k11
def b_law_k11 : MS := (mSeq (mFor [1] (mXI (iRng (mCons (mBr 0 (mOp (gp pMax2) (mCons (mC (.int 3)) (mCons (mOp (gp pMin2) (mCons (mOp gLen (mCons (mSee 0) mNil)) (mCons (mC (.int 8)) mNil))) mNil)))) mNil))) (gtN 1) (mSeq (mIfS (mXB (mNotB (mTru (mCall m_law_right_k11 (cOw (mCall m_law_tape (cIo 0 (cCons (mVar 1) cNil))) cNil))))) (mSeq (mRet (mX (mC (.bool false)))) mNx) mNx) mNx)) (mSeq (mRet (mX (mC (.bool true)))) mNx))
def m_law_k11 : MF := mFn [true] 2 b_law_k11
end La
namespace La
open PySem PySem.Spec PyProof.Rows L2 Tl
def s_taken_by_houses_k11_1 : MS := (mRet (mX (mOp gTupT (mCons (mBr 1 (mLcU 2 [2] (iSeeV 1) (mBr 2 (mOp gList (mCons (mSee 2) mNil))))) (mCons (mLcT [3, 4, 5] (iSeq (mBin gIx (mVar 0) (mC (.int 1)))) (gtT (gtCons (gtN 3) (gtCons (gtN 4) (gtCons (gtN 5) gtNil)))) mYes (mBr 1 (mOp gList (mCons (mBin gIx (mSee 1) (mVar 4)) mNil)))) mNil)))))
theorem pieces_taken_by_houses_k11 : b_taken_by_houses_k11 = (mSeq s_taken_by_houses_k11_1 mNx) := rfl
def s_law_by_houses_k11_1 : MS := (mRet (mX (mTupK 1 (mLc [2, 3, 4] (iSeq (mBin gIx (mVar 0) (mC (.int 1)))) (gtT (gtCons (gtN 2) (gtCons (gtN 3) (gtCons (gtN 4) gtNil)))) mYes (mBr 1 (mLc [5] (iRng (mCons (mBin gIx (mVar 0) (mC (.int 0))) mNil)) (gtN 5) mYes (mBin gIx (mBin gIx (mSee 1) (mVar 3)) (mVar 5))))))))
theorem pieces_law_by_houses_k11 : b_law_by_houses_k11 = (mSeq s_law_by_houses_k11_1 mNx) := rfl
def s_law_otherwise_k11_1 : MS := (mParG [(3, true) , (4, true)] (mCons (mLcT [12] (iSeq (mBin gIx (mVar 2) (mC (.int 0)))) (gtN 12) mYes (mOp gList (mCons (mVar 12) mNil))) (mCons (mLcT [12] (iSeq (mBin gIx (mVar 2) (mC (.int 1)))) (gtN 12) mYes (mOp gList (mCons (mVar 12) mNil))) mNil)))
def s_law_otherwise_k11_2 : MS := (mPar 5 6 (mCons (mCall m_law_take (cIo 0 (cCons (mC (.int 3)) cNil))) (mCons (mCall m_law_take (cIo 0 (cCons (mBin gIx (mVar 1) (mC (.int 0))) cNil))) mNil)))
def s_law_otherwise_k11_3 : MS := (mIfS (mXB (mBinB (gp pEq) (mBin gIx (mVar 1) (mC (.int 1))) (mOp gLstD mNil))) (mSeq (mPre (mFz 4) (mPre (mFz 3) (mRet (mX (mOp gTupD (mCons (mVar 3) (mCons (mVar 4) mNil))))))) mNx) mNx)
def s_law_otherwise_k11_4 : MS := (mSet 7 (mX (mCall m_law_take (cIo 0 (cCons (mOp gLen (mCons (mBin gIx (mVar 1) (mC (.int 1))) mNil)) cNil)))))
def s_law_otherwise_k11_5 : MS := (mSet 8 (mX (mBin gIx (mBin gIx (mBin gIx (mVar 1) (mC (.int 1))) (mVar 7)) (mC (.int 1)))))
def s_law_otherwise_k11_6 : MS := (mSet 9 (mX (mOp gTuple (mCons (mLc [10, 11] (iEnumM (mBin gIx (mVar 1) (mC (.int 1)))) (gtT (gtCons (gtN 10) (gtCons (gtN 11) gtNil))) (mAndB (mBinB (gp pEq) (mBin gIx (mVar 11) (mC (.int 0))) (mVar 8)) (mBinB (gp pEq) (mCall m_law_take (cIo 0 (cCons (mC (.int 2)) cNil))) (mC (.int 0)))) (mVar 10)) mNil))))
def s_law_otherwise_k11_7 : MS := (mIfS (mXB (mBinB (gp pEq) (mVar 8) (mVar 6))) (mSeq (mPre (mFz 4) (mPre (mFz 3) (mRet (mX (mOp gTupD (mCons (mVar 3) (mCons (mVar 4) mNil))))))) mNx) mNx)
def s_law_otherwise_k11_8t_1 : MS := (mSetP 4 (pAt pHere (mVar 7)) (mVar 9) (mVar 6))
abbrev s_law_otherwise_k11_8t : MS := (mSeq s_law_otherwise_k11_8t_1 mNx)
def s_law_otherwise_k11_8e_1t_1b_1 : MS := (mIfS (mXB (mBinB (gp pEq) (mBin gIx (mVar 11) (mC (.int 1))) (mVar 8))) (mSeq (mSetP 4 (pAt pHere (mVar 10)) (mVar 9) (mVar 6)) mNx) mNx)
abbrev s_law_otherwise_k11_8e_1t_1b : MS := (mSeq s_law_otherwise_k11_8e_1t_1b_1 mNx)
def s_law_otherwise_k11_8e_1t_1 : MS := (mFor [10, 11] (mXI (iEnumM (mBin gIx (mVar 1) (mC (.int 1))))) (gtT (gtCons (gtN 10) (gtCons (gtN 11) gtNil))) s_law_otherwise_k11_8e_1t_1b)
abbrev s_law_otherwise_k11_8e_1t : MS := (mSeq s_law_otherwise_k11_8e_1t_1 mNx)
def s_law_otherwise_k11_8e_1e_1 : MS := (mSetP 3 (pAt pHere (mVar 8)) (mVar 9) (mVar 6))
abbrev s_law_otherwise_k11_8e_1e : MS := (mSeq s_law_otherwise_k11_8e_1e_1 mNx)
def s_law_otherwise_k11_8e_1 : MS := (mIfS (mXB (mBinB (gp pEq) (mVar 5) (mC (.int 1)))) s_law_otherwise_k11_8e_1t s_law_otherwise_k11_8e_1e)
abbrev s_law_otherwise_k11_8e : MS := (mSeq s_law_otherwise_k11_8e_1 mNx)
def s_law_otherwise_k11_8 : MS := (mIfS (mXB (mBinB (gp pEq) (mVar 5) (mC (.int 0)))) s_law_otherwise_k11_8t s_law_otherwise_k11_8e)
def s_law_otherwise_k11_9 : MS := (mPre (mFz 4) (mPre (mFz 3) (mRet (mX (mOp gTupD (mCons (mVar 3) (mCons (mVar 4) mNil)))))))
theorem pieces_law_otherwise_k11 : b_law_otherwise_k11 = (mSeq s_law_otherwise_k11_1 (mSeq s_law_otherwise_k11_2 (mSeq s_law_otherwise_k11_3 (mSeq s_law_otherwise_k11_4 (mSeq s_law_otherwise_k11_5 (mSeq s_law_otherwise_k11_6 (mSeq s_law_otherwise_k11_7 (mSeq s_law_otherwise_k11_8 (mSeq s_law_otherwise_k11_9 mNx))))))))) := rfl
def s_law_due_1b_1 : MS := (mIfS (mXB (mBinB (gp pNe) (mOp gList (mCons (mVar 3) mNil)) (mOp gList (mCons (mBin gIx (mBin gIx (mVar 1) (mC (.int 0))) (mBin gIx (mVar 2) (mC (.int 1)))) mNil)))) (mSeq (mRet (mX (mC (.bool false)))) mNx) mNx)
abbrev s_law_due_1b : MS := (mSeq s_law_due_1b_1 mNx)
def s_law_due_1 : MS := (mFor [2, 3] (mXI (iZipM (mBin gIx (mVar 0) (mC (.int 1))) (mBin gIx (mVar 1) (mC (.int 1))))) (gtT (gtCons (gtN 2) (gtCons (gtN 3) gtNil))) s_law_due_1b)
def s_law_due_2 : MS := (mRet (mX (mC (.bool true))))
theorem pieces_law_due : b_law_due = (mSeq s_law_due_1 (mSeq s_law_due_2 mNx)) := rfl
def s_law_right_k11_1 : MS := (mSet 1 (mX (mCall m_law_net (cIo 0 cNil))))
def s_law_right_k11_2 : MS := (mSetO 2 (mX (mBin gIxT (mCall m_law_way_by_houses_k11 (cIo 0 (cCons (mVar 1) (cCons (mBin gIx (mOp gLstD (mCons (mC (.int 1)) (mCons (mC (.int 2)) (mCons (mC (.int 9)) mNil)))) (mCall m_law_take (cIo 0 (cCons (mC (.int 3)) cNil)))) cNil)))) (mC (.int 0)))))
def s_law_right_k11_3 : MS := (mSet 3 (mX (mOp gTupD (mCons (mBr 2 (mLcV 6 [6] (iSeeV 2) (mOp gList (mCons (mSee 6) mNil)))) (mCons (mBr 2 (mLc [12, 13, 14] (iSeq (mBin gIx (mVar 1) (mC (.int 1)))) (gtT (gtCons (gtN 12) (gtCons (gtN 13) (gtCons (gtN 14) gtNil)))) mYes (mOp gList (mCons (mBin gIx (mSee 2) (mVar 13)) mNil)))) mNil)))))
def s_law_right_k11_4 : MS := (mSetO 4 (mX (mBr 2 (mLcU 6 [6] (iSeeV 2) (mBr 6 (mOp gList (mCons (mSee 6) mNil)))))))
def s_law_right_k11_5 : MS := (mSetO 5 (mX (mCall m_taken_by_houses_k11 (cCons (mVar 1) (cIo 2 cNil)))))
def s_law_right_k11_6 : MS := (mIfS (mXB (mOrB (mBrB 5 (mNotB (mTru (mLook (m_law_same 60) (cSee (mSee 5) (cSee (mVar 3) cNil)))))) (mBrB 2 (mBrB 4 (mBinB (gp pNe) (mSee 2) (mSee 4)))))) (mSeq (mRet (mX (mC (.bool false)))) mNx) mNx)
def s_law_right_k11_7 : MS := (mDo (mX (mMutP 2 (pAt pHere (mC (.int 0))) gAppend (mCons (mOp gTupD mNil) mNil))))
def s_law_right_k11_8 : MS := (mDo (mX (mApT 2 (mOp gLstD mNil))))
def s_law_right_k11_9 : MS := (mIfS (mXB (mBrB 5 (mNotB (mTru (mLook (m_law_same 60) (cSee (mSee 5) (cSee (mVar 3) cNil))))))) (mSeq (mRet (mX (mC (.bool false)))) mNx) mNx)
def s_law_right_k11_10 : MS := (mDo (mX (mMutP 5 (pAt (pAt pHere (mC (.int 0))) (mC (.int 0))) gAppend (mCons (mOp gTupD mNil) mNil))))
def s_law_right_k11_11 : MS := (mDo (mX (mMutP 5 (pAt pHere (mC (.int 0))) gRevT mNil)))
def s_law_right_k11_12b_1 : MS := (mDo (mX (mMut 6 gAppend (mCons (mOp gTupD (mCons (mC (.int 0)) mNil)) mNil))))
abbrev s_law_right_k11_12b : MS := (mSeq s_law_right_k11_12b_1 mNx)
def s_law_right_k11_12 : MS := (mForO 5 6 (pAt pHere (mC (.int 1))) s_law_right_k11_12b)
def s_law_right_k11_13 : MS := (mIfS (mXB (mNotB (mTru (mLook (m_law_same 60) (cSee (mCall m_taken_by_houses_k11 (cCons (mVar 1) (cIo 4 cNil))) (cSee (mVar 3) cNil)))))) (mSeq (mRet (mX (mC (.bool false)))) mNx) mNx)
def s_law_right_k11_14b_1 : MS := (mSet 8 (mX (mCall m_law_otherwise_k11 (cIo 0 (cCons (mVar 1) (cCons (mVar 3) cNil))))))
def s_law_right_k11_14b_2 : MS := (mSet 9 (mX (mOp (gp pRepr) (mCons (mVar 8) mNil))))
def s_law_right_k11_14b_3 : MS := (mSet 10 (mX (mCall m_is_by_houses (cCons (mVar 1) (cCons (mVar 8) cNil)))))
def s_law_right_k11_14b_4 : MS := (mIfS (mXB (mOrB (mNotB (mTru (mIsi isBoolD (mVar 10)))) (mOrB (mBinB (gp pNe) (mVar 10) (mCall m_law_due (cCons (mVar 1) (cCons (mVar 8) cNil)))) (mBinB (gp pNe) (mOp (gp pRepr) (mCons (mVar 8) mNil)) (mVar 9))))) (mSeq (mRet (mX (mC (.bool false)))) mNx) mNx)
abbrev s_law_right_k11_14b : MS := (mSeq s_law_right_k11_14b_1 (mSeq s_law_right_k11_14b_2 (mSeq s_law_right_k11_14b_3 (mSeq s_law_right_k11_14b_4 mNx))))
def s_law_right_k11_14 : MS := (mFor [7] (mXI (iRng (mCons (mC (.int 8)) mNil))) (gtN 7) s_law_right_k11_14b)
def s_law_right_k11_15 : MS := (mSet 11 (mX (mCall m_law_way_k11 (cIo 0 (cCons (mVar 1) cNil)))))
def s_law_right_k11_16 : MS := (mRet (mX (mAnd (mBin (gp pEq) (mCall m_is_by_houses (cCons (mVar 1) (cCons (mVar 11) cNil))) (mCall m_law_due (cCons (mVar 1) (cCons (mVar 11) cNil)))) (mBin (gp pIsB) (mCall m_is_by_houses (cCons (mVar 1) (cCons (mVar 3) cNil))) (mC (.bool true))))))
theorem pieces_law_right_k11 : b_law_right_k11 = (mSeq s_law_right_k11_1 (mSeq s_law_right_k11_2 (mSeq s_law_right_k11_3 (mSeq s_law_right_k11_4 (mSeq s_law_right_k11_5 (mSeq s_law_right_k11_6 (mSeq s_law_right_k11_7 (mSeq s_law_right_k11_8 (mSeq s_law_right_k11_9 (mSeq s_law_right_k11_10 (mSeq s_law_right_k11_11 (mSeq s_law_right_k11_12 (mSeq s_law_right_k11_13 (mSeq s_law_right_k11_14 (mSeq s_law_right_k11_15 (mSeq s_law_right_k11_16 mNx)))))))))))))))) := rfl
def s_law_k11_1b_1 : MS := (mIfS (mXB (mNotB (mTru (mCall m_law_right_k11 (cOw (mCall m_law_tape (cIo 0 (cCons (mVar 1) cNil))) cNil))))) (mSeq (mRet (mX (mC (.bool false)))) mNx) mNx)
abbrev s_law_k11_1b : MS := (mSeq s_law_k11_1b_1 mNx)
def s_law_k11_1 : MS := (mFor [1] (mXI (iRng (mCons (mBr 0 (mOp (gp pMax2) (mCons (mC (.int 3)) (mCons (mOp (gp pMin2) (mCons (mOp gLen (mCons (mSee 0) mNil)) (mCons (mC (.int 8)) mNil))) mNil)))) mNil))) (gtN 1) s_law_k11_1b)
def s_law_k11_2 : MS := (mRet (mX (mC (.bool true))))
theorem pieces_law_k11 : b_law_k11 = (mSeq s_law_k11_1 (mSeq s_law_k11_2 mNx)) := rfl
end La

namespace Tl
open PySem PySem.Spec PyProof.Rows L2
def smI (i : Int) : Bool := decide (-999999999999 ≤ i ∧ i ≤ 999999999999)
mutual
def sml : D → Bool
  | .none => true
  | .bool _ => true
  | .int i => smI i
  | .list xs => smlAll xs
  | .tuple xs => smlAll xs
  | _ => false
def smlAll : List D → Bool
  | [] => true
  | x :: xs => sml x && smlAll xs
end
mutual
def sz : D → Nat
  | .int _ => 40
  | .list xs => szAll xs
  | .tuple xs => szAll xs
  | _ => 0
def szAll : List D → Nat
  | [] => 0
  | x :: xs => sz x + 1 + szAll xs
end
theorem smI_log {i : Int} (h : smI i = true) : i.natAbs.log2 < 40 := by
  have h' : -999999999999 ≤ i ∧ i ≤ 999999999999 := of_decide_eq_true h
  by_cases q : i.natAbs = 0
  · rw [q]
    decide
  · exact (Nat.log2_lt q).mpr (by omega)
mutual
theorem sml_facts : ∀ d : D, sml d = true → d.canLay0 = true ∧ d.showable = true ∧ d.intsShort 13 = true ∧ d.weight ≤ sz d
  | .none, _ => ⟨rfl, rfl, rfl, by simp [PyData.weight]⟩
  | .bool b, _ => ⟨rfl, rfl, rfl, by simp [PyData.weight]⟩
  | .int i, h => by
    have h' : smI i = true := h
    have hl := smI_log h'
    have h2 : -999999999999 ≤ i ∧ i ≤ 999999999999 := of_decide_eq_true h'
    refine ⟨rfl, by simp only [PyData.showable]; exact decide_eq_true (by omega), ?_, ?_⟩
    · exact intsShort_of_noneOrInC (lo := -999999999999) (hi := 999999999999) (by omega) (by omega) (.int i) (by
        simp [noneOrInC, h2.1, h2.2])
    · simp only [PyData.weight, sz]
      split <;> omega
  | .str _, h => by cases h
  | .dict _, h => by cases h
  | .list xs, h => by
    obtain ⟨h1, h2, h3, h4⟩ := smlAll_facts xs h
    exact ⟨by simpa only [PyData.canLay0] using h1, by simpa only [PyData.showable] using h2, by simpa only [PyData.intsShort] using h3, by simpa only [PyData.weight, sz] using h4⟩
  | .tuple xs, h => by
    obtain ⟨h1, h2, h3, h4⟩ := smlAll_facts xs h
    exact ⟨by simpa only [PyData.canLay0] using h1, by simpa only [PyData.showable] using h2, by simpa only [PyData.intsShort] using h3, by simpa only [PyData.weight, sz] using h4⟩
theorem smlAll_facts : ∀ ds : List D, smlAll ds = true → PyData.canLayAll0 ds = true ∧ PyData.showableAll ds = true ∧ PyData.intsShortAll 13 ds = true ∧ PyData.weightAll ds ≤ szAll ds
  | [], _ => ⟨rfl, rfl, rfl, by simp [PyData.weightAll]⟩
  | x :: xs, h => by
    have h' : sml x = true ∧ smlAll xs = true := by
      have : (sml x && smlAll xs) = true := h
      simpa using this
    obtain ⟨a1, a2, a3, a4⟩ := sml_facts x h'.1
    obtain ⟨b1, b2, b3, b4⟩ := smlAll_facts xs h'.2
    refine ⟨by simp only [PyData.canLayAll0, a1, b1, Bool.and_self], by simp only [PyData.showableAll, a2, b2, Bool.and_self], by simp only [PyData.intsShortAll, a3, b3, Bool.and_self], ?_⟩
    simp only [PyData.weightAll, szAll]
    omega
end
@[simp] theorem shaped_int (i : Int) : SeqAt.shaped (.int i) = true := rfl
@[simp] theorem shaped_bool (i : Bool) : SeqAt.shaped (.bool i) = true := rfl
@[simp] theorem shaped_none : SeqAt.shaped .none = true := rfl
@[simp] theorem eqv_int (i j : Int) : PyData.eqv (.int i) (.int j) = decide (i = j) := by
  by_cases h : i = j <;> simp [PyData.eqv, h]
@[simp] theorem eqv_bool (i j : Bool) : PyData.eqv (.bool i) (.bool j) = (i == j) := by simp [PyData.eqv]
theorem forL_inv {ws : List Nat} {mt : MG} {body : MS} (Inv : List D → SS → Prop) (step : ∀ d ds s, Inv (d :: ds) s → ∃ fz s', mt d s.fz = some fz ∧ (body ⟨fz, tout ws s.ow⟩ = some (.nx s') ∨ body ⟨fz, tout ws s.ow⟩ = some (.ct s')) ∧ Inv ds s') :
    ∀ ds s, Inv ds s → ∃ s', forL ws mt body ds s = some (.nx s') ∧ Inv [] s'
  | [], s, h => ⟨s, rfl, h⟩
  | d :: ds, s, h => by
    obtain ⟨fz, s1, e1, e2, h1⟩ := step d ds s h
    obtain ⟨s', e3, h3⟩ := forL_inv Inv step ds s1 h1
    refine ⟨s', ?_, h3⟩
    show (mt d s.fz).bind _ = _
    rw [e1]
    show (body ⟨fz, tout ws s.ow⟩).bind _ = _
    rcases e2 with e2 | e2 <;> (rw [e2]; exact e3)
theorem lc_inv {vs : List Nat} {mt : MG} {mc : MB} {me : MV} {fw : Fz} {vw : Tau} (Inv : List D → List D → Tau → Prop)
    (step : ∀ d ds acc τ, Inv (d :: ds) acc τ → ∃ fz b τ1, mt d fw = some fz ∧ mc ⟨fz, vw⟩ τ = some (b, τ1) ∧ (b = false ∧ Inv ds acc (tout vs τ1) ∨ b = true ∧ ∃ r τ2 y, me ⟨fz, vw⟩ τ1 = some (r, τ2) ∧ r.st = some y ∧ Inv ds (acc ++ [y]) (tout vs τ2))) :
    ∀ ds acc τ, Inv ds acc τ → ∃ acc' τ', lcLoop vs mt mc me fw vw ds acc τ = some (acc', τ') ∧ Inv [] acc' τ'
  | [], acc, τ, h => ⟨acc, τ, rfl, h⟩
  | d :: ds, acc, τ, h => by
    obtain ⟨fz, b, τ1, e1, e2, e3⟩ := step d ds acc τ h
    rcases e3 with ⟨rfl, h1⟩ | ⟨rfl, r, τ2, y, e4, e5, h1⟩
    · obtain ⟨acc', τ', e6, h6⟩ := lc_inv Inv step ds acc _ h1
      refine ⟨acc', τ', ?_, h6⟩
      show (mt d fw).bind _ = _
      rw [e1]
      show (mc ⟨fz, vw⟩ τ).bind _ = _
      rw [e2]
      exact e6
    · obtain ⟨acc', τ', e6, h6⟩ := lc_inv Inv step ds (acc ++ [y]) _ h1
      refine ⟨acc', τ', ?_, h6⟩
      show (mt d fw).bind _ = _
      rw [e1]
      show (mc ⟨fz, vw⟩ τ).bind _ = _
      rw [e2]
      show (me ⟨fz, vw⟩ τ1).bind _ = _
      rw [e4]
      show r.st.bind _ = _
      rw [e5]
      exact e6
theorem rangeD_mem {lo : Int} {n : Nat} {d : D} (h : d ∈ rangeD lo 1 n) : ∃ i : Int, d = .int i ∧ lo ≤ i ∧ i < lo + n := by
  obtain ⟨i, h1, h2⟩ := List.mem_map.mp h
  have := List.mem_range.mp h1
  exact ⟨lo + (i : Nat) * 1, h2.symm, by omega, by omega⟩
theorem cutD_sub {xs : List D} {lo hi : Option Int} {d : D} (h : d ∈ cutD xs lo hi) : d ∈ xs := List.mem_of_mem_drop (List.mem_of_mem_take h)
theorem forL_of {ws : List Nat} {mt : MG} {body : MS} {ds : List D} {s : SS} {x : Option Out} (h : forL ws mt body ds s = x) (Inv : List D → SS → Prop) (i : Inv ds s)
    (step : ∀ d ds s, Inv (d :: ds) s → ∃ fz s', mt d s.fz = some fz ∧ (body ⟨fz, tout ws s.ow⟩ = some (.nx s') ∨ body ⟨fz, tout ws s.ow⟩ = some (.ct s')) ∧ Inv ds s') : ∃ s', x = some (.nx s') ∧ Inv [] s' := by
  obtain ⟨s', e, k⟩ := forL_inv Inv step ds s i
  exact ⟨s', h.symm.trans e, k⟩
theorem lc_of {vs : List Nat} {mt : MG} {mc : MB} {me : MV} {fw : Fz} {vw : Tau} {ds acc : List D} {τ : Tau} {x : Option (List D × Tau)} (h : lcLoop vs mt mc me fw vw ds acc τ = x) (Inv : List D → List D → Tau → Prop) (i : Inv ds acc τ)
    (step : ∀ d ds acc τ, Inv (d :: ds) acc τ → ∃ fz b τ1, mt d fw = some fz ∧ mc ⟨fz, vw⟩ τ = some (b, τ1) ∧ (b = false ∧ Inv ds acc (tout vs τ1) ∨ b = true ∧ ∃ r τ2 y, me ⟨fz, vw⟩ τ1 = some (r, τ2) ∧ r.st = some y ∧ Inv ds (acc ++ [y]) (tout vs τ2))) :
    ∃ acc' τ', x = some (acc', τ') ∧ Inv [] acc' τ' := by
  obtain ⟨a, t, e, k⟩ := lc_inv Inv step ds acc τ i
  exact ⟨a, t, h.symm.trans e, k⟩
@[simp] theorem isL_l (ds : List D) : isListD (.list ds) = true := rfl
@[simp] theorem isL_t (ds : List D) : isListD (.tuple ds) = false := rfl
@[simp] theorem isL_n : isListD .none = false := rfl
@[simp] theorem isL_b (b : Bool) : isListD (.bool b) = false := rfl
@[simp] theorem isL_i (b : Int) : isListD (.int b) = false := rfl
@[simp] theorem isL_s (b : Str) : isListD (.str b) = false := rfl
@[simp] theorem isT_l (ds : List D) : isTupD (.list ds) = false := rfl
@[simp] theorem isT_t (ds : List D) : isTupD (.tuple ds) = true := rfl
@[simp] theorem isT_n : isTupD .none = false := rfl
@[simp] theorem isT_b (b : Bool) : isTupD (.bool b) = false := rfl
@[simp] theorem isT_i (b : Int) : isTupD (.int b) = false := rfl
@[simp] theorem isT_s (b : Str) : isTupD (.str b) = false := rfl
@[simp] theorem isS_l (ds : List D) : isStrD (.list ds) = false := rfl
@[simp] theorem isS_t (ds : List D) : isStrD (.tuple ds) = false := rfl
@[simp] theorem isS_n : isStrD .none = false := rfl
@[simp] theorem isS_b (b : Bool) : isStrD (.bool b) = false := rfl
@[simp] theorem isS_i (b : Int) : isStrD (.int b) = false := rfl
@[simp] theorem isS_s (b : Str) : isStrD (.str b) = true := rfl
@[simp] theorem isB_l (ds : List D) : isBoolD (.list ds) = false := rfl
@[simp] theorem isB_t (ds : List D) : isBoolD (.tuple ds) = false := rfl
@[simp] theorem isB_n : isBoolD .none = false := rfl
@[simp] theorem isB_b (b : Bool) : isBoolD (.bool b) = true := rfl
@[simp] theorem isB_i (b : Int) : isBoolD (.int b) = false := rfl
@[simp] theorem isB_s (b : Str) : isBoolD (.str b) = false := rfl
@[simp] theorem isI_l (ds : List D) : isIntD (.list ds) = false := rfl
@[simp] theorem isI_t (ds : List D) : isIntD (.tuple ds) = false := rfl
@[simp] theorem isI_n : isIntD .none = false := rfl
@[simp] theorem isI_b (b : Bool) : isIntD (.bool b) = true := rfl
@[simp] theorem isI_i (b : Int) : isIntD (.int b) = true := rfl
@[simp] theorem isI_s (b : Str) : isIntD (.str b) = false := rfl
@[simp] theorem nn_n : isNone .none = true := rfl
@[simp] theorem nn_l (ds : List D) : isNone (.list ds) = false := rfl
@[simp] theorem nn_t (ds : List D) : isNone (.tuple ds) = false := rfl
@[simp] theorem nn_b (b : Bool) : isNone (.bool b) = false := rfl
@[simp] theorem nn_i (b : Int) : isNone (.int b) = false := rfl
@[simp] theorem nn_s (b : Str) : isNone (.str b) = false := rfl
@[simp] theorem eqv_none : PyData.eqv .none .none = true := by simp [PyData.eqv]
@[simp] theorem eqv_str (a b : Str) : PyData.eqv (.str a) (.str b) = (a == b) := by simp [PyData.eqv]
theorem zipD_self_mem : ∀ {ds : List D} {p : D}, p ∈ zipD ds ds → ∃ d ∈ ds, p = .tuple [d, d]
  | [], _, m => nomatch m
  | d :: ds, p, m => by
    rcases List.mem_cons.mp (show p ∈ .tuple [d, d] :: zipD ds ds from m) with e | m
    · exact ⟨d, List.mem_cons_self, e⟩
    · obtain ⟨d', m', e⟩ := zipD_self_mem m
      exact ⟨d', List.mem_cons_of_mem _ m', e⟩
theorem depthAll_le : ∀ {ds : List D} {d : D}, d ∈ ds → d.depth ≤ PyData.depthAll ds
  | x :: xs, d, m => by
    rw [PyData.depthAll]
    rcases List.mem_cons.mp m with e | m
    · subst e
      omega
    · have := depthAll_le m
      omega
theorem layAll_mem : ∀ {ds : List D} {d : D}, PyData.canLayAll0 ds = true → d ∈ ds → d.canLay0 = true
  | x :: xs, d, h, m => by
    have h' : x.canLay0 = true ∧ PyData.canLayAll0 xs = true := by simpa [PyData.canLayAll0] using h
    rcases List.mem_cons.mp m with e | m
    · subst e
      exact h'.1
    · exact layAll_mem h'.2 m
theorem boolsD_mapD {α : Type} (f : α → Bool) (ls : List α) : boolsD (ls.map fun d => PyData.bool (f d)) = some (ls.map f) := by
  have := boolsD_bs (ls.map f)
  rw [List.map_map] at this
  exact this
end Tl

namespace La
open PySem PySem.Spec PyProof.Rows L2 Tl
/-- the tape: what is left, the seed, the count; n more draws are covered -/
def Tp (n : Nat) (t : T) : Prop := ∃ a b : Int, ∃ c : Nat, t = .fl [.int a, .int b, .int c] ∧ 0 ≤ a ∧ 0 ≤ b ∧ b < 2147483629 ∧ c + n ≤ 1152921504606846976
@[simp] theorem ixN3_0 : ixN 3 0 = some 0 := by decide
@[simp] theorem ixN3_1 : ixN 3 1 = some 1 := by decide
@[simp] theorem ixN3_2 : ixN 3 2 = some 2 := by decide
theorem take_ok {n : Nat} {t : T} {m : Int} (h : Tp (n + 1) t) (h0 : 0 < m) (h1 : m < 1073741824) : ∃ (v : Int) (t' : T), m_law_take [t, .leaf (.int m)] = some (.leaf (.int v), [t', .leaf (.int m)]) ∧ 0 ≤ v ∧ v < m ∧ Tp n t' := by
  obtain ⟨a, b, c, rfl, ha, hb, hb', hc⟩ := h
  by_cases q : 0 < a
  · refine ⟨a % m, .fl [.int (a / m), .int b, .int c], ?_, Int.emod_nonneg _ (by omega), Int.emod_lt_of_pos _ h0, a / m, b, c, rfl, Int.ediv_nonneg ha (by omega), hb, hb', by omega⟩
    simp [m_law_take, b_law_take, q, h0, h1, L2.atI]
  · have k1 : okMul (b + 39373 * ((c : Int) + 1)) (48271 + ((c : Int) + 1)) = true := okMul_r (by omega) (by omega)
    generalize hw : (b + 39373 * ((c : Int) + 1)) * (48271 + ((c : Int) + 1)) = w at *
    have hu := emod_b w 2147483647 (by omega)
    generalize he : w % 2147483647 = u at *
    have k2 : okMul u (u % 40009 + 7) = true := okMul_l (by omega) (by omega)
    have hz := emod_b (u * (u % 40009 + 7) + ((c : Int) + 1)) 2147483629 (by omega)
    generalize hx : (u * (u % 40009 + 7) + ((c : Int) + 1)) % 2147483629 = z at *
    have k3 : okMul z (z % 1009 + 3) = true := okMul_l (by omega) (by omega)
    have hv := emod_b (z * (z % 1009 + 3) % 998244353 / 7) m h0
    refine ⟨z * (z % 1009 + 3) % 998244353 / 7 % m, .fl [.int a, .int z, .int (c + 1)], ?_, hv.1, hv.2, a, z, c + 1, rfl, ha, hz.1, hz.2, by omega⟩
    simp [m_law_take, b_law_take, q, h0, h1, L2.atI, k1, k2, k3, hw, he, hx]
theorem Tp.mono {m n : Nat} {t : T} (h : Tp n t) (l : m ≤ n) : Tp m t := by
  obtain ⟨a, b, c, e, h1, h2, h3, h4⟩ := h
  exact ⟨a, b, c, e, h1, h2, h3, by omega⟩
theorem atI_ofNat {α : Type} {xs : List α} {j : Nat} : L2.atI xs (j : Int) = xs[j]? := by
  unfold L2.atI
  by_cases h : j < xs.length
  · unfold ixN
    rw [if_pos (by omega), if_pos (by omega)]
    show xs[((j : Int)).toNat]? = _
    rw [Int.toNat_natCast]
  · unfold ixN
    rw [if_pos (by omega), if_neg (by omega), List.getElem?_eq_none (by omega)]
    rfl
theorem cell_ok (ns : List Int) (k : Nat) : ∃ v : Int, m_law_cell_at [.scr (ns.map .int), .leaf (.int k)] = some (.leaf (.int v), [.scr (ns.map .int), .leaf (.int k)]) := by
  by_cases q : k < ns.length
  · have e : (ns.map PyData.int)[k]? = some (.int ns[k]) := by
      rw [List.getElem?_map, List.getElem?_eq_getElem q]
      rfl
    refine ⟨ns[k], ?_⟩
    simp [m_law_cell_at, b_law_cell_at, q, atI_ofNat, -List.getElem?_map, e]
  · refine ⟨0, ?_⟩
    simp [m_law_cell_at, b_law_cell_at, q]
/-- the draws that a tape covers -/
def big : Nat := 1152921504606846976
theorem tape_ok (ns : List Int) (k : Nat) : ∃ t : T, m_law_tape [.scr (ns.map .int), .leaf (.int k)] = some (t, [.scr (ns.map .int), .leaf (.int k)]) ∧ Tp big t := by
  obtain ⟨v, e⟩ := cell_ok ns k
  have hz := emod_b ((v % 2147483647 + 6907 * k + 29) * 48271) 2147483629 (by omega)
  have hp : (10 : Int) ^ 18 = 1000000000000000000 := by decide
  have hn : 0 ≤ (if v < 0 then -v else v) := by split <;> omega
  generalize hw : (if v < 0 then -v else v) = w at *
  have k1 : okMul w (if (decide (1000000000000000000 ≤ w)) = true then 1 else 0) = true := by
    split
    · exact okMul_r (by omega) (by omega)
    · exact okMul_r (by omega) (by omega)
  refine ⟨.fl [.int (w * (if (decide (1000000000000000000 ≤ w)) = true then 1 else 0)), .int ((v % 2147483647 + 6907 * k + 29) * 48271 % 2147483629), .int 0], ?_, _, _, 0, rfl, ?_, hz.1, hz.2, Nat.le_refl _⟩
  · simp [m_law_tape, b_law_tape, e, hw, okPow, hp] at k1 ⊢
    simp [k1]
  · split <;> omega
theorem room_ok {n : Nat} {t : T} (h : Tp (n + 2) t) : ∃ (r : Int) (t' : T), m_law_room [t] = some (.leaf (.int r), [t']) ∧ 1 ≤ r ∧ r ≤ 4 ∧ Tp n t' := by
  obtain ⟨v, t1, e1, l1, u1, h1⟩ := take_ok (n := n + 1) (m := 4) h (by omega) (by omega)
  obtain ⟨w, t2, e2, l2, u2, h2⟩ := take_ok (n := n) (m := 3) h1 (by omega) (by omega)
  have c : w = 0 ∨ w = 1 ∨ w = 2 := by omega
  rcases c with rfl | rfl | rfl
  · exact ⟨1, t2, by simp [m_law_room, b_law_room, e1, e2, L2.atI], by omega, by omega, h2⟩
  · exact ⟨2, t2, by simp [m_law_room, b_law_room, e1, e2, L2.atI], by omega, by omega, h2⟩
  · exact ⟨1 + v, t2, by simp [m_law_room, b_law_room, e1, e2, L2.atI], by omega, by omega, h2⟩
end La

namespace La
open PySem PySem.Spec PyProof.Rows L2 Tl
/-- a lane of a net of h houses -/
def laneOk (h : Int) (d : D) : Prop := ∃ b e r : Int, d = .tuple [.int b, .int e, .int r] ∧ 0 ≤ b ∧ b < h ∧ 0 ≤ e ∧ e < h ∧ 1 ≤ r ∧ r ≤ 4 ∧ b ≠ e
def LN (h : Int) (ds : List D) : Prop := ∀ d ∈ ds, laneOk h d
theorem LN.app {h : Int} {xs ys : List D} (a : LN h xs) (b : LN h ys) : LN h (xs ++ ys) := fun d m => (List.mem_append.mp m).elim (a d) (b d)
theorem LN.one {h b e r : Int} (h1 : 0 ≤ b) (h2 : b < h) (h3 : 0 ≤ e) (h4 : e < h) (h5 : 1 ≤ r) (h6 : r ≤ 4) (h7 : b ≠ e) : LN h [.tuple [.int b, .int e, .int r]] := fun d m => by
  rw [List.mem_singleton.mp m]
  exact ⟨b, e, r, rfl, h1, h2, h3, h4, h5, h6, h7⟩
theorem emod_ne {b k h : Int} (h0 : 0 ≤ b) (h1 : b < h) (k0 : 1 ≤ k) (k1 : k < h) : (b + k) % h ≠ b := by
  by_cases q : b + k < h
  · rw [Int.emod_eq_of_lt (by omega) q]
    omega
  · have e : (b + k) % h = b + k - h := by
      rw [show b + k = b + k - h + h by omega, Int.add_emod_right, Int.emod_eq_of_lt (by omega) (by omega)]
      omega
    rw [e]
    omega
theorem LN.nil {h : Int} : LN h [] := fun _ m => nomatch m
/-- the state within _law_net; a: what stands in slot 5 -/
def NS (n m : Nat) (way : Int) (great : Bool) (h : Int) (a : Option D) (s : SS) : Prop := ∃ (t : T) (ls : List D) (b c d e f : Option D), s = ⟨[none, some (.int way), some (.bool great), some (.int h), none, a, b, c, d, e, f], [(0, t), (4, .fl ls)]⟩ ∧ Tp n t ∧ LN h ls ∧ ls.length ≤ m
def Is (h : Int) (ds : List D) : Prop := ∀ d ∈ ds, ∃ i : Int, d = .int i ∧ 0 ≤ i ∧ i < h
theorem cutD_le (xs : List D) (k : Nat) : (Tl.cutD xs none (some (k : Int))).length ≤ k := by
  unfold Tl.cutD
  rw [List.length_take]
  refine Nat.le_trans (Nat.min_le_left _ _) ?_
  refine Nat.le_trans (Nat.sub_le _ _) ?_
  rw [HT.sIx_nat]
  exact Nat.min_le_left _ _
theorem net_ok {n : Nat} {t : T} (h0 : Tp (n + 400) t) : ∃ (h : Int) (ls : List D) (t' : T), m_law_net [t] = some (.leaf (.tuple [.int h, .list ls]), [t']) ∧ 2 ≤ h ∧ h ≤ 12 ∧ LN h ls ∧ ls.length ≤ 40 ∧ Tp n t' := by
  obtain ⟨way, t1, e1, l1, u1, h1⟩ := take_ok (n := n + 399) (m := 4) h0 (by omega) (by omega)
  obtain ⟨gr, t2, e2, l2, u2, h2⟩ := take_ok (n := n + 398) (m := 8) h1 (by omega) (by omega)
  -- how many houses
  obtain ⟨h, t3, e3, l3, u3, h3⟩ : ∃ (h : Int) (t3 : T), (mIf (mTru (mVar 2)) (mBin gAdd (mC (.int 7)) (mCall m_law_take (cIo 0 (cCons (mC (.int 6)) cNil)))) (mBin gAdd (mC (.int 2)) (mCall m_law_take (cIo 0 (cCons (mC (.int 5)) cNil))))) ⟨[none, some (.int way), some (.bool (decide (gr = 0))), none, none, none, none, none, none, none, none], []⟩ [(0, t2)] = some (rInt h, [(0, t3)]) ∧ 2 ≤ h ∧ h ≤ 12 ∧ Tp (n + 397) t3 := by
    by_cases q : gr = 0
    · obtain ⟨v, t3, e3, l3, u3, h3⟩ := take_ok (n := n + 397) (m := 6) h2 (by omega) (by omega)
      exact ⟨7 + v, t3, by simp [q, e3], by omega, by omega, h3⟩
    · obtain ⟨v, t3, e3, l3, u3, h3⟩ := take_ok (n := n + 397) (m := 5) h2 (by omega) (by omega)
      exact ⟨2 + v, t3, by simp [q, e3], by omega, by omega, h3⟩
  simp at e3
  simp [m_law_net, b_law_net, e1, e2, e3]
  generalize hA : ifsK _ _ _ = y
  obtain ⟨s1, rfl, a1, i1⟩ : ∃ s1, y = some (.nx s1) ∧ ∃ a, NS (n + 300) 24 way (decide (gr = 0)) h a s1 := by
    subst hA
    by_cases w0 : way = 0
    · subst w0
      obtain ⟨mv, t4, e4, l4, u4, h4⟩ := take_ok (n := n + 396) (m := 2) h3 (by omega) (by omega)
      simp [e4]
      rw [if_pos (by omega)]
      simp
      generalize hF : forL _ _ _ _ _ = x
      obtain ⟨s', rfl, i⟩ := forL_of hF (fun ds s => NS (n + 300 + 4 * ds.length) (24 - 2 * ds.length) 0 (decide (gr = 0)) h (some (.int (1 + mv))) s ∧ ds.length ≤ 12 ∧ Is h ds)
        ⟨⟨t4, [], _, _, _, _, _, rfl, h4.mono (by rw [rangeD_len]; omega), LN.nil, by simp⟩, by rw [rangeD_len]; omega, fun d m => by
          obtain ⟨i, e, q1, q2⟩ := rangeD_mem m
          exact ⟨i, e, q1, by omega⟩⟩ (by
        rintro d ds s ⟨⟨t, ls, b, c, d', e, f, rfl, ht, hl, hm⟩, hd, hr⟩
        obtain ⟨i, rfl, i0, i1⟩ := hr _ List.mem_cons_self
        rw [List.length_cons] at ht hm hd
        simp
        rw [if_pos (by omega)]
        simp
        generalize hL : lcLoop _ _ _ _ _ _ _ _ _ = x
        obtain ⟨acc, τ, rfl, t', rfl, j1, j2, j3⟩ := lc_of hL (fun ds' acc τ => ∃ t', τ = [(0, t'), (4, .fl ls)] ∧ Tp (n + 300 + 4 * ds.length + 2 * ds'.length) t' ∧ LN h acc ∧ acc.length + ds'.length ≤ 2)
          ⟨t, rfl, ht.mono (by rw [rangeD_len]; omega), LN.nil, by rw [rangeD_len]; simp; omega⟩ (by
          rintro d2 ds2 acc τ ⟨t', rfl, j1, j2, j3⟩
          rw [List.length_cons] at j1 j3
          obtain ⟨r, t5, e5, r1, r2, h5⟩ := room_ok (n := n + 300 + 4 * ds.length + 2 * ds2.length) (t := t') (j1.mono (by omega))
          have z := emod_b (i + 1) h (by omega)
          have hp : 0 < h := by omega
          refine ⟨_, true, _, rfl, rfl, .inr ⟨rfl, _, _, _, by simp [e5, hp]; exact ⟨rfl, rfl⟩, rfl, t5, rfl, h5, j2.app (LN.one i0 i1 z.1 z.2 r1 r2 (emod_ne i0 i1 (Int.le_refl 1) (by omega)).symm), by simp; omega⟩⟩)
        simp at j3
        have q : ls.length + acc.length ≤ 16000000 := by omega
        simp [q]
        refine ⟨?_, by omega, fun d m => hr d (List.mem_cons_of_mem _ m)⟩
        exact ⟨t', ls ++ acc, _, _, _, _, _, rfl, by simpa using j1, hl.app j2, by rw [List.length_append]; omega⟩)
      obtain ⟨i, _⟩ := i
      exact ⟨_, rfl, _, by simpa using i⟩
    · exact ⟨_, by simp [w0], none, t3, [], none, none, none, none, none, rfl, h3.mono (by omega), LN.nil, by simp⟩
  clear hA
  simp
  obtain ⟨t4, ls4, b4, c4, d4, e4, f4, rfl, h4, hl4, hm4⟩ := i1
  simp
  generalize hA : ifsK _ _ _ = y
  obtain ⟨s2, rfl, a2, i2⟩ : ∃ s2, y = some (.nx s2) ∧ ∃ a, NS (n + 200) 50 way (decide (gr = 0)) h a s2 := by
    subst hA
    by_cases w0 : way = 1
    · subst w0
      simp
      rw [if_pos (by omega)]
      simp
      generalize hF : forL _ _ _ _ _ = x
      obtain ⟨s', rfl, i⟩ := forL_of hF (fun ds s => NS (n + 200 + 6 * ds.length) (50 - 2 * ds.length) 1 (decide (gr = 0)) h a1 s ∧ ds.length ≤ 12 ∧ ∀ d ∈ ds, ∃ i : Int, d = .int i ∧ 1 ≤ i ∧ i < h)
        ⟨⟨t4, ls4, _, _, _, _, _, rfl, h4.mono (by rw [rangeD_len]; omega), hl4, by rw [rangeD_len]; omega⟩, by rw [rangeD_len]; omega, fun d m => by
          obtain ⟨i, e, q1, q2⟩ := rangeD_mem m
          exact ⟨i, e, q1, by omega⟩⟩ (by
        rintro d ds s ⟨⟨t, ls, b, c, d', e, f, rfl, ht, hl, hm⟩, hd, hr⟩
        obtain ⟨i, rfl, i0, i1⟩ := hr _ List.mem_cons_self
        rw [List.length_cons] at ht hm hd
        obtain ⟨v, t5, q5, lv, uv, h5⟩ := take_ok (n := n + 200 + 6 * ds.length + 4) (m := i) (ht.mono (by omega)) (by omega) (by omega)
        obtain ⟨r, t6, q6, r1, r2, h6⟩ := room_ok (n := n + 200 + 6 * ds.length + 2) h5
        obtain ⟨r', t7, q7, r1', r2', h7⟩ := room_ok (n := n + 200 + 6 * ds.length) h6
        have q : ls.length + 2 ≤ 16000000 := by omega
        simp [q5, q6, q7, q]
        refine ⟨?_, by omega, fun d m => hr d (List.mem_cons_of_mem _ m)⟩
        exact ⟨t7, _, _, _, _, _, _, rfl, h7, hl.app ((LN.one (by omega) i1 lv (by omega) r1 r2 (by omega)).app (LN.one lv (by omega) (by omega) i1 r1' r2' (by omega))), by simp; omega⟩)
      obtain ⟨i, _⟩ := i
      exact ⟨_, rfl, _, by simpa using i⟩
    · exact ⟨_, by simp [w0], a1, t4, ls4, b4, c4, d4, e4, f4, rfl, h4.mono (by omega), hl4, by omega⟩
  clear hA
  simp
  obtain ⟨t5, ls5, b5, c5, d5, e5, f5, rfl, h5, hl5, hm5⟩ := i2
  obtain ⟨tn, t6, e6, l6, u6, h6⟩ := take_ok (n := n + 199) (m := 12) h5 (by omega) (by omega)
  simp [e6]
  rw [if_pos (by omega)]
  simp
  generalize hF : forL _ _ _ _ _ = x
  obtain ⟨s', rfl, i⟩ := forL_of hF (fun ds s => NS (n + 8 * ds.length) (100 - 2 * ds.length) way (decide (gr = 0)) h a2 s ∧ ds.length ≤ 12)
    ⟨⟨t6, ls5, _, _, _, _, _, rfl, h6.mono (by rw [rangeD_len]; omega), hl5, by rw [rangeD_len]; omega⟩, by rw [rangeD_len]; omega⟩ (by
    rintro d ds s ⟨⟨t, ls, b, c, d', e, f, rfl, ht, hl, hm⟩, hd⟩
    rw [List.length_cons] at ht hm hd
    obtain ⟨bg, t8, q8, lb, ub, h8⟩ := take_ok (n := n + 8 * ds.length + 7) (m := h) (ht.mono (by omega)) (by omega) (by omega)
    obtain ⟨v, t9, q9, lv, uv, h9⟩ := take_ok (n := n + 8 * ds.length + 6) (m := h - 1) h8 (by omega) (by omega)
    have z := emod_b (bg + 1 + v) h (by omega)
    have ne : (bg + 1 + v) % h ≠ bg := by
      rw [Int.add_assoc]
      exact emod_ne lb ub (by omega) (by omega)
    generalize hw : (bg + 1 + v) % h = en at *
    obtain ⟨pl, t10, q10, lp, up, h10⟩ := take_ok (n := n + 8 * ds.length + 5) (m := (ls.length : Int) + 1) h9 (by omega) (by omega)
    obtain ⟨r, t11, q11, r1, r2, h11⟩ := room_ok (n := n + 8 * ds.length + 3) h10
    obtain ⟨r', t12, q12, r1', r2', h12⟩ := room_ok (n := n + 8 * ds.length + 1) h11
    have hp : 0 < h := by omega
    have q : ls.length < 16000000 := by omega
    have q' : pl ≤ 16000000 := by omega
    have hin : LN h (ls.take pl.toNat ++ [.tuple [.int bg, .int en, .int r]] ++ ls.drop pl.toNat) := (LN.app (fun d m => hl d (List.mem_of_mem_take m)) (LN.one lb ub z.1 z.2 r1 r2 ne.symm)).app fun d m => hl d (List.mem_of_mem_drop m)
    have hln : (ls.take pl.toNat ++ [.tuple [.int bg, .int en, .int r]] ++ ls.drop pl.toNat : List D).length = ls.length + 1 := by
      simp only [List.length_append, List.length_take, List.length_drop, List.length_singleton]
      omega
    generalize hG : (ls.take pl.toNat ++ [.tuple [.int bg, .int en, .int r]] ++ ls.drop pl.toNat : List D) = G at *
    have q'' : G.length < 16000000 := by omega
    by_cases w1 : way = 1
    · simp [w1, q8, q9, q10, q11, q12, hp, hw, q, q', lp, hG, q'', -List.append_assoc]
      refine ⟨⟨t12, _, _, _, _, _, _, rfl, h12.mono (by omega), hin.app (LN.one z.1 z.2 lb ub r1' r2' ne), by rw [List.length_append, hln, List.length_singleton]; omega⟩, by omega⟩
    · simp [w1, q8, q9, q10, q11, q12, hp, hw, q, q', lp, hG, -List.append_assoc]
      refine ⟨⟨t11, _, _, _, _, _, _, rfl, h11.mono (by omega), hin, by omega⟩, by omega⟩)
  obtain ⟨⟨t7, ls7, b7, c7, d7, e7, f7, rfl, h7, hl7, hm7⟩, _⟩ := i
  by_cases g0 : gr = 0
  · refine ⟨h, _, t7, by simp [g0], l3, u3, fun d m => hl7 d (cutD_sub m), cutD_le ls7 40, by simpa using h7⟩
  · refine ⟨h, _, t7, by simp [g0], l3, u3, fun d m => hl7 d (cutD_sub m), Nat.le_trans (cutD_le ls7 16) (by omega), by simpa using h7⟩
end La

namespace Tl
open PySem PySem.Spec PyProof.Rows L2
theorem ok_of (s : String) : PyData.strOk (Str.ofString s) = true := by
  rw [Str.ofString_eq_toList]
  unfold PyData.strOk
  simp only [List.all_toArray, List.all_map, List.all_eq_true, Function.comp, decide_eq_true_eq]
  intro c _
  have h := c.valid
  have e : c.toNat = c.val.toNat := rfl
  rcases h with h | ⟨_, h⟩
  · have : c.val.toNat < 0xd800 := h
    omega
  · have : c.val.toNat < 0x110000 := h
    omega
theorem ok_app {a b : Str} (h : PyData.strOk a = true) (h' : PyData.strOk b = true) : PyData.strOk (a ++ b) = true := by
  unfold PyData.strOk at *
  show (a.cps ++ b.cps).all _ = true
  rw [Array.all_append, h, h']
  rfl
theorem ok_text : ∀ (ts : List Str) (k : Nat) (acc : Str), PyData.strOk acc = true → (∀ t ∈ ts, PyData.strOk t = true) → PyData.strOk (textFrom k acc ts) = true
  | [], _, _, h, _ => h
  | t :: r, k, acc, h, h' => by
    refine ok_text r (k + 1) _ (ok_app (ok_app h (ok_of _)) (h' t List.mem_cons_self)) fun t m => h' t (List.mem_cons_of_mem _ m)
theorem ok_join : ∀ (ts : List Str), (∀ t ∈ ts, PyData.strOk t = true) → PyData.strOk (Str.join ", " ts) = true
  | [], _ => by simp [Str.join, Str.empty, PyData.strOk]
  | [x], h => h x List.mem_cons_self
  | x :: y :: r, h => by
    show PyData.strOk (x ++ ", " ++ Str.join ", " (y :: r)) = true
    exact ok_app (ok_app (h x List.mem_cons_self) (ok_of _)) (ok_join (y :: r) fun t m => h t (List.mem_cons_of_mem _ m))
end Tl

namespace Tl
open PySem PySem.Spec PyProof.Rows L2
theorem char_lt (c : Char) : c.toNat < 0x110000 := by
  have h := c.valid
  have e : c.toNat = c.val.toNat := rfl
  rcases h with h | ⟨_, h⟩
  · have : c.val.toNat < 0xd800 := h
    omega
  · have : c.val.toNat < 0x110000 := h
    omega
theorem hex_lt (n : Nat) (cs : List Char) : ∀ x ∈ List.replicate n 48 ++ cs.map Char.toNat, x < 0x110000 := by
  intro x m
  rcases List.mem_append.mp m with m | m
  · rw [List.eq_of_mem_replicate m]
    decide
  · obtain ⟨c, _, rfl⟩ := List.mem_map.mp m
    exact char_lt c
theorem reprChar_lt (q c : Nat) (hc : c < 0x110000) : ∀ x ∈ PySem.Builtin.Str.reprChar q c, x < 0x110000 := by
  intro x m
  unfold PySem.Builtin.Str.reprChar at m
  dsimp only at m
  have two : ∀ a b : Nat, a < 0x110000 → b < 0x110000 → x ∈ [a, b] → x < 0x110000 := by
    intro a b ha hb m
    rcases List.mem_cons.mp m with rfl | m
    · exact ha
    · rw [List.mem_singleton.mp m]
      exact hb
  have hx : ∀ (a b n : Nat) (cs : List Char), a < 0x110000 → b < 0x110000 → x ∈ [a, b] ++ (List.replicate n 48 ++ cs.map Char.toNat) → x < 0x110000 := by
    intro a b n cs ha hb m
    rcases List.mem_append.mp m with m | m
    · exact two a b ha hb m
    · exact hex_lt n cs x m
  repeat' split at m
  · exact two _ _ (by decide) hc m
  · exact two _ _ (by decide) (by decide) m
  · exact two _ _ (by decide) (by decide) m
  · exact two _ _ (by decide) (by decide) m
  · rw [List.mem_singleton.mp m]
    exact hc
  · exact hx _ _ _ _ (by decide) (by decide) m
  · exact hx _ _ _ _ (by decide) (by decide) m
  · exact hx _ _ _ _ (by decide) (by decide) m
theorem foldl_repr_lt (q : Nat) : ∀ (l : List Nat) (acc : Array Nat), (∀ c ∈ l, c < 0x110000) → (∀ c ∈ acc, c < 0x110000) → ∀ c ∈ l.foldl (fun out c => out ++ (PySem.Builtin.Str.reprChar q c).toArray) acc, c < 0x110000
  | [], _, _, h => h
  | c :: r, acc, h, h' => by
    rw [List.foldl_cons]
    refine foldl_repr_lt q r _ (fun d m => h d (List.mem_cons_of_mem _ m)) fun d m => ?_
    rcases Array.mem_append.mp m with m | m
    · exact h' d m
    · exact reprChar_lt q c (h c List.mem_cons_self) d (by simpa using m)
theorem ok_iff {x : Str} : PyData.strOk x = true ↔ ∀ c ∈ x.cps, c < 0x110000 := by
  unfold PyData.strOk
  rw [Array.all_eq_true_iff_forall_mem]
  simp
theorem ok_reprText {x : Str} (h : PyData.strOk x = true) : PyData.strOk (reprText x) = true := by
  rw [ok_iff] at h ⊢
  have hq : reprQuote x < 0x110000 := by
    unfold reprQuote
    split <;> decide
  intro c m
  unfold reprText at m
  rcases Array.mem_push.mp m with m | m
  · rw [← Array.foldl_toList] at m
    exact foldl_repr_lt _ _ _ (fun d m => h d (Array.mem_toList_iff.mp m)) (fun d m => by
      have : d = reprQuote x := by simpa using m
      rw [this]
      exact hq) c m
  · rw [m]
    exact hq
mutual
theorem ok_shown0 : ∀ d : D, d.canLay0 = true → PyData.strOk d.shown = true
  | .none, _ => ok_of _
  | .bool true, _ => ok_of _
  | .bool false, _ => ok_of _
  | .int i, _ => ok_of _
  | .str s, h => ok_reprText (by simpa [PyData.canLay0] using h)
  | .dict _, h => by cases h
  | .list xs, h => ok_app (ok_text _ 0 _ (ok_of _) (ok_shownAll0 xs (by simpa [PyData.canLay0] using h))) (ok_of _)
  | .tuple xs, h => ok_app (ok_app (ok_of _) (ok_join _ (ok_shownAll0 xs (by simpa [PyData.canLay0] using h)))) (ok_of _)
theorem ok_shownAll0 : ∀ ds : List D, PyData.canLayAll0 ds = true → ∀ t ∈ PyData.shownAll ds, PyData.strOk t = true
  | [], _ => fun _ m => nomatch m
  | x :: xs, h => fun t m => by
    have h' : x.canLay0 = true ∧ PyData.canLayAll0 xs = true := by simpa [PyData.canLayAll0] using h
    rcases List.mem_cons.mp (show t ∈ x.shown :: PyData.shownAll xs from m) with e | m
    · rw [e]
      exact ok_shown0 x h'.1
    · exact ok_shownAll0 xs h'.2 t m
end
theorem shaped_str {s : Str} (h : PyData.strOk s = true) : SeqAt.shaped (.str s) = true := by
  unfold SeqAt.shaped
  have : PyData.canLay0 (.str s) = true := h
  rw [this]
  rfl
theorem ok_strOf {d : D} (h : d.canLay0 = true) : PyData.strOk (strOf d) = true := by
  cases d with
  | str s => exact h
  | _ => exact ok_shown0 _ h
/-- what may be shown: so deep, of such a weight -/
structure Shw (n w : Nat) (d : D) : Prop where
  lay : d.canLay0 = true
  sh : d.showable = true
  shr : d.intsShort 40 = true
  dp : d.depth ≤ n
  wt : d.weight ≤ w
structure ShwL (n w : Nat) (ds : List D) : Prop where
  lay : PyData.canLayAll0 ds = true
  sh : PyData.showableAll ds = true
  shr : PyData.intsShortAll 40 ds = true
  dp : PyData.depthAll ds ≤ n
  wt : PyData.weightAll ds ≤ w
theorem Shw.mono {n w n' w' : Nat} {d : D} (h : Shw n w d) (l : n ≤ n') (l' : w ≤ w') : Shw n' w' d := ⟨h.lay, h.sh, h.shr, Nat.le_trans h.dp l, Nat.le_trans h.wt l'⟩
theorem ShwL.mono {n w n' w' : Nat} {d : List D} (h : ShwL n w d) (l : n ≤ n') (l' : w ≤ w') : ShwL n' w' d := ⟨h.lay, h.sh, h.shr, Nat.le_trans h.dp l, Nat.le_trans h.wt l'⟩
theorem ShwL.nil {n w : Nat} : ShwL n w [] := ⟨rfl, rfl, rfl, by simp [PyData.depthAll], by simp [PyData.weightAll]⟩
theorem ShwL.cons {n w v : Nat} {d : D} {ds : List D} (h : Shw n w d) (k : ShwL n v ds) : ShwL n (w + 1 + v) (d :: ds) := by
  refine ⟨by simp [PyData.canLayAll0, h.lay, k.lay], by simp [PyData.showableAll, h.sh, k.sh], by simp [PyData.intsShortAll, h.shr, k.shr], ?_, ?_⟩
  · have := h.dp
    have := k.dp
    rw [PyData.depthAll]
    omega
  · have := h.wt
    have := k.wt
    rw [PyData.weightAll]
    omega
theorem ShwL.app {n w v : Nat} : ∀ {ds es : List D}, ShwL n w ds → ShwL n v es → ShwL n (w + v) (ds ++ es)
  | [], es, _, k => k.mono (Nat.le_refl _) (Nat.le_add_left _ _)
  | d :: ds, es, h, k => by
    have h1 : d.canLay0 = true ∧ PyData.canLayAll0 ds = true := by simpa [PyData.canLayAll0] using h.lay
    have h2 : d.showable = true ∧ PyData.showableAll ds = true := by simpa [PyData.showableAll] using h.sh
    have h3 : d.intsShort 40 = true ∧ PyData.intsShortAll 40 ds = true := by simpa [PyData.intsShortAll] using h.shr
    have h4 := h.dp
    have h5 := h.wt
    rw [PyData.depthAll] at h4
    rw [PyData.weightAll] at h5
    have a : Shw n d.weight d := ⟨h1.1, h2.1, h3.1, by omega, Nat.le_refl _⟩
    have b : ShwL n (w - d.weight - 1) ds := ⟨h1.2, h2.2, h3.2, by omega, by omega⟩
    exact (ShwL.cons a (ShwL.app b k)).mono (Nat.le_refl _) (by omega)
theorem Shw.list {n w : Nat} {ds : List D} (h : ShwL n w ds) : Shw (n + 1) w (.list ds) := ⟨by simpa [PyData.canLay0] using h.lay, by simpa [PyData.showable] using h.sh, by simpa [PyData.intsShort] using h.shr, by rw [PyData.depth]; have := h.dp; omega, by simpa [PyData.weight] using h.wt⟩
theorem Shw.tuple {n w : Nat} {ds : List D} (h : ShwL n w ds) : Shw (n + 1) w (.tuple ds) := ⟨by simpa [PyData.canLay0] using h.lay, by simpa [PyData.showable] using h.sh, by simpa [PyData.intsShort] using h.shr, by rw [PyData.depth]; have := h.dp; omega, by simpa [PyData.weight] using h.wt⟩
theorem Shw.ofL {n w : Nat} {ds : List D} (h : Shw (n + 1) w (.list ds)) : ShwL n w ds := ⟨by simpa [PyData.canLay0] using h.lay, by simpa [PyData.showable] using h.sh, by simpa [PyData.intsShort] using h.shr, by have := h.dp; rw [PyData.depth] at this; omega, by simpa [PyData.weight] using h.wt⟩
theorem Shw.ofT {n w : Nat} {ds : List D} (h : Shw (n + 1) w (.tuple ds)) : ShwL n w ds := ⟨by simpa [PyData.canLay0] using h.lay, by simpa [PyData.showable] using h.sh, by simpa [PyData.intsShort] using h.shr, by have := h.dp; rw [PyData.depth] at this; omega, by simpa [PyData.weight] using h.wt⟩
theorem Shw.none {n w : Nat} : Shw n w .none := ⟨rfl, rfl, rfl, by simp [PyData.depth], by simp [PyData.weight]⟩
theorem Shw.bool {n w : Nat} {b : Bool} : Shw n w (.bool b) := ⟨rfl, rfl, rfl, by simp [PyData.depth], by simp [PyData.weight]⟩
theorem Shw.str {n w : Nat} {s : Str} (h : PyData.strOk s = true) (l : s.length ≤ w) : Shw n w (.str s) := ⟨h, rfl, rfl, by simp [PyData.depth], by rw [PyData.weight]; exact l⟩
/-- a number of at most thirty figures -/
def lgI (i : Int) : Bool := decide (-1000000000000000000000000000000 < i ∧ i < 1000000000000000000000000000000)
theorem Shw.int {n : Nat} {i : Int} (h : lgI i = true) : Shw n 100 (.int i) := by
  have h2 : -1000000000000000000000000000000 < i ∧ i < 1000000000000000000000000000000 := of_decide_eq_true h
  have hl : i.natAbs.log2 < 100 := by
    by_cases q : i.natAbs = 0
    · rw [q]
      decide
    · exact (Nat.log2_lt q).mpr (by omega)
  refine ⟨rfl, by simp only [PyData.showable]; exact decide_eq_true (by omega), ?_, by simp [PyData.depth], ?_⟩
  · have e30 : (10 : Nat) ^ 30 = 1000000000000000000000000000000 := by decide
    have := int_text_length_le10 (a := i) (k := 30) (by decide) (by rw [e30]; omega)
    simp only [PyData.intsShort, decide_eq_true_eq]
    show (Str.ofString (toString i)).length ≤ 40
    rw [PySem.ofString_length]
    omega
  · simp only [PyData.weight]
    split <;> omega
theorem ShwL.mem {n w : Nat} : ∀ {ds : List D} {d : D}, ShwL n w ds → d ∈ ds → Shw n w d
  | e :: ds, d, h, m => by
    have h1 : e.canLay0 = true ∧ PyData.canLayAll0 ds = true := by simpa [PyData.canLayAll0] using h.lay
    have h2 : e.showable = true ∧ PyData.showableAll ds = true := by simpa [PyData.showableAll] using h.sh
    have h3 : e.intsShort 40 = true ∧ PyData.intsShortAll 40 ds = true := by simpa [PyData.intsShortAll] using h.shr
    have h4 := h.dp
    have h5 := h.wt
    rw [PyData.depthAll] at h4
    rw [PyData.weightAll] at h5
    rcases List.mem_cons.mp m with e | m
    · subst e
      exact ⟨h1.1, h2.1, h3.1, by omega, by omega⟩
    · exact ShwL.mem (ds := ds) ⟨h1.2, h2.2, h3.2, by omega, by omega⟩ m
theorem Shw.ok {n w : Nat} {d : D} (h : Shw n w d) (hn : n ≤ 150) (hw : w ≤ 300000) : okShow d = true := by
  have := PyData.shown_le 40 (by decide) d (PyData.leavesShort_of_canLay0 40 d h.lay h.shr)
  have := h.wt
  have := h.dp
  unfold okShow
  simp only [h.lay, h.sh, Bool.true_and, Bool.and_eq_true, decide_eq_true_eq]
  exact ⟨by omega, by omega⟩
theorem Shw.shaped {n w : Nat} {d : D} (h : Shw n w d) (hn : n ≤ 64) : SeqAt.shaped d = true := by
  have := h.dp
  unfold SeqAt.shaped
  simp only [h.lay, Bool.true_and, decide_eq_true_eq]
  omega
theorem Shw.shownShaped {n w : Nat} {d : D} (h : Shw n w d) : SeqAt.shaped (.str d.shown) = true := shaped_str (ok_shown0 d h.lay)
mutual
theorem sml_shw : ∀ d : D, sml d = true → Shw d.depth (sz d) d
  | .none, _ => Shw.none
  | .bool _, _ => Shw.bool
  | .int i, h => by
    have h1 := sml_facts _ h
    have h' : smI i = true := h
    have h2 : -999999999999 ≤ i ∧ i ≤ 999999999999 := of_decide_eq_true h'
    have := Shw.int (n := 0) (i := i) (decide_eq_true (by omega))
    exact ⟨rfl, this.sh, this.shr, Nat.le_refl _, h1.2.2.2⟩
  | .str _, h => by cases h
  | .dict _, h => by cases h
  | .list xs, h => by
    have := Shw.list (smlAll_shw xs h)
    simpa [PyData.depth, sz] using this
  | .tuple xs, h => by
    have := Shw.tuple (smlAll_shw xs h)
    simpa [PyData.depth, sz] using this
theorem smlAll_shw : ∀ ds : List D, smlAll ds = true → ShwL (PyData.depthAll ds) (szAll ds) ds
  | [], _ => ShwL.nil
  | x :: xs, h => by
    have h' : sml x = true ∧ smlAll xs = true := by
      have : (sml x && smlAll xs) = true := h
      simpa using this
    refine ShwL.mono (ShwL.cons ((sml_shw x h'.1).mono (Nat.le_max_left _ _) (Nat.le_refl _)) ((smlAll_shw xs h'.2).mono (Nat.le_max_right _ _) (Nat.le_refl _))) (by rw [PyData.depthAll]; omega) (Nat.le_refl _)
end
end Tl

namespace La
open PySem PySem.Spec PyProof.Rows L2 Tl
def netD (h : Int) (ls : List D) : D := .tuple [.int h, .list ls]
theorem ln_facts {h : Int} (hh : h ≤ 100) : ∀ {ls : List D}, LN h ls → smlAll ls = true ∧ PyData.depthAll ls ≤ 1 ∧ szAll ls = 124 * ls.length
  | [], _ => ⟨rfl, by simp [PyData.depthAll], rfl⟩
  | d :: ls, hl => by
    obtain ⟨a1, a2, a3⟩ := ln_facts hh (ls := ls) fun d m => hl d (List.mem_cons_of_mem _ m)
    obtain ⟨b, e, r, rfl, h1, h2, h3, h4, h5, h6, h7⟩ := hl d List.mem_cons_self
    have s : ∀ i : Int, 0 ≤ i → i ≤ 100 → smI i = true := fun i q1 q2 => decide_eq_true (by omega)
    refine ⟨?_, ?_, ?_⟩
    · simp [smlAll, sml, a1, s b h1 (by omega), s e h3 (by omega), s r (by omega) (by omega)]
    · simp [PyData.depthAll, PyData.depth, a2]
    · simp only [szAll, sz, a3, List.length_cons]
      omega
@[simp] theorem ix_net0 (h : Int) (ls : List D) : gIx [.val (.leaf (netD h ls)), .val (.leaf (.int 0))] = some (rInt h) := by
  have e : ixN 2 0 = some 0 := by decide
  simp [netD, L2.atI, e]
@[simp] theorem ix_net1 (h : Int) (ls : List D) : gIx [.val (.leaf (netD h ls)), .val (.leaf (.int 1))] = some (rd (.list ls)) := by
  have e : ixN 2 1 = some 1 := by decide
  simp [netD, L2.atI, e]
@[simp] theorem its_net (h : Int) (ls : List D) : (rd (netD h ls)).its = some (false, [.int h, .list ls]) := rfl
@[simp] theorem str_net (h : Int) (ls : List D) : strOf (netD h ls) = (netD h ls).shown := rfl
theorem LN.shw {h : Int} {ls : List D} (hh : h ≤ 100) (hl : LN h ls) : ShwL 1 (124 * ls.length) ls := by
  obtain ⟨a1, a2, a3⟩ := ln_facts hh hl
  have := smlAll_shw ls a1
  rw [a3] at this
  exact this.mono a2 (Nat.le_refl _)
end La

namespace Tl
open PySem PySem.Spec PyProof.Rows L2
abbrev natD (n : Nat) : D := .int n
def optD : Option Nat → D
  | none => .none
  | some n => .int n
@[simp] theorem atI_nat {α : Type} (xs : List α) (j : Nat) : L2.atI xs (j : Int) = xs[j]? := by
  unfold L2.atI
  by_cases h : j < xs.length
  · unfold ixN
    rw [if_pos (by omega), if_pos (by omega)]
    show xs[((j : Int)).toNat]? = _
    rw [Int.toNat_natCast]
  · unfold ixN
    rw [if_pos (by omega), if_neg (by omega), List.getElem?_eq_none (by omega)]
    rfl
@[simp] theorem atI_zero {α : Type} (a : α) (l : List α) : L2.atI (a :: l) 0 = some a := atI_nat (a :: l) 0
@[simp] theorem atI_one {α : Type} (a b : α) (l : List α) : L2.atI (a :: b :: l) 1 = some b := atI_nat (a :: b :: l) 1
@[simp] theorem atI_two {α : Type} (a b c : α) (l : List α) : L2.atI (a :: b :: c :: l) 2 = some c := atI_nat (a :: b :: c :: l) 2
@[simp] theorem atI_three {α : Type} (a b c d : α) (l : List α) : L2.atI (a :: b :: c :: d :: l) 3 = some d := atI_nat (a :: b :: c :: d :: l) 3
theorem ixN_of {n : Nat} {i : Int} (h : 0 ≤ i) (h' : i < n) : ixN n i = some i.toNat := by
  unfold ixN
  rw [if_pos h, if_pos h']
theorem ixN_nat {n j : Nat} (h : j < n) : ixN n (j : Int) = some j := by
  rw [ixN_of (by omega) (by omega), Int.toNat_natCast]
theorem rangeD_nat (n : Nat) : rangeD 0 1 n = (List.range n).map natD := by
  unfold rangeD
  refine List.map_congr_left fun i _ => ?_
  simp
theorem enumFrom_map {α : Type} (e : α → D) : ∀ (xs : List α) (k : Nat), enumFrom k (xs.map e) = (xs.zipIdx k).map fun p => .tuple [.int (p.2 : Nat), e p.1]
  | [], _ => rfl
  | x :: xs, k => by
    show PyData.tuple _ :: enumFrom (k + 1) (xs.map e) = _
    rw [enumFrom_map e xs (k + 1)]
    rfl
theorem zipD_map {α β : Type} (e : α → D) (f : β → D) : ∀ (xs : List α) (ys : List β), zipD (xs.map e) (ys.map f) = (xs.zip ys).map fun p => .tuple [e p.1, f p.2]
  | [], _ => by simp [zipD]
  | _ :: _, [] => by simp [zipD]
  | x :: xs, y :: ys => by
    show PyData.tuple _ :: zipD (xs.map e) (ys.map f) = _
    rw [zipD_map e f xs ys]
    rfl
theorem mem_zipIdx {α : Type} : ∀ {xs : List α} {k : Nat} {p : α × Nat}, p ∈ xs.zipIdx k → k ≤ p.2 ∧ xs[p.2 - k]? = some p.1
  | x :: xs, k, p, m => by
    rw [List.zipIdx_cons] at m
    rcases List.mem_cons.mp m with rfl | m
    · simp
    · obtain ⟨h1, h2⟩ := mem_zipIdx m
      refine ⟨by omega, ?_⟩
      rw [show p.2 - k = (p.2 - (k + 1)) + 1 by omega]
      simpa using h2
/-- the places of those that are so -/
def spots {α : Type} (p : α → Bool) (xs : List α) : List Nat := ((xs.zipIdx).filter fun q => p q.1).map (·.2)
theorem mem_spots {α : Type} {p : α → Bool} {xs : List α} {i : Nat} : i ∈ spots p xs ↔ ∃ x, xs[i]? = some x ∧ p x = true := by
  unfold spots
  simp only [List.mem_map, List.mem_filter]
  constructor
  · rintro ⟨⟨x, j⟩, ⟨m, h⟩, rfl⟩
    have := (mem_zipIdx m).2
    exact ⟨x, by simpa using this, h⟩
  · rintro ⟨x, e, h⟩
    exact ⟨(x, i), ⟨List.mem_zipIdx_iff_getElem?.mpr (by simpa using e), h⟩, rfl⟩
theorem spots_lt {α : Type} {p : α → Bool} {xs : List α} {i : Nat} (m : i ∈ spots p xs) : i < xs.length := by
  obtain ⟨x, e, _⟩ := mem_spots.mp m
  exact (List.getElem?_eq_some_iff.mp e).1
theorem spots_len {α : Type} (p : α → Bool) (xs : List α) : (spots p xs).length ≤ xs.length := by
  unfold spots
  rw [List.length_map]
  exact Nat.le_trans (List.length_filter_le _ _) (by simp)
theorem lc_typ {α : Type} {vs : List Nat} {mt : MG} {mc : MB} {me : MV} {fw : Fz} {vw : Tau} {τ : Tau} {x : Option (List D × Tau)} {e : α → D} {xs : List α} {acc : List D} (h : lcLoop vs mt mc me fw vw (xs.map e) acc τ = x) (p : α → Bool) (f : α → D) (hτ : tout vs τ = τ)
    (hm : ∀ a ∈ xs, ∃ fz, mt (e a) fw = some fz ∧ mc ⟨fz, vw⟩ τ = some (p a, τ) ∧ (p a = true → ∃ r, me ⟨fz, vw⟩ τ = some (r, τ) ∧ r.st = some (f a))) : x = some (acc ++ (xs.filter p).map f, τ) := by
  subst h
  induction xs generalizing acc with
  | nil => simp [lcLoop]
  | cons d ds ih =>
    obtain ⟨fz, e1, e2, e3⟩ := hm d List.mem_cons_self
    have ih := fun acc => ih (acc := acc) fun d m => hm d (List.mem_cons_of_mem _ m)
    show (mt (e d) fw).bind _ = _
    rw [e1]
    show (mc ⟨fz, vw⟩ τ).bind _ = _
    rw [e2]
    cases q : p d with
    | false =>
      show lcLoop vs mt mc me fw vw (ds.map e) acc (tout vs τ) = _
      rw [hτ, ih, List.filter_cons_of_neg (by rw [q]; exact Bool.false_ne_true)]
    | true =>
      obtain ⟨r, e4, e5⟩ := e3 q
      show (me ⟨fz, vw⟩ τ).bind _ = _
      rw [e4]
      show r.st.bind _ = _
      rw [e5]
      show lcLoop vs mt mc me fw vw (ds.map e) (acc ++ [f d]) (tout vs τ) = _
      rw [hτ, ih, List.filter_cons_of_pos q]
      simp
/-- without a condition -/
theorem lc_typM {α : Type} {vs : List Nat} {mt : MG} {me : MV} {fw : Fz} {vw : Tau} {τ : Tau} {x : Option (List D × Tau)} {e : α → D} {xs : List α} {acc : List D} (h : lcLoop vs mt mYes me fw vw (xs.map e) acc τ = x) (f : α → D) (hτ : tout vs τ = τ)
    (hm : ∀ a ∈ xs, ∃ fz, mt (e a) fw = some fz ∧ ∃ r, me ⟨fz, vw⟩ τ = some (r, τ) ∧ r.st = some (f a)) : x = some (acc ++ xs.map f, τ) := by
  have := lc_typ h (fun _ => true) f hτ fun a m => by
    obtain ⟨fz, e1, e2⟩ := hm a m
    exact ⟨fz, e1, rfl, fun _ => e2⟩
  rw [this, List.filter_eq_self.mpr fun _ _ => rfl]
/-- .. by what holds of what is left -/
theorem for_inv {α : Type} {ws : List Nat} {mt : MG} {body : MS} {e : α → D} {xs : List α} {s : SS} {x : Option Out} (h : forL ws mt body (xs.map e) s = x) (Inv : List α → SS → Prop) (i : Inv xs s)
    (step : ∀ a as s, Inv (a :: as) s → ∃ fz, mt (e a) s.fz = some fz ∧ ∃ s', (body ⟨fz, tout ws s.ow⟩ = some (.nx s') ∨ body ⟨fz, tout ws s.ow⟩ = some (.ct s')) ∧ Inv as s') : ∃ s', x = some (.nx s') ∧ Inv [] s' := by
  subst h
  induction xs generalizing s with
  | nil => exact ⟨s, rfl, i⟩
  | cons a xs ih =>
    obtain ⟨fz, e1, s1, e2, h1⟩ := step a xs s i
    obtain ⟨s', e3, h3⟩ := ih h1
    refine ⟨s', ?_, h3⟩
    show (mt (e a) s.fz).bind _ = _
    rw [e1]
    show (body ⟨fz, tout ws s.ow⟩).bind _ = _
    rcases e2 with e2 | e2 <;> (rw [e2]; exact e3)
/-- the loop over the first numbers -/
theorem for_rng {ws : List Nat} {mt : MG} {body : MS} {n : Nat} {s : SS} {x : Option Out} (h : forL ws mt body (rangeD 0 1 n) s = x) (Inv : Nat → SS → Prop) (i : Inv 0 s)
    (step : ∀ k s, k < n → Inv k s → ∃ fz, mt (.int k) s.fz = some fz ∧ ∃ s', (body ⟨fz, tout ws s.ow⟩ = some (.nx s') ∨ body ⟨fz, tout ws s.ow⟩ = some (.ct s')) ∧ Inv (k + 1) s') : ∃ s', x = some (.nx s') ∧ Inv n s' := by
  rw [rangeD_nat] at h
  obtain ⟨s', e, k, hk, q, hi⟩ := for_inv h (fun as s => ∃ k, k + as.length = n ∧ as = (List.range n).drop k ∧ Inv k s) ⟨0, by simp, by simp, i⟩ (by
    rintro a as s ⟨k, hk, q, hi⟩
    rw [List.length_cons] at hk
    have hkn : k < (List.range n).length := by rw [List.length_range]; omega
    rw [List.drop_eq_getElem_cons hkn] at q
    injection q with q1 q2
    rw [List.getElem_range] at q1
    subst q1
    obtain ⟨fz, e1, s', e2, e3⟩ := step a s (by omega) hi
    exact ⟨fz, e1, s', e2, a + 1, by omega, q2, e3⟩)
  have : k = n := by simpa using hk
  subst this
  exact ⟨s', e, hi⟩
theorem lay_nats : ∀ (Q : List Nat), PyData.canLayAll0 (Q.map natD) = true ∧ PyData.depthAll (Q.map natD) = 0
  | [] => ⟨rfl, by simp [PyData.depthAll]⟩
  | q :: Q => by
    obtain ⟨a, b⟩ := lay_nats Q
    exact ⟨by simpa [PyData.canLayAll0, PyData.canLay0] using a, by simp [PyData.depthAll, PyData.depth] at b ⊢; exact b⟩
@[simp] theorem shaped_nats (Q : List Nat) : SeqAt.shaped (.list (Q.map natD)) = true := by
  obtain ⟨a, b⟩ := lay_nats Q
  unfold SeqAt.shaped
  simp only [PyData.canLay0, PyData.depth, a, b]
  rfl
@[simp] theorem shaped_natsT (Q : List Nat) : SeqAt.shaped (.tuple (Q.map natD)) = true := by
  obtain ⟨a, b⟩ := lay_nats Q
  unfold SeqAt.shaped
  simp only [PyData.canLay0, PyData.depth, a, b]
  rfl
theorem any_nats (x : Nat) : ∀ (Q : List Nat), ((Q.map natD).any fun z => PyData.eqv z (.int x)) = decide (x ∈ Q)
  | [] => rfl
  | q :: Q => by
    rw [List.map_cons, List.any_cons, any_nats x Q, eqv_int]
    by_cases h : x = q
    · subst h
      simp
    · have h' : ¬ ((q : Int) = x) := by omega
      simp [h, h']
@[simp] theorem any_nats' (x : Nat) (Q : List Nat) : (Q.any ((fun z => PyData.eqv z (.int x)) ∘ natD)) = decide (x ∈ Q) := by
  rw [← any_nats x Q, List.any_map]
@[simp] theorem eqv_list (a b : List D) : PyData.eqv (.list a) (.list b) = PyData.eqvAll a b := by simp [PyData.eqv]
@[simp] theorem eqv_tuple (a b : List D) : PyData.eqv (.tuple a) (.tuple b) = PyData.eqvAll a b := by simp [PyData.eqv]
@[simp] theorem eqvAll_nn : PyData.eqvAll [] [] = true := by simp [PyData.eqvAll]
@[simp] theorem eqvAll_cn (a : D) (as : List D) : PyData.eqvAll (a :: as) [] = false := by simp [PyData.eqvAll]
@[simp] theorem eqvAll_nc (a : D) (as : List D) : PyData.eqvAll [] (a :: as) = false := by simp [PyData.eqvAll]
@[simp] theorem eqvAll_cc (a b : D) (as bs : List D) : PyData.eqvAll (a :: as) (b :: bs) = (PyData.eqv a b && PyData.eqvAll as bs) := by simp [PyData.eqvAll]
@[simp] theorem eqvAll_nil (as : List D) : PyData.eqvAll as [] = as.isEmpty := by cases as <;> simp
@[simp] theorem shaped_nil : SeqAt.shaped (.list []) = true := rfl
@[simp] theorem shaped_nilT : SeqAt.shaped (.tuple []) = true := rfl
@[simp] theorem eqv_ni (i : Int) : PyData.eqv .none (.int i) = false := by simp [PyData.eqv]
@[simp] theorem eqv_in (i : Int) : PyData.eqv (.int i) .none = false := by simp [PyData.eqv]
@[simp] def tMinK3 (ns : List Int) : Option R := ns.min?.map rInt
@[simp] def tMinK2 (ds : List D) : Option R := bd (intsD ds) tMinK3
def tMinK : Bool × List D → Option R
  | (true, ds) => tMinK2 ds
  | (false, _) => none
@[simp] theorem r_gMin (r : R) : gMin [r] = bd r.its tMinK := bd_of fun a => by
  obtain ⟨b, ds⟩ := a
  cases b <;> rfl
@[simp] def tMaxK3 (ns : List Int) : Option R := ns.max?.map rInt
@[simp] def tMaxK2 (ds : List D) : Option R := bd (intsD ds) tMaxK3
def tMaxK : Bool × List D → Option R
  | (true, ds) => tMaxK2 ds
  | (false, _) => none
@[simp] theorem r_gMax (r : R) : gMax [r] = bd r.its tMaxK := bd_of fun a => by
  obtain ⟨b, ds⟩ := a
  cases b <;> rfl
@[simp] theorem erase_map {α β : Type} (f : α → β) : ∀ (l : List α) (n : Nat), (l.map f).eraseIdx n = (l.eraseIdx n).map f
  | [], _ => rfl
  | _ :: _, 0 => rfl
  | a :: l, n + 1 => by
    show f a :: (l.map f).eraseIdx n = _
    rw [erase_map f l n]
    rfl
/-- a thing that may be owned yet -/
def Opt (base : Tau) (k : Nat) (τ : Tau) : Prop := τ = base ∨ ∃ u, τ = base ++ [(k, u)]
theorem Opt.no {base : Tau} {k : Nat} : Opt base k base := .inl rfl
mutual
theorem eqv_self : ∀ d : D, d.canLay0 = true → PyData.eqv d d = true
  | .none, _ => by simp
  | .bool _, _ => by simp
  | .int _, _ => by simp
  | .str _, _ => by simp
  | .dict _, h => by cases h
  | .list xs, h => by
    rw [eqv_list]
    exact eqvAll_self xs (by simpa [PyData.canLay0] using h)
  | .tuple xs, h => by
    rw [eqv_tuple]
    exact eqvAll_self xs (by simpa [PyData.canLay0] using h)
theorem eqvAll_self : ∀ ds : List D, PyData.canLayAll0 ds = true → PyData.eqvAll ds ds = true
  | [], _ => by simp
  | d :: ds, h => by
    have h' : d.canLay0 = true ∧ PyData.canLayAll0 ds = true := by simpa [PyData.canLayAll0] using h
    rw [eqvAll_cc, eqv_self d h'.1, eqvAll_self ds h'.2]
    rfl
end
theorem dec_nat (a b : Nat) : decide ((a : Int) = b) = (a == b) := by
  by_cases h : a = b
  · subst h
    simp
  · have h' : ¬ (a : Int) = b := by omega
    simp [h, h']
end Tl

namespace La
open PySem PySem.Spec PyProof.Rows L2 Tl
structure Lane where
  b : Nat
  e : Nat
  r : Nat
def laneD (l : Lane) : D := .tuple [.int l.b, .int l.e, .int l.r]
def netT (h : Nat) (L : List Lane) : D := .tuple [.int h, .list (L.map laneD)]
/-- the lanes of a net of h houses -/
def Ln (h : Nat) (L : List Lane) : Prop := ∀ l ∈ L, l.b < h ∧ l.e < h ∧ 1 ≤ l.r ∧ l.r ≤ 4 ∧ l.b ≠ l.e
theorem LN.typ {h : Nat} : ∀ {ls : List D}, LN h ls → ∃ L, ls = L.map laneD ∧ Ln h L
  | [], _ => ⟨[], rfl, fun _ m => nomatch m⟩
  | d :: ls, hl => by
    obtain ⟨L, e, hL⟩ := LN.typ (ls := ls) fun d m => hl d (List.mem_cons_of_mem _ m)
    obtain ⟨b, en, r, rfl, h1, h2, h3, h4, h5, h6, h7⟩ := hl d List.mem_cons_self
    refine ⟨⟨b.toNat, en.toNat, r.toNat⟩ :: L, ?_, fun l m => ?_⟩
    · rw [List.map_cons, ← e]
      congr 1
      show PyData.tuple _ = PyData.tuple _
      rw [Int.toNat_of_nonneg h1, Int.toNat_of_nonneg h3, Int.toNat_of_nonneg (by omega)]
    · rcases List.mem_cons.mp m with rfl | m
      · show b.toNat < h ∧ en.toNat < h ∧ 1 ≤ r.toNat ∧ r.toNat ≤ 4 ∧ b.toNat ≠ en.toNat
        omega
      · exact hL l m
theorem Ln.ln {h : Nat} {L : List Lane} (hL : Ln h L) : LN h (L.map laneD) := fun d m => by
  obtain ⟨l, ml, rfl⟩ := List.mem_map.mp m
  have := hL l ml
  exact ⟨l.b, l.e, l.r, rfl, by omega, by omega, by omega, by omega, by omega, by omega, by omega⟩
theorem netT_ok {n : Nat} {t : T} (h0 : Tp (n + 400) t) : ∃ (h : Nat) (L : List Lane) (t' : T), m_law_net [t] = some (.leaf (netT h L), [t']) ∧ 2 ≤ h ∧ h ≤ 12 ∧ Ln h L ∧ L.length ≤ 40 ∧ Tp n t' := by
  obtain ⟨h, ls, t', e, h1, h2, h3, h4, h5⟩ := net_ok h0
  obtain ⟨H, rfl⟩ : ∃ H : Nat, h = H := ⟨h.toNat, by omega⟩
  obtain ⟨L, rfl, hL⟩ := h3.typ
  exact ⟨H, L, t', e, by omega, by omega, hL, by simpa using h4, h5⟩
@[simp] theorem ix_netT0 (h : Nat) (L : List Lane) : gIx [.val (.leaf (netT h L)), .val (.leaf (.int 0))] = some (rInt h) := by
  simp [netT]
@[simp] theorem ix_netT1 (h : Nat) (L : List Lane) : gIx [.val (.leaf (netT h L)), .val (.leaf (.int 1))] = some (rd (.list (L.map laneD))) := by
  simp [netT]
@[simp] theorem its_netT (h : Nat) (L : List Lane) : (rd (netT h L)).its = some (false, [.int h, .list (L.map laneD)]) := rfl
@[simp] theorem str_netT (h : Nat) (L : List Lane) : strOf (netT h L) = (netT h L).shown := rfl
@[simp] theorem ix_lane0 (l : Lane) : gIx [.val (.leaf (laneD l)), .val (.leaf (.int 0))] = some (rInt l.b) := by
  simp [laneD]
@[simp] theorem ix_lane1 (l : Lane) : gIx [.val (.leaf (laneD l)), .val (.leaf (.int 1))] = some (rInt l.e) := by
  simp [laneD]
@[simp] theorem ix_lane2 (l : Lane) : gIx [.val (.leaf (laneD l)), .val (.leaf (.int 2))] = some (rInt l.r) := by
  simp [laneD]
@[simp] theorem gt_lane (m1 m2 m3 : MG) (l : Lane) (fz : Fz) : gtT (gtCons m1 (gtCons m2 (gtCons m3 gtNil))) (laneD l) fz = gtT (gtCons m1 (gtCons m2 (gtCons m3 gtNil))) (.tuple [.int l.b, .int l.e, .int l.r]) fz := rfl
theorem lay_lanes : ∀ (L : List Lane), PyData.canLayAll0 (L.map laneD) = true ∧ PyData.depthAll (L.map laneD) ≤ 1
  | [] => ⟨rfl, by simp [PyData.depthAll]⟩
  | l :: L => by
    obtain ⟨a, b⟩ := lay_lanes L
    exact ⟨by simp [PyData.canLayAll0, laneD, PyData.canLay0] at a ⊢; exact a, by simp [PyData.depthAll, PyData.depth, laneD] at b ⊢; omega⟩
@[simp] theorem shaped_lanes (L : List Lane) : SeqAt.shaped (.list (L.map laneD)) = true := by
  obtain ⟨a, b⟩ := lay_lanes L
  unfold SeqAt.shaped
  have c : PyData.canLay0 (.list (L.map laneD)) = true := by simpa [PyData.canLay0] using a
  rw [c]
  have d : PyData.depth (.list (L.map laneD)) = PyData.depthAll (L.map laneD) + 1 := by rw [PyData.depth]
  rw [d, Bool.true_and, decide_eq_true_eq]
  omega
@[simp] theorem eqv_lanes (L : List Lane) : PyData.eqvAll (L.map laneD) (L.map laneD) = true := eqvAll_self _ (lay_lanes L).1
theorem Ln.filter {h : Nat} {L : List Lane} (hL : Ln h L) (p : Lane → Bool) : Ln h (L.filter p) := fun l m => hL l (List.mem_filter.mp m).1
theorem lay_netT (h : Nat) (L : List Lane) : (netT h L).canLay0 = true ∧ (netT h L).depth ≤ 3 := by
  obtain ⟨a, b⟩ := lay_lanes L
  refine ⟨by simp only [netT, PyData.canLay0, PyData.canLayAll0, a, Bool.and_self], ?_⟩
  simp only [netT, PyData.depth, PyData.depthAll]
  omega
@[simp] theorem shaped_netT (h : Nat) (L : List Lane) : SeqAt.shaped (netT h L) = true := by
  obtain ⟨a, b⟩ := lay_netT h L
  unfold SeqAt.shaped
  rw [a, Bool.true_and, decide_eq_true_eq]
  omega
@[simp] theorem eqv_netT (h : Nat) (L : List Lane) : PyData.eqv (netT h L) (netT h L) = true := eqv_self _ (lay_netT h L).1
end La

namespace Tl
open PySem PySem.Spec PyProof.Rows L2
theorem lcT_typM {α : Type} {vs : List Nat} {mt : MG} {me : MV} {fw : Fz} {vw : Tau} {τ : Tau} {x : Option (List T × Tau)} {e : α → D} {xs : List α} {acc : List T} (h : lcLoopT vs mt mYes me fw vw (xs.map e) acc τ = x) (f : α → T) (hτ : tout vs τ = τ)
    (hm : ∀ a ∈ xs, ∃ fz, mt (e a) fw = some fz ∧ ∃ r, me ⟨fz, vw⟩ τ = some (r, τ) ∧ r.t = some (f a)) : x = some (acc ++ xs.map f, τ) := by
  subst h
  induction xs generalizing acc with
  | nil => simp [lcLoopT]
  | cons d ds ih =>
    obtain ⟨fz, e1, r, e4, e5⟩ := hm d List.mem_cons_self
    have ih := fun acc => ih (acc := acc) fun d m => hm d (List.mem_cons_of_mem _ m)
    show (mt (e d) fw).bind _ = _
    rw [e1]
    show (me ⟨fz, vw⟩ τ).bind _ = _
    rw [e4]
    show r.t.bind _ = _
    rw [e5]
    show lcLoopT vs mt mYes me fw vw (ds.map e) (acc ++ [f d]) (tout vs τ) = _
    rw [hτ, ih]
    simp
theorem map_set_range {α : Type} (f : Nat → α) (n i : Nat) (v : α) : ((List.range n).map f).set i v = (List.range n).map (fun j => if j = i then v else f j) := by
  refine List.ext_getElem? fun j => ?_
  rw [List.getElem?_set, List.getElem?_map, List.getElem?_map]
  by_cases q : i = j
  · subst q
    by_cases l : i < n
    · simp [l]
    · simp [l]
  · have q' : ¬ j = i := fun z => q z.symm
    by_cases l : j < n
    · simp [q, q', l]
    · simp [q, l]
end Tl
namespace La
open PySem PySem.Spec PyProof.Rows L2 Tl
def natsT (Q : List Nat) : D := .tuple (Q.map natD)
abbrev rowD (h : Nat) (W : Nat → Nat → List Nat) (x : Nat) : List D := (List.range h).map fun g => natsT (W x g)
abbrev tabD (h : Nat) (W : Nat → Nat → List Nat) : D := .list ((List.range h).map fun x => .list (rowD h W x))
def wayT (h : Nat) (L : List Lane) (W : Nat → Nat → List Nat) : T := .tup [.ls ((List.range h).map fun x => .fl (rowD h W x)), .ls (L.map fun l => .fl (rowD h W l.e))]
def wayD (h : Nat) (L : List Lane) (W : Nat → Nat → List Nat) : D := .tuple [tabD h W, .list (L.map fun l => .list (rowD h W l.e))]
@[simp] theorem ix_way0 (h : Nat) (L : List Lane) (W : Nat → Nat → List Nat) : gIx [.val (.leaf (wayD h L W)), .val (.leaf (.int 0))] = some (rd (tabD h W)) := by
  simp [wayD]
@[simp] theorem ix_way1 (h : Nat) (L : List Lane) (W : Nat → Nat → List Nat) : gIx [.val (.leaf (wayD h L W)), .val (.leaf (.int 1))] = some (rd (.list (L.map fun l => .list (rowD h W l.e)))) := by
  simp [wayD]
@[simp] theorem hole_way (h : Nat) (L : List Lane) (W : Nat → Nat → List Nat) : isHole (wayT h L W) = false := rfl
theorem natsT_lay (Q : List Nat) : (natsT Q).canLay0 = true ∧ (natsT Q).depth = 1 := by
  obtain ⟨a, b⟩ := lay_nats Q
  exact ⟨by simpa [natsT, PyData.canLay0] using a, by simp [natsT, PyData.depth, b]⟩
theorem lay_row (h : Nat) (W : Nat → Nat → List Nat) (x : Nat) : PyData.canLayAll0 (rowD h W x) = true ∧ PyData.depthAll (rowD h W x) ≤ 1 := by
  unfold rowD
  induction List.range h with
  | nil => exact ⟨rfl, by simp [PyData.depthAll]⟩
  | cons g gs ih =>
    obtain ⟨a, b⟩ := natsT_lay (W x g)
    refine ⟨?_, ?_⟩
    · simp only [List.map_cons, PyData.canLayAll0, ih.1, Bool.and_true, a]
    · simp only [List.map_cons, PyData.depthAll, b]
      have := ih.2
      omega
theorem lay_rows {α : Type} (f : α → List D) (h : ∀ a, PyData.canLayAll0 (f a) = true ∧ PyData.depthAll (f a) ≤ 1) : ∀ xs : List α, PyData.canLayAll0 (xs.map fun x => .list (f x)) = true ∧ PyData.depthAll (xs.map fun x => .list (f x)) ≤ 2
  | [] => ⟨rfl, by simp [PyData.depthAll]⟩
  | x :: xs => by
    obtain ⟨a, b⟩ := lay_rows f h xs
    obtain ⟨c, d⟩ := h x
    refine ⟨?_, ?_⟩
    · simp only [List.map_cons, PyData.canLayAll0, a, Bool.and_true, PyData.canLay0, c]
    · simp only [List.map_cons, PyData.depthAll, PyData.depth]
      omega
end La

namespace Tl
open PySem PySem.Spec PyProof.Rows L2
theorem lc_tape {α : Type} {vs : List Nat} {mt : MG} {mc : MB} {me : MV} {fw : Fz} {vw : Tau} {τ : Tau} {x : Option (List D × Tau)} {e : α → D} {xs : List α} {acc : List D} (h : lcLoop vs mt mc me fw vw (xs.map e) acc τ = x) (f : α → D) (P : Nat → Tau → Prop) (n : Nat) (i : P (n + xs.length) τ)
    (step : ∀ a ∈ xs, ∀ n τ, P (n + 1) τ → ∃ fz, mt (e a) fw = some fz ∧ ∃ b τ1, mc ⟨fz, vw⟩ τ = some (b, τ1) ∧ P n (tout vs τ1) ∧ (b = true → ∃ r, me ⟨fz, vw⟩ τ1 = some (r, τ1) ∧ r.st = some (f a))) : ∃ (ys : List α) (τ' : Tau), x = some (acc ++ ys.map f, τ') ∧ ys.Sublist xs ∧ P n τ' := by
  subst h
  induction xs generalizing acc τ with
  | nil => exact ⟨[], τ, by simp [lcLoop], List.Sublist.refl _, i⟩
  | cons d ds ih =>
    obtain ⟨fz, e1, b, τ1, e2, hp, e3⟩ := step d List.mem_cons_self (n + ds.length) τ (by rw [List.length_cons, ← Nat.add_assoc] at i; exact i)
    have ih := fun acc => ih (acc := acc) hp fun d m => step d (List.mem_cons_of_mem _ m)
    have g : ∀ x, (mt (e d) fw).bind (fun fz => (mc ⟨fz, vw⟩ τ).bind fun p => if p.1 = true then (me ⟨fz, vw⟩ p.2).bind fun q => q.1.st.bind fun y => lcLoop vs mt mc me fw vw (ds.map e) (acc ++ [y]) (tout vs q.2) else lcLoop vs mt mc me fw vw (ds.map e) acc (tout vs p.2)) = x → lcLoop vs mt mc me fw vw ((d :: ds).map e) acc τ = x := fun x h => h
    cases b with
    | false =>
      obtain ⟨ys, τ', e4, sb, hp'⟩ := ih acc
      refine ⟨ys, τ', g _ ?_, sb.cons _, hp'⟩
      rw [e1]
      show (mc ⟨fz, vw⟩ τ).bind _ = _
      rw [e2]
      exact e4
    | true =>
      obtain ⟨r, e5, e6⟩ := e3 rfl
      obtain ⟨ys, τ', e4, sb, hp'⟩ := ih (acc ++ [f d])
      refine ⟨d :: ys, τ', g _ ?_, sb.cons_cons _, hp'⟩
      rw [e1]
      show (mc ⟨fz, vw⟩ τ).bind _ = _
      rw [e2]
      show (me ⟨fz, vw⟩ τ1).bind _ = _
      rw [e5]
      show r.st.bind _ = _
      rw [e6]
      show lcLoop vs mt mc me fw vw (ds.map e) (acc ++ [f d]) (tout vs τ1) = _
      rw [e4, List.map_cons, List.append_assoc, List.singleton_append]
/-- every element draws -/
theorem lc_tapeM {β : Type} [Inhabited β] {vs : List Nat} {mt : MG} {me : MV} {fw : Fz} {vw : Tau} {τ : Tau} {x : Option (List D × Tau)} {e : Nat → D} {N : Nat} {acc : List D} (k : Nat) (h : lcLoop vs mt mYes me fw vw ((List.range' k N).map e) acc τ = x) (g : β → D) (Q : Nat → β → Prop) (c : Nat) (P : Nat → Tau → Prop) (n : Nat) (i : P (n + c * N) τ)
    (step : ∀ a, k ≤ a → a < k + N → ∀ n τ, P (n + c) τ → ∃ fz, mt (e a) fw = some fz ∧ ∃ r τ1 y, me ⟨fz, vw⟩ τ = some (r, τ1) ∧ r.st = some (g y) ∧ Q a y ∧ P n (tout vs τ1)) : ∃ (F : Nat → β) (τ' : Tau), x = some (acc ++ (List.range' k N).map (fun j => g (F j)), τ') ∧ (∀ j, k ≤ j → j < k + N → Q j (F j)) ∧ P n τ' := by
  subst h
  induction N generalizing acc τ k with
  | zero => exact ⟨fun _ => default, τ, by simp [lcLoop], fun j a b => by omega, i⟩
  | succ N ih =>
    obtain ⟨fz, e1, r, τ1, y, e2, e3, hq, hp⟩ := step k (Nat.le_refl _) (by omega) (n + c * N) τ (by rw [Nat.mul_succ, ← Nat.add_assoc] at i; exact i)
    obtain ⟨F, τ', e4, hF, hp'⟩ := ih (acc := acc ++ [g y]) (k + 1) hp fun a l1 l2 => step a (by omega) (by omega)
    refine ⟨fun j => if j = k then y else F j, τ', ?_, ?_, hp'⟩
    · rw [List.range'_succ, List.map_cons]
      show (mt (e k) fw).bind _ = _
      rw [e1]
      show (me ⟨fz, vw⟩ τ).bind _ = _
      rw [e2]
      show r.st.bind _ = _
      rw [e3]
      show lcLoop vs mt mYes me fw vw ((List.range' (k + 1) N).map e) (acc ++ [g y]) (tout vs τ1) = _
      rw [e4, List.map_cons, List.append_assoc, List.singleton_append]
      have e5 : (List.range' (k + 1) N).map (fun j => g (if j = k then y else F j)) = (List.range' (k + 1) N).map (fun j => g (F j)) := by
        refine List.map_congr_left fun j m => ?_
        have := (List.mem_range'_1.mp m).1
        rw [if_neg (by omega)]
      show _ = some (acc ++ g (if k = k then y else F k) :: (List.range' (k + 1) N).map (fun j => g (if j = k then y else F j)), τ')
      rw [e5, if_pos rfl]
    · intro j l1 l2
      by_cases q : j = k
      · subst q
        show Q j (if j = j then y else F j)
        rw [if_pos rfl]
        exact hq
      · show Q j (if j = k then y else F j)
        rw [if_neg q]
        exact hF j (by omega) (by omega)
end Tl
namespace La
open PySem PySem.Spec PyProof.Rows L2 Tl
theorem shaped_nats (S : List Nat) : SeqAt.shaped (.list (S.map natD)) = true := by
  obtain ⟨a, b⟩ := lay_nats S
  unfold SeqAt.shaped
  have c : PyData.canLay0 (.list (S.map natD)) = true := by simpa [PyData.canLay0] using a
  rw [c, PyData.depth, b]
  rfl
/-- what law_some gives: a list, held or not -/
def Lst (r : T) (ds : List D) : Prop := r = .leaf (.list ds) ∨ r = .fl ds
theorem some_ok {n : Nat} {t : T} {Q : List Nat} (hq : Q ≠ []) (hl : Q.length ≤ 10000) (ht : Tp (n + 1 + Q.length) t) : ∃ (S : List Nat) (r t' : T), m_law_some [t, .leaf (.list (Q.map natD))] = some (r, [t', .leaf (.list (Q.map natD))]) ∧ Lst r (S.map natD) ∧ S.Sublist Q ∧ S ≠ [] ∧ Tp n t' := by
  simp [m_law_some, b_law_some]
  generalize hC : lcLoop _ _ _ _ _ _ _ _ _ = z
  obtain ⟨S, τ', rfl, sb, t1, rfl, h1⟩ := lc_tape hC natD (fun n τ => ∃ t, τ = [(0, t)] ∧ Tp n t) (n + 1) ⟨t, rfl, ht⟩ (by
    rintro a ma n τ ⟨t, rfl, ht⟩
    obtain ⟨v, t', e, v0, v1, ht'⟩ := take_ok (m := 2) ht (by omega) (by omega)
    refine ⟨_, rfl, decide (v = 0), [(0, t')], ?_, ⟨t', rfl, ht'⟩, fun _ => ⟨_, by simp; rfl, rfl⟩⟩
    simp [e])
  have s1 := shaped_nats S
  have hb := h1
  cases S with
  | cons a S =>
    refine ⟨a :: S, _, t1, ?_, .inl rfl, sb, by simp, h1.mono (by omega)⟩
    have s2 : SeqAt.shaped (.list (natD a :: S.map natD)) = true := s1
    simp [s2]
  | nil =>
    have hql : 0 < Q.length := List.length_pos_iff.mpr hq
    obtain ⟨v, t2, e2, v0, v1, h2⟩ := take_ok (m := (Q.length : Int)) h1 (by omega) (by omega)
    obtain ⟨k, rfl⟩ : ∃ k : Nat, v = k := ⟨v.toNat, by omega⟩
    have hk : k < Q.length := by omega
    refine ⟨[Q[k]], .fl [natD Q[k]], t2, ?_, .inr rfl, List.singleton_sublist.mpr (List.getElem_mem hk), by simp, h2⟩
    have eg : (Q.map natD)[k]? = some (natD Q[k]) := by simp [hk]
    simp [e2, hk]
end La

namespace Tl
open PySem PySem.Spec PyProof.Rows L2
/-- a while that may be left by a return -/
theorem whL_rtO {mc : MXB} {body : MS} {n : Nat} {s : SS} {x : Option Out} (h : whL mc body n s = x) (Inv : Nat → SS → Prop) (Post : SS → Prop) (PostR : T → SS → Prop) (m : Nat) (i : Inv m s) (hm : m < n)
    (step : ∀ m s, Inv m s → (∃ s1, mc s = some (false, s1) ∧ Post s1) ∨ (∃ s1, mc s = some (true, s1) ∧ ((∃ s2, (body s1 = some (.nx s2) ∨ body s1 = some (.ct s2)) ∧ ∃ m', m' < m ∧ Inv m' s2) ∨ ∃ r s2, body s1 = some (.rt r s2) ∧ PostR r s2))) : (∃ s', x = some (.nx s') ∧ Post s') ∨ ∃ r s', x = some (.rt r s') ∧ PostR r s' := by
  subst h
  induction n generalizing m s with
  | zero => omega
  | succ n ih =>
    rcases step m s i with ⟨s1, e1, hp⟩ | ⟨s1, e1, ⟨s2, e2, m', hl, hi⟩ | ⟨r, s2, e2, hp⟩⟩
    · refine .inl ⟨s1, ?_, hp⟩
      show (mc s).bind _ = _
      rw [e1]
      rfl
    · have g : whL mc body (n + 1) s = whL mc body n s2 := by
        show (mc s).bind _ = _
        rw [e1]
        show (body s1).bind _ = _
        rcases e2 with e2 | e2 <;> (rw [e2]; rfl)
      rw [g]
      exact ih m' hi (by omega)
    · refine .inr ⟨r, s2, ?_, hp⟩
      show (mc s).bind _ = _
      rw [e1]
      show (body s1).bind _ = _
      rw [e2]
      rfl
end Tl
namespace La
open PySem PySem.Spec PyProof.Rows L2 Tl
/-- lanes towards a goal, as a law draws these: no lane leads back -/
structure To (h : Nat) (L : List Lane) (g : Nat) (W : Nat → List Nat) : Prop where
  sub : ∀ x, (W x).Sublist (spots (fun l => l.b == x) L)
  home : W g = []
  rk : ∃ R : Nat → Nat, ∀ x k, k ∈ W x → ∃ l, L[k]? = some l ∧ R l.e < R x ∧ (l.e = g ∨ W l.e ≠ [])
/-- .. while it is being drawn; I: the houses that are served -/
structure ToI (h : Nat) (L : List Lane) (g : Nat) (I : List Nat) (W : Nat → List Nat) : Prop where
  nd : I.Nodup
  lt : ∀ x ∈ I, x < h
  mem : g ∈ I
  sub : ∀ x, (W x).Sublist (spots (fun l => l.b == x) L)
  iff : ∀ x, W x ≠ [] ↔ x ∈ I ∧ x ≠ g
  rk : ∃ R : Nat → Nat, (∀ x ∈ I, R x < I.length) ∧ ∀ x k, k ∈ W x → ∃ l, L[k]? = some l ∧ R l.e < R x ∧ l.e ∈ I
theorem ToI.done {h g : Nat} {L : List Lane} {I : List Nat} {W : Nat → List Nat} (i : ToI h L g I W) : To h L g W where
  sub := i.sub
  home := by
    by_cases q : W g = []
    · exact q
    · exact absurd rfl ((i.iff g).mp q).2
  rk := by
    obtain ⟨R, _, h2⟩ := i.rk
    refine ⟨R, fun x k m => ?_⟩
    obtain ⟨l, e, lt, li⟩ := h2 x k m
    refine ⟨l, e, lt, ?_⟩
    by_cases q : l.e = g
    · exact .inl q
    · exact .inr ((i.iff _).mpr ⟨li, q⟩)
theorem ToI.start {h g : Nat} {L : List Lane} (hg : g < h) : ToI h L g [g] (fun _ => []) where
  nd := by simp
  lt := by simp [hg]
  mem := by simp
  sub := fun x => List.nil_sublist _
  iff := fun x => by simp
  rk := ⟨fun _ => 0, by simp, fun x k m => by cases m⟩
theorem ToI.add {h g x : Nat} {L : List Lane} {I S : List Nat} {W : Nat → List Nat} (i : ToI h L g I W) (hx : x < h) (n : x ∉ I) (sn : S ≠ []) (sub : S.Sublist (spots (fun l => l.b == x) L)) (hS : ∀ k ∈ S, ∃ l, L[k]? = some l ∧ l.e ∈ I) : ToI h L g (I ++ [x]) (fun y => if y = x then S else W y) where
  nd := by
    rw [List.nodup_append]
    refine ⟨i.nd, by simp, fun a ma b mb => ?_⟩
    rw [List.mem_singleton] at mb
    subst mb
    exact fun z => n (z ▸ ma)
  lt := fun y m => by
    rcases List.mem_append.mp m with m | m
    · exact i.lt y m
    · rw [List.mem_singleton] at m
      exact m ▸ hx
  mem := List.mem_append_left _ i.mem
  sub := fun y => by
    by_cases q : y = x
    · subst q
      rw [if_pos rfl]
      exact sub
    · rw [if_neg q]
      exact i.sub y
  iff := fun y => by
    by_cases q : y = x
    · subst q
      rw [if_pos rfl]
      refine ⟨fun _ => ⟨by simp, fun z => n (z ▸ i.mem)⟩, fun _ => sn⟩
    · rw [if_neg q, i.iff y]
      simp [q]
  rk := by
    obtain ⟨R, h1, h2⟩ := i.rk
    refine ⟨fun y => if y = x then I.length else R y, fun y m => ?_, fun y k m => ?_⟩
    · rw [List.length_append, List.length_singleton]
      rcases List.mem_append.mp m with m | m
      · have := h1 y m
        show (if y = x then I.length else R y) < _
        split <;> omega
      · rw [List.mem_singleton] at m
        show (if y = x then I.length else R y) < _
        rw [if_pos m]
        omega
    · by_cases q : y = x
      · subst q
        rw [if_pos rfl] at m
        obtain ⟨l, e, li⟩ := hS k m
        refine ⟨l, e, ?_, List.mem_append_left _ li⟩
        show (if l.e = y then I.length else R l.e) < (if y = y then I.length else R y)
        have ne : l.e ≠ y := fun z => n (z ▸ li)
        rw [if_neg ne, if_pos rfl]
        exact h1 _ li
      · rw [if_neg q] at m
        obtain ⟨l, e, lt, li⟩ := h2 y k m
        refine ⟨l, e, ?_, List.mem_append_left _ li⟩
        show (if l.e = x then I.length else R l.e) < (if y = x then I.length else R y)
        have ne : l.e ≠ x := fun z => n (z ▸ li)
        rw [if_neg ne, if_neg q]
        exact lt
theorem ToI.len {h g : Nat} {L : List Lane} {I : List Nat} {W : Nat → List Nat} (i : ToI h L g I W) : I.length ≤ h := by
  have := List.Nodup.length_le_of_subset i.nd (l₂ := List.range h) fun x m => List.mem_range.mpr (i.lt x m)
  simpa using this
end La

namespace La
open PySem PySem.Spec PyProof.Rows L2 Tl
end La

namespace La
open PySem PySem.Spec PyProof.Rows L2 Tl
/-- a walk of so many lanes leads from x to the goal -/
def Rch (L : List Lane) (g : Nat) : Nat → Nat → Prop
  | 0, x => x = g
  | k + 1, x => ∃ l ∈ L, l.b = x ∧ Rch L g k l.e
abbrev Lab (T : List (Option Nat)) (x k : Nat) : Prop := T[x]? = some (some k)
structure IsDist (h : Nat) (L : List Lane) (g : Nat) (T : List (Option Nat)) : Prop where
  len : T.length = h
  ok : ∀ x k, Lab T x k → Rch L g k x ∧ ∀ j, j < k → ¬ Rch L g j x
  no : ∀ x, T[x]? = some none → ∀ k, ¬ Rch L g k x
theorem Lab.uniq {T : List (Option Nat)} {x j k : Nat} (a : Lab T x j) (b : Lab T x k) : j = k := by
  have : some (some j) = some (some k) := a.symm.trans b
  simpa using this
theorem Lab.lt {T : List (Option Nat)} {x k : Nat} (a : Lab T x k) : x < T.length := (List.getElem?_eq_some_iff.mp a).1
theorem IsDist.uniq {h g : Nat} {L : List Lane} {T U : List (Option Nat)} (a : IsDist h L g T) (b : IsDist h L g U) : T = U := by
  refine List.ext_getElem (a.len.trans b.len.symm) fun x h1 h2 => ?_
  have e1 : T[x]? = some T[x] := List.getElem?_eq_getElem h1
  have e2 : U[x]? = some U[x] := List.getElem?_eq_getElem h2
  cases p : T[x] with
  | none =>
    cases q : U[x] with
    | none => rfl
    | some k =>
      rw [p] at e1
      rw [q] at e2
      exact absurd (b.ok x k e2).1 (a.no x e1 k)
  | some j =>
    rw [p] at e1
    cases q : U[x] with
    | none =>
      rw [q] at e2
      exact absurd (a.ok x j e1).1 (b.no x e2 j)
    | some k =>
      rw [q] at e2
      obtain ⟨a1, a2⟩ := a.ok x j e1
      obtain ⟨b1, b2⟩ := b.ok x k e2
      have n1 : ¬ j < k := fun z => b2 j z a1
      have n2 : ¬ k < j := fun z => a2 k z b1
      rw [show j = k by omega]
theorem dist_of {h g : Nat} {L : List Lane} {T : List (Option Nat)} (len : T.length = h) (a : Lab T g 0) (b : ∀ x k, Lab T x k → k = 0 ∧ x = g ∨ ∃ l ∈ L, l.b = x ∧ ∃ j, Lab T l.e j ∧ k = j + 1)
    (c : ∀ l ∈ L, ∀ k, Lab T l.e k → ∃ j, Lab T l.b j ∧ j ≤ k + 1) : IsDist h L g T := by
  have h1 : ∀ k x, Rch L g k x → ∃ j, Lab T x j ∧ j ≤ k := by
    intro k
    induction k with
    | zero =>
      intro x r
      have r : x = g := r
      subst r
      exact ⟨0, a, Nat.le_refl _⟩
    | succ k ih =>
      rintro x ⟨l, m, rfl, r⟩
      obtain ⟨j, hj, lj⟩ := ih _ r
      obtain ⟨i, hi, li⟩ := c l m j hj
      exact ⟨i, hi, by omega⟩
  have h2 : ∀ k x, Lab T x k → Rch L g k x := by
    intro k
    induction k with
    | zero =>
      intro x e
      rcases b x 0 e with ⟨_, q⟩ | ⟨l, m, q, j, _, z⟩
      · exact q
      · omega
    | succ k ih =>
      intro x e
      rcases b x _ e with ⟨z, q⟩ | ⟨l, m, q, j, hj, z⟩
      · omega
      · have : j = k := by omega
        subst this
        exact ⟨l, m, q, ih _ hj⟩
  refine ⟨len, fun x k e => ⟨h2 k x e, fun j l r => ?_⟩, fun x e k r => ?_⟩
  · obtain ⟨i, hi, li⟩ := h1 j x r
    have := hi.uniq e
    omega
  · obtain ⟨i, hi, li⟩ := h1 k x r
    have hi' : T[x]? = some (some i) := hi
    rw [e] at hi'
    cases hi'
theorem lab_set {T : List (Option Nat)} {x y j k : Nat} (n : T[x]? = some none) : Lab (T.set x (some k)) y j ↔ Lab T y j ∨ y = x ∧ j = k := by
  show (T.set x (some k))[y]? = _ ↔ _
  rw [List.getElem?_set]
  by_cases q : x = y
  · subst q
    have hl : x < T.length := (List.getElem?_eq_some_iff.mp n).1
    rw [if_pos rfl, if_pos hl]
    constructor
    · intro e
      injection e with e
      injection e with e
      exact .inr ⟨rfl, e.symm⟩
    · rintro (e | ⟨_, e⟩)
      · have e : T[x]? = some (some j) := e
        rw [n] at e
        cases e
      · rw [e]
  · rw [if_neg q]
    constructor
    · exact .inl
    · rintro (e | ⟨e, _⟩)
      · exact e
      · exact absurd e.symm q
structure Bi (h : Nat) (L : List Lane) (g : Nat) (T : List (Option Nat)) (Q : List Nat) : Prop where
  len : T.length = h
  a : Lab T g 0
  b : ∀ x k, Lab T x k → k = 0 ∧ x = g ∨ ∃ l ∈ L, l.b = x ∧ ∃ j, Lab T l.e j ∧ k = j + 1
  q : ∀ x ∈ Q, ∃ k, Lab T x k
  srt : Q.Pairwise fun x y => ∀ j k, Lab T x j → Lab T y k → j ≤ k
  top : ∀ x, Q.head? = some x → ∀ k, Lab T x k → ∀ y j, Lab T y j → j ≤ k + 1
  dn : ∀ l ∈ L, ∀ k, Lab T l.e k → l.e ∈ Q ∨ ∃ j, Lab T l.b j ∧ j ≤ k + 1
/-- within the turn of x, of label d, these lanes being left -/
structure Bj (h : Nat) (L : List Lane) (g x d : Nat) (rem : List Nat) (T : List (Option Nat)) (Q : List Nat) : Prop where
  len : T.length = h
  a : Lab T g 0
  b : ∀ x k, Lab T x k → k = 0 ∧ x = g ∨ ∃ l ∈ L, l.b = x ∧ ∃ j, Lab T l.e j ∧ k = j + 1
  q : ∀ x ∈ Q, ∃ k, Lab T x k ∧ d ≤ k
  hx : Lab T x d
  srt : Q.Pairwise fun x y => ∀ j k, Lab T x j → Lab T y k → j ≤ k
  top : ∀ y j, Lab T y j → j ≤ d + 1
  dn : ∀ l ∈ L, ∀ k, Lab T l.e k → l.e ∈ Q ∨ (l.e = x ∧ ∃ n ∈ rem, L[n]? = some l) ∨ ∃ j, Lab T l.b j ∧ j ≤ k + 1
theorem Bi.start {h g : Nat} {L : List Lane} (hg : g < h) : Bi h L g ((List.replicate h none).set g (some 0)) [g] := by
  have n : (List.replicate h (none : Option Nat))[g]? = some none := by simp [hg]
  have z : ∀ x k, Lab ((List.replicate h none).set g (some 0)) x k ↔ x = g ∧ k = 0 := by
    intro x k
    rw [lab_set n]
    constructor
    · rintro (e | e)
      · have e : (List.replicate h (none : Option Nat))[x]? = some (some k) := e
        rw [List.getElem?_replicate] at e
        split at e <;> cases e
      · exact e
    · exact .inr
  refine ⟨by simp, (z _ _).mpr ⟨rfl, rfl⟩, fun x k e => ?_, fun x m => ?_, by simp, fun x e k q y j r => ?_, fun l m k e => ?_⟩
  · obtain ⟨e1, e2⟩ := (z _ _).mp e
    exact .inl ⟨e2, e1⟩
  · rw [List.mem_singleton.mp m]
    exact ⟨0, (z _ _).mpr ⟨rfl, rfl⟩⟩
  · have := (z _ _).mp r
    omega
  · exact .inl (by rw [((z _ _).mp e).1]; exact List.mem_singleton.mpr rfl)
theorem Bj.done {h g x d : Nat} {L : List Lane} {T : List (Option Nat)} {Q : List Nat} (i : Bj h L g x d [] T Q) : Bi h L g T Q := by
  refine ⟨i.len, i.a, i.b, fun y m => ?_, i.srt, fun y e k r z j s => ?_, fun l m k e => ?_⟩
  · obtain ⟨k, hk, _⟩ := i.q y m
    exact ⟨k, hk⟩
  · obtain ⟨k', hk, lk⟩ := i.q y (List.mem_of_mem_head? e)
    have := i.top z j s
    have := hk.uniq r
    omega
  · rcases i.dn l m k e with z | ⟨_, n, m, _⟩ | z
    · exact .inl z
    · cases m
    · exact .inr z
theorem Bj.put {h g x d n : Nat} {L : List Lane} {rem : List Nat} {T : List (Option Nat)} {Q : List Nat} {l : Lane} (i : Bj h L g x d (n :: rem) T Q) (hn : L[n]? = some l) (he : l.e = x) (hb : T[l.b]? = some none) :
    Bj h L g x d rem (T.set l.b (some (d + 1))) (Q ++ [l.b]) := by
  have st : ∀ {y j}, Lab T y j → Lab (T.set l.b (some (d + 1))) y j := fun e => (lab_set hb).mpr (.inl e)
  have nw : Lab (T.set l.b (some (d + 1))) l.b (d + 1) := (lab_set hb).mpr (.inr ⟨rfl, rfl⟩)
  have old : ∀ {y j k}, Lab T y j → Lab (T.set l.b (some (d + 1))) y k → Lab T y k := fun {y j k} a e => by
    have := (st a).uniq e
    rw [← this]
    exact a
  have tp : ∀ y j, Lab (T.set l.b (some (d + 1))) y j → j ≤ d + 1 := fun y j e => by
    rcases (lab_set hb).mp e with e | ⟨_, e⟩
    · exact i.top y j e
    · omega
  refine ⟨by rw [List.length_set]; exact i.len, st i.a, fun y k e => ?_, fun y m => ?_, st i.hx, ?_, tp, fun l' m j e => ?_⟩
  · rcases (lab_set hb).mp e with e | ⟨e1, e2⟩
    · rcases i.b y k e with z | ⟨l', m, z, j, hj, e⟩
      · exact .inl z
      · exact .inr ⟨l', m, z, j, st hj, e⟩
    · exact .inr ⟨l, List.mem_of_getElem? hn, e1.symm, d, by rw [he]; exact st i.hx, e2⟩
  · rcases List.mem_append.mp m with m | m
    · obtain ⟨k, hk, lk⟩ := i.q y m
      exact ⟨k, st hk, lk⟩
    · rw [List.mem_singleton.mp m]
      exact ⟨d + 1, nw, Nat.le_succ _⟩
  · refine List.pairwise_append.mpr ⟨List.Pairwise.imp_of_mem (fun {y z} my mz r j k e1 e2 => ?_) i.srt, List.pairwise_singleton _ _, fun y my z mz j k e1 e2 => ?_⟩
    · obtain ⟨j', hj, _⟩ := i.q y my
      obtain ⟨k', hk, _⟩ := i.q z mz
      exact r j k (old hj e1) (old hk e2)
    · rw [List.mem_singleton.mp mz] at e2
      have := tp _ _ e1
      have := e2.uniq nw
      omega
  · rcases (lab_set hb).mp e with e | ⟨e1, e2⟩
    · rcases i.dn l' m j e with z | ⟨z, n', m', e'⟩ | ⟨k, z, zk⟩
      · exact .inl (List.mem_append_left _ z)
      · rcases List.mem_cons.mp m' with q | q
        · rw [q, hn] at e'
          cases e'
          rw [he] at e
          have := e.uniq i.hx
          exact .inr (.inr ⟨d + 1, nw, by omega⟩)
        · exact .inr (.inl ⟨z, n', q, e'⟩)
      · exact .inr (.inr ⟨k, st z, zk⟩)
    · exact .inl (List.mem_append_right _ (by rw [e1]; exact List.mem_singleton.mpr rfl))
theorem Bi.fin {h g : Nat} {L : List Lane} {T : List (Option Nat)} (i : Bi h L g T []) : IsDist h L g T :=
  dist_of i.len i.a i.b fun l m k e => (i.dn l m k e).resolve_left (fun z => nomatch z)
end La

namespace La
open PySem PySem.Spec PyProof.Rows L2 Tl
@[simp] theorem optD_n : optD none = .none := rfl
@[simp] theorem optD_s (n : Nat) : optD (some n) = .int n := rfl
end La

namespace La
open PySem PySem.Spec PyProof.Rows L2 Tl
theorem many_le : ∀ (n : Nat) (T : List (Option Nat)), (∀ j, j < n → some j ∈ T) → n ≤ T.length
  | 0, _, _ => Nat.zero_le _
  | n + 1, T, h => by
    have m := h n (Nat.lt_succ_self n)
    have ih := many_le n (T.erase (some n)) fun j l => (List.mem_erase_of_ne (by intro e; cases e; omega)).mpr (h j (by omega))
    have := List.length_erase_of_mem m
    have := List.length_pos_of_mem m
    omega
theorem Rch.least {L : List Lane} {g x : Nat} : ∀ {j : Nat}, Rch L g j x → ∃ k, k ≤ j ∧ Rch L g k x ∧ ∀ i, i < k → ¬ Rch L g i x := by
  intro j
  induction j using Nat.strongRecOn with
  | ind j ih =>
    intro r
    by_cases q : ∃ i, i < j ∧ Rch L g i x
    · obtain ⟨i, l, r'⟩ := q
      obtain ⟨k, a, b, c⟩ := ih i l r'
      exact ⟨k, by omega, b, c⟩
    · exact ⟨j, Nat.le_refl _, r, fun i l r' => q ⟨i, l, r'⟩⟩
theorem IsDist.below {h g : Nat} {L : List Lane} {T : List (Option Nat)} (i : IsDist h L g T) (hL : Ln h L) (hg : g < h) : ∀ k x, Lab T x k → ∀ j, j ≤ k → ∃ y, Lab T y j := by
  intro k
  induction k with
  | zero =>
    intro x e j l
    rw [show j = 0 by omega]
    exact ⟨x, e⟩
  | succ k ih =>
    intro x e j l
    by_cases q : j = k + 1
    · rw [q]
      exact ⟨x, e⟩
    · obtain ⟨r, mi⟩ := i.ok x _ e
      obtain ⟨ln, m, rfl, r'⟩ := r
      have hl : ln.e < T.length := by rw [i.len]; exact (hL ln m).2.1
      have e1 : T[ln.e]? = some T[ln.e] := List.getElem?_eq_getElem hl
      cases z : T[ln.e] with
      | none =>
        rw [z] at e1
        exact absurd r' (i.no _ e1 k)
      | some k' =>
        rw [z] at e1
        obtain ⟨r2, mi2⟩ := i.ok _ k' e1
        have n1 : ¬ k < k' := fun l => mi2 k l r'
        have n2 : ¬ k' < k := fun l => mi (k' + 1) (by omega) ⟨ln, m, rfl, r2⟩
        have : k' = k := by omega
        subst this
        exact ih _ e1 j (by omega)
theorem IsDist.lt {h g x k : Nat} {L : List Lane} {T : List (Option Nat)} (i : IsDist h L g T) (hL : Ln h L) (hg : g < h) (e : Lab T x k) : k < h := by
  have := many_le (k + 1) T fun j l => by
    obtain ⟨y, hy⟩ := i.below hL hg k x e j (by omega)
    exact List.mem_of_getElem? hy
  rw [i.len] at this
  omega
theorem Rch.lt {h g : Nat} {L : List Lane} (hL : Ln h L) (hg : g < h) {m x : Nat} (r : Rch L g m x) : x < h := by
  cases m with
  | zero =>
    have r : x = g := r
    rw [r]
    exact hg
  | succ m =>
    obtain ⟨l, m, rfl, _⟩ := r
    exact (hL l m).1
theorem IsDist.someAt {h g x : Nat} {L : List Lane} {T : List (Option Nat)} (i : IsDist h L g T) (hx : x < h) {k : Nat} (r : Rch L g k x) : ∃ j, Lab T x j ∧ j ≤ k := by
  have hl : x < T.length := by rw [i.len]; exact hx
  have e1 : T[x]? = some T[x] := List.getElem?_eq_getElem hl
  cases w : T[x] with
  | none =>
    rw [w] at e1
    exact absurd r (i.no x e1 k)
  | some j =>
    rw [w] at e1
    refine ⟨j, e1, ?_⟩
    have := (i.ok x j e1).2 k
    by_cases q : k < j
    · exact absurd r (this q)
    · omega
end La

namespace La
open PySem PySem.Spec PyProof.Rows L2 Tl
theorem Rch.zero {L : List Lane} {g x : Nat} : Rch L g 0 x ↔ x = g := Iff.rfl
end La

namespace La
open PySem PySem.Spec PyProof.Rows L2 Tl
def labOf (T : List (Option Nat)) (x : Nat) : Option Nat := T[x]?.join
def endsOf (L : List Lane) (T : List (Option Nat)) (x : Nat) : List Nat := (L.filter fun l => l.b == x && (labOf T l.e).isSome).map fun l => (labOf T l.e).getD 0
theorem labOf_some {T : List (Option Nat)} {x k : Nat} : labOf T x = some k ↔ Lab T x k := by
  unfold labOf
  cases h : T[x]? with
  | none =>
    simp
    intro e
    have e : T[x]? = some (some k) := e
    rw [h] at e
    cases e
  | some o =>
    simp
    show o = some k ↔ T[x]? = some (some k)
    rw [h]
    simp
theorem mem_ends {L : List Lane} {T : List (Option Nat)} {x k : Nat} : k ∈ endsOf L T x ↔ ∃ l ∈ L, l.b = x ∧ Lab T l.e k := by
  unfold endsOf
  simp only [List.mem_map, List.mem_filter, Bool.and_eq_true, beq_iff_eq]
  constructor
  · rintro ⟨l, ⟨m, e, s⟩, q⟩
    obtain ⟨j, hj⟩ := Option.isSome_iff_exists.mp s
    rw [hj] at q
    simp at q
    subst q
    exact ⟨l, m, e, labOf_some.mp hj⟩
  · rintro ⟨l, m, e, q⟩
    have := labOf_some.mpr q
    exact ⟨l, ⟨m, e, by rw [this]; rfl⟩, by rw [this]; rfl⟩
/-- each house's number by those behind its lanes -/
theorem IsDist.least {h g x : Nat} {L : List Lane} {T : List (Option Nat)} (i : IsDist h L g T) (hL : Ln h L) (hx : x < h) (n : x ≠ g) : labOf T x = (endsOf L T x).min?.map (· + 1) := by
  have hl : x < T.length := by rw [i.len]; exact hx
  have e1 : T[x]? = some T[x] := List.getElem?_eq_getElem hl
  have step : ∀ k, Lab T x k → ∃ k', k = k' + 1 ∧ ∃ j, j ≤ k' ∧ j ∈ endsOf L T x := by
    intro k e
    obtain ⟨r, mi⟩ := i.ok x k e
    cases k with
    | zero => exact absurd r n
    | succ k =>
      obtain ⟨l, m, q, r'⟩ := r
      obtain ⟨j, hj, lj⟩ := i.someAt (hL l m).2.1 r'
      exact ⟨k, rfl, j, lj, mem_ends.mpr ⟨l, m, q, hj⟩⟩
  cases q : (endsOf L T x).min? with
  | none =>
    have e : endsOf L T x = [] := List.min?_eq_none_iff.mp q
    cases w : T[x] with
    | none => simp [labOf, e1, w]
    | some k =>
      rw [w] at e1
      obtain ⟨_, _, j, _, m⟩ := step k e1
      rw [e] at m
      cases m
  | some m =>
    obtain ⟨h1, h2⟩ := List.min?_eq_some_iff.mp q
    obtain ⟨l, ml, e, hm⟩ := mem_ends.mp h1
    obtain ⟨k, hk, lk⟩ := i.someAt (k := m + 1) hx ⟨l, ml, e, (i.ok _ _ hm).1⟩
    obtain ⟨k', e', j, lj, mj⟩ := step k hk
    have := h2 j mj
    rw [labOf_some.mpr hk]
    simp
    omega
end La

namespace La
open PySem PySem.Spec PyProof.Rows L2 Tl
def atB {α : Type} (q : α → Bool) (xs : List α) (i : Nat) : Bool := (xs[i]?).elim false q
theorem spots_filter {α : Type} (p q : α → Bool) (xs : List α) : (spots p xs).filter (atB q xs) = spots (fun a => p a && q a) xs := by
  unfold spots
  have key : ∀ (ys : List (α × Nat)), (∀ z ∈ ys, xs[z.2]? = some z.1) → ((ys.filter fun z => p z.1).map (·.2)).filter (atB q xs) = (ys.filter fun z => p z.1 && q z.1).map (·.2) := by
    intro ys
    induction ys with
    | nil => intro _; rfl
    | cons z ys ih =>
      intro h
      have h0 := h z List.mem_cons_self
      have ih := ih fun z m => h z (List.mem_cons_of_mem _ m)
      by_cases hp : p z.1 = true
      · rw [List.filter_cons_of_pos (by simpa using hp), List.map_cons]
        by_cases hq : q z.1 = true
        · rw [List.filter_cons_of_pos (by simp only [atB, h0]; exact hq), List.filter_cons_of_pos (by simp [hp, hq]), List.map_cons, ih]
        · rw [List.filter_cons_of_neg (by simp only [atB, h0]; exact hq), List.filter_cons_of_neg (by simp [hq]), ih]
      · rw [List.filter_cons_of_neg (by simpa using hp), List.filter_cons_of_neg (by simp [hp]), ih]
  exact key _ fun z m => by simpa using (mem_zipIdx m).2
end La

namespace La
open PySem PySem.Spec PyProof.Rows L2 Tl
abbrev toS (h g mo sv : Nat) (L : List Lane) (W : Nat → List Nat) (I : List Nat) (t : T) (a b c d : Option D) : SS := ⟨[none, some (netT h L), some (.int g), some (.int mo), none, none, some (.int sv), a, b, c, d], [(0, t), (4, .fl ((List.range h).map fun x => natsT (W x))), (5, .fl (I.map natD))]⟩
theorem cut_nat (Q : List D) (k : Nat) : Tl.cutD Q none (some (k : Int)) = Q.take k := by
  unfold Tl.cutD
  rw [HT.sIx_nat, HT.sIx_none, List.drop_zero, Nat.sub_zero]
  by_cases q : k ≤ Q.length
  · rw [Nat.min_eq_left q]
  · rw [Nat.min_eq_right (by omega), List.take_of_length_le (Nat.le_refl _), List.take_of_length_le (by omega)]
def to7 : MS := mSet 7 (mX (mLc [9, 10] (iEnumM (mBin gIx (mVar 1) (mC (.int 1)))) (gtT (gtCons (gtN 9) (gtCons (gtN 10) gtNil))) (mAndB (mBrB 5 (mBinB gIn (mBin gIx (mVar 10) (mC (.int 1))) (mSee 5))) (mBrB 5 (mBinB gNotIn (mBin gIx (mVar 10) (mC (.int 0))) (mSee 5)))) (mVar 9)))
def toP (I : List Nat) (l : Lane) : Bool := decide (l.e ∈ I) && decide (l.b ∉ I)
theorem to7_ok {h g mo sv : Nat} {L : List Lane} {W : Nat → List Nat} {I : List Nat} {t : T} {a b c d : Option D} (hl : L.length ≤ 1000) : ∃ c' d', to7 (toS h g mo sv L W I t a b c d) = some (.nx (toS h g mo sv L W I t (some (.list ((spots (toP I) L).map natD))) b c' d')) := by
  have q1 : L.length < 8000000 := by omega
  simp [to7, enumFrom_map, q1]
  generalize hC : lcLoop _ _ _ _ _ _ _ _ _ = z
  obtain rfl := lc_typ hC (fun q => toP I q.1) (fun q => .int (q.2 : Nat)) rfl fun q m => by
    refine ⟨_, by simp; rfl, ?_⟩
    obtain ⟨⟨b, e, r⟩, k⟩ := q
    by_cases q1 : e ∈ I
    · by_cases q2 : b ∈ I
      · simp [toP, q1, q2, laneD, any_nats]
      · simp [toP, q1, q2, laneD, any_nats]
    · simp [toP, q1, laneD, any_nats]
  simp [spots]
theorem toP_lane {I : List Nat} {L : List Lane} {k : Nat} (m : k ∈ spots (toP I) L) : ∃ l, L[k]? = some l ∧ l.e ∈ I ∧ l.b ∉ I := by
  obtain ⟨l, e, p⟩ := mem_spots.mp m
  simp [toP] at p
  exact ⟨l, e, p.1, p.2⟩
def to8 : MS := mSet 8 (mX (mBin gIx (mBin gIx (mBin gIx (mVar 1) (mC (.int 1))) (mBin gIx (mVar 7) (mCall m_law_take (cIo 0 (cCons (mOp gLen (mCons (mVar 7) mNil)) cNil))))) (mC (.int 0))))
theorem to8_ok {n h g mo sv : Nat} {L : List Lane} {W : Nat → List Nat} {I Q : List Nat} {t : T} {b c d : Option D} (hq : Q ≠ []) (hQ : ∀ k ∈ Q, k < L.length) (hl : Q.length ≤ 1000) (ht : Tp (n + 1) t) : ∃ (k : Nat) (l : Lane) (t' : T), k ∈ Q ∧ L[k]? = some l ∧ Tp n t' ∧ to8 (toS h g mo sv L W I t (some (.list (Q.map natD))) b c d) = some (.nx (toS h g mo sv L W I t' (some (.list (Q.map natD))) (some (.int l.b)) c d)) := by
  have hp : 0 < Q.length := List.length_pos_iff.mpr hq
  obtain ⟨v, t', e, v0, v1, ht'⟩ := take_ok (m := (Q.length : Int)) ht (by omega) (by omega)
  obtain ⟨j, rfl⟩ : ∃ k : Nat, v = k := ⟨v.toNat, by omega⟩
  have hj : j < Q.length := by omega
  have hk := hQ _ (List.getElem_mem hj)
  refine ⟨Q[j], L[Q[j]], t', List.getElem_mem hj, List.getElem?_eq_getElem hk, ht', ?_⟩
  generalize hw : Q[j] = w at hk ⊢
  have ew : Q[j]? = some w := by rw [List.getElem?_eq_getElem hj, hw]
  simp [to8, e, hj, ew, hk, hw]
def toPut : MS := mSetP 4 pHere (mOp gTuple (mCons (mCut (mCall m_law_some (cIo 0 (cCons (mLc [9] (iSeq (mVar 7)) (gtN 9) (mBinB (gp pEq) (mBin gIx (mBin gIx (mBin gIx (mVar 1) (mC (.int 1))) (mVar 9)) (mC (.int 0))) (mVar 8)) (mVar 9)) cNil))) oNone (oSome (mVar 3))) mNil)) (mVar 8)
theorem toPut_ok {n h g mo sv x : Nat} {L : List Lane} {W : Nat → List Nat} {I Q : List Nat} {t : T} {c d : Option D} (hQ : ∀ k ∈ Q, k < L.length) (hl : Q.length ≤ 1000) (hx : x < h) (hh : h ≤ 1000) (hq : Q.filter (atB (fun l => l.b == x) L) ≠ []) (hmo : 1 ≤ mo) (ht : Tp (n + 1001) t) : ∃ (S : List Nat) (t' : T) (c' d' : Option D), S ≠ [] ∧ S.Sublist (Q.filter (atB (fun l => l.b == x) L)) ∧ Tp n t' ∧ toPut (toS h g mo sv L W I t (some (.list (Q.map natD))) (some (.int x)) c d) = some (.nx (toS h g mo sv L (fun y => if y = x then S else W y) I t' (some (.list (Q.map natD))) (some (.int x)) c' d')) := by
  simp [toPut]
  generalize hC : lcLoop _ _ _ _ _ _ _ _ _ = z
  obtain rfl := lc_typ hC (atB (fun l => l.b == x) L) natD rfl fun k m => by
    have hk := hQ k m
    refine ⟨_, by simp; rfl, ?_⟩
    simp [atB, hk, laneD, dec_nat]
  generalize hf : Q.filter (atB (fun l => l.b == x) L) = Z at hq
  have hZ : Z.length ≤ 1000 := by
    rw [← hf]
    exact Nat.le_trans (List.length_filter_le _ _) hl
  obtain ⟨S, r, t', e, hr, sb, sn, ht'⟩ := some_ok (n := n) hq (by omega) (ht.mono (by omega))
  have e' : (([] : List D) ++ Z.map natD) = Z.map natD := rfl
  have ec := cut_nat (S.map natD) mo
  have hset : ((List.range h).map fun y => natsT (W y)).set x (natsT (S.take mo)) = (List.range h).map fun y => natsT (if y = x then S.take mo else W y) := by
    rw [map_set_range]
    refine List.map_congr_left fun y _ => ?_
    split <;> rfl
  have hS : S.take mo ≠ [] := by
    cases S with
    | nil => exact absurd rfl sn
    | cons a S =>
      cases mo with
      | zero => omega
      | succ mo => simp
  refine ⟨S.take mo, hS, (List.take_sublist _ _).trans sb, t', ht', c, d, ?_⟩
  have hset' : ((List.range h).map fun y => natsT (W y)).set x (.tuple ((S.map natD).take mo)) = (List.range h).map fun y => natsT (if y = x then S.take mo else W y) := by
    rw [← List.map_take]
    exact hset
  have hRl : ((List.range h).map fun y => natsT (W y)).length = h := by simp
  have ix := ixN_nat hx
  have hx2 : x < 16000000 := by omega
  generalize (List.range h).map (fun y => natsT (W y)) = R at hset' hRl
  have fin : ∀ c d : Option D, some (Out.nx ⟨[none, some (netT h L), some (.int g), some (.int mo), none, none, some (.int sv), some (.list (Q.map natD)), some (.int x), c, d], [(0, t'), (4, .fl (R.set x (.tuple ((S.map natD).take mo)))), (5, .fl (I.map natD))]⟩) = some (.nx (toS h g mo sv L (fun y => if y = x then S.take mo else W y) I t' (some (.list (Q.map natD))) (some (.int x)) c d)) := by
    intro c d
    rw [hset']
  rw [← fin]
  rcases hr with rfl | rfl
  · simp [e, ec, hRl, ix, hx2]
  · simp [e, ec, hRl, ix, hx2]
def toApp : MS := mDo (mX (mMut 5 gAppend (mCons (mVar 8) mNil)))
theorem toApp_ok {h g mo sv x : Nat} {L : List Lane} {W : Nat → List Nat} {I : List Nat} {t : T} {a c d : Option D} (hI : I.length ≤ 1000) : toApp (toS h g mo sv L W I t a (some (.int x)) c d) = some (.nx (toS h g mo sv L W (I ++ [x]) t a (some (.int x)) c d)) := by
  have q : I.length < 16000000 := by omega
  simp [toApp, q]
end La

namespace La
open PySem PySem.Spec PyProof.Rows L2 Tl
def toIf (R : MS) : MS := mSeq (mIfS (mXB (mBinB (gp pEq) (mVar 7) (mOp gLstD mNil))) (mSeq (mRet (mX (mTk 4))) mNx) mNx) R
def toRest : MS := mSeq to8 (mSeq toPut (mSeq toApp mNx))
def toBody : MS := mSeq to7 (toIf toRest)
/-- what is told, and what is left of the tape -/
def ToR (h : Nat) (W : Nat → List Nat) (t : T) (r : T) (s : SS) : Prop := r = .fl ((List.range h).map fun x => natsT (W x)) ∧ tget s.ow 0 = some t
theorem toIf1 {h g mo sv : Nat} {L : List Lane} {W : Nat → List Nat} {I : List Nat} {t : T} {b c d : Option D} {R : MS} : ∃ r s', toIf R (toS h g mo sv L W I t (some (.list (([] : List Nat).map natD))) b c d) = some (.rt r s') ∧ ToR h W t r s' := by
  refine ⟨_, _, by simp [toIf]; exact ⟨rfl, rfl⟩, ?_⟩
  exact ⟨rfl, rfl⟩
theorem toIf2 {h g mo sv : Nat} {L : List Lane} {W : Nat → List Nat} {I Q : List Nat} {t : T} {b c d : Option D} {R : MS} (hq : Q ≠ []) : toIf R (toS h g mo sv L W I t (some (.list (Q.map natD))) b c d) = R (toS h g mo sv L W I t (some (.list (Q.map natD))) b c d) := by
  cases Q with
  | nil => exact absurd rfl hq
  | cons q Q =>
    have s1 : SeqAt.shaped (.list (natD q :: Q.map natD)) = true := shaped_nats (q :: Q)
    simp [toIf, s1]
theorem seq_nx {a b : MS} {s s' : SS} (e : a s = some (.nx s')) : mSeq a b s = b s' := by
  obtain ⟨fz, τ⟩ := s
  rw [r_mSeq, e]
  obtain ⟨fz', τ'⟩ := s'
  rfl
theorem toBody_ok {n h g mo sv : Nat} {L : List Lane} {W : Nat → List Nat} {I : List Nat} {t : T} {a b c d : Option D} (hh : h ≤ 1000) (hL : Ln h L) (hl : L.length ≤ 1000) (hmo : 1 ≤ mo) (i : ToI h L g I W) (ht : Tp (n + 1002) t) :
    (∃ (W' : Nat → List Nat) (x : Nat) (t' : T) (a' b' c' d' : Option D), toBody (toS h g mo sv L W I t a b c d) = some (.nx (toS h g mo sv L W' (I ++ [x]) t' a' b' c' d')) ∧ ToI h L g (I ++ [x]) W' ∧ Tp n t') ∨
    ∃ r s', toBody (toS h g mo sv L W I t a b c d) = some (.rt r s') ∧ ToR h W t r s' := by
  obtain ⟨c1, d1, e7⟩ := to7_ok (h := h) (g := g) (mo := mo) (sv := sv) (L := L) (W := W) (I := I) (t := t) (a := a) (b := b) (c := c) (d := d) hl
  unfold toBody
  rw [seq_nx e7]
  by_cases hq : spots (toP I) L = []
  · rw [hq]
    exact .inr toIf1
  · rw [toIf2 hq]
    have hQ : ∀ k ∈ spots (toP I) L, k < L.length := fun k m => spots_lt m
    have hQl : (spots (toP I) L).length ≤ 1000 := Nat.le_trans (spots_len _ _) hl
    obtain ⟨k, l, t1, mk, ek, h1, e8⟩ := to8_ok (n := n + 1001) (h := h) (g := g) (mo := mo) (sv := sv) (L := L) (W := W) (I := I) (t := t) (b := b) (c := c1) (d := d1) hq hQ hQl ht
    obtain ⟨l', ek', le, lb⟩ := toP_lane mk
    rw [ek] at ek'
    cases ek'
    have hlm := hL l (List.mem_of_getElem? ek)
    have hx : l.b < h := hlm.1
    have sf := spots_filter (toP I) (fun l' => l'.b == l.b) L
    have hne : (spots (toP I) L).filter (atB (fun l' => l'.b == l.b) L) ≠ [] := by
      have : k ∈ (spots (toP I) L).filter (atB (fun l' => l'.b == l.b) L) := List.mem_filter.mpr ⟨mk, by simp [atB, ek]⟩
      exact List.ne_nil_of_mem this
    obtain ⟨S, t2, c2, d2, sn, sb, h2, ep⟩ := toPut_ok (n := n) (h := h) (g := g) (mo := mo) (sv := sv) (x := l.b) (L := L) (W := W) (I := I) (t := t1) (c := c1) (d := d1) hQ hQl hx hh hne hmo h1
    have hi := i.len
    have ea := toApp_ok (h := h) (g := g) (mo := mo) (sv := sv) (x := l.b) (L := L) (W := fun y => if y = l.b then S else W y) (I := I) (t := t2) (a := some (.list ((spots (toP I) L).map natD))) (c := c2) (d := d2) (by omega)
    have sb2 : S.Sublist (spots (fun l' => l'.b == l.b) L) := by
      refine sb.trans ?_
      rw [sf]
      have e := spots_filter (fun l' : Lane => l'.b == l.b) (toP I) L
      have e2 : (fun a : Lane => toP I a && (a.b == l.b)) = fun a => (a.b == l.b) && toP I a := by
        funext a
        exact Bool.and_comm _ _
      rw [e2, ← e]
      exact List.filter_sublist
    have hS : ∀ k ∈ S, ∃ l, L[k]? = some l ∧ l.e ∈ I := fun k m => by
      obtain ⟨l, e, a, b⟩ := toP_lane (List.mem_filter.mp (sb.subset m)).1
      exact ⟨l, e, a⟩
    refine .inl ⟨_, l.b, t2, some (.list ((spots (toP I) L).map natD)), some (.int l.b), c2, d2, ?_, i.add hx lb sn sb2 hS, h2⟩
    unfold toRest
    rw [seq_nx e8, seq_nx ep, seq_nx ea]
    rfl
end La

namespace La
open PySem PySem.Spec PyProof.Rows L2 Tl
def toTail : MS := mSeq (mWhile whF (mXB (mBrB 5 (mBinB gLe (mOp gLen (mCons (mSee 5) mNil)) (mVar 6)))) toBody) (mSeq (mRet (mX (mTk 4))) mNx)
theorem toTail_ok {n h g mo sv : Nat} {L : List Lane} {t : T} {W0 : Nat → List Nat} {I0 : List Nat} (hh : h ≤ 1000) (hL : Ln h L) (hl : L.length ≤ 1000) (hmo : 1 ≤ mo) (i0 : ToI h L g I0 W0) (ht : Tp (n + 1002 * (h + 1)) t) : ∃ (W : Nat → List Nat) (r t' : T) (s' : SS), toTail (toS h g mo sv L W0 I0 t none none none none) = some (.rt r s') ∧ To h L g W ∧ ToR h W t' r s' ∧ Tp n t' := by
  unfold toTail
  rw [r_mSeq, r_mWhile]
  generalize hF : whL _ _ _ _ = y
  have hm : h < whF := by unfold whF; omega
  rcases whL_rtO hF (fun m s => ∃ (W : Nat → List Nat) (I : List Nat) (t : T) (a b c d : Option D), s = toS h g mo sv L W I t a b c d ∧ ToI h L g I W ∧ Tp (n + 1002 * (m + 1)) t ∧ h ≤ m + I.length)
    (fun s => ∃ (W : Nat → List Nat) (I : List Nat) (t : T) (a b c d : Option D), s = toS h g mo sv L W I t a b c d ∧ ToI h L g I W ∧ Tp n t)
    (fun r s => ∃ (W : Nat → List Nat) (t : T), To h L g W ∧ ToR h W t r s ∧ Tp n t) h ⟨W0, I0, t, none, none, none, none, rfl, i0, ht, by omega⟩ hm (by
    rintro m s ⟨W, I, t, a, b, c, d, rfl, i, ht, hm⟩
    have hc : (mXB (mBrB 5 (mBinB gLe (mOp gLen (mCons (mSee 5) mNil)) (mVar 6)))) (toS h g mo sv L W I t a b c d) = some (decide (I.length ≤ sv), toS h g mo sv L W I t a b c d) := by
      simp
    rw [hc]
    by_cases q : I.length ≤ sv
    · refine .inr ⟨_, by simp [q]; rfl, ?_⟩
      rcases toBody_ok (n := n + 1002 * m) (mo := mo) (sv := sv) (a := a) (b := b) (c := c) (d := d) hh hL hl hmo i (ht.mono (by omega)) with ⟨W', x, t', a', b', c', d', e, i', ht'⟩ | ⟨r, s', e, hr⟩
      · have := i'.len
        rw [List.length_append, List.length_singleton] at this
        cases m with
        | zero => omega
        | succ m => exact .inl ⟨_, .inl e, m, by omega, W', I ++ [x], t', a', b', c', d', rfl, i', ht', by rw [List.length_append, List.length_singleton]; omega⟩
      · exact .inr ⟨r, s', e, W, t, i.done, hr, ht.mono (by omega)⟩
    · exact .inl ⟨_, by simp [q], W, I, t, a, b, c, d, rfl, i, ht.mono (by omega)⟩) with ⟨s', rfl, W, I, t, a, b, c, d, rfl, i, ht⟩ | ⟨r, s', rfl, W, t, hT, hr, ht⟩
  · refine ⟨W, .fl ((List.range h).map fun x => natsT (W x)), t, _, by simp; rfl, i.done, ⟨rfl, rfl⟩, ht⟩
  · exact ⟨W, r, t, s', rfl, hT, hr, ht⟩
theorem toEnd {h : Nat} {W : Nat → List Nat} {t t0 r : T} {s' : SS} {a b c : D} (hr : ToR h W t r s') : bd (some (Out.rt r s')) (fnK2 [true, false, false, false] [t0, .leaf a, .leaf b, .leaf c]) = some (.fl ((List.range h).map fun x => natsT (W x)), [t, .leaf a, .leaf b, .leaf c]) := by
  obtain ⟨rfl, ht⟩ := hr
  obtain ⟨fz, τ⟩ := s'
  have ht' : tget τ 0 = some t := ht
  simp [ht']
theorem toLaw : b_law_taken_to = (mSeq (mSetO 4 (mX (mLc [8] (iRng (mCons (mBin gIx (mVar 1) (mC (.int 0))) mNil)) (gtN 8) mYes (mOp gTupD mNil)))) (mSeq (mSetO 5 (mX (mOp gLstD (mCons (mVar 2) mNil)))) (mSeq (mSet 6 (mX (mIf (mBinB gGt (mCall m_law_take (cIo 0 (cCons (mC (.int 3)) cNil))) (mC (.int 0))) (mBin gIx (mVar 1) (mC (.int 0))) (mCall m_law_take (cIo 0 (cCons (mBin gIx (mVar 1) (mC (.int 0))) cNil)))))) toTail))) := rfl
theorem takenTo_ok {n h g mo : Nat} {L : List Lane} {t : T} (h1 : 1 ≤ h) (hh : h ≤ 1000) (hg : g < h) (hL : Ln h L) (hl : L.length ≤ 1000) (hmo : 1 ≤ mo) (ht : Tp (n + 1002 * (h + 1) + 2) t) : ∃ (W : Nat → List Nat) (t' : T), m_law_taken_to [t, .leaf (netT h L), .leaf (.int g), .leaf (.int mo)] = some (.fl ((List.range h).map fun x => natsT (W x)), [t', .leaf (netT h L), .leaf (.int g), .leaf (.int mo)]) ∧ To h L g W ∧ Tp n t' := by
  have e8 : -8000000 ≤ (h : Int) ∧ (h : Int) ≤ 8000000 := by omega
  obtain ⟨v, t1, e1, v0, v1, ht1⟩ := take_ok (n := n + 1002 * (h + 1) + 1) (m := 3) ht (by omega) (by omega)
  obtain ⟨w, t2, e2, w0, w1, ht2⟩ := take_ok (n := n + 1002 * (h + 1)) (m := (h : Int)) ht1 (by omega) (by omega)
  obtain ⟨w, rfl⟩ : ∃ k : Nat, w = k := ⟨w.toNat, by omega⟩
  have st : (([] : List D) ++ (List.range h).map fun _ => PyData.tuple []) = (List.range h).map fun x => natsT ((fun _ => ([] : List Nat)) x) := rfl
  simp [m_law_taken_to, toLaw, e8, rangeD_nat]
  generalize hC : lcLoop _ _ _ _ _ _ _ _ _ = z
  obtain rfl := lc_typM hC (fun _ => PyData.tuple []) rfl fun k m => ⟨_, by simp; rfl, _, by simp; rfl, rfl⟩
  rw [st]
  by_cases q : 0 < v
  · obtain ⟨W, r, t', s', e, hT, hr, ht'⟩ := toTail_ok (n := n) (sv := h) hh hL hl hmo (ToI.start hg) (ht1.mono (by omega))
    refine ⟨W, t', ?_, hT, ht'⟩
    simp [e1, q]
    exact (congrArg (fun z => bd z _) e).trans (toEnd hr)
  · obtain ⟨W, r, t', s', e, hT, hr, ht'⟩ := toTail_ok (n := n) (sv := w) hh hL hl hmo (ToI.start hg) ht2
    refine ⟨W, t', ?_, hT, ht'⟩
    simp [e1, e2, q]
    exact (congrArg (fun z => bd z _) e).trans (toEnd hr)
end La

namespace La
open PySem PySem.Spec PyProof.Rows L2 Tl
end La

namespace La
open PySem PySem.Spec PyProof.Rows L2 Tl
def Thin (S Q : List Nat) : Prop := S.Sublist Q ∧ (Q = [] ↔ S = [])
theorem Thin.refl (Q : List Nat) : Thin Q Q := ⟨List.Sublist.refl _, Iff.rfl⟩
theorem shaped_natsT (S : List Nat) : SeqAt.shaped (natsT S) = true := by
  obtain ⟨a, b⟩ := natsT_lay S
  unfold SeqAt.shaped
  rw [a, b]
  rfl
theorem for_rngE {ws : List Nat} {mt : MG} {body : MS} {e : Nat → D} {n : Nat} {s : SS} {x : Option Out} (h : forL ws mt body ((List.range n).map e) s = x) (Inv : Nat → SS → Prop) (i : Inv 0 s)
    (step : ∀ k s, k < n → Inv k s → ∃ fz, mt (e k) s.fz = some fz ∧ ∃ s', (body ⟨fz, tout ws s.ow⟩ = some (.nx s') ∨ body ⟨fz, tout ws s.ow⟩ = some (.ct s')) ∧ Inv (k + 1) s') : ∃ s', x = some (.nx s') ∧ Inv n s' := by
  obtain ⟨s', e', k, hk, hi⟩ := for_inv h (fun rem s => ∃ k, rem = List.range' k (n - k) ∧ k ≤ n ∧ Inv k s) ⟨0, by rw [List.range_eq_range']; rfl, by omega, i⟩ (by
    rintro a rem s ⟨k, hr, hk, hi⟩
    have hk' : k < n := by
      by_cases q : k < n
      · exact q
      · rw [show n - k = 0 by omega] at hr
        cases hr
    rw [show n - k = (n - (k + 1)) + 1 by omega, List.range'_succ, List.cons.injEq] at hr
    obtain ⟨rfl, rfl⟩ := hr
    obtain ⟨fz, e1, s', e2, h2⟩ := step a s hk' hi
    exact ⟨fz, e1, s', e2, a + 1, rfl, hk', h2⟩)
  refine ⟨s', e', ?_⟩
  have : k = n := by
    have := congrArg List.length hk
    simp at this
    omega
  exact this ▸ hi.2
def thinB : MS := mSeq (mDo (mX (mMut 6 gAppend (mCons (mLc [8] (iSeq (mVar 7)) (gtN 8) mYes (mIf (mBinB (gp pNe) (mVar 8) (mOp gTupD mNil)) (mOp gTuple (mCons (mCall m_law_some (cIo 0 (cCons (mOp gList (mCons (mVar 8) mNil)) cNil))) mNil)) (mOp gTupD mNil))) mNil)))) mNx
theorem thinB_ok {n h : Nat} {V : Nat → List Nat} {N M w b o a : Option D} {R : List D} {t : T} (hR : R.length ≤ 10000) (hh : h ≤ 1000) (hV : ∀ g, g < h → (V g).length ≤ 1000) (ht : Tp (n + 1001 * h) t) : ∃ (S : Nat → List Nat) (t' : T), thinB ⟨[none, N, M, w, b, o, none, some (.list ((List.range h).map fun g => natsT (V g))), a], [(0, t), (6, .fl R)]⟩ = some (.nx ⟨[none, N, M, w, b, o, none, some (.list ((List.range h).map fun g => natsT (V g))), a], [(0, t'), (6, .fl (R ++ [.list ((List.range h).map fun g => natsT (S g))]))]⟩) ∧ (∀ g, g < h → Thin (S g) (V g)) ∧ Tp n t' := by
  have q1 : R.length < 16000000 := by omega
  simp [thinB]
  rw [List.range_eq_range']
  generalize hC : lcLoop _ _ _ _ _ _ _ _ _ = z
  obtain ⟨F, τ', rfl, hF, t1, rfl, ht1⟩ := lc_tapeM (β := List Nat) 0 hC natsT (fun g S => Thin S (V g)) 1001 (fun n τ => ∃ t, τ = [(0, t), (6, .fl R)] ∧ Tp n t) n ⟨t, rfl, ht⟩ (by
    rintro g _ hg n τ ⟨t, rfl, ht⟩
    have hvl := hV g (by omega)
    have s1 := shaped_natsT (V g)
    generalize V g = v at hvl s1 ⊢
    cases v with
    | nil =>
      exact ⟨_, by simp; rfl, _, [(0, t), (6, .fl R)], [], by simp [natsT]; rfl, rfl, ⟨List.Sublist.refl _, Iff.rfl⟩, t, rfl, ht.mono (by omega)⟩
    | cons q Q =>
      obtain ⟨S, r, t', e, hr, sb, sn, ht'⟩ := some_ok (n := n) (t := t) (Q := q :: Q) (by simp) (by omega) (ht.mono (by omega))
      have e' : m_law_some [t, .leaf (.list (natD q :: Q.map natD))] = some (r, [t', .leaf (.list (natD q :: Q.map natD))]) := e
      have s2 : SeqAt.shaped (.tuple (natD q :: Q.map natD)) = true := s1
      have q2 : Q.length + 1 ≤ 16000000 := by simp at hvl; omega
      refine ⟨_, by simp; rfl, ?_⟩
      rcases hr with rfl | rfl
      · refine ⟨_, [(0, t'), (6, .fl R)], S, by simp [natsT, s2, e', q2]; rfl, rfl, ⟨sb, by simp [sn]⟩, t', rfl, ht'⟩
      · refine ⟨_, [(0, t'), (6, .fl R)], S, by simp [natsT, s2, e', q2]; rfl, rfl, ⟨sb, by simp [sn]⟩, t', rfl, ht'⟩)
  rw [← List.range_eq_range']
  refine ⟨F, t1, ?_, fun g hg => hF g (by omega) (by omega), ht1⟩
  simp [q1]
end La

namespace La
open PySem PySem.Spec PyProof.Rows L2 Tl
abbrev rowsL (N h : Nat) (V : Nat → Nat → List Nat) : List D := (List.range N).map fun j => .list (rowD h V j)
/-- a way: begins, ons -/
def wayG (h : Nat) (L : List Lane) (B O : Nat → Nat → List Nat) : D := .tuple [.list (rowsL h h B), .list (rowsL L.length h O)]
def onW (L : List Lane) (W : Nat → Nat → List Nat) (j g : Nat) : List Nat := match L[j]? with
  | some l => W l.e g
  | none => []
theorem wayD_G (h : Nat) (L : List Lane) (W : Nat → Nat → List Nat) : wayD h L W = wayG h L W (onW L W) := by
  unfold wayD wayG
  congr 4
  refine List.ext_getElem (by simp) fun i h1 h2 => ?_
  simp at h1
  simp [onW, h1]
theorem thin_ok {n N h : Nat} {V : Nat → Nat → List Nat} {net M w b o a c : Option D} {t : T} {y : Option Out} (hN : N ≤ 10000) (hh : h ≤ 1000) (hV : ∀ j, j < N → ∀ g, g < h → (V j g).length ≤ 1000) (ht : Tp (n + 1001 * h * N) t) (hF : forL [7] (gtN 7) thinB (rowsL N h V) ⟨[none, net, M, w, b, o, none, c, a], [(0, t), (6, .fl [])]⟩ = y) : ∃ (S : Nat → Nat → List Nat) (t' : T) (c' : Option D), y = some (.nx ⟨[none, net, M, w, b, o, none, c', a], [(0, t'), (6, .fl (rowsL N h S))]⟩) ∧ (∀ j, j < N → ∀ g, g < h → Thin (S j g) (V j g)) ∧ Tp n t' := by
  obtain ⟨s', rfl, S, t', c', rfl, hS, ht'⟩ := for_rngE hF (fun k s => ∃ (S : Nat → Nat → List Nat) (t : T) (c : Option D), s = ⟨[none, net, M, w, b, o, none, c, a], [(0, t), (6, .fl (rowsL k h S))]⟩ ∧ (∀ j, j < k → ∀ g, g < h → Thin (S j g) (V j g)) ∧ Tp (n + 1001 * h * (N - k)) t) ⟨fun _ _ => [], t, c, rfl, fun j hj => by omega, ht⟩ (by
    rintro k s hk ⟨S, t, c, rfl, hS, ht⟩
    refine ⟨_, rfl, ?_⟩
    have hb : 1001 * h * (N - k) = 1001 * h * (N - (k + 1)) + 1001 * h := by
      rw [← Nat.mul_succ]
      congr 1
      omega
    rw [hb, ← Nat.add_assoc] at ht
    obtain ⟨F, t', e, hF, ht'⟩ := thinB_ok (N := net) (M := M) (w := w) (b := b) (o := o) (a := a) (R := rowsL k h S) (V := V k) (by simp; omega) hh (hV k hk) ht
    refine ⟨_, .inl e, fun j g => if j = k then F g else S j g, t', some (.list (rowD h V k)), ?_, ?_, ht'⟩
    · have er : rowsL k h S ++ [.list ((List.range h).map fun g => natsT (F g))] = rowsL (k + 1) h (fun j g => if j = k then F g else S j g) := by
        unfold rowsL
        rw [List.range_succ, List.map_append]
        congr 1
        · refine List.map_congr_left fun j m => ?_
          have := List.mem_range.mp m
          have q : j ≠ k := by omega
          simp [q]
        · simp
      rw [er]
    · intro j hj g hg
      by_cases q : j = k
      · subst q
        simpa using hF g hg
      · simpa [q] using hS j (by omega) g hg)
  exact ⟨S, t', c', rfl, hS, ht'.mono (by omega)⟩
/-- the ways that a law draws -/
def WayP (h : Nat) (L : List Lane) (B O : Nat → Nat → List Nat) : Prop := ∃ W : Nat → Nat → List Nat, (∀ g, g < h → To h L g (fun x => W x g)) ∧ (∀ x, x < h → ∀ g, g < h → Thin (B x g) (W x g)) ∧ ∀ j l, L[j]? = some l → ∀ g, g < h → Thin (O j g) (W l.e g)
end La

namespace La
open PySem PySem.Spec PyProof.Rows L2 Tl
def wayK (h N : Nat) : Nat := (1002 * (h + 1) + 2) * h + 1001 * h * (h + N)
theorem To.len {h g : Nat} {L : List Lane} {W : Nat → List Nat} (i : To h L g W) (x : Nat) : (W x).length ≤ L.length :=
  Nat.le_trans (i.sub x).length_le (spots_len _ _)
theorem WayP.whole {h : Nat} {L : List Lane} {W : Nat → Nat → List Nat} (hT : ∀ g, g < h → To h L g (fun x => W x g)) : WayP h L W (onW L W) :=
  ⟨W, hT, fun x _ g _ => Thin.refl _, fun j l e g _ => by rw [onW, e]; exact Thin.refl _⟩
end La

namespace La
open PySem PySem.Spec PyProof.Rows L2 Tl
/-- what is told is what is due -/
theorem same_ok : ∀ (j : Nat) (d : D), d.canLay0 = true → d.depth < j → m_law_same j [.leaf d, .leaf d] = some (.leaf (.bool true), [.leaf d, .leaf d])
  | 0, _, _, h => by omega
  | j + 1, d, hc, hj => by
    have lst : ∀ (ds : List D) (d : D), d = .list ds ∨ d = .tuple ds → PyData.canLayAll0 ds = true → PyData.depthAll ds < j → m_law_same (j + 1) [.leaf d, .leaf d] = some (.leaf (.bool true), [.leaf d, .leaf d]) := by
      intro ds d hd h1 h2
      have key : ∀ fw x, lcLoop [2, 3] (gtT (gtCons (gtN 2) (gtCons (gtN 3) gtNil))) mYes (mCall (m_law_same j) (cCons (mVar 2) (cCons (mVar 3) cNil))) [some d, some d, none, none] [] (zipD ds ds) [] [] = x → fw = 0 → ∃ acc, x = some (acc, []) ∧ ∀ b ∈ acc, b = .bool true := by
        intro _ x hL _
        obtain ⟨acc, τ, rfl, rfl, _, i3⟩ := lc_of hL (fun rem acc τ => τ = [] ∧ (∀ p ∈ rem, ∃ d ∈ ds, p = .tuple [d, d]) ∧ ∀ b ∈ acc, b = PyData.bool true) ⟨rfl, fun p m => zipD_self_mem m, fun _ m => nomatch m⟩ (by
          rintro p rem acc τ ⟨rfl, i2, i3⟩
          obtain ⟨d', m', rfl⟩ := i2 _ List.mem_cons_self
          have ih := same_ok j d' (layAll_mem h1 m') (Nat.lt_of_le_of_lt (depthAll_le m') h2)
          refine ⟨_, true, [], by simp; rfl, rfl, .inr ⟨rfl, _, _, _, by simp [ih]; exact ⟨rfl, rfl⟩, rfl, rfl, fun p m => i2 p (List.mem_cons_of_mem _ m), fun b m => ?_⟩⟩
          rcases List.mem_append.mp m with m | m
          · exact i3 b m
          · exact List.mem_singleton.mp m)
        exact ⟨acc, rfl, i3⟩
      have fin : ∀ acc : List D, (∀ b ∈ acc, b = PyData.bool true) → bd (boolsD acc) (gboolK Tl.allB) = some (rBool true) := by
        intro acc h
        have : ∀ acc : List D, (∀ b ∈ acc, b = PyData.bool true) → ∃ bs, boolsD acc = some bs ∧ Tl.allB bs = true := by
          intro acc
          induction acc with
          | nil => exact fun _ => ⟨[], rfl, rfl⟩
          | cons b acc ih =>
            intro h
            have e := h b List.mem_cons_self
            subst e
            obtain ⟨bs, e1, e2⟩ := ih fun b m => h b (List.mem_cons_of_mem _ m)
            refine ⟨true :: bs, ?_, ?_⟩
            · show (boolsD acc).map (true :: ·) = _
              rw [e1]
              rfl
            · have e3 : bs.all id = true := e2
              show (true :: bs).all id = true
              rw [List.all_cons, e3]
              rfl
        obtain ⟨bs, e1, e2⟩ := this acc h
        simp [e1, e2]
      rcases hd with rfl | rfl
      · simp [m_law_same, b_law_same]
        generalize hL : lcLoop _ _ _ _ _ _ _ _ _ = y
        obtain ⟨acc, rfl, ha⟩ := key 0 _ hL rfl
        simp [fin acc ha]
      · simp [m_law_same, b_law_same]
        generalize hL : lcLoop _ _ _ _ _ _ _ _ _ = y
        obtain ⟨acc, rfl, ha⟩ := key 0 _ hL rfl
        simp [fin acc ha]
    cases d with
    | none => simp [m_law_same, b_law_same]
    | bool b => simp [m_law_same, b_law_same]
    | int i => simp [m_law_same, b_law_same]
    | str s =>
      have hs : SeqAt.shaped (.str s) = true := by
        unfold SeqAt.shaped
        rw [hc]
        simp [PyData.depth]
      simp [m_law_same, b_law_same, hs]
    | list ds => exact lst ds _ (.inl rfl) (by simpa [PyData.canLay0] using hc) (by rw [PyData.depth] at hj; omega)
    | tuple ds => exact lst ds _ (.inr rfl) (by simpa [PyData.canLay0] using hc) (by rw [PyData.depth] at hj; omega)
    | dict kvs => cases hc
end La

namespace La
open PySem PySem.Spec PyProof.Rows L2 Tl
theorem forOL_all {x : Nat} {body : MS} (Inv : SS → Prop) (P : T → Prop) (step : ∀ t s, P t → Inv s → (once s.ow = true ∧ x < s.fz.length) ∧ ∃ s1 t', body ⟨fset s.fz x none, tset s.ow x t⟩ = some (.nx s1) ∧ tget s1.ow x = some t' ∧ Inv ⟨fset s1.fz x none, tdel s1.ow x⟩) :
    ∀ n j ts s, Inv s → (∀ i, j ≤ i → i < j + n → ∃ t, ts[i]? = some t ∧ P t) → ∃ ts' s', forOL x body n j ts s = some (ts', .nx s') ∧ Inv s' ∧ ts'.length = ts.length
  | 0, j, ts, s, i, _ => ⟨ts, s, rfl, i, rfl⟩
  | n + 1, j, ts, s, i, h => by
    obtain ⟨t, et, pt⟩ := h j (Nat.le_refl _) (by omega)
    obtain ⟨q, s1, t', e1, e2, i1⟩ := step t s pt i
    obtain ⟨ts', s', e3, i3, l3⟩ := forOL_all Inv P step n (j + 1) (ts.set j t') _ i1 fun k h1 h2 => by
      obtain ⟨u, eu, pu⟩ := h k (by omega) (by omega)
      exact ⟨u, by rw [List.getElem?_set_ne (by omega)]; exact eu, pu⟩
    refine ⟨ts', s', ?_, i3, by rw [l3, List.length_set]⟩
    show (ts[j]?).bind _ = _
    rw [et]
    show (if once s.ow = true ∧ x < s.fz.length then _ else none) = _
    rw [if_pos q]
    show (body _).bind _ = _
    rw [e1]
    show (tget s1.ow x).bind _ = _
    rw [e2]
    exact e3
theorem forOL_of {x : Nat} {body : MS} {ts : List T} {s : SS} {y : Option (List T × Out)} (h : forOL x body ts.length 0 ts s = y) (Inv : SS → Prop) (P : T → Prop) (i : Inv s) (hp : ∀ t ∈ ts, P t) (step : ∀ t s, P t → Inv s → (once s.ow = true ∧ x < s.fz.length) ∧ ∃ s1 t', body ⟨fset s.fz x none, tset s.ow x t⟩ = some (.nx s1) ∧ tget s1.ow x = some t' ∧ Inv ⟨fset s1.fz x none, tdel s1.ow x⟩) :
    ∃ ts' s', y = some (ts', .nx s') ∧ Inv s' ∧ ts'.length = ts.length := by
  subst h
  exact forOL_all Inv P step ts.length 0 ts s i fun k _ h2 => ⟨ts[k], List.getElem?_eq_getElem (by omega), hp _ (List.getElem_mem _)⟩
/-- a row that may be changed; rows of such -/
def RowT (t : T) : Prop := ∃ ds : List D, t = .fl ds ∧ ds.length < 1000
end La

namespace La
open PySem PySem.Spec PyProof.Rows L2 Tl
end La

namespace La
open PySem PySem.Spec PyProof.Rows L2 Tl
end La

namespace La
open PySem PySem.Spec PyProof.Rows L2 Tl
structure Tr where
  b : Nat
  g : Nat
  p : Int
def trD (t : Tr) : D := .tuple [.int t.b, .int t.g, .int t.p]
structure St where
  left : Int
  held : List (Nat × Int)
  come : Int
def pcD (p : Nat × Int) : D := .tuple [.int p.1, .int p.2]
def heldD (Q : List (Nat × Int)) : D := .tuple (Q.map pcD)
def stD (s : St) : D := .tuple [.int s.left, heldD s.held, .int s.come]
abbrev trainsD (Ts : List Tr) : D := .list (Ts.map trD)
abbrev standD (S : List St) : D := .list (S.map stD)
@[simp] theorem ix_tr0 (t : Tr) : gIx [.val (.leaf (trD t)), .val (.leaf (.int 0))] = some (rInt t.b) := by simp [trD]
@[simp] theorem ix_tr1 (t : Tr) : gIx [.val (.leaf (trD t)), .val (.leaf (.int 1))] = some (rInt t.g) := by simp [trD]
@[simp] theorem ix_tr2 (t : Tr) : gIx [.val (.leaf (trD t)), .val (.leaf (.int 2))] = some (rInt t.p) := by simp [trD]
@[simp] theorem ix_st0 (t : St) : gIx [.val (.leaf (stD t)), .val (.leaf (.int 0))] = some (rInt t.left) := by simp [stD]
@[simp] theorem ix_st1 (t : St) : gIx [.val (.leaf (stD t)), .val (.leaf (.int 1))] = some (rd (heldD t.held)) := by simp [stD]
@[simp] theorem ix_st2 (t : St) : gIx [.val (.leaf (stD t)), .val (.leaf (.int 2))] = some (rInt t.come) := by simp [stD]
@[simp] theorem ix_pc0 (t : Nat × Int) : gIx [.val (.leaf (pcD t)), .val (.leaf (.int 0))] = some (rInt t.1) := by simp [pcD]
@[simp] theorem ix_pc1 (t : Nat × Int) : gIx [.val (.leaf (pcD t)), .val (.leaf (.int 1))] = some (rInt t.2) := by simp [pcD]
@[simp] theorem gt_tr (m1 m2 m3 : MG) (l : Tr) (fz : Fz) : gtT (gtCons m1 (gtCons m2 (gtCons m3 gtNil))) (trD l) fz = gtT (gtCons m1 (gtCons m2 (gtCons m3 gtNil))) (.tuple [.int l.b, .int l.g, .int l.p]) fz := rfl
@[simp] theorem gt_st (m1 m2 m3 : MG) (l : St) (fz : Fz) : gtT (gtCons m1 (gtCons m2 (gtCons m3 gtNil))) (stD l) fz = gtT (gtCons m1 (gtCons m2 (gtCons m3 gtNil))) (.tuple [.int l.left, heldD l.held, .int l.come]) fz := rfl
@[simp] theorem gt_pc (m1 m2 : MG) (l : Nat × Int) (fz : Fz) : gtT (gtCons m1 (gtCons m2 gtNil)) (pcD l) fz = gtT (gtCons m1 (gtCons m2 gtNil)) (.tuple [.int l.1, .int l.2]) fz := rfl
@[simp] theorem its_held (Q : List (Nat × Int)) : (rd (heldD Q)).its = some (false, Q.map pcD) := rfl
theorem lay_pcs : ∀ Q : List (Nat × Int), PyData.canLayAll0 (Q.map pcD) = true ∧ PyData.depthAll (Q.map pcD) ≤ 1
  | [] => ⟨rfl, by simp [PyData.depthAll]⟩
  | q :: Q => by
    obtain ⟨a, b⟩ := lay_pcs Q
    exact ⟨by simp [PyData.canLayAll0, pcD, PyData.canLay0] at a ⊢; exact a, by simp [PyData.depthAll, PyData.depth, pcD] at b ⊢; omega⟩
theorem lay_held (Q : List (Nat × Int)) : (heldD Q).canLay0 = true ∧ (heldD Q).depth ≤ 2 := by
  obtain ⟨a, b⟩ := lay_pcs Q
  exact ⟨by simpa [heldD, PyData.canLay0] using a, by simp only [heldD, PyData.depth]; omega⟩
theorem shaped_of {d : D} (a : d.canLay0 = true) (b : d.depth ≤ 60) : SeqAt.shaped d = true := by
  unfold SeqAt.shaped
  rw [a, Bool.true_and, decide_eq_true_eq]
  omega
@[simp] theorem shaped_held (Q : List (Nat × Int)) : SeqAt.shaped (heldD Q) = true := shaped_of (lay_held Q).1 (by have := (lay_held Q).2; omega)
@[simp] theorem eqv_held_nil (Q : List (Nat × Int)) : PyData.eqv (heldD Q) (.tuple []) = Q.isEmpty := by
  cases Q <;> simp [heldD]
def TrOk (h : Nat) (B : Nat → Nat → List Nat) (t : Tr) : Prop := t.b < h ∧ t.g < h ∧ B t.b t.g ≠ [] ∧ 1 ≤ t.p ∧ t.p ≤ 12
def prD (p : Nat × Nat) : D := .tuple [.int p.1, .int p.2]
@[simp] theorem gt_pr (m1 m2 : MG) (l : Nat × Nat) (fz : Fz) : gtT (gtCons m1 (gtCons m2 gtNil)) (prD l) fz = gtT (gtCons m1 (gtCons m2 gtNil)) (.tuple [.int l.1, .int l.2]) fz := rfl
@[simp] theorem eqv_natsT_nil (Q : List Nat) : PyData.eqv (natsT Q) (.tuple []) = Q.isEmpty := by
  cases Q <;> simp [natsT]
@[simp] theorem ix_wayG0 (h : Nat) (L : List Lane) (B O : Nat → Nat → List Nat) : gIx [.val (.leaf (wayG h L B O)), .val (.leaf (.int 0))] = some (rd (.list (rowsL h h B))) := by simp [wayG]
@[simp] theorem ix_wayG1 (h : Nat) (L : List Lane) (B O : Nat → Nat → List Nat) : gIx [.val (.leaf (wayG h L B O)), .val (.leaf (.int 1))] = some (rd (.list (rowsL L.length h O))) := by simp [wayG]
theorem ix_rows {N h j : Nat} {V : Nat → Nat → List Nat} (hj : j < N) : gIx [.val (.leaf (.list (rowsL N h V))), .val (.leaf (.int (j : Nat)))] = some (rd (.list (rowD h V j))) := by
  simp [hj]
theorem ix_row {h g j : Nat} {V : Nat → Nat → List Nat} (hg : g < h) : gIx [.val (.leaf (.list (rowD h V j))), .val (.leaf (.int (g : Nat)))] = some (rd (natsT (V j g))) := by
  simp [hg]

end La

namespace La
open PySem PySem.Spec PyProof.Rows L2 Tl
theorem for_at {α : Type} {ws : List Nat} {mt : MG} {body : MS} {e : α → D} {xs : List α} {s : SS} {x : Option Out} (h : forL ws mt body (xs.map e) s = x) (Inv : Nat → SS → Prop) (i : Inv 0 s)
    (step : ∀ k (hk : k < xs.length) s, Inv k s → ∃ fz, mt (e xs[k]) s.fz = some fz ∧ ∃ s', (body ⟨fz, tout ws s.ow⟩ = some (.nx s') ∨ body ⟨fz, tout ws s.ow⟩ = some (.ct s')) ∧ Inv (k + 1) s') : ∃ s', x = some (.nx s') ∧ Inv xs.length s' := by
  obtain ⟨s', e1, k, hk, q, hi⟩ := for_inv h (fun as s => ∃ k, k + as.length = xs.length ∧ as = xs.drop k ∧ Inv k s) ⟨0, by simp, by simp, i⟩ (by
    rintro a as s ⟨k, hk, q, hi⟩
    rw [List.length_cons] at hk
    have hkn : k < xs.length := by omega
    rw [List.drop_eq_getElem_cons hkn] at q
    injection q with q1 q2
    subst q1
    obtain ⟨fz, e1, s', e2, e3⟩ := step k hkn s hi
    exact ⟨fz, e1, s', e2, k + 1, by omega, q2, e3⟩)
  have : k = xs.length := by simpa using hk
  subst this
  exact ⟨s', e1, hi⟩
/-- the loop over enumerate -/
theorem for_enum {α : Type} {ws : List Nat} {mt : MG} {body : MS} {e : α → D} {xs : List α} {s : SS} {x : Option Out} (h : forL ws mt body (enumFrom 0 (xs.map e)) s = x) (Inv : Nat → SS → Prop) (i : Inv 0 s)
    (step : ∀ k (hk : k < xs.length) s, Inv k s → ∃ fz, mt (.tuple [.int (k : Nat), e xs[k]]) s.fz = some fz ∧ ∃ s', (body ⟨fz, tout ws s.ow⟩ = some (.nx s') ∨ body ⟨fz, tout ws s.ow⟩ = some (.ct s')) ∧ Inv (k + 1) s') : ∃ s', x = some (.nx s') ∧ Inv xs.length s' := by
  rw [enumFrom_map] at h
  have := for_at h Inv i (by
    intro k hk s hi
    have hk' : k < xs.length := by simpa using hk
    obtain ⟨fz, e1, e2⟩ := step k hk' s hi
    exact ⟨fz, by simpa using e1, e2⟩)
  simpa using this
theorem atI_neg1 {α : Type} (xs : List α) : L2.atI xs (-1) = xs.getLast? := by
  cases xs with
  | nil => rfl
  | cons x xs =>
    unfold L2.atI ixN
    rw [if_neg (by decide), if_pos (by simp; omega)]
    rw [List.getLast?_eq_getElem?]
    show (x :: xs)[((-1 : Int) + ((x :: xs).length : Nat)).toNat]? = _
    congr 1
    simp
    omega
@[simp] def lastK (p : Nat × Int) : Option R := some (rd (pcD p))
@[simp] theorem ix_held_last (Q : List (Nat × Int)) : gIx [.val (.leaf (heldD Q)), .val (.leaf (.int (-1)))] = bd Q.getLast? lastK := by
  simp only [heldD, ix_t, atI_neg1, List.getLast?_map]
  cases Q.getLast? <;> rfl
def roomAt (L : List Lane) (l : Nat) : Int := match L[l]? with
  | some x => x.r
  | none => 0
def endAt (L : List Lane) (l : Nat) : Nat := match L[l]? with
  | some x => x.e
  | none => 0
def goOn (L : List Lane) : Int → List (Nat × Int) → List Int
  | _, [] => []
  | b, (l, c) :: r => (if 0 < b ∧ c < roomAt L l then [(l : Int)] else []) ++ goOn L c r
def comes1 (L : List Lane) (t : Tr) (s : St) : List Int := match s.held.getLast? with
  | some (a, c) => if endAt L a = t.g ∧ 0 < c then [-1] else []
  | none => []
def mayTake (B O : Nat → Nat → List Nat) (t : Tr) (s : St) : List Nat := match s.held.getLast? with
  | some (a, _) => O a t.g
  | none => B t.b t.g
def lawTake (B O : Nat → Nat → List Nat) (t : Tr) (s : St) : List Nat := if s.come = 0 ∧ (s.held ≠ [] ∨ s.left = t.p) then mayTake B O t s else []
def takenL (S : List St) : List Nat := S.flatMap fun s => s.held.map (·.1)
def lawOne (L : List Lane) (B O : Nat → Nat → List Nat) (tk : List Nat) (t : Tr) (s : St) : List Int := comes1 L t s ++ goOn L s.left s.held ++ ((lawTake B O t s).filter fun l => !decide (l ∈ tk)).map fun l : Nat => (l : Int)
def allOf (f : Tr → St → List Int) (Ts : List Tr) (S : List St) : List (Int × Int) := ((Ts.zip S).zipIdx).flatMap fun q => (f q.1.1 q.1.2).map fun x => ((q.2 : Int), x)
def lawSteps (L : List Lane) (B O : Nat → Nat → List Nat) (Ts : List Tr) (S : List St) : List (Int × Int) := sortBy ltQ (allOf (lawOne L B O (takenL S)) Ts S)
theorem goOn_cons (L : List Lane) (b : Int) (l : Nat) (c : Int) (r : List (Nat × Int)) : goOn L b ((l, c) :: r) = (if 0 < b ∧ c < roomAt L l then [(l : Int)] else []) ++ goOn L c r := rfl
theorem mayTake_mem {B O : Nat → Nat → List Nat} {t : Tr} {s : St} : mayTake B O t s = B t.b t.g ∨ ∃ a, (∃ c, (a, c) ∈ s.held) ∧ mayTake B O t s = O a t.g := by
  unfold mayTake
  cases e : s.held.getLast? with
  | none => exact .inl rfl
  | some p =>
    obtain ⟨a, c⟩ := p
    exact .inr ⟨a, ⟨c, List.mem_of_getLast? e⟩, rfl⟩
/-- no house, no lane lets more lanes be taken than there are -/
def WayZ (h N : Nat) (B O : Nat → Nat → List Nat) : Prop := (∀ x, x < h → ∀ g, g < h → (B x g).length ≤ N) ∧ ∀ j, j < N → ∀ g, g < h → (O j g).length ≤ N
end La

namespace La
open PySem PySem.Spec PyProof.Rows L2 Tl
def bump (Q : List (Nat × Int)) (i : Nat) (d : Int) : List (Nat × Int) := match Q[i]? with
  | some p => Q.set i (p.1, p.2 + d)
  | none => Q
def thin (left : Int) (Q : List (Nat × Int)) : List (Nat × Int) := if left = 0 then Q.dropWhile fun p => decide (p.2 = 0) else Q
def withLane (Q : List (Nat × Int)) (l : Nat) : List (Nat × Int) := if l ∈ Q.map (·.1) then Q else Q ++ [(l, 0)]
def placeOf (Q : List (Nat × Int)) (l : Nat) : Nat := Q.findIdx fun p => decide (p.1 = l)
def wentOn (left : Int) (Q : List (Nat × Int)) (l : Nat) : Int × List (Nat × Int) :=
  if placeOf (withLane Q l) l = 0 then (left - 1, bump (withLane Q l) 0 1) else (left, bump (bump (withLane Q l) (placeOf (withLane Q l) l) 1) (placeOf (withLane Q l) l - 1) (-1))
def doneSt (s : St) (x : Int) : St := if x = -1 then ⟨s.left, thin s.left (bump s.held (s.held.length - 1) (-1)), s.come + 1⟩ else ⟨(wentOn s.left s.held x.toNat).1, thin (wentOn s.left s.held x.toNat).1 (wentOn s.left s.held x.toNat).2, s.come⟩
theorem bump_fst (Q : List (Nat × Int)) (i : Nat) (d : Int) : (bump Q i d).map (·.1) = Q.map (·.1) := by
  unfold bump
  cases h : Q[i]? with
  | none => rfl
  | some p =>
    show (Q.set i _).map _ = _
    rw [List.map_set]
    obtain ⟨hi, e⟩ := List.getElem?_eq_some_iff.mp h
    refine List.ext_getElem (by simp) fun j h1 h2 => ?_
    rw [List.getElem_set]
    split
    · next q =>
      subst q
      simp [e]
    · rfl
theorem bump_ne {Q : List (Nat × Int)} {i j : Nat} {d : Int} (n : i ≠ j) : (bump Q i d)[j]? = Q[j]? := by
  unfold bump
  cases h : Q[i]? with
  | none => rfl
  | some p =>
    show (Q.set i _)[j]? = _
    rw [List.getElem?_set_ne n]
theorem withLane_ln {N l : Nat} {Q : List (Nat × Int)} (h : ∀ p ∈ Q, p.1 < N) (hl : l < N) : ∀ p ∈ withLane Q l, p.1 < N := by
  intro p m
  unfold withLane at m
  split at m
  · exact h p m
  · rcases List.mem_append.mp m with m | m
    · exact h p m
    · rw [List.mem_singleton.mp m]
      exact hl
theorem ln_of_fst {N : Nat} {A B : List (Nat × Int)} (e : A.map (·.1) = B.map (·.1)) (h : ∀ p ∈ B, p.1 < N) : ∀ p ∈ A, p.1 < N := by
  intro p m
  have : p.1 ∈ A.map (·.1) := List.mem_map_of_mem m
  rw [e] at this
  obtain ⟨q, mq, eq⟩ := List.mem_map.mp this
  rw [← eq]
  exact h q mq
theorem thin_sub (a : Int) (Q : List (Nat × Int)) : (thin a Q).Sublist Q := by
  unfold thin
  split
  · exact List.dropWhile_sublist _
  · exact List.Sublist.refl _
theorem fst_withLane {C : List (Nat × Int)} {P : List Nat} {l : Nat} (hP : C.map (·.1) = P) : (withLane C l).map (·.1) = if l ∈ P then P else P ++ [l] := by
  unfold withLane
  rw [hP]
  split
  · exact hP
  · rw [List.map_append, hP]
    rfl
end La

namespace La
open PySem PySem.Spec PyProof.Rows L2 Tl
/-- lanes told are lanes of the net -/
def WayIn (h N : Nat) (B O : Nat → Nat → List Nat) : Prop := (∀ x, x < h → ∀ g, g < h → ∀ l ∈ B x g, l < N) ∧ ∀ j, j < N → ∀ g, g < h → ∀ l ∈ O j g, l < N
structure StG (N : Nat) (t : Tr) (s : St) : Prop where
  ln : ∀ p ∈ s.held, p.1 < N
  nd : (s.held.map (·.1)).Nodup
  c0 : 0 ≤ s.come
  lp : s.left ≤ t.p
theorem nodup_len {N : Nat} : ∀ {Q : List Nat}, Q.Nodup → (∀ x ∈ Q, x < N) → Q.length ≤ N := by
  induction N with
  | zero =>
    intro Q _ h
    cases Q with
    | nil => exact Nat.le_refl _
    | cons x Q => exact absurd (h x List.mem_cons_self) (Nat.not_lt_zero _)
  | succ N ih =>
    intro Q nd h
    have h1 := ih (Q := Q.erase N) (nd.erase N) fun x m => by
      have q1 := h x (List.mem_of_mem_erase m)
      have q2 : x ≠ N := fun e => by
        subst e
        exact (List.Nodup.mem_erase_iff nd).mp m |>.1 rfl
      omega
    have h2 : Q.length ≤ (Q.erase N).length + 1 := by
      rw [List.length_erase]
      split <;> omega
    omega
theorem StG.len {N : Nat} {t : Tr} {s : St} (g : StG N t s) : s.held.length ≤ N := by
  have := nodup_len g.nd fun x m => by
    obtain ⟨p, mp, rfl⟩ := List.mem_map.mp m
    exact g.ln p mp
  rwa [List.length_map] at this
theorem thin_nd {a : Int} {Q : List (Nat × Int)} (h : (Q.map (·.1)).Nodup) : ((thin a Q).map (·.1)).Nodup := ((thin_sub a Q).map _).nodup h
theorem withLane_nd {Q : List (Nat × Int)} {l : Nat} (h : (Q.map (·.1)).Nodup) : ((withLane Q l).map (·.1)).Nodup := by
  rw [fst_withLane rfl]
  split
  · exact h
  · next m =>
    refine List.nodup_append.mpr ⟨h, by simp, fun a ma b mb e => ?_⟩
    rw [List.mem_singleton.mp mb] at e
    exact m (e ▸ ma)
theorem wentOn_fst (left : Int) (Q : List (Nat × Int)) (l : Nat) : (wentOn left Q l).2.map (·.1) = (withLane Q l).map (·.1) ∧ (wentOn left Q l).1 ≤ left := by
  unfold wentOn
  split
  · exact ⟨bump_fst _ _ _, by show left - 1 ≤ left; omega⟩
  · exact ⟨by show List.map _ (bump _ _ _) = _; rw [bump_fst, bump_fst], by show left ≤ left; omega⟩
theorem StG.done {N : Nat} {t : Tr} {s : St} {x : Int} (g : StG N t s) (hx : x = -1 ∨ ∃ l : Nat, x = l ∧ l < N) : StG N t (doneSt s x) := by
  by_cases q : x = -1
  · subst q
    rw [doneSt, if_pos rfl]
    refine ⟨fun p m => ?_, thin_nd (by rw [bump_fst]; exact g.nd), ?_, g.lp⟩
    · exact ln_of_fst (bump_fst _ _ _) g.ln p ((thin_sub _ _).subset m)
    · show 0 ≤ s.come + 1
      have := g.c0
      omega
  · obtain ⟨l, rfl, hl⟩ := hx.resolve_left q
    obtain ⟨e1, e2⟩ := wentOn_fst s.left s.held l
    rw [doneSt, if_neg q, Int.toNat_natCast]
    refine ⟨fun p m => ?_, thin_nd (by rw [e1]; exact withLane_nd g.nd), g.c0, Int.le_trans e2 g.lp⟩
    exact ln_of_fst e1 (withLane_ln g.ln hl) p ((thin_sub _ _).subset m)
/-- stands such as weavings come to -/
structure Good (h : Nat) (L : List Lane) (Ts : List Tr) (S : List St) : Prop where
  len : S.length = Ts.length
  ok : ∀ (n : Nat) (t : Tr) (s : St), Ts[n]? = some t → S[n]? = some s → StG L.length t s
structure Led (h : Nat) (L : List Lane) (B O : Nat → Nat → List Nat) (Ts : List Tr) : Prop where
  ln : L.length ≤ 100
  wz : WayZ h L.length B O
  wi : WayIn h L.length B O
  few : Ts.length ≤ 20
  tr : ∀ t ∈ Ts, t.b < h ∧ t.g < h
theorem Good.at_ {h : Nat} {L : List Lane} {Ts : List Tr} {S : List St} (g : Good h L Ts S) {n : Nat} {s : St} (e : S[n]? = some s) : ∃ t, Ts[n]? = some t ∧ StG L.length t s := by
  have hn := (List.getElem?_eq_some_iff.mp e).1
  have hn' : n < Ts.length := by rw [← g.len]; exact hn
  exact ⟨_, List.getElem?_eq_getElem hn', g.ok n _ s (List.getElem?_eq_getElem hn') e⟩
theorem goOn_mem {L : List Lane} {x : Int} : ∀ {b : Int} {Q : List (Nat × Int)}, x ∈ goOn L b Q → ∃ p ∈ Q, x = (p.1 : Nat)
  | _, [], m => nomatch m
  | b, (l, c) :: r, m => by
    rw [goOn_cons] at m
    rcases List.mem_append.mp m with m | m
    · split at m
      · exact ⟨(l, c), List.mem_cons_self, List.mem_singleton.mp m⟩
      · cases m
    · obtain ⟨p, mp, e⟩ := goOn_mem m
      exact ⟨p, List.mem_cons_of_mem _ mp, e⟩
theorem allOf_mem {f : Tr → St → List Int} {Ts : List Tr} {S : List St} {q : Int × Int} (m : q ∈ allOf f Ts S) : ∃ (n : Nat) (t : Tr) (s : St), q.1 = n ∧ Ts[n]? = some t ∧ S[n]? = some s ∧ q.2 ∈ f t s := by
  obtain ⟨⟨⟨t, s⟩, n⟩, m1, m2⟩ := List.mem_flatMap.mp m
  obtain ⟨x, mx, e⟩ := List.mem_map.mp m2
  subst e
  have := (mem_zipIdx m1).2
  rw [Nat.sub_zero, List.getElem?_zip_eq_some] at this
  exact ⟨n, t, s, rfl, this.1, this.2, mx⟩
/-- what a step of a stand is -/
theorem steps_mem {h : Nat} {L : List Lane} {B O : Nat → Nat → List Nat} {Ts : List Tr} {S : List St} (g : Good h L Ts S) (w : Led h L B O Ts) {q : Int × Int} (m : q ∈ lawSteps L B O Ts S) : ∃ (n : Nat) (s : St), q.1 = n ∧ S[n]? = some s ∧ (q.2 = -1 ∧ s.held ≠ [] ∨ ∃ l : Nat, q.2 = l ∧ l < L.length) := by
  have m' := (sortBy_perm ltQ _).mem_iff.mp m
  obtain ⟨n, t, s, e1, e2, e3, mx⟩ := allOf_mem m'
  refine ⟨n, s, e1, e3, ?_⟩
  have G := g.ok n t s e2 e3
  obtain ⟨hb, hg⟩ := w.tr t (List.mem_of_getElem? e2)
  unfold lawOne at mx
  rcases List.mem_append.mp mx with mx | mx
  · rcases List.mem_append.mp mx with mx | mx
    · unfold comes1 at mx
      cases el : s.held.getLast? with
      | none =>
        rw [el] at mx
        cases mx
      | some p =>
        rw [el] at mx
        have mx : q.2 ∈ (if endAt L p.1 = t.g ∧ 0 < p.2 then [-1] else []) := mx
        split at mx
        · exact .inl ⟨List.mem_singleton.mp mx, fun z => by rw [z] at el; cases el⟩
        · cases mx
    · obtain ⟨p, mp, e⟩ := goOn_mem mx
      exact .inr ⟨p.1, e, G.ln p mp⟩
  · obtain ⟨l, ml, e⟩ := List.mem_map.mp mx
    refine .inr ⟨l, e.symm, ?_⟩
    have ml := (List.mem_filter.mp ml).1
    unfold lawTake at ml
    split at ml
    · rcases mayTake_mem (B := B) (O := O) (t := t) (s := s) with e | ⟨a, ⟨c, mc⟩, e⟩ <;> rw [e] at ml
      · exact w.wi.1 _ hb _ hg l ml
      · exact w.wi.2 _ (G.ln _ mc) _ hg l ml
    · cases ml
theorem Good.done {h : Nat} {L : List Lane} {B O : Nat → Nat → List Nat} {Ts : List Tr} {S : List St} (g : Good h L Ts S) {n : Nat} {s : St} {x : Int} (e : S[n]? = some s) (hx : x = -1 ∨ ∃ l : Nat, x = l ∧ l < L.length) : Good h L Ts (S.set n (doneSt s x)) := by
  refine ⟨by rw [List.length_set]; exact g.len, fun j t s' e1 e2 => ?_⟩
  by_cases q : n = j
  · subst q
    have hn := (List.getElem?_eq_some_iff.mp e).1
    rw [List.getElem?_set_self hn] at e2
    cases e2
    exact (g.ok n t s e1 e).done hx
  · rw [List.getElem?_set_ne q] at e2
    exact g.ok j t s' e1 e2
end La

namespace La
open PySem PySem.Spec PyProof.Rows L2 Tl
def sumC (Q : List (Nat × Int)) : Int := (Q.map (·.2)).sum
@[simp] theorem sumC_nil : sumC [] = 0 := rfl
@[simp] theorem sumC_cons (p : Nat × Int) (Q : List (Nat × Int)) : sumC (p :: Q) = p.2 + sumC Q := by simp [sumC]
@[simp] theorem sumC_app (A B : List (Nat × Int)) : sumC (A ++ B) = sumC A + sumC B := by simp [sumC]
theorem sumC_drop0 (Q : List (Nat × Int)) : sumC (Q.dropWhile fun p => decide (p.2 = 0)) = sumC Q := by
  induction Q with
  | nil => rfl
  | cons p Q ih =>
    rw [List.dropWhile_cons]
    split
    · next q =>
      have := of_decide_eq_true q
      rw [ih, sumC_cons]
      omega
    · rfl
theorem sumC_thin (a : Int) (Q : List (Nat × Int)) : sumC (thin a Q) = sumC Q := by
  unfold thin
  split
  · exact sumC_drop0 Q
  · rfl
theorem dropWhile_head {α : Type} (f : α → Bool) (Q : List α) : ∀ p, (Q.dropWhile f).head? = some p → f p = false := by
  induction Q with
  | nil => exact fun _ h => nomatch h
  | cons q Q ih =>
    intro p h
    rw [List.dropWhile_cons] at h
    split at h
    · exact ih p h
    · next z =>
      cases h
      simpa using z
theorem last_suffix {α : Type} {Q R : List α} (h : R <:+ Q) {p : α} (e : R.getLast? = some p) : Q.getLast? = some p := by
  obtain ⟨A, rfl⟩ := h
  rw [List.getLast?_append, e]
  rfl
theorem thin_suffix (a : Int) (Q : List (Nat × Int)) : thin a Q <:+ Q := by
  unfold thin
  split
  · exact List.dropWhile_suffix _
  · exact List.suffix_refl _
structure Pk (L : List Lane) (t : Tr) (s : St) : Prop where
  l0 : 0 ≤ s.left
  cnt : ∀ p ∈ s.held, 0 ≤ p.2 ∧ p.2 ≤ roomAt L p.1
  sum : s.left + sumC s.held + s.come = t.p
  hd : s.left = 0 → ∀ p, s.held.head? = some p → p.2 ≠ 0
  la : s.come = 0 → ∀ p, s.held.getLast? = some p → 0 < p.2
/-- where the lane stands -/
theorem place_at {A R : List (Nat × Int)} {l : Nat} {c : Int} (h : l ∉ A.map (·.1)) : placeOf (A ++ (l, c) :: R) l = A.length := by
  unfold placeOf
  rw [List.findIdx_append]
  have e : A.findIdx (fun p => decide (p.1 = l)) = A.length := by
    rw [List.findIdx_eq_length]
    intro p m
    simp only [decide_eq_false_iff_not]
    exact fun e => h (List.mem_map.mpr ⟨p, m, e⟩)
  rw [e, if_neg (Nat.lt_irrefl _), List.findIdx_cons]
  simp
theorem bump_at (A R : List (Nat × Int)) (p : Nat × Int) (d : Int) : bump (A ++ p :: R) A.length d = A ++ (p.1, p.2 + d) :: R := by
  unfold bump
  simp
theorem went_first {left : Int} {Q R : List (Nat × Int)} {l : Nat} {c : Int} (e : withLane Q l = (l, c) :: R) : wentOn left Q l = (left - 1, (l, c + 1) :: R) := by
  unfold wentOn
  have p0 := place_at (A := []) (R := R) (l := l) (c := c) (by simp)
  rw [List.nil_append] at p0
  rw [e, p0, List.length_nil, if_pos rfl]
  have := bump_at [] R (l, c) 1
  rw [List.nil_append, List.length_nil] at this
  rw [this]
  rfl
theorem went_mid {left : Int} {Q A R : List (Nat × Int)} {l l' : Nat} {c b : Int} (e : withLane Q l = (A ++ [(l', b)]) ++ (l, c) :: R) (h : l ∉ (A ++ [(l', b)]).map (·.1)) : wentOn left Q l = (left, A ++ (l', b - 1) :: (l, c + 1) :: R) := by
  unfold wentOn
  have pl := place_at (R := R) (c := c) h
  rw [e, pl, if_neg (by simp), bump_at]
  have e2 : (A ++ [(l', b)]) ++ ((l, c).1, (l, c).2 + 1) :: R = A ++ (l', b) :: (l, c + 1) :: R := by simp
  have e3 : (A ++ [(l', b)]).length - 1 = A.length := by simp
  rw [e2, e3, bump_at]
  rfl
theorem goOn_at {L : List Lane} {x : Int} : ∀ {b : Int} {Q : List (Nat × Int)}, x ∈ goOn L b Q → ∃ (A R : List (Nat × Int)) (l : Nat) (c : Int), Q = A ++ (l, c) :: R ∧ x = l ∧ c < roomAt L l ∧ ((A = [] ∧ 0 < b) ∨ ∃ A' l' b', A = A' ++ [(l', b')] ∧ 0 < b')
  | _, [], m => nomatch m
  | b, (l, c) :: r, m => by
    rw [goOn_cons] at m
    rcases List.mem_append.mp m with m | m
    · split at m
      · next z => exact ⟨[], r, l, c, rfl, List.mem_singleton.mp m, z.2, .inl ⟨rfl, z.1⟩⟩
      · cases m
    · obtain ⟨A, R, l2, c2, rfl, e, h1, h2⟩ := goOn_at m
      refine ⟨(l, c) :: A, R, l2, c2, rfl, e, h1, .inr ?_⟩
      rcases h2 with ⟨rfl, h2⟩ | ⟨A', l', b', rfl, h2⟩
      · exact ⟨[], l, c, rfl, h2⟩
      · exact ⟨(l, c) :: A', l', b', rfl, h2⟩
/-- behind a step into a lane -/
theorem Pk.went {L : List Lane} {t : Tr} {s : St} (g : Pk L t s) {A R : List (Nat × Int)} {l : Nat} {c : Int} (e : withLane s.held l = A ++ (l, c) :: R) (hl : l ∉ A.map (·.1)) (hc : 0 ≤ c ∧ c < roomAt L l) (hA : ∀ p ∈ A ++ (l, c) :: R, 0 ≤ p.2 ∧ p.2 ≤ roomAt L p.1) (hs : sumC (A ++ (l, c) :: R) = sumC s.held)
    (hp : (A = [] ∧ 0 < s.left) ∨ ∃ A' l' b', A = A' ++ [(l', b')] ∧ 0 < b') (hR : s.come = 0 → ∀ p, R.getLast? = some p → 0 < p.2) : Pk L t (doneSt s (l : Nat)) := by
  rw [doneSt, if_neg (by omega), Int.toNat_natCast]
  obtain ⟨b, Q', e1, hb, hQ, hsum, hlast⟩ : ∃ (b : Int) (Q' : List (Nat × Int)), wentOn s.left s.held l = (b, Q') ∧ 0 ≤ b ∧ (∀ p ∈ Q', 0 ≤ p.2 ∧ p.2 ≤ roomAt L p.1) ∧ b + sumC Q' = s.left + sumC s.held ∧ (s.come = 0 → ∀ p, Q'.getLast? = some p → 0 < p.2) := by
    have last : s.come = 0 → ∀ p, ((l, c + 1) :: R).getLast? = some p → 0 < p.2 := fun z p m => by
      cases R with
      | nil =>
        cases m
        show 0 < c + 1
        omega
      | cons r R =>
        rw [List.getLast?_cons_cons] at m
        exact hR z p m
    rcases hp with ⟨rfl, h0⟩ | ⟨A', l', b', rfl, h0⟩
    · refine ⟨_, _, went_first e, by omega, fun p m => ?_, ?_, last⟩
      · rcases List.mem_cons.mp m with rfl | m
        · exact ⟨by show 0 ≤ c + 1; omega, by show c + 1 ≤ roomAt L l; omega⟩
        · exact hA p (by simp [m])
      · simp at hs ⊢
        omega
    · refine ⟨_, _, went_mid e hl, g.l0, fun p m => ?_, ?_, fun z p m => ?_⟩
      · rcases List.mem_append.mp m with m | m
        · exact hA p (by simp [m])
        · rcases List.mem_cons.mp m with rfl | m
          · have := hA (l', b') (by simp)
            exact ⟨by show 0 ≤ b' - 1; omega, by show b' - 1 ≤ roomAt L l'; have := this.2; simp at this; omega⟩
          · rcases List.mem_cons.mp m with rfl | m
            · exact ⟨by show 0 ≤ c + 1; omega, by show c + 1 ≤ roomAt L l; omega⟩
            · exact hA p (by simp [m])
      · simp at hs ⊢
        omega
      · rw [List.getLast?_append, List.getLast?_cons_cons] at m
        have e3 : ∃ q, ((l, c + 1) :: R).getLast? = some q := ⟨_, List.getLast?_eq_some_getLast (by simp)⟩
        obtain ⟨q, e3⟩ := e3
        rw [e3] at m
        cases m
        exact last z _ e3
  rw [e1]
  refine ⟨hb, fun p m => hQ p ((thin_sub _ _).subset m), ?_, fun z p m => ?_, fun z p m => hlast z p (last_suffix (thin_suffix _ _) m)⟩
  · show b + sumC (thin b Q') + s.come = t.p
    rw [sumC_thin]
    have := g.sum
    omega
  · have z : b = 0 := z
    have m : (thin b Q').head? = some p := m
    rw [thin, if_pos z] at m
    have := dropWhile_head _ _ p m
    simpa using this
theorem Pk.come {L : List Lane} {t : Tr} {s : St} (g : Pk L t s) (c0 : 0 ≤ s.come) {A : List (Nat × Int)} {a : Nat} {c : Int} (e : s.held = A ++ [(a, c)]) (hc : 0 < c) : Pk L t (doneSt s (-1)) := by
  have e1 : bump s.held (s.held.length - 1) (-1) = A ++ [(a, c - 1)] := by
    rw [e]
    have := bump_at A [] (a, c) (-1)
    simpa [Int.sub_eq_add_neg] using this
  rw [doneSt, if_pos rfl, e1]
  refine ⟨g.l0, fun p m => ?_, ?_, fun z p m => ?_, fun z => ?_⟩
  · have m := (thin_sub _ _).subset m
    have ha := g.cnt (a, c) (by rw [e]; simp)
    simp only at ha
    rcases List.mem_append.mp m with m | m
    · exact g.cnt p (by rw [e]; simp [m])
    · rw [List.mem_singleton.mp m]
      exact ⟨by show 0 ≤ c - 1; omega, by show c - 1 ≤ roomAt L a; omega⟩
  · show s.left + sumC (thin s.left _) + (s.come + 1) = t.p
    rw [sumC_thin]
    have := g.sum
    rw [e] at this
    simp at this ⊢
    omega
  · have z : s.left = 0 := z
    have m : (thin s.left (A ++ [(a, c - 1)])).head? = some p := m
    rw [thin, if_pos z] at m
    have := dropWhile_head _ _ p m
    simpa using this
  · have z : s.come + 1 = 0 := z
    omega
/-- behind a step of a law's -/
theorem Pk.step {L : List Lane} {B O : Nat → Nat → List Nat} {tk : List Nat} {t : Tr} {s : St} {x : Int} (g : Pk L t s) (G : StG L.length t s) (hr : ∀ l, l < L.length → 1 ≤ roomAt L l) (tp : 1 ≤ t.p) (hw : ∀ l ∈ mayTake B O t s, l < L.length) (htk : ∀ p ∈ s.held, p.1 ∈ tk) (m : x ∈ lawOne L B O tk t s) : Pk L t (doneSt s x) := by
  unfold lawOne at m
  rcases List.mem_append.mp m with m | m
  · rcases List.mem_append.mp m with m | m
    · unfold comes1 at m
      rcases List.eq_nil_or_concat s.held with e | ⟨A, ⟨a, c⟩, e⟩
      · rw [e] at m
        cases m
      · have el : s.held.getLast? = some (a, c) := by rw [e]; simp
        rw [el] at m
        have m : x ∈ (if endAt L a = t.g ∧ 0 < c then [-1] else []) := m
        split at m
        · next z =>
          rw [List.mem_singleton.mp m]
          exact g.come G.c0 (by rw [e, List.concat_eq_append]) z.2
        · cases m
    · obtain ⟨A, R, l, c, e, rfl, h1, h2⟩ := goOn_at m
      have nd := G.nd
      rw [e, List.map_append, List.map_cons] at nd
      have nl : l ∉ A.map (·.1) := fun z => (List.nodup_append.mp nd).2.2 l z l (by simp) rfl
      have ew : withLane s.held l = A ++ (l, c) :: R := by
        rw [withLane, if_pos (by rw [e]; simp), e]
      have hc := g.cnt (l, c) (by rw [e]; simp)
      refine g.went ew nl ⟨hc.1, h1⟩ (by rw [← e]; exact g.cnt) (by rw [← e]) h2 fun z p mp => g.la z p ?_
      rw [e, List.getLast?_append, List.getLast?_cons, mp]
      rfl
  · obtain ⟨l, ml, rfl⟩ := List.mem_map.mp m
    obtain ⟨ml, nt⟩ := List.mem_filter.mp ml
    have nl : l ∉ s.held.map (·.1) := fun z => by
      obtain ⟨p, mp, rfl⟩ := List.mem_map.mp z
      simp [htk p mp] at nt
    unfold lawTake at ml
    split at ml
    · next z =>
      have ew : withLane s.held l = s.held ++ (l, 0) :: [] := by
        rw [withLane, if_neg nl]
      have h1 := hr l (hw l ml)
      refine g.went ew nl ⟨Int.le_refl _, by omega⟩ (fun p mp => ?_) (by simp) ?_ (fun _ p mp => nomatch mp)
      · rcases List.mem_append.mp mp with mp | mp
        · exact g.cnt p mp
        · rw [List.mem_singleton.mp mp]
          exact ⟨Int.le_refl _, by show 0 ≤ roomAt L l; omega⟩
      · rcases List.eq_nil_or_concat s.held with e | ⟨A, ⟨a, c⟩, e⟩
        · refine .inl ⟨e, ?_⟩
          rcases z.2 with z | z
          · exact absurd e z
          · omega
        · rw [List.concat_eq_append] at e
          exact .inr ⟨A, a, c, e, g.la z.1 (a, c) (by rw [e]; simp)⟩
    · cases ml
/-- of all trains of a stand -/
def PkS (L : List Lane) (Ts : List Tr) (S : List St) : Prop := ∀ (n : Nat) (t : Tr) (s : St), Ts[n]? = some t → S[n]? = some s → Pk L t s
theorem roomAt_ln {h : Nat} {L : List Lane} (hL : Ln h L) : ∀ l, l < L.length → 1 ≤ roomAt L l ∧ roomAt L l ≤ 4 := fun l hl => by
  have el : L[l]? = some L[l] := List.getElem?_eq_getElem hl
  rw [roomAt, el]
  obtain ⟨_, _, a, b, _⟩ := hL _ (List.getElem_mem hl)
  show (1 : Int) ≤ L[l].r ∧ (L[l].r : Int) ≤ 4
  omega
theorem taken_own {S : List St} {n : Nat} {s : St} (e : S[n]? = some s) : ∀ p ∈ s.held, p.1 ∈ takenL S := fun p m => List.mem_flatMap.mpr ⟨s, List.mem_of_getElem? e, List.mem_map_of_mem m⟩
theorem PkS.step {h : Nat} {L : List Lane} {B O : Nat → Nat → List Nat} {Ts : List Tr} {S : List St} (k : PkS L Ts S) (g : Good h L Ts S) (w : Led h L B O Ts) (hL : Ln h L) (tp : ∀ t ∈ Ts, 1 ≤ t.p) {n : Nat} {s : St} {x : Int} (e : S[n]? = some s) (m : ((n : Int), x) ∈ lawSteps L B O Ts S) : PkS L Ts (S.set n (doneSt s x)) := by
  have m' := (sortBy_perm ltQ _).mem_iff.mp m
  obtain ⟨n', t, s', e1, e2, e3, mx⟩ := allOf_mem m'
  have e1 : (n : Int) = n' := e1
  obtain rfl : n = n' := by omega
  rw [e] at e3
  cases e3
  have G := g.ok n t s e2 e
  obtain ⟨hb, hg⟩ := w.tr t (List.mem_of_getElem? e2)
  intro i u v eu ev
  by_cases q : n = i
  · subst q
    rw [e2] at eu
    cases eu
    have hn := (List.getElem?_eq_some_iff.mp e).1
    rw [List.getElem?_set_self hn] at ev
    cases ev
    refine (k n t s e2 e).step G (fun l hl => (roomAt_ln hL l hl).1) (tp t (List.mem_of_getElem? e2)) (fun l ml => ?_) (taken_own e) mx
    rcases mayTake_mem (B := B) (O := O) (t := t) (s := s) with e | ⟨a, ⟨c, mc⟩, e⟩ <;> rw [e] at ml
    · exact w.wi.1 _ hb _ hg l ml
    · exact w.wi.2 _ (G.ln _ mc) _ hg l ml
  · rw [List.getElem?_set_ne q] at ev
    exact k i u v eu ev
end La

namespace La
open PySem PySem.Spec PyProof.Rows L2 Tl
theorem lay_pqs : ∀ Q : List (Int × Int), PyData.canLayAll0 (Q.map Tl.pqD) = true ∧ PyData.depthAll (Q.map Tl.pqD) ≤ 1
  | [] => ⟨rfl, by simp [PyData.depthAll]⟩
  | q :: Q => by
    obtain ⟨a, b⟩ := lay_pqs Q
    exact ⟨by simp [PyData.canLayAll0, Tl.pqD, PyData.canLay0] at a ⊢; exact a, by simp [PyData.depthAll, PyData.depth, Tl.pqD] at b ⊢; omega⟩
@[simp] theorem shaped_pqs (Q : List (Int × Int)) : SeqAt.shaped (.list (Q.map Tl.pqD)) = true := by
  obtain ⟨a, b⟩ := lay_pqs Q
  exact shaped_of (by simpa [PyData.canLay0] using a) (by simp only [PyData.depth]; omega)
/-- numbers of a stand, bounded -/
def BdS (K : Int) (S : List St) : Prop := ∀ s ∈ S, (-K ≤ s.left ∧ s.left ≤ K) ∧ (-K ≤ s.come ∧ s.come ≤ K) ∧ ∀ p ∈ s.held, -K ≤ p.2 ∧ p.2 ≤ K
theorem BdS.mono {K K' : Int} {S : List St} (h : BdS K S) (l : K ≤ K') : BdS K' S := fun s m => by
  obtain ⟨a, b, c⟩ := h s m
  exact ⟨by omega, by omega, fun p mp => by have := c p mp; omega⟩
theorem bump_bd {K : Int} {Q : List (Nat × Int)} {i : Nat} {d : Int} (hd : -1 ≤ d ∧ d ≤ 1) (h : ∀ p ∈ Q, -K ≤ p.2 ∧ p.2 ≤ K) : ∀ p ∈ bump Q i d, -(K + 1) ≤ p.2 ∧ p.2 ≤ K + 1 := by
  intro p m
  unfold bump at m
  cases e : Q[i]? with
  | none =>
    rw [e] at m
    have := h p m
    omega
  | some q =>
    rw [e] at m
    have hq := h q (List.mem_of_getElem? e)
    rcases List.mem_or_eq_of_mem_set (show p ∈ Q.set i _ from m) with m | m
    · have := h p m
      omega
    · rw [m]
      show -(K + 1) ≤ q.2 + d ∧ q.2 + d ≤ K + 1
      omega
theorem bump_one {Q : List (Nat × Int)} {i : Nat} {d : Int} {p : Nat × Int} (m : p ∈ bump Q i d) : p ∈ Q ∨ ∃ q ∈ Q, p = (q.1, q.2 + d) ∧ Q[i]? = some q := by
  unfold bump at m
  cases e : Q[i]? with
  | none =>
    rw [e] at m
    exact .inl m
  | some q =>
    rw [e] at m
    rcases List.mem_or_eq_of_mem_set (show p ∈ Q.set i _ from m) with m | m
    · exact .inl m
    · exact .inr ⟨q, List.mem_of_getElem? e, m, rfl⟩
theorem withLane_bd {K : Int} (hK : 0 ≤ K) {Q : List (Nat × Int)} {l : Nat} (h : ∀ p ∈ Q, -K ≤ p.2 ∧ p.2 ≤ K) : ∀ p ∈ withLane Q l, -K ≤ p.2 ∧ p.2 ≤ K := by
  intro p m
  unfold withLane at m
  split at m
  · exact h p m
  · rcases List.mem_append.mp m with m | m
    · exact h p m
    · rw [List.mem_singleton.mp m]
      show -K ≤ (0 : Int) ∧ (0 : Int) ≤ K
      omega
theorem done_bd {K : Int} (hK : 0 ≤ K) {s : St} {x : Int} (h : (-K ≤ s.left ∧ s.left ≤ K) ∧ (-K ≤ s.come ∧ s.come ≤ K) ∧ ∀ p ∈ s.held, -K ≤ p.2 ∧ p.2 ≤ K) : (-(K + 1) ≤ (doneSt s x).left ∧ (doneSt s x).left ≤ K + 1) ∧ (-(K + 1) ≤ (doneSt s x).come ∧ (doneSt s x).come ≤ K + 1) ∧ ∀ p ∈ (doneSt s x).held, -(K + 1) ≤ p.2 ∧ p.2 ≤ K + 1 := by
  obtain ⟨a, b, c⟩ := h
  by_cases q : x = -1
  · rw [doneSt, if_pos q]
    refine ⟨by show -(K + 1) ≤ s.left ∧ s.left ≤ K + 1; omega, by show -(K + 1) ≤ s.come + 1 ∧ s.come + 1 ≤ K + 1; omega, fun p m => ?_⟩
    exact bump_bd (by omega) c p ((thin_sub _ _).subset m)
  · rw [doneSt, if_neg q]
    have wl := withLane_bd hK (l := x.toNat) c
    have e : (wentOn s.left s.held x.toNat).1 = s.left ∨ (wentOn s.left s.held x.toNat).1 = s.left - 1 := by
      unfold wentOn
      split
      · exact .inr rfl
      · exact .inl rfl
    have e' : -(K + 1) ≤ (wentOn s.left s.held x.toNat).1 ∧ (wentOn s.left s.held x.toNat).1 ≤ K + 1 := by
      rcases e with e | e <;> rw [e] <;> constructor <;> omega
    refine ⟨e', by show -(K + 1) ≤ s.come ∧ s.come ≤ K + 1; omega, fun p m => ?_⟩
    have m : p ∈ (wentOn s.left s.held x.toNat).2 := (thin_sub _ _).subset m
    unfold wentOn at m
    split at m
    · exact bump_bd (by omega) wl p m
    · next z =>
      rcases bump_one m with m | ⟨q, mq, e, eq⟩
      · exact bump_bd (by omega) wl p m
      · rw [e]
        have hne : placeOf (withLane s.held x.toNat) x.toNat ≠ placeOf (withLane s.held x.toNat) x.toNat - 1 := by omega
        rw [bump_ne hne] at eq
        have := wl q (List.mem_of_getElem? eq)
        show -(K + 1) ≤ q.2 + -1 ∧ q.2 + -1 ≤ K + 1
        omega
theorem BdS.done {K : Int} (hK : 0 ≤ K) {S : List St} (h : BdS K S) {j : Nat} {s : St} {x : Int} (e : S[j]? = some s) : BdS (K + 1) (S.set j (doneSt s x)) := by
  intro q m
  rcases List.mem_or_eq_of_mem_set m with m | m
  · exact (h.mono (by omega)) q m
  · rw [m]
    exact done_bd hK (h s (List.mem_of_getElem? e))
theorem To.way {h : Nat} {L : List Lane} {B O : Nat → Nat → List Nat} (hL : Ln h L) (w : WayP h L B O) : WayZ h L.length B O ∧ WayIn h L.length B O := by
  obtain ⟨W, hT, hB, hO⟩ := w
  have sB : ∀ x, x < h → ∀ g, g < h → ∀ l ∈ B x g, l < L.length := fun x hx g hg l ml => spots_lt (((hT g hg).sub x).subset ((hB x hx g hg).1.subset ml))
  have lB : ∀ x, x < h → ∀ g, g < h → (B x g).length ≤ L.length := fun x hx g hg => Nat.le_trans (hB x hx g hg).1.length_le ((hT g hg).len x)
  have sO : ∀ j, j < L.length → ∀ g, g < h → ∀ l ∈ O j g, l < L.length := fun j hj g hg l ml =>
    spots_lt (((hT g hg).sub _).subset ((hO j _ (List.getElem?_eq_getElem hj) g hg).1.subset ml))
  have lO : ∀ j, j < L.length → ∀ g, g < h → (O j g).length ≤ L.length := fun j hj g hg => Nat.le_trans (hO j _ (List.getElem?_eq_getElem hj) g hg).1.length_le ((hT g hg).len _)
  exact ⟨⟨lB, lO⟩, sB, sO⟩
def began (Ts : List Tr) : List St := Ts.map fun t => ⟨t.p, [], 0⟩
theorem began_good {h : Nat} {L : List Lane} {Ts : List Tr} : Good h L Ts (began Ts) := by
  refine ⟨by simp [began], fun n t s e1 e2 => ?_⟩
  rw [began, List.getElem?_map, e1] at e2
  cases e2
  exact ⟨fun _ m => (nomatch m), List.nodup_nil, Int.le_refl 0, Int.le_refl _⟩
theorem began_pk {L : List Lane} {Ts : List Tr} (tp : ∀ t ∈ Ts, 1 ≤ t.p) : PkS L Ts (began Ts) := by
  intro n t s e1 e2
  rw [began, List.getElem?_map, e1] at e2
  cases e2
  have := tp t (List.mem_of_getElem? e1)
  exact ⟨by show 0 ≤ t.p; omega, fun _ m => (nomatch m), by simp, fun _ _ m => (nomatch m), fun _ _ m => (nomatch m)⟩
end La

namespace La
open PySem PySem.Spec PyProof.Rows L2 Tl
end La

namespace La
open PySem PySem.Spec PyProof.Rows L2 Tl
abbrev lanS (s : St) : List Nat := s.held.map (·.1)
def Fol (O : Nat → Nat → List Nat) (g : Nat) : List Nat → Prop
  | [] => True
  | a :: r => (∀ b, r.head? = some b → b ∈ O a g) ∧ Fol O g r
theorem Fol.suf {O : Nat → Nat → List Nat} {g : Nat} {R : List Nat} : ∀ {A : List Nat}, Fol O g (A ++ R) → Fol O g R
  | [], f => f
  | _ :: A, f => Fol.suf (A := A) f.2
theorem Fol.snoc {O : Nat → Nat → List Nat} {g l : Nat} : ∀ {Q : List Nat}, Fol O g Q → (∀ a, Q.getLast? = some a → l ∈ O a g) → Fol O g (Q ++ [l])
  | [], _, _ => ⟨fun b h => by simp at h, trivial⟩
  | [a], f, h => ⟨fun b e => by simp at e; subst e; exact h a rfl, ⟨fun b e => by simp at e, trivial⟩⟩
  | a :: b :: r, f, h => ⟨fun c e => f.1 c (by simpa using e), Fol.snoc f.2 (fun c e => h c (by rw [List.getLast?_cons_cons]; exact e))⟩
theorem done_come (s : St) : lanS (doneSt s (-1)) <:+ lanS s ∧ (s.left ≠ 0 → lanS (doneSt s (-1)) = lanS s) ∧ (doneSt s (-1)).left = s.left ∧ (doneSt s (-1)).come = s.come + 1 := by
  rw [doneSt, if_pos rfl]
  refine ⟨?_, fun q => ?_, rfl, rfl⟩
  · have := (thin_suffix s.left (bump s.held (s.held.length - 1) (-1))).map (·.1)
    rw [bump_fst] at this
    exact this
  · show (thin _ _).map (·.1) = _
    rw [thin, if_neg q, bump_fst]
theorem done_went (s : St) (l : Nat) : lanS (doneSt s l) <:+ (withLane s.held l).map (·.1) ∧ ((doneSt s l).left ≠ 0 → lanS (doneSt s l) = (withLane s.held l).map (·.1)) ∧ (doneSt s l).left ≤ s.left ∧ (doneSt s l).come = s.come := by
  obtain ⟨e1, e2⟩ := wentOn_fst s.left s.held l
  rw [doneSt, if_neg (by omega), Int.toNat_natCast]
  refine ⟨?_, fun q => ?_, e2, rfl⟩
  · have := (thin_suffix (wentOn s.left s.held l).1 (wentOn s.left s.held l).2).map (·.1)
    rw [e1] at this
    exact this
  · show (thin _ _).map (·.1) = _
    have q : (wentOn s.left s.held l).1 ≠ 0 := q
    rw [thin, if_neg q, e1]
theorem one_cases {L : List Lane} {B O : Nat → Nat → List Nat} {tk : List Nat} {t : Tr} {s : St} {x : Int} (m : x ∈ lawOne L B O tk t s) : (x = -1 ∧ ∃ A a c, s.held = A ++ [(a, c)] ∧ 0 < c ∧ endAt L a = t.g) ∨ (∃ l : Nat, x = l ∧ l ∈ lanS s) ∨ ∃ l : Nat, x = l ∧ l ∉ tk ∧ l ∈ mayTake B O t s ∧ s.come = 0 ∧ (s.held ≠ [] ∨ s.left = t.p) := by
  unfold lawOne at m
  rcases List.mem_append.mp m with m | m
  · rcases List.mem_append.mp m with m | m
    · unfold comes1 at m
      rcases List.eq_nil_or_concat s.held with e | ⟨A, ⟨a, c⟩, e⟩
      · rw [e] at m
        cases m
      · have el : s.held.getLast? = some (a, c) := by rw [e]; simp
        rw [el] at m
        have m : x ∈ (if endAt L a = t.g ∧ 0 < c then [-1] else []) := m
        split at m
        · next z => exact .inl ⟨List.mem_singleton.mp m, A, a, c, by rw [e, List.concat_eq_append], z.2, z.1⟩
        · cases m
    · obtain ⟨p, mp, e⟩ := goOn_mem m
      exact .inr (.inl ⟨p.1, e, List.mem_map_of_mem mp⟩)
  · obtain ⟨l, ml, rfl⟩ := List.mem_map.mp m
    obtain ⟨ml, nt⟩ := List.mem_filter.mp ml
    unfold lawTake at ml
    split at ml
    · next z => exact .inr (.inr ⟨l, rfl, by simpa using nt, ml, z.1, z.2⟩)
    · cases ml
/-- a lane that some way lets a train take -/
def Told (h N : Nat) (B O : Nat → Nat → List Nat) (g l : Nat) : Prop := (∃ b, b < h ∧ l ∈ B b g) ∨ ∃ a, a < N ∧ l ∈ O a g
structure Fo (h : Nat) (L : List Lane) (B O : Nat → Nat → List Nat) (t : Tr) (s : St) : Prop where
  told : ∀ l ∈ lanS s, Told h L.length B O t.g l
  fol : Fol O t.g (lanS s)
  st : 0 < s.left → ∀ l, (lanS s).head? = some l → l ∈ B t.b t.g
  em : s.held = [] → s.left = t.p ∨ s.left = 0
  ce : 0 < s.come → ∀ l, (lanS s).getLast? = some l → endAt L l = t.g
theorem lanS_last (s : St) : (lanS s).getLast? = s.held.getLast?.map (·.1) := by
  simp [lanS, List.getLast?_map]
theorem lanS_nil {s : St} (e : s.held = []) : lanS s = [] := by simp [lanS, e]
theorem withLane_old {s : St} {l : Nat} (m : l ∈ lanS s) : (withLane s.held l).map (·.1) = lanS s := by
  rw [fst_withLane rfl, if_pos m]
theorem withLane_new {s : St} {l : Nat} (m : l ∉ lanS s) : (withLane s.held l).map (·.1) = lanS s ++ [l] := by
  rw [fst_withLane rfl, if_neg m]
theorem took {B O : Nat → Nat → List Nat} {t : Tr} {s : St} {l : Nat} (m : l ∈ mayTake B O t s) : (s.held = [] ∧ l ∈ B t.b t.g) ∨ ∃ a, (lanS s).getLast? = some a ∧ l ∈ O a t.g := by
  unfold mayTake at m
  rw [lanS_last]
  cases e : s.held.getLast? with
  | none =>
    rw [e] at m
    exact .inl ⟨List.getLast?_eq_none_iff.mp e, m⟩
  | some p =>
    obtain ⟨a, c⟩ := p
    rw [e] at m
    exact .inr ⟨a, rfl, m⟩
theorem Fo.step {h : Nat} {L : List Lane} {B O : Nat → Nat → List Nat} {tk : List Nat} {t : Tr} {s : St} {x : Int} (f : Fo h L B O t s) (G : StG L.length t s) (hb : t.b < h) (htk : ∀ p ∈ s.held, p.1 ∈ tk) (m : x ∈ lawOne L B O tk t s) : Fo h L B O t (doneSt s x) := by
  rcases one_cases m with ⟨rfl, A, a, c, e, hc, eg⟩ | ⟨l, rfl, ml⟩ | ⟨l, rfl, nl, ml, hcome, hst⟩
  · obtain ⟨d1, d2, d3, d4⟩ := done_come s
    obtain ⟨Z, hZ⟩ := d1
    refine ⟨fun l ml => f.told l (hZ ▸ List.mem_append_right _ ml), by have := f.fol; rw [← hZ] at this; exact this.suf, fun q l ml => ?_, fun q => ?_, fun q l ml => ?_⟩
    · rw [d3] at q
      rw [d2 (by omega)] at ml
      exact f.st q l ml
    · rw [d3]
      by_cases z : s.left = 0
      · exact .inr z
      · have := d2 z
        rw [lanS_nil q] at this
        have : lanS s = [] := this.symm
        simp [lanS, e] at this
    · have : (lanS s).getLast? = some l := by
        rw [← hZ, List.getLast?_append, ml]
        rfl
      rw [lanS_last, e] at this
      simp at this
      rw [← this]
      exact eg
  · obtain ⟨d1, d2, d3, d4⟩ := done_went s l
    rw [withLane_old ml] at d1 d2
    obtain ⟨Z, hZ⟩ := d1
    refine ⟨fun l ml => f.told l (hZ ▸ List.mem_append_right _ ml), by have := f.fol; rw [← hZ] at this; exact this.suf, fun q k mk => ?_, fun q => ?_, fun q k mk => ?_⟩
    · rw [d2 (by omega)] at mk
      exact f.st (by omega) k mk
    · by_cases z : (doneSt s l).left = 0
      · exact .inr z
      · have := d2 z
        rw [lanS_nil q] at this
        rw [← this] at ml
        cases ml
    · rw [d4] at q
      exact f.ce q k (by rw [← hZ, List.getLast?_append, mk]; rfl)
  · obtain ⟨d1, d2, d3, d4⟩ := done_went s l
    have nm : l ∉ lanS s := fun z => by
      obtain ⟨p, mp, rfl⟩ := List.mem_map.mp z
      exact nl (htk p mp)
    rw [withLane_new nm] at d1 d2
    obtain ⟨Z, hZ⟩ := d1
    have tk := took ml
    have tl : Told h L.length B O t.g l := by
      rcases tk with ⟨_, q⟩ | ⟨a, ea, q⟩
      · exact .inl ⟨_, hb, q⟩
      · have ma := List.mem_of_getLast? ea
        obtain ⟨p, mp, rfl⟩ := List.mem_map.mp ma
        exact .inr ⟨_, G.ln p mp, q⟩
    refine ⟨fun k mk => ?_, ?_, fun q k mk => ?_, fun q => ?_, fun q k mk => ?_⟩
    · have : k ∈ lanS s ++ [l] := hZ ▸ List.mem_append_right _ mk
      rcases List.mem_append.mp this with z | z
      · exact f.told k z
      · rw [List.mem_singleton.mp z]
        exact tl
    · have := Fol.snoc (l := l) f.fol fun a ea => by
        rcases tk with ⟨e, _⟩ | ⟨a', ea', q⟩
        · rw [lanS_nil e] at ea
          cases ea
        · rw [ea] at ea'
          cases ea'
          exact q
      rw [← hZ] at this
      exact this.suf
    · rw [d2 (by omega)] at mk
      rcases tk with ⟨e, q'⟩ | ⟨a, ea, _⟩
      · rw [lanS_nil e] at mk
        cases mk
        exact q'
      · refine f.st (by omega) k ?_
        cases eL : lanS s with
        | nil => rw [eL] at ea; cases ea
        | cons b r =>
          rw [eL] at mk
          exact mk
    · by_cases z : (doneSt s l).left = 0
      · exact .inr z
      · have := d2 z
        rw [lanS_nil q] at this
        simp at this
    · rw [d4] at q
      omega
def FoS (h : Nat) (L : List Lane) (B O : Nat → Nat → List Nat) (Ts : List Tr) (S : List St) : Prop := (∀ (n : Nat) (t : Tr) (s : St), Ts[n]? = some t → S[n]? = some s → Fo h L B O t s) ∧ (takenL S).Nodup
theorem taken_mid (A C : List St) (s : St) : takenL (A ++ s :: C) = takenL A ++ lanS s ++ takenL C := by
  simp [takenL]
theorem taken_set {S : List St} {n : Nat} {s : St} (e : S[n]? = some s) (s' : St) : ∃ A C, takenL S = A ++ lanS s ++ C ∧ takenL (S.set n s') = A ++ lanS s' ++ C := by
  obtain ⟨hn, rfl⟩ := List.getElem?_eq_some_iff.mp e
  refine ⟨takenL (S.take n), takenL (S.drop (n + 1)), ?_, ?_⟩
  · have : S = S.take n ++ S[n] :: S.drop (n + 1) := by
      rw [List.getElem_cons_drop, List.take_append_drop]
    conv => lhs; rw [this]
    exact taken_mid _ _ _
  · rw [List.set_eq_take_append_cons_drop, if_pos hn]
    exact taken_mid _ _ _
theorem disj_step {L : List Lane} {B O : Nat → Nat → List Nat} {S : List St} {t : Tr} {n : Nat} {s : St} {x : Int} (d : (takenL S).Nodup) (e : S[n]? = some s) (m : x ∈ lawOne L B O (takenL S) t s) : (takenL (S.set n (doneSt s x))).Nodup := by
  obtain ⟨A, C, e1, e2⟩ := taken_set e (doneSt s x)
  rw [e2]
  have sub : ∀ {Q : List Nat}, Q <:+ lanS s → (A ++ Q ++ C).Nodup := fun {Q} q => by
    rw [e1] at d
    exact (((List.Sublist.refl A).append q.sublist).append (List.Sublist.refl C)).nodup d
  rcases one_cases m with ⟨rfl, _⟩ | ⟨l, rfl, ml⟩ | ⟨l, rfl, nl, _⟩
  · exact sub (done_come s).1
  · have := (done_went s l).1
    rw [withLane_old ml] at this
    exact sub this
  · have nm : l ∉ lanS s := fun z => nl (by rw [e1]; simp [z])
    have := (done_went s l).1
    rw [withLane_new nm] at this
    have d2 : (A ++ (lanS s ++ [l]) ++ C).Nodup := by
      rw [e1] at nl d
      have p : (A ++ (lanS s ++ [l]) ++ C).Perm (l :: (A ++ lanS s ++ C)) := by
        have : A ++ (lanS s ++ [l]) ++ C = (A ++ lanS s) ++ l :: C := by simp
        rw [this]
        exact List.perm_middle
      exact p.nodup_iff.mpr (List.nodup_cons.mpr ⟨nl, d⟩)
    exact (((List.Sublist.refl A).append this.sublist).append (List.Sublist.refl C)).nodup d2
theorem FoS.step1 {h : Nat} {L : List Lane} {B O : Nat → Nat → List Nat} {Ts : List Tr} {S : List St} (f : FoS h L B O Ts S) (g : Good h L Ts S) (hb : ∀ t ∈ Ts, t.b < h) {n : Nat} {t : Tr} {s : St} {x : Int} (et : Ts[n]? = some t) (e : S[n]? = some s) (m : x ∈ lawOne L B O (takenL S) t s) : FoS h L B O Ts (S.set n (doneSt s x)) := by
  refine ⟨fun i u v eu ev => ?_, disj_step f.2 e m⟩
  by_cases q : n = i
  · subst q
    rw [et] at eu
    cases eu
    have hn := (List.getElem?_eq_some_iff.mp e).1
    rw [List.getElem?_set_self hn] at ev
    cases ev
    exact (f.1 n t s et e).step (g.ok n t s et e) (hb t (List.mem_of_getElem? et)) (taken_own e) m
  · rw [List.getElem?_set_ne q] at ev
    exact f.1 i u v eu ev
theorem one_of {L : List Lane} {B O : Nat → Nat → List Nat} {Ts : List Tr} {S : List St} {n : Nat} {s : St} {x : Int} (e : S[n]? = some s) (m : ((n : Int), x) ∈ lawSteps L B O Ts S) : ∃ t, Ts[n]? = some t ∧ x ∈ lawOne L B O (takenL S) t s := by
  have m' := (sortBy_perm ltQ _).mem_iff.mp m
  obtain ⟨n', t, s', e1, e2, e3, mx⟩ := allOf_mem m'
  have e1 : (n : Int) = n' := e1
  obtain rfl : n = n' := by omega
  rw [e] at e3
  cases e3
  exact ⟨t, e2, mx⟩
theorem FoS.step {h : Nat} {L : List Lane} {B O : Nat → Nat → List Nat} {Ts : List Tr} {S : List St} (f : FoS h L B O Ts S) (g : Good h L Ts S) (w : Led h L B O Ts) {n : Nat} {s : St} {x : Int} (e : S[n]? = some s) (m : ((n : Int), x) ∈ lawSteps L B O Ts S) : FoS h L B O Ts (S.set n (doneSt s x)) := by
  obtain ⟨t, et, mx⟩ := one_of e m
  exact f.step1 g (fun t m => (w.tr t m).1) et e mx
theorem began_taken {Ts : List Tr} : takenL (began Ts) = [] := by
  simp [takenL, began]
theorem began_fo {h : Nat} {L : List Lane} {B O : Nat → Nat → List Nat} {Ts : List Tr} : FoS h L B O Ts (began Ts) := by
  refine ⟨fun n t s e1 e2 => ?_, ?_⟩
  · rw [began, List.getElem?_map, e1] at e2
    cases e2
    exact ⟨fun _ m => (nomatch m), trivial, fun _ _ m => (nomatch m), fun _ => .inl rfl, fun _ _ m => (nomatch m)⟩
  · rw [began_taken]
    exact List.nodup_nil
end La

namespace La
open PySem PySem.Spec PyProof.Rows L2 Tl
instance : Inhabited Lane := ⟨⟨0, 0, 0⟩⟩
theorem lane_mod {h : Nat} (h2 : 2 ≤ h) {x : Nat} (hx : x < h) : (x + 1) % h < h ∧ x ≠ (x + 1) % h := by
  refine ⟨Nat.mod_lt _ (by omega), ?_⟩
  by_cases q : x + 1 = h
  · rw [q, Nat.mod_self]
    omega
  · rw [Nat.mod_eq_of_lt (by omega)]
    omega
/-- a lane of the ring -/
def RLane (h x : Nat) (l : Lane) : Prop := l.b = x ∧ l.e = (x + 1) % h ∧ 1 ≤ l.r ∧ l.r ≤ 4
theorem RLane.ok {h x : Nat} (h2 : 2 ≤ h) (hx : x < h) {l : Lane} (q : RLane h x l) : l.b < h ∧ l.e < h ∧ 1 ≤ l.r ∧ l.r ≤ 4 ∧ l.b ≠ l.e := by
  obtain ⟨a, b⟩ := lane_mod h2 hx
  obtain ⟨q1, q2, q3, q4⟩ := q
  rw [q1, q2]
  exact ⟨hx, a, q3, q4, b⟩
/-- what a law's case is: a net, a way that lets lanes of it be taken, trains, a stand -/
structure Case (h : Nat) (L : List Lane) (B O : Nat → Nat → List Nat) (Ts : List Tr) (S : List St) : Prop where
  h2 : 2 ≤ h
  h12 : h ≤ 12
  net : Ln h L
  few : L.length ≤ 40
  led : Led h L B O Ts
  tr : ∀ t ∈ Ts, TrOk h B t
  ok : Good h L Ts S
  bd : BdS 450 S
  pk : PkS L Ts S
  way : WayP h L B O
  fo : FoS h L B O Ts S
end La

namespace La
open PySem PySem.Spec PyProof.Rows L2 Tl
end La

namespace La
open PySem PySem.Spec PyProof.Rows L2 Tl
end La

namespace La
open PySem PySem.Spec PyProof.Rows L2 Tl
abbrev Way := Nat → Nat → List Nat
end La

namespace La
open PySem PySem.Spec PyProof.Rows L2 Tl
abbrev TB (N h : Nat) (Z : Way) : T := .ls ((List.range N).map fun x => .fl (rowD h Z x))
end La

namespace La
open PySem PySem.Spec PyProof.Rows L2 Tl
end La

namespace La
open PySem PySem.Spec PyProof.Rows L2 Tl
def up (L : List Lane) (x : Nat) : Int → List Int → Bool
  | _, [] => true
  | a, i :: is => decide (a < i) && (decide (i < L.length) && ((L[i.toNat]?).elim false (fun l => l.b == x) && up L x i is))
theorem spots_sorted {α : Type} (p : α → Bool) (xs : List α) : (spots p xs).Pairwise (· < ·) := by
  unfold spots
  have : ∀ (ys : List α) (k : Nat), (((ys.zipIdx k).filter fun q => p q.1).map (·.2)).Pairwise (· < ·) ∧ ∀ n ∈ ((ys.zipIdx k).filter fun q => p q.1).map (·.2), k ≤ n := by
    intro ys
    induction ys with
    | nil => intro k; simp
    | cons y ys ih =>
      intro k
      obtain ⟨a, b⟩ := ih (k + 1)
      rw [List.zipIdx_cons]
      by_cases q : p y = true
      · rw [List.filter_cons_of_pos (p := fun q : α × Nat => p q.1) q, List.map_cons]
        refine ⟨List.pairwise_cons.mpr ⟨fun n m => by have := b n m; show k < n; omega, a⟩, fun n m => ?_⟩
        rcases List.mem_cons.mp m with e | m
        · exact Nat.le_of_eq e.symm
        · have := b n m
          omega
      · rw [List.filter_cons_of_neg (p := fun q : α × Nat => p q.1) q]
        exact ⟨a, fun n m => by have := b n m; omega⟩
  exact (this xs 0).1
end La

namespace La
open PySem PySem.Spec PyProof.Rows L2 Tl
end La

namespace La
open PySem PySem.Spec PyProof.Rows L2 Tl
end La
namespace La
open PySem PySem.Spec PyProof.Rows L2 Tl
@[simp] theorem ix30 : ixN 3 0 = some 0 := by decide
@[simp] theorem ix31 : ixN 3 1 = some 1 := by decide
@[simp] theorem ix32 : ixN 3 2 = some 2 := by decide
@[simp] theorem ix20 : ixN 2 0 = some 0 := by decide
@[simp] theorem ix21 : ixN 2 1 = some 1 := by decide
end La
namespace La
open PySem PySem.Spec PyProof.Rows L2 Tl
end La

namespace La
open PySem PySem.Spec PyProof.Rows L2 Tl
theorem eqv_ints : ∀ (a b : List Int), PyData.eqvAll (a.map PyData.int) (b.map PyData.int) = decide (a = b)
  | [], [] => rfl
  | [], _ :: _ => rfl
  | _ :: _, [] => rfl
  | x :: a, y :: b => by
    have ih := eqv_ints a b
    show (PyData.eqv (.int x) (.int y) && PyData.eqvAll (a.map PyData.int) (b.map PyData.int)) = _
    rw [ih, eqv_int]
    simp
end La

namespace La
open PySem PySem.Spec PyProof.Rows L2 Tl
theorem allB_map {α : Type} (f : α → Bool) (xs : List α) : Tl.allB (xs.map f) = xs.all f := by
  unfold Tl.allB
  rw [List.all_map]
  rfl
theorem boolsD_mapA {α : Type} (f : α → Bool) (xs : List α) : boolsD (xs.map fun a => PyData.bool (f a)) = some (xs.map f) := by
  have := boolsD_bs (xs.map f)
  rw [List.map_map] at this
  exact this
end La

namespace La
open PySem PySem.Spec PyProof.Rows L2 Tl
end La

namespace La
open PySem PySem.Spec PyProof.Rows L2 Tl
/-- the lanes that a train to a goal may come to -/
inductive Cme (h : Nat) (B O : Nat → Nat → List Nat) (g : Nat) : Nat → Prop
  | start {x j : Nat} : x < h → j ∈ B x g → Cme h B O g j
  | step {j k : Nat} : Cme h B O g j → k ∈ O j g → Cme h B O g k
/-- a way's parts, so far as they are read -/
structure WfW (h N : Nat) (B O : Nat → Nat → List Nat) (g : Nat) : Prop where
  hh : h ≤ 20
  hn : N ≤ 60
  hg : g < h
  b : ∀ x, x < h → (B x g).length ≤ 100 ∧ ∀ l ∈ B x g, l < N
  o : ∀ j, j < N → (O j g).length ≤ 100 ∧ ∀ l ∈ O j g, l < N
  nb : ∀ x, x < h → (B x g).Nodup
  no : ∀ j, j < N → (O j g).Nodup
  ns : ∀ j, j < N → j ∉ O j g
theorem Cme.lt {h N g j : Nat} {B O : Nat → Nat → List Nat} (w : WfW h N B O g) (r : Cme h B O g j) : j < N := by
  induction r with
  | start hx m => exact (w.b _ hx).2 _ m
  | step _ m ih => exact (w.o _ ih).2 _ m
open Classical in
noncomputable def plc (h N : Nat) (B O : Nat → Nat → List Nat) (g : Nat) : List Nat := (List.range N).filter fun j => decide (Cme h B O g j)
open Classical in
theorem mem_plc {h N g j : Nat} {B O : Nat → Nat → List Nat} (w : WfW h N B O g) : j ∈ plc h N B O g ↔ Cme h B O g j := by
  unfold plc
  rw [List.mem_filter, decide_eq_true_iff, List.mem_range]
  exact ⟨fun q => q.2, fun q => ⟨q.lt w, q⟩⟩
open Classical in
theorem plc_nodup (h N g : Nat) (B O : Nat → Nat → List Nat) : (plc h N B O g).Nodup := List.nodup_range.filter _
theorem len_lt {N : Nat} {K : List Nat} (nk : K.Nodup) (h : ∀ j ∈ K, j < N) : K.length ≤ N := by
  have pm : K.Perm ((List.range N).filter fun j => decide (j ∈ K)) := (List.perm_ext_iff_of_nodup nk (List.nodup_range.filter _)).mpr fun j => by
    rw [List.mem_filter, List.mem_range, decide_eq_true_iff]
    exact ⟨fun m => ⟨h j m, m⟩, fun m => m.2⟩
  rw [pm.length_eq]
  have := List.length_filter_le (fun j => decide (j ∈ K)) (List.range N)
  simpa using this
abbrev kN (l : Nat) : Key := .inl (l : Int)
end La

namespace La
open PySem PySem.Spec PyProof.Rows L2 Tl
section
variable {S : Type} [DecidableEq S]
inductive Rp (E : List (S × S)) : S → S → Prop
  | one {a b : S} : (a, b) ∈ E → Rp E a b
  | cons {a b c : S} : (a, b) ∈ E → Rp E b c → Rp E a c
theorem Rp.trans {E : List (S × S)} {a b c : S} (h : Rp E a b) (k : Rp E b c) : Rp E a c := by
  induction h with
  | one m => exact .cons m k
  | cons m _ ih => exact .cons m (ih k)
theorem Rp.snoc {E : List (S × S)} {a b c : S} (h : Rp E a b) (m : (b, c) ∈ E) : Rp E a c := h.trans (.one m)
theorem Rp.first {E : List (S × S)} {a b : S} (h : Rp E a b) : ∃ c, (a, c) ∈ E ∧ (c = b ∨ Rp E c b) := by
  cases h with
  | one m => exact ⟨_, m, .inl rfl⟩
  | cons m r => exact ⟨_, m, .inr r⟩
theorem Rp.mono {E E' : List (S × S)} (s : ∀ e ∈ E, e ∈ E') {a b : S} (h : Rp E a b) : Rp E' a b := by
  induction h with
  | one m => exact .one (s _ m)
  | cons m _ ih => exact .cons (s _ m) ih
end
end La

namespace La
open PySem PySem.Spec PyProof.Rows L2 Tl
section
variable {S : List Nat} {fol : Nat → List Nat} {G : Nat → Bool}
end
theorem seqF {a b : MS} {s s' : SS} {o : Option Out} (e : a s = some (.nx s')) (e2 : b s' = o) : mSeq a b s = o := by
  rw [← e2]
  show (a s).bind _ = _
  rw [e]
  rfl
theorem seqFr {a b : MS} {s s' : SS} {r : T} (e : a s = some (.rt r s')) : mSeq a b s = some (.rt r s') := by
  show (a s).bind _ = _
  rw [e]
  rfl
end La

namespace La
open PySem PySem.Spec PyProof.Rows L2 Tl
def tb11 (h : Nat) (W : Nat → Nat → List Nat) : T := .ls ((List.range h).map fun x => .fl (rowD h W x))
theorem fzL_fl {α : Type} (f : α → List D) : ∀ xs : List α, T.fzL (xs.map fun x => .fl (f x)) = some (xs.map fun x => .list (f x))
  | [] => rfl
  | a :: xs => by
    have ih := fzL_fl f xs
    rw [List.map_cons, List.map_cons]
    generalize (xs.map fun x => T.fl (f x)) = A at *
    simp [ih]
theorem fz_tb11 (h : Nat) (W : Nat → Nat → List Nat) : T.fz (tb11 h W) = some (tabD h W) := by
  have := fzL_fl (fun x => rowD h W x) (List.range h)
  unfold tb11 tabD
  generalize ((List.range h).map fun x => T.fl (rowD h W x)) = A at *
  simp [this]
theorem tb11_at {h x : Nat} {W : Nat → Nat → List Nat} (hx : x < h) : ((List.range h).map fun x => (T.fl (rowD h W x)))[x]? = some (.fl (rowD h W x)) := by simp [hx]
theorem byHouses11_ok {h : Nat} {L : List Lane} {W : Nat → Nat → List Nat} (hh : h ≤ 1000) (hL : Ln h L) : m_law_by_houses_k11 [.leaf (netT h L), tb11 h W] = some (.tup [tb11 h W, .leaf (.list (L.map fun l => .list (rowD h W l.e)))], [.leaf (netT h L), .hole]) := by
  have e8 : -8000000 ≤ (h : Int) ∧ (h : Int) ≤ 8000000 := by omega
  unfold tb11
  have at1 := fun x (hx : x < h) => tb11_at (W := W) hx
  generalize ((List.range h).map fun x => (T.fl (rowD h W x))) = TS at *
  have f1 : ∃ s', s_law_by_houses_k11_1 ⟨[some (netT h L), none, none, none, none, none], [(1, .ls TS)]⟩ = some (.rt (.tup [.ls TS, .leaf (.list (L.map fun l => .list (rowD h W l.e)))]) ⟨[some (netT h L), none, none, none, none, none], s'⟩) ∧ s' = [(1, .hole)] := by
    generalize hG : s_law_by_houses_k11_1 _ = y
    simp [s_law_by_houses_k11_1] at hG
    generalize hC : lcLoop _ _ _ _ _ _ _ _ _ = z at hG
    obtain rfl := lc_typM hC (fun l => .list (rowD h W l.e)) rfl fun l m => by
      have hle := (hL l m).2.1
      refine ⟨_, by simp [laneD]; rfl, ?_⟩
      simp [e8, rangeD_nat]
      generalize hD : lcLoop _ _ _ _ _ _ _ _ _ = z
      obtain rfl := lc_typM hD (fun g => natsT (W l.e g)) rfl fun g m => by
        have hg := List.mem_range.mp m
        have a1 := at1 l.e hle
        have a2 : (rowD h W l.e)[g]? = some (natsT (W l.e g)) := by simp [hg]
        generalize rowD h W l.e = RW at *
        have g1 : gIx [.vw (.ls TS), .val (.leaf (.int ((l.e : Nat) : Int)))] = some (.vw (.fl RW)) := by
          simp [atI_ofNat, a1]
        have g2 : gIx [.vw (.fl RW), .val (.leaf (.int ((g : Nat) : Int)))] = some (rd (natsT (W l.e g))) := by
          simp [atI_ofNat, a2]
        exact ⟨_, rfl, rd (natsT (W l.e g)), by simp [g1, g2], rfl⟩
      exact ⟨_, by simp; rfl, rfl⟩
    subst hG
    exact ⟨_, by simp, rfl⟩
  obtain ⟨s', f1, rfl⟩ := f1
  have eB := (congrFun pieces_law_by_houses_k11 ⟨[some (netT h L), none, none, none, none, none], [(1, .ls TS)]⟩).trans (seqFr f1)
  generalize netT h L = N at *
  simp [m_law_by_houses_k11, eB]
theorem wayByHouses11_ok {n h mo : Nat} {L : List Lane} {t : T} (h1 : 1 ≤ h) (hh : h ≤ 1000) (hL : Ln h L) (hl : L.length ≤ 1000) (hmo : 1 ≤ mo) (ht : Tp (n + (1002 * (h + 1) + 2) * h) t) : ∃ (W : Nat → Nat → List Nat) (t' : T), m_law_way_by_houses_k11 [t, .leaf (netT h L), .leaf (.int mo)] = some (.tup [tb11 h W, .leaf (.list (L.map fun l => .list (rowD h W l.e)))], [t', .leaf (netT h L), .leaf (.int mo)]) ∧ (∀ g, g < h → To h L g (fun x => W x g)) ∧ Tp n t' := by
  have e8 : -8000000 ≤ (h : Int) ∧ (h : Int) ≤ 8000000 := by omega
  simp [m_law_way_by_houses_k11, b_law_way_by_houses_k11, e8, rangeD_nat]
  rw [List.range_eq_range']
  generalize hC : lcLoop _ _ _ _ _ _ _ _ _ = z
  obtain ⟨F, τ', rfl, hF, t1, rfl, ht1⟩ := lc_tapeM (β := Nat → List Nat) 0 hC (fun V => .list ((List.range h).map fun x => natsT (V x))) (fun g V => To h L g V) (1002 * (h + 1) + 2) (fun n τ => ∃ t, τ = [(0, t)] ∧ Tp n t) n ⟨t, rfl, ht⟩ (by
    rintro g _ hg n τ ⟨t, rfl, ht⟩
    obtain ⟨V, t', e, hT, ht'⟩ := takenTo_ok (n := n) (mo := mo) h1 hh (show g < h by omega) hL hl hmo (ht.mono (by omega))
    exact ⟨_, by simp; rfl, _, [(0, t')], V, by simp [e]; rfl, rfl, hT, t', rfl, ht'⟩)
  rw [← List.range_eq_range']
  refine ⟨fun x g => F g x, ?_⟩
  refine ⟨t1, ?_, fun g hg => hF g (by omega) (by omega), ht1⟩
  simp [e8, rangeD_nat]
  generalize hC : lcLoopT _ _ _ _ _ _ _ _ _ = z
  obtain rfl := lcT_typM hC (fun x => .fl (rowD h (fun x g => F g x) x)) rfl fun x m => by
    have hx := List.mem_range.mp m
    refine ⟨_, by simp; rfl, ?_⟩
    simp
    generalize hD : lcLoop _ _ _ _ _ _ _ _ _ = z
    obtain rfl := lc_typM hD (fun g => natsT (F g x)) rfl fun g m => by
      exact ⟨_, by simp; rfl, _, by simp [hx]; rfl, rfl⟩
    exact ⟨_, by simp; rfl, rfl⟩
  have eb := byHouses11_ok (W := fun x g => F g x) hh hL
  have ea : (([] : List T) ++ (List.range h).map fun x => .fl (rowD h (fun x g => F g x) x)) = (List.range h).map fun x => .fl (rowD h (fun x g => F g x) x) := rfl
  rw [ea]
  unfold tb11 at eb ⊢
  simp [eb]
theorem fz_wb11 (h : Nat) (L : List Lane) (W : Nat → Nat → List Nat) : T.fz (.tup [tb11 h W, .leaf (.list (L.map fun l => .list (rowD h W l.e)))]) = some (wayG h L W (onW L W)) := by
  rw [← wayD_G]
  have := fz_tb11 h W
  unfold wayD
  generalize tb11 h W = A at *
  generalize tabD h W = B at *
  generalize (L.map fun l => PyData.list (rowD h W l.e)) = C at *
  simp [this]
theorem lawWay11_ok {n h : Nat} {L : List Lane} {t : T} (h1 : 1 ≤ h) (hh : h ≤ 1000) (hL : Ln h L) (hl : L.length ≤ 1000) (ht : Tp (n + wayK h L.length + 2) t) : ∃ (B O : Nat → Nat → List Nat) (t' : T), m_law_way_k11 [t, .leaf (netT h L)] = some (.leaf (wayG h L B O), [t', .leaf (netT h L)]) ∧ Tp n t' := by
  have k1 : 1001 * h * (h + L.length) = 1001 * h * h + 1001 * h * L.length := Nat.mul_add _ _ _
  unfold wayK at ht
  obtain ⟨v, t1, e1, v0, v1, ht1⟩ := take_ok (m := 3) ht (by omega) (by omega)
  obtain ⟨w, t2, e2, w0, w1, ht2⟩ := take_ok (n := n + ((1002 * (h + 1) + 2) * h + 1001 * h * (h + L.length))) (m := 4) ht1 (by omega) (by omega)
  obtain ⟨mo, emo, hmo⟩ : ∃ mo : Nat, L2.atI [PyData.int 1, .int 2, .int 4] v = some (.int (mo : Nat)) ∧ 1 ≤ mo := by
    have c : v = 0 ∨ v = 1 ∨ v = 2 := by omega
    rcases c with rfl | rfl | rfl
    · exact ⟨1, rfl, by omega⟩
    · exact ⟨2, rfl, by omega⟩
    · exact ⟨4, rfl, by omega⟩
  obtain ⟨W, t3, e3, hT, ht3⟩ := wayByHouses11_ok (n := n + 1001 * h * (h + L.length)) (mo := mo) h1 hh hL hl hmo (ht2.mono (by omega))
  have ez := fz_wb11 h L W
  unfold wayG at ez
  generalize T.tup [tb11 h W, .leaf (.list (L.map fun l => .list (rowD h W l.e)))] = TT at *
  have hW : ∀ x, x < h → ∀ g, g < h → (W x g).length ≤ 1000 := fun x hx g hg => Nat.le_trans ((hT g hg).len x) hl
  have hO : ∀ j, j < L.length → ∀ g, g < h → (onW L W j g).length ≤ 1000 := fun j hj g hg => by
    rw [onW, List.getElem?_eq_getElem hj]
    exact hW _ (hL _ (List.getElem_mem hj)).2.1 g hg
  by_cases q : w < 2
  · refine ⟨W, onW L W, t3, ?_, ht3.mono (by omega)⟩
    simp [m_law_way_k11, b_law_way_k11, e1, emo, e2, e3, ez, q, wayG]
  · have c : w = 2 ∨ w = 3 := by omega
    rcases c with rfl | rfl
    · have ea : L2.atI [PyData.list (rowsL L.length h (onW L W)), .list (rowsL h h W)] 0 = some (.list (rowsL L.length h (onW L W))) := rfl
      simp [m_law_way_k11, b_law_way_k11, e1, emo, e2, e3, ez, ea]
      generalize hF : forL _ _ _ _ _ = y
      obtain ⟨S, t', c', rfl, hS, ht'⟩ := thin_ok (n := n) (N := L.length) (h := h) (V := onW L W) (by omega) hh hO (ht3.mono (by omega)) hF
      refine ⟨W, S, t', ?_, ht'⟩
      simp [wayG]
    · have ea : L2.atI [PyData.list (rowsL L.length h (onW L W)), .list (rowsL h h W)] 1 = some (.list (rowsL h h W)) := rfl
      simp [m_law_way_k11, b_law_way_k11, e1, emo, e2, e3, ez, ea]
      generalize hF : forL _ _ _ _ _ = y
      obtain ⟨S, t', c', rfl, hS, ht'⟩ := thin_ok (n := n) (N := h) (h := h) (V := W) (by omega) hh hW (ht3.mono (by omega)) hF
      refine ⟨S, onW L W, t', ?_, ht'⟩
      simp [wayG]
end La

namespace La
open PySem PySem.Spec PyProof.Rows L2 Tl
end La

namespace La
open PySem PySem.Spec PyProof.Rows L2 Tl
end La

namespace La
open PySem PySem.Spec PyProof.Rows L2 Tl
theorem Shw.lg {n k : Nat} {i : Int} (h : i.natAbs < 2 ^ k) (h1 : 1 ≤ k) (hk : k ≤ 90) : Shw n k (.int i) := by
  have hl : i.natAbs.log2 < k := by
    by_cases q : i.natAbs = 0
    · rw [q, Nat.log2_zero]
      exact h1
    · exact (Nat.log2_lt q).mpr h
  have h2 : i.natAbs < 2 ^ 90 := Nat.lt_of_lt_of_le h (Nat.pow_le_pow_right (by decide) hk)
  have e90 : (2 : Nat) ^ 90 = 1237940039285380274899124224 := by decide
  have a := Shw.int (n := n) (i := i) (decide_eq_true (by omega))
  refine ⟨a.lay, a.sh, a.shr, a.dp, ?_⟩
  simp only [PyData.weight]
  split <;> omega
theorem Shw.nat {n : Nat} {i : Nat} (h : i < 128) : Shw n 7 (.int (i : Int)) := by
  have e : (2 : Nat) ^ 7 = 128 := by decide
  exact Shw.lg (by rw [Int.natAbs_natCast]; omega) (by decide) (by decide)
theorem Shw.thou {n : Nat} {i : Int} (h : -1000 ≤ i ∧ i ≤ 1000) : Shw n 10 (.int i) := by
  have e : (2 : Nat) ^ 10 = 1024 := by decide
  exact Shw.lg (by omega) (by decide) (by decide)
theorem shwL_of {n w : Nat} {α : Type} (e : α → D) : ∀ (xs : List α), (∀ x ∈ xs, Shw n w (e x)) → ShwL n ((w + 1) * xs.length) (xs.map e)
  | [], _ => ShwL.nil
  | x :: xs, h => (ShwL.cons (h x List.mem_cons_self) (shwL_of e xs fun y m => h y (List.mem_cons_of_mem _ m))).mono (Nat.le_refl _) (by rw [List.length_cons, Nat.mul_succ]; omega)
theorem shwL_le {n w m : Nat} {α : Type} (e : α → D) (xs : List α) (hl : xs.length ≤ m) (h : ∀ x ∈ xs, Shw n w (e x)) : ShwL n ((w + 1) * m) (xs.map e) := (shwL_of e xs h).mono (Nat.le_refl _) (Nat.mul_le_mul_left _ hl)
theorem shw_nats {n m : Nat} {Q : List Nat} (hl : Q.length ≤ m) (h : ∀ x ∈ Q, x < 128) : Shw (n + 1) (8 * m) (natsT Q) := Shw.tuple (shwL_le natD Q hl fun x mx => Shw.nat (h x mx))
theorem shw_rows {N h : Nat} {V : Nat → Nat → List Nat} (hV : ∀ x, x < N → ∀ g, g < h → (V x g).length ≤ 40 ∧ ∀ l ∈ V x g, l < 128) (h12 : h ≤ 12) : ShwL 2 (3853 * N) (rowsL N h V) := by
  have := shwL_of (n := 2) (w := 3852) (fun j => PyData.list (rowD h V j)) (List.range N) fun x mx => by
    have hx : x < N := List.mem_range.mp mx
    refine Shw.list (n := 1) ((shwL_le (n := 1) (w := 320) (m := 12) (fun g => natsT (V x g)) (List.range h) (by simpa using h12) fun g mg => ?_))
    have hg : g < h := List.mem_range.mp mg
    obtain ⟨a, b⟩ := hV x hx g hg
    exact (shw_nats (n := 0) a b)
  simpa using this
theorem shw_way {h : Nat} {L : List Lane} {B O : Nat → Nat → List Nat} (h12 : h ≤ 12) (few : L.length ≤ 40) (wz : WayZ h L.length B O) (wi : WayIn h L.length B O) : Shw 4 200400 (wayG h L B O) := by
  have a := Shw.list (shw_rows (N := h) (h := h) (V := B) (fun x hx g hg => ⟨Nat.le_trans (wz.1 x hx g hg) few, fun l m => by have := wi.1 x hx g hg l m; omega⟩) h12)
  have b := Shw.list (shw_rows (N := L.length) (h := h) (V := O) (fun x hx g hg => ⟨Nat.le_trans (wz.2 x hx g hg) few, fun l m => by have := wi.2 x hx g hg l m; omega⟩) h12)
  exact (Shw.tuple (ShwL.cons a (ShwL.cons b ShwL.nil (v := 0)))).mono (by omega) (by omega)
theorem shw_net {h : Nat} {L : List Lane} (h12 : h ≤ 12) (few : L.length ≤ 40) (hL : Ln h L) : Shw 4 1100 (netT h L) := by
  have a : ShwL 1 (25 * 40) (L.map laneD) := shwL_le laneD L few fun l m => by
    obtain ⟨a, b, _, c, _⟩ := hL l m
    exact (Shw.tuple (n := 0) (ShwL.cons (Shw.nat (i := l.b) (by omega)) (ShwL.cons (Shw.nat (i := l.e) (by omega)) (ShwL.cons (Shw.nat (i := l.r) (by omega)) ShwL.nil (w := 7) (v := 0))))).mono (by omega) (by omega)
  exact (Shw.tuple (ShwL.cons (Shw.nat (n := 2) (i := h) (by omega)) (ShwL.cons ((Shw.list a).mono (Nat.le_refl _) (Nat.le_refl _)) ShwL.nil (w := 25 * 40) (v := 0)))).mono (by omega) (by omega)
theorem shw_tr {h : Nat} {t : Tr} (h12 : h ≤ 12) (q : t.b < h ∧ t.g < h) (p : 0 ≤ t.p ∧ t.p ≤ 1000) : Shw 1 30 (trD t) :=
  (Shw.tuple (n := 0) (ShwL.cons (Shw.nat (i := t.b) (by omega)) (ShwL.cons (Shw.nat (i := t.g) (by omega)) (ShwL.cons (Shw.thou (i := t.p) (by omega)) ShwL.nil (w := 10) (v := 0))))).mono (by omega) (by omega)
theorem shw_trains20 {h : Nat} {Ts : List Tr} (h12 : h ≤ 12) (few : Ts.length ≤ 20) (q : ∀ t ∈ Ts, t.b < h ∧ t.g < h) (p : ∀ t ∈ Ts, 0 ≤ t.p ∧ t.p ≤ 1000) : Shw 4 700 (trainsD Ts) :=
  (Shw.list (n := 1) (shwL_le trD Ts few fun t m => shw_tr h12 (q t m) (p t m))).mono (by omega) (by omega)
theorem shw_st {s : St} (hl : s.held.length ≤ 40) (hb : ∀ p ∈ s.held, p.1 < 128) (bd : (-1000 ≤ s.left ∧ s.left ≤ 1000) ∧ (-1000 ≤ s.come ∧ s.come ≤ 1000) ∧ ∀ p ∈ s.held, -1000 ≤ p.2 ∧ p.2 ≤ 1000) : Shw 3 1000 (stD s) := by
  have a : ShwL 1 (20 * 40) (s.held.map pcD) := shwL_le pcD s.held hl fun p m => by
    exact (Shw.tuple (n := 0) (ShwL.cons (Shw.nat (i := p.1) (hb p m)) (ShwL.cons (Shw.thou (i := p.2) (bd.2.2 p m)) ShwL.nil (w := 10) (v := 0)))).mono (by omega) (by omega)
  exact (Shw.tuple (n := 2) (ShwL.cons (Shw.thou (i := s.left) bd.1) (ShwL.cons (Shw.tuple a) (ShwL.cons (Shw.thou (i := s.come) bd.2.1) ShwL.nil (w := 10) (v := 0))))).mono (by omega) (by omega)
theorem shw_stand {h : Nat} {L : List Lane} {Ts : List Tr} {S : List St} (few : L.length ≤ 40) (g : Good h L Ts S) (ft : Ts.length ≤ 20) (bd : BdS 1000 S) : Shw 4 20100 (standD S) :=
  (Shw.list (n := 3) (shwL_le stD S (by rw [g.len]; exact ft) fun s m => by
    obtain ⟨i, hi, e⟩ := List.mem_iff_getElem.mp m
    obtain ⟨t, _, G⟩ := g.at_ (n := i) (s := s) (by rw [List.getElem?_eq_getElem hi, e])
    have := G.len
    exact shw_st (by omega) (fun p mp => by have := G.ln p mp; omega) (bd s m))).mono (by omega) (by omega)
theorem caseL_shw {h : Nat} {L : List Lane} {B O : Nat → Nat → List Nat} {Ts : List Tr} {S : List St} (h12 : h ≤ 12) (few : L.length ≤ 40) (hL : Ln h L) (w : Led h L B O Ts) (p : ∀ t ∈ Ts, 0 ≤ t.p ∧ t.p ≤ 1000) (g : Good h L Ts S) (bd : BdS 1000 S) : Shw 5 250000 (.list [netT h L, wayG h L B O, trainsD Ts, standD S]) :=
  (Shw.list (n := 4) (ShwL.cons (shw_net h12 few hL) (ShwL.cons (shw_way h12 few w.wz w.wi) (ShwL.cons (shw_trains20 h12 w.few w.tr p) (ShwL.cons (shw_stand few g w.few bd) ShwL.nil (v := 0)))))).mono (by omega) (by omega)
end La

namespace La
open PySem PySem.Spec PyProof.Rows L2 Tl
end La

namespace La
open PySem PySem.Spec PyProof.Rows L2 Tl
mutual
/-- no dict, texts that may be, numbers of at most B -/
def okB (B : Nat) : D → Bool
  | .int i => decide (-(B : Int) ≤ i ∧ i ≤ B)
  | .str s => PyData.strOk s
  | .list ds => okBL B ds
  | .tuple ds => okBL B ds
  | .dict _ => false
  | .none => true
  | .bool _ => true
def okBL (B : Nat) : List D → Bool
  | [] => true
  | d :: ds => okB B d && okBL B ds
end
theorem okBL_iff {B : Nat} : ∀ {ds : List D}, okBL B ds = true ↔ ∀ d ∈ ds, okB B d = true
  | [] => by simp [okBL]
  | d :: ds => by
    rw [okBL, Bool.and_eq_true, okBL_iff]
    simp
mutual
theorem okB_mono {B B' : Nat} (h : B ≤ B') : ∀ d : D, okB B d = true → okB B' d = true
  | .int i, q => by
    have q : decide (-(B : Int) ≤ i ∧ i ≤ B) = true := q
    have q := of_decide_eq_true q
    exact decide_eq_true (by omega)
  | .str _, q => q
  | .list ds, q => okBL_mono h ds q
  | .tuple ds, q => okBL_mono h ds q
  | .dict _, q => q
  | .none, q => q
  | .bool _, q => q
theorem okBL_mono {B B' : Nat} (h : B ≤ B') : ∀ ds : List D, okBL B ds = true → okBL B' ds = true
  | [], q => q
  | d :: ds, q => by
    rw [okBL, Bool.and_eq_true] at q ⊢
    exact ⟨okB_mono h d q.1, okBL_mono h ds q.2⟩
end
mutual
theorem okB_facts {B : Nat} (h : B < 1000000000000000000000) : ∀ d : D, okB B d = true → d.canLay0 = true ∧ d.showable = true ∧ d.intsShort 22 = true
  | .int i, q => by
    have q : decide (-(B : Int) ≤ i ∧ i ≤ B) = true := q
    have q := of_decide_eq_true q
    have hl : i.natAbs.log2 < 100 := by
      by_cases z : i.natAbs = 0
      · rw [z]
        decide
      · exact (Nat.log2_lt z).mpr (by omega)
    refine ⟨rfl, by simp only [PyData.showable]; exact decide_eq_true (by omega), ?_⟩
    have e21 : (10 : Nat) ^ 21 = 1000000000000000000000 := by decide
    have := int_text_length_le10 (a := i) (k := 21) (by decide) (by rw [e21]; omega)
    simp only [PyData.intsShort, decide_eq_true_eq]
    show (Str.ofString (toString i)).length ≤ 22
    rw [PySem.ofString_length]
    omega
  | .str s, q => ⟨q, rfl, rfl⟩
  | .list ds, q => by
    obtain ⟨a, b, c⟩ := okBL_facts h ds q
    exact ⟨by simpa [PyData.canLay0] using a, by simpa [PyData.showable] using b, by simpa [PyData.intsShort] using c⟩
  | .tuple ds, q => by
    obtain ⟨a, b, c⟩ := okBL_facts h ds q
    exact ⟨by simpa [PyData.canLay0] using a, by simpa [PyData.showable] using b, by simpa [PyData.intsShort] using c⟩
  | .dict _, q => by cases q
  | .none, _ => ⟨rfl, rfl, rfl⟩
  | .bool _, _ => ⟨rfl, rfl, rfl⟩
theorem okBL_facts {B : Nat} (h : B < 1000000000000000000000) : ∀ ds : List D, okBL B ds = true → PyData.canLayAll0 ds = true ∧ PyData.showableAll ds = true ∧ PyData.intsShortAll 22 ds = true
  | [], _ => ⟨rfl, rfl, rfl⟩
  | d :: ds, q => by
    rw [okBL, Bool.and_eq_true] at q
    obtain ⟨a, b, c⟩ := okB_facts h d q.1
    obtain ⟨a', b', c'⟩ := okBL_facts h ds q.2
    exact ⟨by simp [PyData.canLayAll0, a, a'], by simp [PyData.showableAll, b, b'], by simp [PyData.intsShortAll, c, c']⟩
end
theorem depthAll_iff {n : Nat} : ∀ {ds : List D}, PyData.depthAll ds ≤ n ↔ ∀ d ∈ ds, d.depth ≤ n
  | [] => by simp [PyData.depthAll]
  | d :: ds => by
    rw [PyData.depthAll, Nat.max_le, depthAll_iff]
    simp
theorem weightAll_app : ∀ (as bs : List D), PyData.weightAll (as ++ bs) = PyData.weightAll as + PyData.weightAll bs
  | [], bs => by simp [PyData.weightAll]
  | a :: as, bs => by
    rw [List.cons_append, PyData.weightAll, weightAll_app as bs, PyData.weightAll]
    omega
theorem weightAll_sub {as bs : List D} (h : as.Sublist bs) : PyData.weightAll as ≤ PyData.weightAll bs := by
  induction h with
  | slnil => exact Nat.le_refl _
  | cons a _ ih => rw [PyData.weightAll]; omega
  | cons_cons a _ ih => rw [PyData.weightAll, PyData.weightAll]; omega
theorem weightAll_mem {ds : List D} {d : D} (m : d ∈ ds) : d.weight + 1 ≤ PyData.weightAll ds := by
  have := weightAll_sub (List.singleton_sublist.mpr m)
  simpa [PyData.weightAll] using this
theorem weightAll_len : ∀ ds : List D, ds.length ≤ PyData.weightAll ds
  | [] => Nat.le_refl _
  | d :: ds => by
    have := weightAll_len ds
    rw [PyData.weightAll, List.length_cons]
    omega
theorem weightAll_set : ∀ {ds : List D} {k : Nat} {d e : D}, ds[k]? = some d → PyData.weightAll (ds.set k e) + d.weight = PyData.weightAll ds + e.weight
  | [], _, _, _, h => by simp at h
  | a :: ds, 0, d, e, h => by
    simp at h
    subst h
    simp only [List.set_cons_zero, PyData.weightAll]
    omega
  | a :: ds, k + 1, d, e, h => by
    have := weightAll_set (ds := ds) (k := k) (d := d) (e := e) (by simpa using h)
    simp only [List.set_cons_succ, PyData.weightAll]
    omega
/-- a thing: numbers of at most B, so deep, so heavy -/
structure Sd (B n w : Nat) (d : D) : Prop where
  ok : okB B d = true
  dp : d.depth ≤ n
  wt : d.weight ≤ w
structure SdL (B n w : Nat) (ds : List D) : Prop where
  ok : ∀ d ∈ ds, okB B d = true
  dp : ∀ d ∈ ds, d.depth ≤ n
  wt : PyData.weightAll ds ≤ w
theorem Sd.mono {B n w B' n' w' : Nat} {d : D} (h : Sd B n w d) (a : B ≤ B') (b : n ≤ n') (c : w ≤ w') : Sd B' n' w' d := ⟨okB_mono a d h.ok, Nat.le_trans h.dp b, Nat.le_trans h.wt c⟩
theorem SdL.mono {B n w B' n' w' : Nat} {ds : List D} (h : SdL B n w ds) (a : B ≤ B') (b : n ≤ n') (c : w ≤ w') : SdL B' n' w' ds := ⟨fun d m => okB_mono a d (h.ok d m), fun d m => Nat.le_trans (h.dp d m) b, Nat.le_trans h.wt c⟩
theorem Sd.list {B n w : Nat} {ds : List D} (h : SdL B n w ds) : Sd B (n + 1) w (.list ds) := ⟨okBL_iff.mpr h.ok, by rw [PyData.depth]; have := depthAll_iff.mpr h.dp; omega, h.wt⟩
theorem Sd.tuple {B n w : Nat} {ds : List D} (h : SdL B n w ds) : Sd B (n + 1) w (.tuple ds) := ⟨okBL_iff.mpr h.ok, by rw [PyData.depth]; have := depthAll_iff.mpr h.dp; omega, h.wt⟩
theorem Sd.ofL {B n w : Nat} {ds : List D} (h : Sd B n w (.list ds)) : 1 ≤ n ∧ SdL B (n - 1) w ds := by
  have := h.dp
  rw [PyData.depth] at this
  exact ⟨by omega, okBL_iff.mp h.ok, depthAll_iff.mp (by omega), h.wt⟩
theorem Sd.ofT {B n w : Nat} {ds : List D} (h : Sd B n w (.tuple ds)) : 1 ≤ n ∧ SdL B (n - 1) w ds := by
  have := h.dp
  rw [PyData.depth] at this
  exact ⟨by omega, okBL_iff.mp h.ok, depthAll_iff.mp (by omega), h.wt⟩
theorem SdL.mem {B n w : Nat} {ds : List D} (h : SdL B n w ds) {d : D} (m : d ∈ ds) : Sd B n w d := ⟨h.ok d m, h.dp d m, by have := weightAll_mem m; have := h.wt; omega⟩
theorem SdL.app {B n w v : Nat} {as bs : List D} (h : SdL B n w as) (k : SdL B n v bs) : SdL B n (w + v) (as ++ bs) := ⟨fun d m => (List.mem_append.mp m).elim (h.ok d) (k.ok d), fun d m => (List.mem_append.mp m).elim (h.dp d) (k.dp d), by rw [weightAll_app]; have := h.wt; have := k.wt; omega⟩
theorem SdL.sub {B n w : Nat} {as bs : List D} (h : SdL B n w bs) (s : as.Sublist bs) : SdL B n w as := ⟨fun d m => h.ok d (s.subset m), fun d m => h.dp d (s.subset m), Nat.le_trans (weightAll_sub s) h.wt⟩
theorem SdL.one {B n w : Nat} {d : D} (h : Sd B n w d) : SdL B n (w + 1) [d] := ⟨fun e m => by rw [List.mem_singleton.mp m]; exact h.ok, fun e m => by rw [List.mem_singleton.mp m]; exact h.dp, by simp only [PyData.weightAll]; have := h.wt; omega⟩
theorem SdL.len {B n w : Nat} {ds : List D} (h : SdL B n w ds) : ds.length ≤ w := Nat.le_trans (weightAll_len ds) h.wt
theorem Sd.int {B n : Nat} {i : Int} (h : -(B : Int) ≤ i ∧ i ≤ B) (hB : B < 1000000000000000000000) : Sd B n 100 (.int i) := by
  have hl : i.natAbs.log2 < 99 := by
    by_cases z : i.natAbs = 0
    · rw [z]
      decide
    · exact (Nat.log2_lt z).mpr (by omega)
  refine ⟨decide_eq_true h, by simp [PyData.depth], ?_⟩
  simp only [PyData.weight]
  split <;> omega
theorem Sd.none {B n w : Nat} : Sd B n w .none := ⟨rfl, by simp [PyData.depth], by simp [PyData.weight]⟩
theorem Sd.bool {B n w : Nat} {b : Bool} : Sd B n w (.bool b) := ⟨rfl, by simp [PyData.depth], by simp [PyData.weight]⟩
theorem Sd.str {B n w : Nat} {s : Str} (h : PyData.strOk s = true) (l : s.length ≤ w) : Sd B n w (.str s) := ⟨h, by simp [PyData.depth], by rw [PyData.weight]; exact l⟩
theorem Sd.shown {B n w : Nat} {d : D} (h : Sd B n w d) (hB : B < 1000000000000000000000) : d.shown.length ≤ 24 * w + 22 := by
  obtain ⟨a, b, c⟩ := okB_facts hB d h.ok
  have := PyData.shown_le 22 (by decide) d (PyData.leavesShort_of_canLay0 22 d a c)
  have := h.wt
  omega
theorem Sd.strOf {B n w : Nat} {d : D} (h : Sd B n w d) (hB : B < 1000000000000000000000) (m : Nat) : Sd B m (24 * w + 22) (.str (Tl.strOf d)) := by
  obtain ⟨a, _, _⟩ := okB_facts hB d h.ok
  refine Sd.str (ok_strOf a) ?_
  cases d with
  | str s =>
    have := h.wt
    rw [PyData.weight] at this
    show s.cps.size ≤ _
    omega
  | _ => exact h.shown hB
theorem Sd.lay {B n w : Nat} {d : D} (h : Sd B n w d) (hB : B < 1000000000000000000000) : d.canLay0 = true := (okB_facts hB d h.ok).1
def subD : D → List Nat → D
  | d, [] => d
  | .list ds, k :: s => subD (ds.getD k .none) s
  | .tuple ds, k :: s => subD (ds.getD k .none) s
  | d, _ :: _ => d
def putD : D → List Nat → D → D
  | _, [], x => x
  | .list ds, k :: s, x => .list (ds.set k (putD (ds.getD k .none) s x))
  | .tuple ds, k :: s, x => .tuple (ds.set k (putD (ds.getD k .none) s x))
  | d, _ :: _, _ => d
inductive Spot : D → List Nat → Prop
  | here (d : D) : Spot d []
  | list {ds : List D} {k : Nat} {e : D} {s : List Nat} : ds[k]? = some e → Spot e s → Spot (.list ds) (k :: s)
  | tuple {ds : List D} {k : Nat} {e : D} {s : List Nat} : ds[k]? = some e → Spot e s → Spot (.tuple ds) (k :: s)
theorem getD_of {ds : List D} {k : Nat} {e : D} (h : ds[k]? = some e) : ds.getD k .none = e := by
  rw [List.getD_eq_getElem?_getD, h]
  rfl
theorem Sd.sub {B n w : Nat} {d : D} {s : List Nat} (h : Sd B n w d) (p : Spot d s) : Sd B n w (subD d s) := by
  induction p generalizing n with
  | here d => cases d <;> exact h
  | list e _ ih =>
    obtain ⟨a, b⟩ := h.ofL
    show Sd B n w (subD (List.getD _ _ .none) _)
    rw [getD_of e]
    exact (ih (b.mem (List.mem_of_getElem? e))).mono (Nat.le_refl _) (by omega) (Nat.le_refl _)
  | tuple e _ ih =>
    obtain ⟨a, b⟩ := h.ofT
    show Sd B n w (subD (List.getD _ _ .none) _)
    rw [getD_of e]
    exact (ih (b.mem (List.mem_of_getElem? e))).mono (Nat.le_refl _) (by omega) (Nat.le_refl _)
theorem Spot.len {B n w : Nat} {d : D} {s : List Nat} (h : Sd B n w d) (p : Spot d s) : s.length ≤ n := by
  induction p generalizing n with
  | here d => exact Nat.zero_le _
  | list e _ ih =>
    obtain ⟨a, b⟩ := h.ofL
    have := ih (b.mem (List.mem_of_getElem? e))
    rw [List.length_cons]
    omega
  | tuple e _ ih =>
    obtain ⟨a, b⟩ := h.ofT
    have := ih (b.mem (List.mem_of_getElem? e))
    rw [List.length_cons]
    omega
theorem SdL.set {B n w v : Nat} {ds : List D} {k : Nat} {d e : D} (h : SdL B n w ds) (x : Sd B n v e) (g : ds[k]? = some d) (lt : e.weight ≤ d.weight + v) : SdL B n (w + v) (ds.set k e) := by
  refine ⟨fun a m => ?_, fun a m => ?_, ?_⟩
  · rcases List.mem_or_eq_of_mem_set m with m | rfl
    · exact h.ok a m
    · exact x.ok
  · rcases List.mem_or_eq_of_mem_set m with m | rfl
    · exact h.dp a m
    · exact x.dp
  · have := weightAll_set (e := e) g
    have := h.wt
    omega
theorem put_sd {B n w v m : Nat} {d x : D} {s : List Nat} (h : Sd B n w d) (p : Spot d s) (y : Sd B m v x) : okB B (putD d s x) = true ∧ (putD d s x).depth ≤ n + m ∧ (putD d s x).weight ≤ d.weight + v := by
  induction p generalizing n w with
  | here d => exact ⟨by cases d <;> exact y.ok, by cases d <;> (have := y.dp; exact Nat.le_trans this (Nat.le_add_left _ _)), by cases d <;> (have := y.wt; exact Nat.le_trans this (Nat.le_add_left _ _))⟩
  | @list ds k e s g _ ih =>
    obtain ⟨a, b⟩ := h.ofL
    obtain ⟨i1, i2, i3⟩ := ih (b.mem (List.mem_of_getElem? g))
    show okB B (.list (ds.set k (putD (ds.getD k .none) s x))) = true ∧ _
    rw [getD_of g]
    refine ⟨okBL_iff.mpr fun z m => ?_, ?_, ?_⟩
    · rcases List.mem_or_eq_of_mem_set m with m | rfl
      · exact b.ok z m
      · exact i1
    · show (PyData.list (ds.set k (putD (ds.getD k .none) s x))).depth ≤ _
      rw [getD_of g, PyData.depth]
      have : PyData.depthAll (ds.set k (putD e s x)) ≤ n - 1 + m := depthAll_iff.mpr fun z mz => by
        rcases List.mem_or_eq_of_mem_set mz with mz | rfl
        · have := b.dp z mz
          omega
        · omega
      omega
    · show (PyData.list (ds.set k (putD (ds.getD k .none) s x))).weight ≤ _
      rw [getD_of g]
      show PyData.weightAll (ds.set k (putD e s x)) ≤ PyData.weightAll ds + v
      have := weightAll_set (e := putD e s x) g
      omega
  | @tuple ds k e s g _ ih =>
    obtain ⟨a, b⟩ := h.ofT
    obtain ⟨i1, i2, i3⟩ := ih (b.mem (List.mem_of_getElem? g))
    show okB B (.tuple (ds.set k (putD (ds.getD k .none) s x))) = true ∧ _
    rw [getD_of g]
    refine ⟨okBL_iff.mpr fun z m => ?_, ?_, ?_⟩
    · rcases List.mem_or_eq_of_mem_set m with m | rfl
      · exact b.ok z m
      · exact i1
    · show (PyData.tuple (ds.set k (putD (ds.getD k .none) s x))).depth ≤ _
      rw [getD_of g, PyData.depth]
      have : PyData.depthAll (ds.set k (putD e s x)) ≤ n - 1 + m := depthAll_iff.mpr fun z mz => by
        rcases List.mem_or_eq_of_mem_set mz with mz | rfl
        · have := b.dp z mz
          omega
        · omega
      omega
    · show (PyData.tuple (ds.set k (putD (ds.getD k .none) s x))).weight ≤ _
      rw [getD_of g]
      show PyData.weightAll (ds.set k (putD e s x)) ≤ PyData.weightAll ds + v
      have := weightAll_set (e := putD e s x) g
      omega
theorem Sd.put {B n w v m : Nat} {d x : D} {s : List Nat} (h : Sd B n w d) (p : Spot d s) (y : Sd B m v x) : Sd B (n + m) (w + v) (putD d s x) := by
  obtain ⟨a, b, c⟩ := put_sd h p y
  have := h.wt
  exact ⟨a, b, by omega⟩
end La

namespace La
open PySem PySem.Spec PyProof.Rows L2 Tl
/-- the cells of a way's part -/
def CellOk (N h : Nat) (V : Nat → Nat → List Nat) : Prop := ∀ x, x < N → ∀ g, g < h → (V x g).length ≤ 41 ∧ ∀ l ∈ V x g, l < 128
/-- lists of lanes that make a way -/
def Rows (h : Nat) (L : List Lane) (B O : Nat → Nat → List Nat) : Prop := (∀ x, x < h → ∀ g, g < h → (B x g).Sublist (spots (fun l => l.b == x) L) ∧ (x = g → B x g = [])) ∧
  ∀ j l, L[j]? = some l → ∀ g, g < h → (O j g).Sublist (spots (fun k => k.b == l.e) L) ∧ (l.e = g → O j g = [])
theorem WayP.rows {h : Nat} {L : List Lane} {B O : Nat → Nat → List Nat} (hL : Ln h L) (w : WayP h L B O) : Rows h L B O := by
  obtain ⟨W, hT, hB, hO⟩ := w
  refine ⟨fun x hx g hg => ?_, fun j l e g hg => ?_⟩
  · have t := hB x hx g hg
    refine ⟨t.1.trans ((hT g hg).sub x), fun q => ?_⟩
    subst q
    exact t.2.mp (hT x hx).home
  · have t := hO j l e g hg
    refine ⟨t.1.trans ((hT g hg).sub l.e), fun q => ?_⟩
    subst q
    exact t.2.mp (hT l.e hg).home
theorem Rows.cells {h : Nat} {L : List Lane} {B O : Nat → Nat → List Nat} (r : Rows h L B O) (hl : L.length ≤ 41) : CellOk h h B ∧ CellOk L.length h O := by
  have key : ∀ (S : List Nat) (p : Lane → Bool), S.Sublist (spots p L) → S.length ≤ 41 ∧ ∀ l ∈ S, l < 128 := fun S p s => by
    have a := s.length_le
    have b := spots_len p L
    refine ⟨by omega, fun l m => ?_⟩
    have := spots_lt (s.subset m)
    omega
  exact ⟨fun x hx g hg => key _ _ (r.1 x hx g hg).1, fun j hj g hg => key _ _ (r.2 j _ (List.getElem?_eq_getElem hj) g hg).1⟩
end La

namespace La
open PySem PySem.Spec PyProof.Rows L2 Tl
end La

namespace La
open PySem PySem.Spec PyProof.Rows L2 Tl
end La

namespace La
open PySem PySem.Spec PyProof.Rows L2 Tl
/-- the lanes met, the lanes waiting -/
structure PoI (h N : Nat) (B O : Nat → Nat → List Nat) (g : Nat) (K W : List Nat) : Prop where
  nd : K.Nodup
  k : ∀ j ∈ K, Cme h B O g j
  w : ∀ j ∈ W, Cme h B O g j
  st : ∀ x, x < h → ∀ j ∈ B x g, j ∈ K ∨ j ∈ W
  cl : ∀ j ∈ K, ∀ l ∈ O j g, l ∈ K ∨ l ∈ W
theorem PoI.done {h N g : Nat} {B O : Nat → Nat → List Nat} {K : List Nat} (i : PoI h N B O g K []) (j : Nat) : j ∈ K ↔ Cme h B O g j := by
  refine ⟨i.k j, fun r => ?_⟩
  induction r with
  | start hx m => exact (i.st _ hx _ m).elim id fun z => nomatch z
  | step _ m ih => exact (i.cl _ ih _ m).elim id fun z => nomatch z
end La

namespace La
open PySem PySem.Spec PyProof.Rows L2 Tl
def addN (xs ys : List Nat) : List Nat := xs ++ ys.filter fun y => decide (y ∉ xs)
theorem mem_addN {xs ys : List Nat} {j : Nat} : j ∈ addN xs ys ↔ j ∈ xs ∨ j ∈ ys := by
  unfold addN
  rw [List.mem_append, List.mem_filter, decide_eq_true_iff]
  constructor
  · rintro (m | ⟨m, _⟩)
    · exact .inl m
    · exact .inr m
  · rintro (m | m)
    · exact .inl m
    · by_cases q : j ∈ xs
      · exact .inl q
      · exact .inr ⟨m, q⟩
theorem addN_nodup {xs ys : List Nat} (hx : xs.Nodup) (hy : ys.Nodup) : (addN xs ys).Nodup := by
  unfold addN
  refine List.nodup_append.mpr ⟨hx, hy.filter _, fun a ma b mb e => ?_⟩
  subst e
  have := (List.mem_filter.mp mb).2
  rw [decide_eq_true_iff] at this
  exact this ma
end La

namespace La
open PySem PySem.Spec PyProof.Rows L2 Tl
end La

namespace La
open PySem PySem.Spec PyProof.Rows L2 Tl
/-- a comprehension that draws, and what its elements bear -/
theorem lc_tapeP {α : Type} {vs : List Nat} {mt : MG} {mc : MB} {me : MV} {fw : Fz} {vw : Tau} {τ : Tau} {x : Option (List D × Tau)} {e : α → D} {xs : List α} {acc : List D} (h : lcLoop vs mt mc me fw vw (xs.map e) acc τ = x) (f : α → D) (p : α → Bool) (P : Nat → Tau → Prop) (n : Nat) (i : P (n + xs.length) τ)
    (step : ∀ a ∈ xs, ∀ n τ, P (n + 1) τ → ∃ fz, mt (e a) fw = some fz ∧ ∃ b τ1, mc ⟨fz, vw⟩ τ = some (b, τ1) ∧ P n (tout vs τ1) ∧ (b = true → p a = true ∧ ∃ r, me ⟨fz, vw⟩ τ1 = some (r, τ1) ∧ r.st = some (f a))) : ∃ (ys : List α) (τ' : Tau), x = some (acc ++ ys.map f, τ') ∧ ys.Sublist (xs.filter p) ∧ P n τ' := by
  subst h
  induction xs generalizing acc τ with
  | nil => exact ⟨[], τ, by simp [lcLoop], List.Sublist.refl _, i⟩
  | cons d ds ih =>
    obtain ⟨fz, e1, b, τ1, e2, hp, e3⟩ := step d List.mem_cons_self (n + ds.length) τ (by rw [List.length_cons, ← Nat.add_assoc] at i; exact i)
    have ih := fun acc => ih (acc := acc) hp fun d m => step d (List.mem_cons_of_mem _ m)
    have g : ∀ x, (mt (e d) fw).bind (fun fz => (mc ⟨fz, vw⟩ τ).bind fun p => if p.1 = true then (me ⟨fz, vw⟩ p.2).bind fun q => q.1.st.bind fun y => lcLoop vs mt mc me fw vw (ds.map e) (acc ++ [y]) (tout vs q.2) else lcLoop vs mt mc me fw vw (ds.map e) acc (tout vs p.2)) = x → lcLoop vs mt mc me fw vw ((d :: ds).map e) acc τ = x := fun x h => h
    cases b with
    | false =>
      obtain ⟨ys, τ', e4, sb, hp'⟩ := ih acc
      refine ⟨ys, τ', g _ ?_, ?_, hp'⟩
      · rw [e1]
        show (mc ⟨fz, vw⟩ τ).bind _ = _
        rw [e2]
        exact e4
      · rw [List.filter_cons]
        split
        · exact sb.cons _
        · exact sb
    | true =>
      obtain ⟨pd, r, e5, e6⟩ := e3 rfl
      obtain ⟨ys, τ', e4, sb, hp'⟩ := ih (acc ++ [f d])
      refine ⟨d :: ys, τ', g _ ?_, ?_, hp'⟩
      · rw [e1]
        show (mc ⟨fz, vw⟩ τ).bind _ = _
        rw [e2]
        show (me ⟨fz, vw⟩ τ1).bind _ = _
        rw [e5]
        show r.st.bind _ = _
        rw [e6]
        show lcLoop vs mt mc me fw vw (ds.map e) (acc ++ [f d]) (tout vs τ1) = _
        rw [e4, List.map_cons, List.append_assoc, List.singleton_append]
      · rw [List.filter_cons, if_pos pd]
        exact sb.cons_cons _
theorem seq_rtw {a b : MS} {s s' : SS} {r : T} (e : a s = some (.rt r s')) : mSeq a b s = some (.rt r s') := by
  show (a s).bind _ = _
  rw [e]
  rfl
abbrev rowsT9 (N h : Nat) (V : Nat → Nat → List Nat) : List T := (List.range N).map fun x => T.fl (rowD h V x)
def up2 (V : Nat → Nat → List Nat) (x g : Nat) (S : List Nat) : Nat → Nat → List Nat := fun a b => if a = x ∧ b = g then S else V a b
theorem rowD_up {h x g : Nat} {V : Nat → Nat → List Nat} {S : List Nat} : (rowD h V x).set g (natsT S) = rowD h (up2 V x g S) x := by
  refine List.ext_getElem? fun i => ?_
  rw [List.getElem?_set]
  unfold rowD
  rw [List.length_map, List.length_range]
  by_cases q : i < h
  · rw [List.getElem?_map, List.getElem?_map, List.getElem?_range q]
    by_cases e : g = i
    · subst e
      simp [up2, q]
    · have e' : ¬ i = g := fun z => e z.symm
      simp [up2, e, e']
  · rw [List.getElem?_eq_none (by simp; omega), List.getElem?_eq_none (by simp; omega)]
    by_cases e : g = i
    · have : ¬ g < h := by omega
      simp [e, q]
    · simp [e]
theorem rowD_other {h x y g : Nat} {V : Nat → Nat → List Nat} {S : List Nat} (n : y ≠ x) : rowD h (up2 V x g S) y = rowD h V y := by
  unfold rowD
  refine List.map_congr_left fun b _ => ?_
  have : ¬ (y = x ∧ b = g) := fun z => n z.1
  unfold up2
  rw [if_neg this]
theorem rowsT_up {N h x g : Nat} {V : Nat → Nat → List Nat} {S : List Nat} : (rowsT9 N h V).set x (.fl (rowD h (up2 V x g S) x)) = rowsT9 N h (up2 V x g S) := by
  refine List.ext_getElem? fun i => ?_
  rw [List.getElem?_set]
  unfold rowsT9
  rw [List.length_map, List.length_range]
  by_cases q : i < N
  · rw [List.getElem?_map, List.getElem?_map, List.getElem?_range q]
    by_cases e : x = i
    · subst e
      simp [q]
    · have e' : ¬ i = x := fun z => e z.symm
      have := rowD_other (h := h) (g := g) (V := V) (S := S) e'
      simp [e, this]
  · rw [List.getElem?_eq_none (by simp; omega), List.getElem?_eq_none (by simp; omega)]
    by_cases e : x = i
    · simp [e, q]
    · simp [e]
theorem fz_rowsT (N h : Nat) (V : Nat → Nat → List Nat) : T.fz (.ls (rowsT9 N h V)) = some (.list (rowsL N h V)) := by
  have : ∀ xs : List Nat, T.fzL (xs.map fun x => T.fl (rowD h V x)) = some (xs.map fun x => PyData.list (rowD h V x)) := by
    intro xs
    induction xs with
    | nil => rfl
    | cons x xs ih =>
      rw [List.map_cons, List.map_cons, T.fzL, ih]
      rfl
  show (T.fzL (rowsT9 N h V)).map PyData.list = _
  rw [this]
  rfl
end La

namespace La
open PySem PySem.Spec PyProof.Rows L2 Tl
end La

namespace La
open PySem PySem.Spec PyProof.Rows L2 Tl
end La

namespace La
open PySem PySem.Spec PyProof.Rows L2 Tl
end La

namespace La
open PySem PySem.Spec PyProof.Rows L2 Tl
/-- from a lane on, by the way -/
inductive Frm (O : Nat → Nat → List Nat) (g l : Nat) : Nat → Prop
  | refl : Frm O g l l
  | step {j k : Nat} : Frm O g l j → k ∈ O j g → Frm O g l k
def Hld (h : Nat) (B O : Nat → Nat → List Nat) (g l p : Nat) : Prop := Cme h B O g l ∧ Frm O g l p
theorem Frm.cme {h g l p : Nat} {B O : Nat → Nat → List Nat} (c : Cme h B O g l) (f : Frm O g l p) : Cme h B O g p := by
  induction f with
  | refl => exact c
  | step _ m ih => exact .step ih m
structure AhI (h N : Nat) (B O : Nat → Nat → List Nat) (g : Nat) (P : List Nat) (f : Nat → List Nat) (W : List Nat) (ex : Nat → Prop) : Prop where
  nd : ∀ p ∈ P, (f p).Nodup
  self : ∀ p ∈ P, p ∈ f p
  snd : ∀ p ∈ P, ∀ l ∈ f p, Hld h B O g l p
  w : ∀ j ∈ W, j ∈ P
  cl : ∀ p ∈ P, p ∉ W → ¬ ex p → ∀ k ∈ O p g, ∀ l ∈ f p, l ∈ f k
/-- what all_held tells -/
structure HeldF (h N : Nat) (B O : Nat → Nat → List Nat) (g : Nat) (P : List Nat) (f : Nat → List Nat) : Prop where
  nd : ∀ p ∈ P, (f p).Nodup
  mem : ∀ p ∈ P, ∀ l, l ∈ f p ↔ Hld h B O g l p
theorem AhI.held {h N g : Nat} {B O : Nat → Nat → List Nat} {P : List Nat} {f : Nat → List Nat} (hP : ∀ p, p ∈ P ↔ Cme h B O g p) (i : AhI h N B O g P f [] (fun _ => False)) : HeldF h N B O g P f := by
  refine ⟨i.nd, fun p mp l => ⟨i.snd p mp l, fun ⟨c, fr⟩ => ?_⟩⟩
  induction fr with
  | refl => exact i.self _ mp
  | step fr' m ih =>
    have mj := (hP _).mpr (fr'.cme c)
    exact i.cl _ mj (fun z => nomatch z) id _ m l (ih mj ⟨c, fr'⟩)
end La

namespace La
open PySem PySem.Spec PyProof.Rows L2 Tl
end La

namespace La
open PySem PySem.Spec PyProof.Rows L2 Tl
variable {h g : Nat} {L : List Lane} {B O : Nat → Nat → List Nat} {P : List Nat}
end La

namespace La
open PySem PySem.Spec PyProof.Rows L2 Tl
variable {h g : Nat} {L : List Lane} {B O : Nat → Nat → List Nat} {P : List Nat}
end La

namespace La
open PySem PySem.Spec PyProof.Rows L2 Tl
def waits (L : List Lane) (t : Tr) (s : St) : Bool := decide (s.come = 0) && match s.held.getLast? with
  | some p => !decide (endAt L p.1 = t.g)
  | none => decide (s.left = t.p)
def wants (L : List Lane) (B O : Nat → Nat → List Nat) (t : Tr) (s : St) : List Nat := if waits L t s then mayTake B O t s else []
end La

namespace La
open PySem PySem.Spec PyProof.Rows L2 Tl
def roomS (L : List Lane) (Q : List Nat) : Int := (Q.map (roomAt L)).sum
@[simp] theorem roomS_nil (L : List Lane) : roomS L [] = 0 := rfl
@[simp] theorem roomS_cons (L : List Lane) (l : Nat) (Q : List Nat) : roomS L (l :: Q) = roomAt L l + roomS L Q := by simp [roomS]
/-- the fewest lanes from the head back that hold the whole train, or all -/
def keepsL (L : List Lane) (p : Int) : List Nat → List Nat
  | [] => []
  | l :: r => if p ≤ roomS L r then keepsL L p r else l :: r
@[simp] theorem ix_held (Q : List (Nat × Int)) (b : Nat) : gIx [.val (.leaf (heldD Q)), .val (.leaf (.int (b : Int)))] = bd Q[b]? lastK := by
  simp only [heldD, ix_t]
  simp
  cases Q[b]? <;> rfl
end La

namespace La
open PySem PySem.Spec PyProof.Rows L2 Tl
abbrev lanesS (s : St) : List Nat := s.held.map (·.1)
def keeps (L : List Lane) (t : Tr) (s : St) : List Nat := if waits L t s then keepsL L t.p (lanesS s) else []
end La

namespace La
open PySem PySem.Spec PyProof.Rows L2 Tl
end La

namespace La
open PySem PySem.Spec PyProof.Rows L2 Tl
end La

namespace La
open PySem PySem.Spec PyProof.Rows L2 Tl
@[simp] theorem ix_pq0 (q : Int × Int) : gIx [.val (.leaf (Tl.pqD q)), .val (.leaf (.int 0))] = some (rInt q.1) := by simp [Tl.pqD]
@[simp] theorem ix_pq1 (q : Int × Int) : gIx [.val (.leaf (Tl.pqD q)), .val (.leaf (.int 1))] = some (rInt q.2) := by simp [Tl.pqD]
end La

namespace La
open PySem PySem.Spec PyProof.Rows L2 Tl
@[simp] def lookTK2 (τ : Tau) : T × List T → Option (R × Tau)
  | (r, _) => if plainT r = true then some (.val r, τ) else none
@[simp] def lookTK1 (f : MF) (τ : Tau) (ts : List T) : Option (R × Tau) := bd (f ts) (lookTK2 τ)
@[simp] def lookTK (f : MF) : List CArg × Tau → Option (R × Tau)
  | (cs, τ) => bd (leafs cs) (lookTK1 f τ)
@[simp] theorem r_mLookT (f : MF) (l : MCA) (ro : Ro) (τ : Tau) : mLookT f l ro τ = bd (l ro τ) (lookTK f) := bd_of fun a => bd_of fun b => bd_of fun c => rfl
end La

namespace La
open PySem PySem.Spec PyProof.Rows L2 Tl
end La

namespace La
open PySem PySem.Spec PyProof.Rows L2 Tl
end La

namespace La
open PySem PySem.Spec PyProof.Rows L2 Tl
structure Path (W K : Nat → List Nat) (G P : List Nat) : Prop where
  ne : P ≠ []
  nd : P.Nodup
  sub : ∀ u ∈ P, u ∈ G
  lk : ∀ (i : Nat) (u v : Nat), P[i]? = some u → P[i + 1]? = some v → ∃ l ∈ W u, l ∈ K v
theorem Path.one {W K : Nat → List Nat} {G : List Nat} {u : Nat} (m : u ∈ G) : Path W K G [u] where
  ne := by simp
  nd := by simp
  sub := fun x mx => by rw [List.mem_singleton.mp mx]; exact m
  lk := fun i a b ea eb => by simp at eb
theorem Path.add {W K : Nat → List Nat} {G P : List Nat} (p : Path W K G P) {u v : Nat} (eu : P.getLast? = some u) (mv : v ∈ G) (nv : v ∉ P) (lk : ∃ l ∈ W u, l ∈ K v) : Path W K G (P ++ [v]) where
  ne := by simp
  nd := by
    rw [List.nodup_append]
    refine ⟨p.nd, by simp, fun a ma b mb e => ?_⟩
    rw [List.mem_singleton.mp mb] at e
    exact nv (e ▸ ma)
  sub := fun x mx => by
    rcases List.mem_append.mp mx with mx | mx
    · exact p.sub x mx
    · rw [List.mem_singleton.mp mx]
      exact mv
  lk := fun i a b ea eb => by
    by_cases q : i + 1 < P.length
    · rw [List.getElem?_append_left q] at eb
      rw [List.getElem?_append_left (by omega)] at ea
      exact p.lk i a b ea eb
    · have hi := (List.getElem?_eq_some_iff.mp eb).1
      rw [List.length_append, List.length_singleton] at hi
      have e : i + 1 = P.length := by omega
      rw [e, List.getElem?_append_right (Nat.le_refl _), Nat.sub_self] at eb
      simp at eb
      subst eb
      rw [List.getElem?_append_left (by omega)] at ea
      rw [List.getLast?_eq_getElem?, show P.length - 1 = i by omega, ea] at eu
      cases eu
      exact lk
end La

namespace La
open PySem PySem.Spec PyProof.Rows L2 Tl
end La

namespace La
open PySem PySem.Spec PyProof.Rows L2 Tl
end La

namespace La
open PySem PySem.Spec PyProof.Rows L2 Tl
end La

namespace La
open PySem PySem.Spec PyProof.Rows L2 Tl
/-- a case, some steps on -/
structure On (K : Int) (h : Nat) (L : List Lane) (B O : Nat → Nat → List Nat) (Ts : List Tr) (S : List St) : Prop where
  g : Good h L Ts S
  bd : BdS K S
  pk : PkS L Ts S
  fo : FoS h L B O Ts S
theorem Case.on {h : Nat} {L : List Lane} {B O : Nat → Nat → List Nat} {Ts : List Tr} {S : List St} (c : Case h L B O Ts S) : On 450 h L B O Ts S := ⟨c.ok, c.bd, c.pk, c.fo⟩
theorem On.mono {K K' : Int} {h : Nat} {L : List Lane} {B O : Nat → Nat → List Nat} {Ts : List Tr} {S : List St} (o : On K h L B O Ts S) (l : K ≤ K') : On K' h L B O Ts S := ⟨o.g, o.bd.mono l, o.pk, o.fo⟩
theorem Case.tp {h : Nat} {L : List Lane} {B O : Nat → Nat → List Nat} {Ts : List Tr} {S : List St} (c : Case h L B O Ts S) : ∀ t ∈ Ts, 1 ≤ t.p ∧ t.p ≤ 1000 := fun t m => by
  obtain ⟨_, _, _, a, b⟩ := c.tr t m
  omega
theorem On.shw {K : Int} {h : Nat} {L : List Lane} {B O : Nat → Nat → List Nat} {Ts : List Tr} {S0 S : List St} (c : Case h L B O Ts S0) (hK : K ≤ 1000) (o : On K h L B O Ts S) : Shw 5 250000 (.list [netT h L, wayG h L B O, trainsD Ts, standD S]) :=
  caseL_shw c.h12 c.few c.net c.led (fun t m => by have := c.tp t m; omega) o.g (o.bd.mono hK)
theorem On.step {K : Int} {h : Nat} {L : List Lane} {B O : Nat → Nat → List Nat} {Ts : List Tr} {S0 S : List St} (c : Case h L B O Ts S0) (hK : 0 ≤ K) (o : On K h L B O Ts S) {j : Nat} {s : St} {x : Int} (e : S[j]? = some s) (m : ((j : Int), x) ∈ lawSteps L B O Ts S) : On (K + 1) h L B O Ts (S.set j (doneSt s x)) := by
  obtain ⟨n', s', e1, e2, hx⟩ := steps_mem o.g c.led m
  have e1 : (j : Int) = n' := e1
  obtain rfl : j = n' := by omega
  exact ⟨o.g.done (B := B) (O := O) e (hx.imp (fun z => z.1) id), BdS.done hK o.bd e, o.pk.step o.g c.led c.net (fun t m => (c.tp t m).1) e m, o.fo.step o.g c.led e m⟩
end La

namespace La
open PySem PySem.Spec PyProof.Rows L2 Tl
/-- a weighted sum of pieces -/
def wsum (f : Nat → Nat) (Q : List (Nat × Int)) : Int := (Q.map fun p => p.2 * (f p.1 : Int)).sum
@[simp] theorem wsum_nil (f : Nat → Nat) : wsum f [] = 0 := rfl
@[simp] theorem wsum_cons (f : Nat → Nat) (p : Nat × Int) (Q : List (Nat × Int)) : wsum f (p :: Q) = p.2 * (f p.1 : Int) + wsum f Q := by simp [wsum]
@[simp] theorem wsum_app (f : Nat → Nat) (A B : List (Nat × Int)) : wsum f (A ++ B) = wsum f A + wsum f B := by simp [wsum]
end La

namespace La
open PySem PySem.Spec PyProof.Rows L2 Tl
end La

namespace La
open PySem PySem.Spec PyProof.Rows L2 Tl
abbrev Wt := List Nat × List Nat
/-- a place of a goal that isn't the goal -/
def Plc (h : Nat) (L : List Lane) (B O : Nat → Nat → List Nat) (g p : Nat) : Prop := Cme h B O g p ∧ ∃ l, L[p]? = some l ∧ l.e ≠ g
/-- w tells what may be held and taken at p -/
def At24 (h : Nat) (B O : Nat → Nat → List Nat) (g p : Nat) (w : Wt) : Prop := (∀ l, l ∈ w.1 ↔ Hld h B O g l p) ∧ w.2 = O p g
/-- waits of the goals below k -/
structure WsP (h : Nat) (L : List Lane) (B O : Nat → Nat → List Nat) (k : Nat) (ws : List Wt) : Prop where
  sound : ∀ w ∈ ws, ∃ g p, g < k ∧ Plc h L B O g p ∧ At24 h B O g p w
  whole : ∀ g p, g < k → Plc h L B O g p → ∃ w ∈ ws, At24 h B O g p w
  len : ws.length ≤ k * L.length
  nd : ∀ w ∈ ws, w.1.Nodup
theorem WsP.next {h k : Nat} {L : List Lane} {B O : Nat → Nat → List Nat} {ws vs : List Wt} (i : WsP h L B O k ws) (a : ∀ w ∈ vs, ∃ p, Plc h L B O k p ∧ At24 h B O k p w) (b : ∀ p, Plc h L B O k p → ∃ w ∈ vs, At24 h B O k p w) (c : vs.length ≤ L.length) (d : ∀ w ∈ vs, w.1.Nodup) : WsP h L B O (k + 1) (ws ++ vs) := by
  refine ⟨fun w m => ?_, fun g p hg hp => ?_, by rw [List.length_append, Nat.succ_mul]; have := i.len; omega, fun w m => (List.mem_append.mp m).elim (i.nd w) (d w)⟩
  · rcases List.mem_append.mp m with m | m
    · obtain ⟨g, p, hg, x⟩ := i.sound w m
      exact ⟨g, p, by omega, x⟩
    · obtain ⟨p, x⟩ := a w m
      exact ⟨k, p, by omega, x⟩
  · by_cases q : g = k
    · subst q
      obtain ⟨w, m, x⟩ := b p hp
      exact ⟨w, List.mem_append_right _ m, x⟩
    · obtain ⟨w, m, x⟩ := i.whole g p (by omega) hp
      exact ⟨w, List.mem_append_left _ m, x⟩
end La

namespace La
open PySem PySem.Spec PyProof.Rows L2 Tl
end La

namespace La
open PySem PySem.Spec PyProof.Rows L2 Tl
end La

namespace La
open PySem PySem.Spec PyProof.Rows L2 Tl
def bE (Q : List Nat) (c : Nat → Int) : List (Key × D) := Q.map fun l => (kN l, .int (c l))
/-- the lanes of waits -/
def hdW (ws : List Wt) : List Nat := (ws.map (·.1)).flatten
theorem mem_hdW {ws : List Wt} {l : Nat} : l ∈ hdW ws ↔ ∃ w ∈ ws, l ∈ w.1 := by
  unfold hdW
  rw [List.mem_flatten]
  constructor
  · rintro ⟨X, mX, ml⟩
    obtain ⟨w, mw, rfl⟩ := List.mem_map.mp mX
    exact ⟨w, mw, ml⟩
  · rintro ⟨w, mw, ml⟩
    exact ⟨_, List.mem_map.mpr ⟨w, mw, rfl⟩, ml⟩
/-- S is among what some wait bars whose lanes are all in S -/
def Post24 (ws : List Wt) (S : Nat → Prop) : Prop := ∀ l, S l → ∃ w ∈ ws, l ∈ w.1 ∧ ∀ k ∈ w.2, S k
/-- the same by places -/
def PostP (h : Nat) (L : List Lane) (B O : Nat → Nat → List Nat) (S : Nat → Prop) : Prop := ∀ l, S l → ∃ g p, g < h ∧ Plc h L B O g p ∧ Hld h B O g l p ∧ ∀ k ∈ O p g, S k
theorem post_iff {h : Nat} {L : List Lane} {B O : Nat → Nat → List Nat} {ws : List Wt} (i : WsP h L B O h ws) (S : Nat → Prop) : Post24 ws S ↔ PostP h L B O S := by
  constructor
  · intro q l sl
    obtain ⟨w, mw, ml, hk⟩ := q l sl
    obtain ⟨g, p, hg, hp, ha, ho⟩ := i.sound w mw
    exact ⟨g, p, hg, hp, (ha l).mp ml, fun k mk => hk k (ho ▸ mk)⟩
  · intro q l sl
    obtain ⟨g, p, hg, hp, hl, hk⟩ := q l sl
    obtain ⟨w, mw, ha, ho⟩ := i.whole g p hg hp
    exact ⟨w, mw, (ha l).mpr hl, fun k mk => hk k (ho ▸ mk)⟩
/-- never taken out -/
def Sty (h : Nat) (L : List Lane) (B O : Nat → Nat → List Nat) (l : Nat) : Prop := ∃ S : Nat → Prop, PostP h L B O S ∧ S l
theorem Sty.post {h : Nat} {L : List Lane} {B O : Nat → Nat → List Nat} : PostP h L B O (Sty h L B O) := fun l ⟨S, q, sl⟩ => by
  obtain ⟨g, p, hg, hp, hl, hk⟩ := q l sl
  exact ⟨g, p, hg, hp, hl, fun k mk => ⟨S, q, hk k mk⟩⟩
theorem Sty.cme {h l : Nat} {L : List Lane} {B O : Nat → Nat → List Nat} (s : Sty h L B O l) : ∃ g, g < h ∧ Cme h B O g l := by
  obtain ⟨g, p, hg, _, hl, _⟩ := Sty.post l s
  exact ⟨g, hg, hl.1⟩
end La

namespace La
open PySem PySem.Spec PyProof.Rows L2 Tl
/-- all lanes that are places -/
structure AllP (h : Nat) (B O : Nat → Nat → List Nat) (k : Nat) (Q : List Nat) : Prop where
  nd : Q.Nodup
  mem : ∀ l, l ∈ Q ↔ ∃ g, g < k ∧ Cme h B O g l
theorem AllP.lt {h k N : Nat} {B O : Nat → Nat → List Nat} {Q : List Nat} (w : ∀ g, g < h → WfW h N B O g) (hk : k ≤ h) (a : AllP h B O k Q) : ∀ l ∈ Q, l < N := fun l m => by
  obtain ⟨g, hg, c⟩ := (a.mem l).mp m
  exact c.lt (w g (by omega))
theorem AllP.next {h k N : Nat} {B O : Nat → Nat → List Nat} {Q : List Nat} (w : WfW h N B O k) (a : AllP h B O k Q) : AllP h B O (k + 1) (addN Q (plc h N B O k)) := by
  refine ⟨addN_nodup a.nd (plc_nodup h N k B O), fun l => ?_⟩
  rw [mem_addN, a.mem, mem_plc w]
  constructor
  · rintro (⟨g, hg, c⟩ | c)
    · exact ⟨g, by omega, c⟩
    · exact ⟨k, by omega, c⟩
  · rintro ⟨g, hg, c⟩
    by_cases q : g = k
    · subst q
      exact .inr c
    · exact .inl ⟨g, by omega, c⟩
end La

namespace La
open PySem PySem.Spec PyProof.Rows L2 Tl
structure Jn (Q U : List Nat) (c : Nat → Int) (W : List Nat) : Prop where
  nd : W.Nodup
  w : ∀ l ∈ W, l ∈ Q ∧ l ∉ U
  z : ∀ l ∈ Q, c l = 0 ↔ l ∈ U ∨ l ∈ W
end La

namespace La
open PySem PySem.Spec PyProof.Rows L2 Tl
end La

namespace La
open PySem PySem.Spec PyProof.Rows L2 Tl
/-- the loop's invariant -/
structure ItP (h : Nat) (L : List Lane) (B O : Nat → Nat → List Nat) (Q : List Nat) (ws0 : List Wt) (U : List Nat) (c : Nat → Int) (W : List Nat) (ws : List Wt) : Prop where
  wE : ws = ws0.filter fun v => decide (∀ u ∈ U, u ∉ v.2)
  cE : ∀ l, c l = ((hdW ws).count l : Nat)
  j : Jn Q U c W
  nd : U.Nodup
  sub : ∀ u ∈ U, u ∈ Q
  ns : ∀ u ∈ U, ¬ Sty h L B O u
  od : ∀ (i l : Nat), U[i]? = some l → ∀ w ∈ ws0, l ∈ w.1 → ∃ j u, j < i ∧ U[j]? = some u ∧ u ∈ w.2
theorem cnt_ne {ws : List Wt} {l : Nat} : ((hdW ws).count l : Int) ≠ 0 ↔ ∃ w ∈ ws, l ∈ w.1 := by
  rw [← mem_hdW, ← List.count_pos_iff]
  omega
theorem ItP.sty {h : Nat} {L : List Lane} {B O : Nat → Nat → List Nat} {Q : List Nat} {ws0 : List Wt} {U : List Nat} {c : Nat → Int} {W : List Nat} {ws : List Wt} (p : WsP h L B O h ws0) (i : ItP h L B O Q ws0 U c W ws) {l : Nat} (s : Sty h L B O l) : c l ≠ 0 := by
  rw [i.cE, cnt_ne]
  obtain ⟨w, mw, ml, hk⟩ := (post_iff p (Sty h L B O)).mpr Sty.post l s
  refine ⟨w, ?_, ml⟩
  rw [i.wE, List.mem_filter, decide_eq_true_iff]
  exact ⟨mw, fun u mu m => i.ns u mu (hk u m)⟩
theorem ItP.lt {h : Nat} {L : List Lane} {B O : Nat → Nat → List Nat} {Q : List Nat} {ws0 : List Wt} {U : List Nat} {c : Nat → Int} {W : List Nat} {ws : List Wt} (hQ : ∀ l ∈ Q, l < 60) (i : ItP h L B O Q ws0 U c W ws) : U.length ≤ 60 := len_lt i.nd fun l m => hQ l (i.sub l m)
theorem ItP.more {h l : Nat} {L : List Lane} {B O : Nat → Nat → List Nat} {Q : List Nat} {ws0 : List Wt} {U : List Nat} {c : Nat → Int} {W : List Nat} {ws : List Wt} (i : ItP h L B O Q ws0 U c (W ++ [l]) ws) : ∀ (n k : Nat), (U ++ [l])[n]? = some k → ∀ w ∈ ws0, k ∈ w.1 → ∃ (j u : Nat), j < n ∧ (U ++ [l])[j]? = some u ∧ u ∈ w.2 := by
  intro n k e w mw mk
  by_cases hn : n < U.length
  · rw [List.getElem?_append_left hn] at e
    obtain ⟨j, u, hj, e2, m⟩ := i.od n k e w mw mk
    exact ⟨j, u, hj, by rw [List.getElem?_append_left (by omega)]; exact e2, m⟩
  · have ln := (List.getElem?_eq_some_iff.mp e).1
    rw [List.length_append, List.length_singleton] at ln
    have en : n = U.length := by omega
    subst en
    rw [List.getElem?_append_right (Nat.le_refl _), Nat.sub_self] at e
    cases e
    have a := (i.j.w l (by simp)).1
    have z := (i.j.z l a).mpr (.inr (by simp))
    have nw : w ∉ ws := fun m => by
      have : c l ≠ 0 := by
        rw [i.cE, cnt_ne]
        exact ⟨w, m, mk⟩
      exact this z
    rw [i.wE, List.mem_filter, decide_eq_true_iff] at nw
    have : ∃ u, u ∈ U ∧ u ∈ w.2 := Classical.byContradiction fun y => nw ⟨mw, fun u mu mu2 => y ⟨u, mu, mu2⟩⟩
    obtain ⟨u, mu, mu2⟩ := this
    obtain ⟨j, hj, e⟩ := List.getElem_of_mem mu
    exact ⟨j, u, hj, by rw [List.getElem?_append_left hj, List.getElem?_eq_getElem hj, e], mu2⟩
theorem ItP.end {h : Nat} {L : List Lane} {B O : Nat → Nat → List Nat} {Q : List Nat} {ws0 : List Wt} {U : List Nat} {c : Nat → Int} {ws : List Wt} (w : ∀ g, g < h → WfW h L.length B O g) (aQ : AllP h B O h Q) (p : WsP h L B O h ws0) (i : ItP h L B O Q ws0 U c [] ws) (l : Nat) : (l ∈ Q ∧ 0 < c l) ↔ Sty h L B O l := by
  have pos : ∀ l, 0 < c l ↔ c l ≠ 0 := fun l => by
    rw [i.cE]
    omega
  constructor
  · intro a
    refine ⟨fun l => l ∈ Q ∧ 0 < c l, (post_iff p _).mp ?_, a⟩
    rintro l ⟨mQ, cl⟩
    rw [pos, i.cE, cnt_ne] at cl
    obtain ⟨v, mv, ml⟩ := cl
    rw [i.wE, List.mem_filter, decide_eq_true_iff] at mv
    refine ⟨v, mv.1, ml, fun k mk => ?_⟩
    have kQ : k ∈ Q := by
      obtain ⟨g, q, hg, hp, ha, ho⟩ := p.sound v mv.1
      rw [ho] at mk
      exact (aQ.mem k).mpr ⟨g, hg, .step hp.1 mk⟩
    refine ⟨kQ, (pos k).mpr fun z => ?_⟩
    rcases (i.j.z k kQ).mp z with y | y
    · exact mv.2 k y mk
    · cases y
  · intro s
    obtain ⟨g, hg, cm⟩ := s.cme
    exact ⟨(aQ.mem l).mpr ⟨g, hg, cm⟩, (pos l).mpr (i.sty p s)⟩
end La

namespace La
open PySem PySem.Spec PyProof.Rows L2 Tl
end La

namespace La
open PySem PySem.Spec PyProof.Rows L2 Tl
/-- what is barred so that no lane of it is out -/
def gotL (K : List Nat) (G : List Nat) (w : Wt) : List Nat := if w.2.all (fun k => decide (k ∈ K)) = true then addN G w.1 else G
theorem mem_fold (K : List Nat) : ∀ (ws : List Wt) (G : List Nat) (l : Nat), l ∈ ws.foldl (gotL K) G ↔ l ∈ G ∨ ∃ w ∈ ws, l ∈ w.1 ∧ ∀ k ∈ w.2, k ∈ K
  | [], G, l => by simp
  | w :: ws, G, l => by
    rw [List.foldl_cons, mem_fold K ws]
    have : l ∈ gotL K G w ↔ l ∈ G ∨ (l ∈ w.1 ∧ ∀ k ∈ w.2, k ∈ K) := by
      unfold gotL
      by_cases q : w.2.all (fun k => decide (k ∈ K)) = true
      · rw [if_pos q, mem_addN]
        simp only [List.all_eq_true, decide_eq_true_iff] at q
        exact ⟨fun a => a.elim .inl fun b => .inr ⟨b, q⟩, fun a => a.elim .inl fun b => .inr b.1⟩
      · rw [if_neg q]
        simp only [List.all_eq_true, decide_eq_true_iff] at q
        exact ⟨.inl, fun a => a.elim id fun b => absurd b.2 q⟩
    rw [this]
    constructor
    · rintro ((a | a) | ⟨v, mv, a⟩)
      · exact .inl a
      · exact .inr ⟨w, List.mem_cons_self, a⟩
      · exact .inr ⟨v, List.mem_cons_of_mem _ mv, a⟩
    · rintro (a | ⟨v, mv, a⟩)
      · exact .inl (.inl a)
      · rcases List.mem_cons.mp mv with rfl | mv
        · exact .inl (.inr a)
        · exact .inr ⟨v, mv, a⟩
/-- the loop's invariant -/
structure Lf (h : Nat) (L : List Lane) (B O : Nat → Nat → List Nat) (ws : List Wt) (K : List Nat) (b : Int) : Prop where
  nd : K.Nodup
  lt : ∀ l ∈ K, l < 60
  sty : ∀ l, Sty h L B O l → l ∈ K
  fx : b = (K.length : Nat) → ∀ l ∈ K, ∃ w ∈ ws, l ∈ w.1 ∧ ∀ k ∈ w.2, k ∈ K
theorem Lf.next {h : Nat} {L : List Lane} {B O : Nat → Nat → List Nat} {ws : List Wt} {K : List Nat} {b : Int} (p : WsP h L B O h ws) (i : Lf h L B O ws K b) : Lf h L B O ws (K.filter fun l => decide (l ∈ ws.foldl (gotL K) [])) (K.length : Nat) := by
  have hm : ∀ l, l ∈ ws.foldl (gotL K) [] ↔ ∃ w ∈ ws, l ∈ w.1 ∧ ∀ k ∈ w.2, k ∈ K := fun l => by
    rw [mem_fold]
    simp
  refine ⟨i.nd.filter _, fun l m => i.lt l (List.mem_filter.mp m).1, fun l s => ?_, fun e l m => ?_⟩
  · rw [List.mem_filter, decide_eq_true_iff, hm]
    obtain ⟨v, mv, a, c⟩ := (post_iff p (Sty h L B O)).mpr Sty.post l s
    exact ⟨i.sty l s, v, mv, a, fun k mk => i.sty k (c k mk)⟩
  · have e2 : (K.filter fun l => decide (l ∈ ws.foldl (gotL K) [])).length = K.length := by omega
    have e3 := List.filter_eq_self.mpr (List.length_filter_eq_length_iff.mp e2)
    rw [e3] at m ⊢
    rw [← e3, List.mem_filter, decide_eq_true_iff, hm] at m
    exact m.2
theorem Lf.end {h : Nat} {L : List Lane} {B O : Nat → Nat → List Nat} {ws : List Wt} {K : List Nat} (p : WsP h L B O h ws) (i : Lf h L B O ws K (K.length : Nat)) (l : Nat) : l ∈ K ↔ Sty h L B O l :=
  ⟨fun m => ⟨fun l => l ∈ K, (post_iff p _).mp fun l m => i.fx rfl l m, m⟩, i.sty l⟩
end La

namespace La
open PySem PySem.Spec PyProof.Rows L2 Tl
end La

namespace La
open PySem PySem.Spec PyProof.Rows L2 Tl
end La

namespace La
open PySem PySem.Spec PyProof.Rows L2 Tl
end La

namespace La
open PySem PySem.Spec PyProof.Rows L2 Tl
end La

namespace La
open PySem PySem.Spec PyProof.Rows L2 Tl
variable {h g : Nat} {L : List Lane} {B O : Nat → Nat → List Nat}
end La

namespace La
open PySem PySem.Spec PyProof.Rows L2 Tl
def s_is_by_houses_1 : MS := (mRet (mX (mOp gAll (mCons (mLc [2, 3] (iZipM (mBin gIx (mVar 0) (mC (.int 1))) (mBin gIx (mVar 1) (mC (.int 1)))) (gtT (gtCons (gtN 2) (gtCons (gtN 3) gtNil))) mYes (mBin (gp pEq) (mVar 3) (mBin gIx (mBin gIx (mVar 1) (mC (.int 0))) (mBin gIx (mVar 2) (mC (.int 1)))))) mNil))))
theorem pieces_is_by_houses : b_is_by_houses = (mSeq s_is_by_houses_1 mNx) := rfl
end La

namespace La
open PySem PySem.Spec PyProof.Rows L2 Tl
end La

namespace La
open PySem PySem.Spec PyProof.Rows L2 Tl
theorem lay_rowD (h x : Nat) (V : Nat → Nat → List Nat) : PyData.canLayAll0 (rowD h V x) = true ∧ PyData.depthAll (rowD h V x) ≤ 1 := by
  have : ∀ xs : List Nat, PyData.canLayAll0 (xs.map fun g => natsT (V x g)) = true ∧ PyData.depthAll (xs.map fun g => natsT (V x g)) ≤ 1 := by
    intro xs
    induction xs with
    | nil => exact ⟨rfl, by simp [PyData.depthAll]⟩
    | cons g xs ih =>
      obtain ⟨a, b⟩ := ih
      obtain ⟨c, d⟩ := natsT_lay (V x g)
      refine ⟨?_, ?_⟩
      · rw [List.map_cons, PyData.canLayAll0, c, a]
        rfl
      · rw [List.map_cons, PyData.depthAll, d]
        omega
  exact this (List.range h)
theorem shaped_rowD (h x : Nat) (V : Nat → Nat → List Nat) : SeqAt.shaped (.list (rowD h V x)) = true := by
  obtain ⟨a, b⟩ := lay_rowD h x V
  unfold SeqAt.shaped
  have c : PyData.canLay0 (.list (rowD h V x)) = true := by simpa [PyData.canLay0] using a
  rw [c, PyData.depth]
  have : PyData.depthAll (rowD h V x) ≤ 63 := by omega
  simpa using this
def rowEq (h : Nat) (U V : Nat → List Nat) : Bool := (List.range h).all fun g => decide (U g = V g)
theorem eqv_natsT2 (a b : List Nat) : PyData.eqv (natsT a) (natsT b) = decide (a = b) := by
  have e := eqv_ints (a.map fun n : Nat => (n : Int)) (b.map fun n : Nat => (n : Int))
  rw [List.map_map, List.map_map] at e
  show PyData.eqv (.tuple (a.map natD)) (.tuple (b.map natD)) = _
  rw [eqv_tuple]
  refine e.trans ?_
  by_cases q : a = b
  · subst q
    simp
  · have : ¬ (a.map fun n : Nat => (n : Int)) = b.map fun n : Nat => (n : Int) := fun z => q (List.map_inj_right (fun x y h => by omega) |>.mp z)
    rw [decide_eq_false q, decide_eq_false this]
theorem eqv_rowD (h x y : Nat) (U V : Nat → Nat → List Nat) : PyData.eqvAll (rowD h U x) (rowD h V y) = rowEq h (U x) (V y) := by
  have : ∀ xs : List Nat, PyData.eqvAll (xs.map fun g => natsT (U x g)) (xs.map fun g => natsT (V y g)) = xs.all fun g => decide (U x g = V y g) := by
    intro xs
    induction xs with
    | nil => simp
    | cons g xs ih =>
      rw [List.map_cons, List.map_cons, eqvAll_cc, ih, eqv_natsT2, List.all_cons]
  exact this (List.range h)
/-- each lane's end and its house have the same -/
def byhB (h : Nat) (L : List Lane) (B O : Nat → Nat → List Nat) : Bool := (L.zip (List.range L.length)).all fun p => rowEq h (O p.2) (B p.1.e)
theorem isByHouses_ok {h : Nat} {L : List Lane} {B O : Nat → Nat → List Nat} (hL : Ln h L) : m_is_by_houses [.leaf (netT h L), .leaf (wayG h L B O)] = some (.leaf (.bool (byhB h L B O)), [.leaf (netT h L), .leaf (wayG h L B O)]) := by
  have f1 : s_is_by_houses_1 ⟨[some (netT h L), some (wayG h L B O), none, none], []⟩ = some (.rt (.leaf (.bool (byhB h L B O))) ⟨[some (netT h L), some (wayG h L B O), none, none], []⟩) := by
    generalize hG : s_is_by_houses_1 _ = y
    have en : netT h L = .tuple [.int h, .list (L.map laneD)] := rfl
    have ez : zipD (L.map laneD) (rowsL L.length h O) = (L.zip (List.range L.length)).map fun p => .tuple [laneD p.1, .list (rowD h O p.2)] := zipD_map laneD (fun j => .list (rowD h O j)) L (List.range L.length)
    have i0 := ix_wayG0 h L B O
    have i1 := ix_wayG1 h L B O
    have ix0 := fun x (hx : x < h) => ix_rows (N := h) (h := h) (V := B) hx
    generalize hRB : rowsL h h B = RB at *
    generalize hRO : rowsL L.length h O = RO at *
    generalize wayG h L B O = Y at *
    rw [en] at hG ⊢
    generalize hLD : L.map laneD = LD at *
    simp [s_is_by_houses_1, i0, i1, ez] at hG
    generalize hC : lcLoop _ _ _ _ _ _ _ _ _ = z at hG
    obtain rfl := lc_typM hC (fun p => .bool (rowEq h (O p.2) (B p.1.e))) rfl fun p m => by
      obtain ⟨l, j⟩ := p
      have ml : l ∈ L := (List.of_mem_zip m).1
      have he := (hL l ml).2.1
      have ix := ix0 l.e he
      have s1 := shaped_rowD h j O
      have s2 := shaped_rowD h l.e B
      have eq := eqv_rowD h j l.e O B
      have el : laneD l = .tuple [.int l.b, .int l.e, .int l.r] := rfl
      rw [el]
      simp only
      generalize rowD h O j = R1 at *
      generalize rowD h B l.e = R2 at *
      exact ⟨_, by simp; rfl, rd (.bool (rowEq h (O j) (B l.e))), by simp [i0, ix, s1, s2, eq], rfl⟩
    have b1 := boolsD_mapA (fun p : Lane × Nat => rowEq h (O p.2) (B p.1.e)) (L.zip (List.range L.length))
    have b2 : Tl.allB ((L.zip (List.range L.length)).map fun p => rowEq h (O p.2) (B p.1.e)) = byhB h L B O := by
      unfold byhB
      rw [allB_map]
    rw [List.nil_append] at hG
    generalize (L.zip (List.range L.length)).map (fun p => PyData.bool (rowEq h (O p.2) (B p.1.e))) = Z1 at *
    generalize (L.zip (List.range L.length)).map (fun p => rowEq h (O p.2) (B p.1.e)) = Z2 at *
    rw [← hG]
    simp [b1, b2, hLD]
  have run : b_is_by_houses ⟨[some (netT h L), some (wayG h L B O), none, none], []⟩ = some (.rt (.leaf (.bool (byhB h L B O))) ⟨[some (netT h L), some (wayG h L B O), none, none], []⟩) := by
    rw [pieces_is_by_houses, seq_rtw f1]
  generalize netT h L = N at *
  generalize wayG h L B O = Y at *
  simp [m_is_by_houses, run]
end La

namespace Tl
open PySem PySem.Spec PyProof.Rows L2
theorem forA_typ {α : Type} {ws : List Nat} {mt : MG} {body : MS} {e : α → D} {xs : List α} {s : SS} {x : Option Out} (h : forL ws mt body (xs.map e) s = x) (P : α → Bool) (SI : SS → Prop) (bad : T) (i : SI s)
    (step : ∀ a ∈ xs, ∀ s, SI s → ∃ fz, mt (e a) s.fz = some fz ∧ (P a = true → ∃ s', body ⟨fz, tout ws s.ow⟩ = some (.nx s') ∧ SI s') ∧ (P a = false → ∃ s', body ⟨fz, tout ws s.ow⟩ = some (.rt bad s'))) :
    (xs.all P = true ∧ ∃ s', x = some (.nx s') ∧ SI s') ∨ (xs.all P = false ∧ ∃ s', x = some (.rt bad s')) := by
  subst h
  induction xs generalizing s with
  | nil => exact .inl ⟨rfl, s, rfl, i⟩
  | cons d ds ih =>
    obtain ⟨fz, e1, a, b⟩ := step d List.mem_cons_self s i
    have eF : ∀ o, body ⟨fz, tout ws s.ow⟩ = some o → forL ws mt body ((d :: ds).map e) s = (match o with
      | .nx s1 => forL ws mt body (ds.map e) s1
      | .ct s1 => forL ws mt body (ds.map e) s1
      | .bk s1 => some (.nx s1)
      | .rt t s1 => some (.rt t s1)) := by
      intro o eo
      show (mt (e d) s.fz).bind _ = _
      rw [e1]
      show (body ⟨fz, tout ws s.ow⟩).bind _ = _
      rw [eo]
      rfl
    cases q : P d with
    | true =>
      obtain ⟨s1, e2, h1⟩ := a q
      rw [eF _ e2, List.all_cons, q, Bool.true_and]
      exact ih h1 fun a m => step a (List.mem_cons_of_mem _ m)
    | false =>
      obtain ⟨s1, e2⟩ := b q
      rw [eF _ e2, List.all_cons, q, Bool.false_and]
      exact .inr ⟨rfl, s1, rfl⟩
end Tl
namespace La
open PySem PySem.Spec PyProof.Rows L2 Tl
end La

namespace La
open PySem PySem.Spec PyProof.Rows L2 Tl
theorem lcU_typ {α : Type} {x : Nat} {vs : List Nat} {me : MV} {fw : Fz} {vw τ : Tau} {y : Option (List T × Tau)} {e : α → T} {xs : List α} {acc : List T} (h : lcLoopU x vs me fw vw (xs.map e) acc τ = y) (f : α → T) (hτ : tout vs τ = τ)
    (hm : ∀ a ∈ xs, ∃ r, me ⟨fw, (x, e a) :: vw⟩ τ = some (r, τ) ∧ r.t = some (f a)) : y = some (acc ++ xs.map f, τ) := by
  subst h
  induction xs generalizing acc with
  | nil => simp [lcLoopU]
  | cons a xs ih =>
    obtain ⟨r, e1, e2⟩ := hm a List.mem_cons_self
    have ih := ih (acc := acc ++ [f a]) fun b m => hm b (List.mem_cons_of_mem _ m)
    show ((me ⟨fw, (x, e a) :: vw⟩ τ).bind fun q => q.1.t.bind fun y => lcLoopU x vs me fw vw (xs.map e) (acc ++ [y]) (tout vs q.2)) = _
    rw [e1]
    show (r.t.bind fun y => lcLoopU x vs me fw vw (xs.map e) (acc ++ [y]) (tout vs τ)) = _
    rw [e2, hτ]
    show lcLoopU x vs me fw vw (xs.map e) (acc ++ [f a]) τ = _
    rw [ih, List.map_cons, List.append_assoc, List.singleton_append]
theorem lcV_typ {α : Type} {x : Nat} {vs : List Nat} {me : MV} {fw : Fz} {vw τ : Tau} {y : Option (List D × Tau)} {e : α → T} {xs : List α} {acc : List D} (h : lcLoopV x vs me fw vw (xs.map e) acc τ = y) (f : α → D) (hτ : tout vs τ = τ)
    (hm : ∀ a ∈ xs, ∃ r, me ⟨fw, (x, e a) :: vw⟩ τ = some (r, τ) ∧ r.st = some (f a)) : y = some (acc ++ xs.map f, τ) := by
  subst h
  induction xs generalizing acc with
  | nil => simp [lcLoopV]
  | cons a xs ih =>
    obtain ⟨r, e1, e2⟩ := hm a List.mem_cons_self
    have ih := ih (acc := acc ++ [f a]) fun b m => hm b (List.mem_cons_of_mem _ m)
    show ((me ⟨fw, (x, e a) :: vw⟩ τ).bind fun q => q.1.st.bind fun y => lcLoopV x vs me fw vw (xs.map e) (acc ++ [y]) (tout vs q.2)) = _
    rw [e1]
    show (r.st.bind fun y => lcLoopV x vs me fw vw (xs.map e) (acc ++ [y]) (tout vs τ)) = _
    rw [e2, hτ]
    show lcLoopV x vs me fw vw (xs.map e) (acc ++ [f a]) τ = _
    rw [ih, List.map_cons, List.append_assoc, List.singleton_append]
def on11 (h : Nat) (L : List Lane) (W : Nat → Nat → List Nat) : T := .ls (L.map fun l => .fl (rowD h W l.e))
theorem fz_on11 (h : Nat) (L : List Lane) (W : Nat → Nat → List Nat) : T.fz (.tup [tb11 h W, on11 h L W]) = some (wayG h L W (onW L W)) := by
  rw [← wayD_G]
  have e1 := fz_tb11 h W
  have e2 := fzL_fl (fun l : Lane => rowD h W l.e) L
  unfold wayD on11
  generalize tb11 h W = A at *
  generalize tabD h W = B at *
  generalize (L.map fun l => PyData.list (rowD h W l.e)) = C at *
  generalize (L.map fun l => T.fl (rowD h W l.e)) = E at *
  simp [e1, e2]
theorem taken11_ok {h : Nat} {L : List Lane} {W : Nat → Nat → List Nat} (hL : Ln h L) : m_taken_by_houses_k11 [.leaf (netT h L), tb11 h W] = some (.tup [tb11 h W, on11 h L W], [.leaf (netT h L), tb11 h W]) := by
  have at1 := fun x (hx : x < h) => tb11_at (W := W) hx
  have f1 : s_taken_by_houses_k11_1 ⟨[some (netT h L), none, none, none, none, none], [(1, tb11 h W)]⟩ = some (.rt (.tup [tb11 h W, on11 h L W]) ⟨[some (netT h L), none, none, none, none, none], [(1, tb11 h W)]⟩) := by
    generalize hG : s_taken_by_houses_k11_1 _ = y
    unfold tb11 at hG
    generalize hTS : ((List.range h).map fun x => (T.fl (rowD h W x))) = TS at hG
    simp [s_taken_by_houses_k11_1] at hG
    generalize hC : lcLoopU _ _ _ _ _ _ _ _ = z at hG
    rw [← hTS] at hC
    obtain rfl := lcU_typ hC (fun x => .fl (rowD h W x)) rfl fun x m => by
      generalize rowD h W x = RW
      exact ⟨.val (.fl RW), by simp, rfl⟩
    rw [hTS] at hG
    simp at hG
    generalize hC2 : lcLoopT _ _ _ _ _ _ _ _ _ = z at hG
    obtain rfl := lcT_typM hC2 (fun l => .fl (rowD h W l.e)) rfl fun l m => by
      have hle := (hL l m).2.1
      have a1 := at1 l.e hle
      rw [hTS] at a1
      generalize rowD h W l.e = RW at *
      have g1 : gIx [.vw (.ls TS), .val (.leaf (.int ((l.e : Nat) : Int)))] = some (.vw (.fl RW)) := by
        simp [atI_ofNat, a1]
      exact ⟨_, by simp [laneD]; rfl, .val (.fl RW), by simp [g1], rfl⟩
    subst hG
    unfold tb11 on11
    rw [hTS]
    simp
  have eB := (congrFun pieces_taken_by_houses_k11 _).trans (seqFr f1)
  generalize netT h L = N at *
  generalize T.tup [tb11 h W, on11 h L W] = R at *
  generalize tb11 h W = A at *
  simp [m_taken_by_houses_k11, eB]
theorem zip_way11 {h : Nat} {L : List Lane} {O : Nat → Nat → List Nat} : zipD (L.map laneD) (rowsL L.length h O) = (L.zip (List.range L.length)).map fun p => .tuple [laneD p.1, .list (rowD h O p.2)] := zipD_map laneD (fun j => .list (rowD h O j)) L (List.range L.length)
theorem lawDue11_ok {h : Nat} {L : List Lane} {B O : Nat → Nat → List Nat} (hL : Ln h L) : m_law_due [.leaf (netT h L), .leaf (wayG h L B O)] = some (.leaf (.bool (byhB h L B O)), [.leaf (netT h L), .leaf (wayG h L B O)]) := by
  have ez := zip_way11 (h := h) (L := L) (O := O)
  have i0 := ix_wayG0 h L B O
  have i1 := ix_wayG1 h L B O
  have ix0 := fun x (hx : x < h) => ix_rows (N := h) (h := h) (V := B) hx
  have en : netT h L = .tuple [.int h, .list (L.map laneD)] := rfl
  generalize hRB : rowsL h h B = RB at *
  generalize hRO : rowsL L.length h O = RO at *
  generalize wayG h L B O = Y at *
  have f1 : (byhB h L B O = true ∧ ∃ a b, s_law_due_1 ⟨[some (netT h L), some Y, none, none], []⟩ = some (.nx ⟨[some (netT h L), some Y, a, b], []⟩)) ∨ (byhB h L B O = false ∧ ∃ s', s_law_due_1 ⟨[some (netT h L), some Y, none, none], []⟩ = some (.rt (.leaf (.bool false)) s')) := by
    generalize hF : s_law_due_1 _ = y
    rw [en] at hF ⊢
    generalize hLD : L.map laneD = LD at *
    simp [s_law_due_1, i0, i1, ez] at hF
    rcases forA_typ hF (fun p => rowEq h (O p.2) (B p.1.e)) (fun s => ∃ a b, s = ⟨[some (.tuple [.int (h : Int), .list LD]), some Y, a, b], []⟩) (.leaf (.bool false)) ⟨none, none, rfl⟩ (by
      rintro ⟨l, j⟩ m s ⟨a, b, rfl⟩
      have ml : l ∈ L := (List.of_mem_zip m).1
      have he := (hL l ml).2.1
      have ix := ix0 l.e he
      have s1 := shaped_rowD h j O
      have s2 := shaped_rowD h l.e B
      have eq := eqv_rowD h j l.e O B
      have el : laneD l = .tuple [.int l.b, .int l.e, .int l.r] := rfl
      rw [el]
      simp only
      generalize rowD h O j = R1 at *
      generalize rowD h B l.e = R2 at *
      generalize rowEq h (O j) (B l.e) = q at *
      refine ⟨_, by simp; rfl, fun hq => ?_, fun hq => ?_⟩
      · subst hq
        exact ⟨⟨[some (.tuple [.int (h : Int), .list LD]), some Y, some (.tuple [.int l.b, .int l.e, .int l.r]), some (.list R1)], []⟩, by simp [s_law_due_1b_1, i0, ix, s1, s2, eq], _, _, rfl⟩
      · subst hq
        exact ⟨_, by simp [s_law_due_1b_1, i0, ix, s1, s2, eq]; rfl⟩) with ⟨h1, s', rfl, a, b, rfl⟩ | ⟨h1, s', rfl⟩
    · exact .inl ⟨h1, a, b, rfl⟩
    · exact .inr ⟨h1, s', rfl⟩
  rcases f1 with ⟨h1, a, b, f1⟩ | ⟨h1, s', f1⟩
  · rw [h1]
    have f2 : s_law_due_2 ⟨[some (netT h L), some Y, a, b], []⟩ = some (.rt (.leaf (.bool true)) ⟨[some (netT h L), some Y, a, b], []⟩) := by
      simp [s_law_due_2]
    have eB := (congrFun pieces_law_due _).trans (seqF f1 (seqFr f2))
    generalize netT h L = N at *
    simp [m_law_due, eB]
  · rw [h1]
    have eB := (congrFun pieces_law_due _).trans (seqFr f1)
    generalize netT h L = N at *
    simp [m_law_due, eB]
end La

namespace La
open PySem PySem.Spec PyProof.Rows L2 Tl
end La

namespace La
open PySem PySem.Spec PyProof.Rows L2 Tl
end La

namespace La
open PySem PySem.Spec PyProof.Rows L2 Tl
end La

namespace La
open PySem PySem.Spec PyProof.Rows L2 Tl
end La

namespace La
open PySem PySem.Spec PyProof.Rows L2 Tl
def wstep (S : List St) (q : Int × Int) : List St := match S[q.1.toNat]? with
  | some s => S.set q.1.toNat (doneSt s q.2)
  | none => S
def wafter (Ts : List Tr) (Q : List (Int × Int)) : List St := Q.foldl wstep (began Ts)
theorem wafter_snoc (Ts : List Tr) (Q : List (Int × Int)) (q : Int × Int) : wafter Ts (Q ++ [q]) = wstep (wafter Ts Q) q := by
  unfold wafter
  rw [List.foldl_append]
  rfl
theorem wstep_at {S : List St} {j : Nat} {s : St} {x : Int} (e : S[j]? = some s) : wstep S ((j : Int), x) = S.set j (doneSt s x) := by
  unfold wstep
  show (match S[(j : Int).toNat]? with
    | some s => S.set (j : Int).toNat (doneSt s x)
    | none => S) = _
  rw [Int.toNat_natCast, e]
/-- a weaving: each pair is a step there -/
def Wv (L : List Lane) (B O : Nat → Nat → List Nat) (Ts : List Tr) (Q : List (Int × Int)) : Prop := ∀ k q, Q[k]? = some q → q ∈ lawSteps L B O Ts (wafter Ts (Q.take k))
theorem Wv.nil {L : List Lane} {B O : Nat → Nat → List Nat} {Ts : List Tr} : Wv L B O Ts [] := fun k q e => by simp at e
theorem Wv.snoc {L : List Lane} {B O : Nat → Nat → List Nat} {Ts : List Tr} {Q : List (Int × Int)} (w : Wv L B O Ts Q) {q : Int × Int} (m : q ∈ lawSteps L B O Ts (wafter Ts Q)) : Wv L B O Ts (Q ++ [q]) := fun k p e => by
  by_cases h : k < Q.length
  · rw [List.getElem?_append_left h] at e
    rw [List.take_append_of_le_length (Nat.le_of_lt h)]
    exact w k p e
  · have hk := (List.getElem?_eq_some_iff.mp e).1
    rw [List.length_append, List.length_singleton] at hk
    have : k = Q.length := by omega
    subst this
    rw [List.getElem?_append_right (Nat.le_refl _), Nat.sub_self] at e
    simp at e
    subst e
    rw [List.take_left']
    · exact m
    · rfl
end La

namespace La
open PySem PySem.Spec PyProof.Rows L2 Tl
def pcK (p : Nat × Int) : NK := .tup [.num p.1, .num p.2]
def stK (s : St) : NK := .tup [.num s.left, .tup (s.held.map pcK), .num s.come]
def kyS (S : List St) : NK := .tup (S.map stK)
abbrev Pth := List (Int × Int)
def kq (Ts : List Tr) (Q : Pth) : NK := kyS (wafter Ts Q)
def extP (Ts : List Tr) (K : List Pth) (Q : Pth) : List Pth := if kq Ts Q ∈ K.map (kq Ts) then K else K ++ [Q]
section
variable (L : List Lane) (B O : Nat → Nat → List Nat) (Ts : List Tr)
def nxt (Q : Pth) : List (Int × Int) := lawSteps L B O Ts (wafter Ts Q)
/-- what is kept of the list -/
structure KOk (i : Nat) (K : List Pth) : Prop where
  nd : (K.map (kq Ts)).Nodup
  wv : ∀ Q ∈ K, Wv L B O Ts Q
  pa : ∀ Q ∈ K, Q = [] ∨ Q.dropLast ∈ K
  ln : ∀ Q ∈ K, Q.length ≤ i
end
section
variable {L : List Lane} {B O : Nat → Nat → List Nat} {Ts : List Tr}
theorem KOk.ext {i : Nat} {K : List Pth} {Q : Pth} {q : Int × Int} (k : KOk L B O Ts (i + 1) K) (mq : Q ∈ K) (lq : Q.length ≤ i) (ms : q ∈ nxt L B O Ts Q) : KOk L B O Ts (i + 1) (extP Ts K (Q ++ [q])) := by
  unfold extP
  split
  · exact k
  · next ne =>
    refine ⟨?_, fun P m => ?_, fun P m => ?_, fun P m => ?_⟩
    · rw [List.map_append, List.nodup_append]
      refine ⟨k.nd, by simp, fun a ma b mb e => ?_⟩
      rw [List.map_singleton, List.mem_singleton] at mb
      subst e mb
      exact ne ma
    · rcases List.mem_append.mp m with m | m
      · exact k.wv P m
      · rw [List.mem_singleton.mp m]
        exact (k.wv Q mq).snoc ms
    · rcases List.mem_append.mp m with m | m
      · exact (k.pa P m).imp id fun z => List.mem_append_left _ z
      · rw [List.mem_singleton.mp m, List.dropLast_concat]
        exact .inr (List.mem_append_left _ mq)
    · rcases List.mem_append.mp m with m | m
      · exact k.ln P m
      · rw [List.mem_singleton.mp m, List.length_append, List.length_singleton]
        omega
theorem KOk.more {i j : Nat} {K : List Pth} (k : KOk L B O Ts i K) (l : i ≤ j) : KOk L B O Ts j K := ⟨k.nd, k.wv, k.pa, fun Q m => Nat.le_trans (k.ln Q m) l⟩
theorem KOk.first : KOk L B O Ts 0 [[]] := by
  refine ⟨by simp, fun Q m => ?_, fun Q m => .inl (List.mem_singleton.mp m), fun Q m => ?_⟩
  · rw [List.mem_singleton.mp m]
    exact Wv.nil
  · rw [List.mem_singleton.mp m]
    exact Nat.le_refl 0
end
theorem Wv.take {L : List Lane} {B O : Nat → Nat → List Nat} {Ts : List Tr} {Q : Pth} (w : Wv L B O Ts Q) (n : Nat) : Wv L B O Ts (Q.take n) := fun k q e => by
  have hk := (List.getElem?_eq_some_iff.mp e).1
  rw [List.length_take] at hk
  rw [List.getElem?_take_of_lt (by omega)] at e
  rw [List.take_take, Nat.min_eq_left (by omega)]
  exact w k q e
theorem Wv.good {h : Nat} {L : List Lane} {B O : Nat → Nat → List Nat} {Ts : List Tr} (w : Led h L B O Ts) {Q : Pth} (wv : Wv L B O Ts Q) : Good h L Ts (wafter Ts Q) := by
  have key : ∀ k, k ≤ Q.length → Good h L Ts (wafter Ts (Q.take k)) := by
    intro k
    induction k with
    | zero => exact fun _ => began_good
    | succ k ih =>
      intro hk
      have g := ih (by omega)
      have m := wv k _ (List.getElem?_eq_getElem (by omega : k < Q.length))
      rw [List.take_succ_eq_append_getElem (by omega), wafter_snoc]
      obtain ⟨j, s, e1, es, hx⟩ := steps_mem g w m
      have eq : Q[k] = ((j : Int), Q[k].2) := by rw [← e1]
      rw [eq] at m ⊢
      rw [wstep_at es]
      exact g.done (B := B) (O := O) es (hx.imp (fun z => z.1) fun z => z)
  have := key Q.length (Nat.le_refl _)
  rwa [List.take_length] at this
theorem Wv.pk {h : Nat} {L : List Lane} {B O : Nat → Nat → List Nat} {Ts : List Tr} (w : Led h L B O Ts) (hL : Ln h L) (tp : ∀ t ∈ Ts, 1 ≤ t.p) {Q : Pth} (wv : Wv L B O Ts Q) : PkS L Ts (wafter Ts Q) := by
  have key : ∀ k, k ≤ Q.length → PkS L Ts (wafter Ts (Q.take k)) := by
    intro k
    induction k with
    | zero => exact fun _ => began_pk tp
    | succ k ih =>
      intro hk
      have pk := ih (by omega)
      have g := (wv.take k).good w
      have m := wv k _ (List.getElem?_eq_getElem (by omega : k < Q.length))
      rw [List.take_succ_eq_append_getElem (by omega), wafter_snoc]
      obtain ⟨j, s, e1, es, hx⟩ := steps_mem g w m
      have eq : Q[k] = ((j : Int), Q[k].2) := by rw [← e1]
      rw [eq] at m ⊢
      rw [wstep_at es]
      exact pk.step g w hL tp es m
  have := key Q.length (Nat.le_refl _)
  rwa [List.take_length] at this
end La

namespace La
open PySem PySem.Spec PyProof.Rows L2 Tl
end La

namespace La
open PySem PySem.Spec PyProof.Rows L2 Tl
end La

namespace La
open PySem PySem.Spec PyProof.Rows L2 Tl
def s_all_paths_2b_2b_1b_1 : MS := (mSet 7 (mX (mBin gIx (mBin gIx (mBin gIx (mVar 1) (mC (.int 1))) (mBin gIx (mVar 6) (mUn (gp pNeg) (mC (.int 1))))) (mVar 4))))
def s_all_paths_2b_2b_1b_2 : MS := (mIfS (mXB (mAndB (mBinB gGt (mOp gLen (mCons (mVar 7) mNil)) (mC (.int 0))) (mTru (mOp gAll (mCons (mLc [8] (iSeq (mVar 7)) (gtN 8) mYes (mBin gIn (mVar 8) (mVar 2))) mNil))))) (mSeq (mDo (mX (mMut 3 gAppend (mCons (mOp gTupD (mCons (mVar 4) (mCons (mVar 6) mNil))) mNil)))) mNx) mNx)
abbrev s_all_paths_2b_2b_1b : MS := (mSeq s_all_paths_2b_2b_1b_1 (mSeq s_all_paths_2b_2b_1b_2 mNx))
def s_all_paths_2b_2b_1 : MS := (mFor [6] (mXI (iSeq (mVar 5))) (gtN 6) s_all_paths_2b_2b_1b)
end La

namespace La
open PySem PySem.Spec PyProof.Rows L2 Tl
end La

namespace La
open PySem PySem.Spec PyProof.Rows L2 Tl
end La

namespace La
open PySem PySem.Spec PyProof.Rows L2 Tl
/-- a plain way by houses -/
structure Pl40 (h : Nat) (L : List Lane) (W : Nat → Nat → List Nat) : Prop where
  to : ∀ g, g < h → To h L g (fun x => W x g)
  one : ∀ g, g < h → ∀ x, (W x g).length ≤ 1
theorem onW_at {L : List Lane} {W : Nat → Nat → List Nat} {j g : Nat} {l : Lane} (e : L[j]? = some l) : onW L W j g = W l.e g := by
  unfold onW
  rw [e]
theorem Pl40.is {h x g l : Nat} {L : List Lane} {W : Nat → Nat → List Nat} (p : Pl40 h L W) (hg : g < h) (m : l ∈ W x g) : W x g = [l] ∧ ∃ ln, L[l]? = some ln ∧ ln.b = x := by
  have h1 := p.one g hg x
  have h2 := ((p.to g hg).sub x).subset m
  obtain ⟨ln, e, q⟩ := mem_spots.mp h2
  refine ⟨?_, ln, e, by simpa using q⟩
  generalize W x g = Z at *
  match Z, h1, m with
  | [a], _, m => rw [List.mem_singleton.mp m]
  | a :: b :: r, h1, _ => simp at h1
theorem Pl40.cme {h g l : Nat} {L : List Lane} {W : Nat → Nat → List Nat} (p : Pl40 h L W) (hg : g < h) (c : Cme h W (onW L W) g l) : ∃ ln, L[l]? = some ln ∧ W ln.b g = [l] := by
  cases c with
  | start hx m =>
    obtain ⟨e, ln, e1, e2⟩ := p.is hg m
    exact ⟨ln, e1, by rw [e2, e]⟩
  | @step j _ _ m =>
    unfold onW at m
    split at m
    · next lj ej =>
      obtain ⟨e, ln, e1, e2⟩ := p.is hg m
      exact ⟨ln, e1, by rw [e2, e]⟩
    · cases m
/-- l is held by a train to g that wants k next -/
def Nx (h : Nat) (L : List Lane) (W : Nat → Nat → List Nat) (l g k : Nat) : Prop := g < h ∧ ∃ ln, L[l]? = some ln ∧ W ln.b g = [l] ∧ W ln.e g = [k]
theorem Pl40.sty {h l : Nat} {L : List Lane} {W : Nat → Nat → List Nat} (p : Pl40 h L W) (hL : Ln h L) (s : Sty h L W (onW L W) l) : ∃ g k, Nx h L W l g k ∧ Sty h L W (onW L W) k := by
  obtain ⟨g, q, hg, hp, hh, all⟩ := Sty.post l s
  obtain ⟨ln, el, eb⟩ := p.cme hg hh.1
  have key : ∃ k, k ∈ onW L W l g ∧ Sty h L W (onW L W) k := by
    have fr : ∀ (j : Nat), Frm (onW L W) g l j → j = l ∨ ∃ k, k ∈ onW L W l g ∧ Frm (onW L W) g k j := by
      intro j f
      induction f with
      | refl => exact .inl rfl
      | step f m ih =>
        rcases ih with rfl | ⟨k, mk, fk⟩
        · exact .inr ⟨_, m, .refl⟩
        · exact .inr ⟨k, mk, .step fk m⟩
    rcases fr q hh.2 with rfl | ⟨k, mk, fk⟩
    · obtain ⟨_, ln', e1, ne⟩ := hp
      rw [el] at e1
      cases e1
      have hw : ∃ k, k ∈ W ln.e g := by
        obtain ⟨R, hR⟩ := (p.to g hg).rk
        obtain ⟨l', e2, _, hz⟩ := hR ln.b q (by
          show q ∈ W ln.b g
          rw [eb]
          exact List.mem_singleton.mpr rfl)
        rw [el] at e2
        cases e2
        rcases hz with hz | hz
        · exact absurd hz ne
        · exact List.exists_mem_of_ne_nil _ hz
      obtain ⟨k, mk⟩ := hw
      have mk' : k ∈ onW L W q g := by rw [onW_at el]; exact mk
      exact ⟨k, mk', all k mk'⟩
    · refine ⟨k, mk, fun z => Sty h L W (onW L W) z ∨ z = k, fun z hz => ?_, .inr rfl⟩
      rcases hz with hz | rfl
      · obtain ⟨g', p', a, b, c, d⟩ := Sty.post z hz
        exact ⟨g', p', a, b, c, fun y m => .inl (d y m)⟩
      · exact ⟨g, q, hg, hp, ⟨.step hh.1 mk, fk⟩, fun y m => .inl (all y m)⟩
  obtain ⟨k, mk, sk⟩ := key
  rw [onW_at el] at mk
  exact ⟨g, k, ⟨hg, ln, el, eb, (p.is hg mk).1⟩, sk⟩
def nxtOf (C : List (Nat × Nat)) (l i : Nat) : Nat := match C[i + 1]? with
  | some q => q.1
  | none => l
def Chn (h : Nat) (L : List Lane) (W : Nat → Nat → List Nat) (C : List (Nat × Nat)) (l : Nat) : Prop := ∀ i p, C[i]? = some p → Nx h L W p.1 p.2 (nxtOf C l i)
theorem Chn.snoc {h l g k : Nat} {L : List Lane} {W : Nat → Nat → List Nat} {C : List (Nat × Nat)} (c : Chn h L W C l) (n : Nx h L W l g k) : Chn h L W (C ++ [(l, g)]) k := fun i p e => by
  by_cases q : i < C.length
  · rw [List.getElem?_append_left q] at e
    have := c i p e
    have en : nxtOf (C ++ [(l, g)]) k i = nxtOf C l i := by
      unfold nxtOf
      by_cases q2 : i + 1 < C.length
      · rw [List.getElem?_append_left q2]
        simp [List.getElem?_eq_getElem q2]
      · have e1 : C[i + 1]? = none := List.getElem?_eq_none (by omega)
        have e2 : i + 1 = C.length := by omega
        rw [e1, e2, List.getElem?_append_right (Nat.le_refl _), Nat.sub_self]
        rfl
    rw [en]
    exact this
  · rw [List.getElem?_append_right (by omega)] at e
    have e1 : i - C.length = 0 := by
      by_cases z : i - C.length = 0
      · exact z
      · have : [(l, g)][i - C.length]? = none := List.getElem?_eq_none (by simp; omega)
        rw [this] at e
        cases e
    rw [e1] at e
    cases e
    have : (C ++ [(l, g)])[i + 1]? = none := List.getElem?_eq_none (by simp; omega)
    unfold nxtOf
    rw [this]
    exact n
/-- a ring of lanes: each with the goal of the train that holds it -/
structure Rg40 (h : Nat) (L : List Lane) (W : Nat → Nat → List Nat) (R : List (Nat × Nat)) : Prop where
  ne : R ≠ []
  nd : (R.map (·.1)).Nodup
  nx : ∀ p ∈ R, ∃ k ∈ R.map (·.1), Nx h L W p.1 p.2 k
end La

namespace La
open PySem PySem.Spec PyProof.Rows L2 Tl
end La

namespace La
open PySem PySem.Spec PyProof.Rows L2 Tl
def lnAt (L : List Lane) (l : Nat) : Lane := L.getD l ⟨0, 0, 0⟩
theorem Rg40.lt {h : Nat} {L : List Lane} {W : Nat → Nat → List Nat} {R : List (Nat × Nat)} (r : Rg40 h L W R) {p : Nat × Nat} (m : p ∈ R) : p.1 < L.length := by
  obtain ⟨k, _, _, ln, e, _⟩ := r.nx p m
  exact (List.getElem?_eq_some_iff.mp e).1
theorem Rg40.len {h : Nat} {L : List Lane} {W : Nat → Nat → List Nat} {R : List (Nat × Nat)} (r : Rg40 h L W R) : R.length ≤ L.length := by
  have := len_lt r.nd fun x m => by
    obtain ⟨p, mp, rfl⟩ := List.mem_map.mp m
    exact r.lt mp
  rwa [List.length_map] at this
end La

namespace La
open PySem PySem.Spec PyProof.Rows L2 Tl
structure Chp (L : List Lane) (W : Nat → Nat → List Nat) (g : Nat) (p : List Nat) : Prop where
  ne : p ≠ []
  hd : ∀ a, p[0]? = some a → a ∈ W (lnAt L a).b g
  nx : ∀ i a c, p[i]? = some a → p[i + 1]? = some c → c ∈ W (lnAt L a).e g
def lst (p : List Nat) : Nat := p.getLastD 0
/-- what is wanted behind a path -/
def wnt (L : List Lane) (W : Nat → Nat → List Nat) (g : Nat) (p : List Nat) : List Nat := W (lnAt L (lst p)).e g
theorem lst_at {p : List Nat} (h : p ≠ []) : p[p.length - 1]? = some (lst p) := by
  unfold lst
  rw [List.getLastD_eq_getLast?, List.getLast?_eq_getElem?]
  have : p.length - 1 < p.length := by
    have := List.length_pos_iff.mpr h
    omega
  rw [List.getElem?_eq_getElem this]
  rfl
theorem lst_mem {p : List Nat} (h : p ≠ []) : lst p ∈ p := List.mem_of_getElem? (lst_at h)
section
variable {h : Nat} {L : List Lane} {W : Nat → Nat → List Nat} {g : Nat}
theorem Chp.one {l : Nat} (m : l ∈ W (lnAt L l).b g) : Chp L W g [l] := by
  refine ⟨by simp, fun a e => ?_, fun i a c e1 e2 => ?_⟩
  · cases e
    exact m
  · simp at e2
theorem Chp.snoc {p : List Nat} {k : Nat} (c : Chp L W g p) (m : k ∈ wnt L W g p) : Chp L W g (p ++ [k]) := by
  have hp := List.length_pos_iff.mpr c.ne
  refine ⟨by simp, fun a e => ?_, fun i a d e1 e2 => ?_⟩
  · rw [List.getElem?_append_left hp] at e
    exact c.hd a e
  · by_cases q : i + 1 < p.length
    · rw [List.getElem?_append_left (by omega)] at e1 e2
      exact c.nx i a d e1 e2
    · have hk := (List.getElem?_eq_some_iff.mp e2).1
      rw [List.length_append, List.length_singleton] at hk
      have hi : i = p.length - 1 := by omega
      subst hi
      rw [List.getElem?_append_left (by omega), lst_at c.ne] at e1
      cases e1
      rw [List.getElem?_append_right (by omega)] at e2
      rw [show p.length - 1 + 1 - p.length = 0 by omega] at e2
      simp at e2
      subst e2
      exact m
theorem To.lane (t : To h L g (fun x => W x g)) {x k : Nat} (m : k ∈ W x g) : L[k]? = some (lnAt L k) ∧ (lnAt L k).b = x := by
  have ms := (t.sub x).subset m
  obtain ⟨R, hR⟩ := t.rk
  obtain ⟨l, e, _⟩ := hR x k m
  have el : lnAt L k = l := by
    unfold lnAt
    rw [List.getD_eq_getElem?_getD, e]
    rfl
  rw [el]
  refine ⟨e, ?_⟩
  obtain ⟨l', e', q⟩ := mem_spots.mp ms
  rw [e] at e'
  cases e'
  simpa using q
theorem Chp.lt (t : To h L g (fun x => W x g)) {p : List Nat} (c : Chp L W g p) : ∀ l ∈ p, l < L.length := fun l m => by
  obtain ⟨i, e⟩ := List.mem_iff_getElem?.mp m
  cases i with
  | zero => exact (List.getElem?_eq_some_iff.mp (To.lane t (c.hd l e)).1).1
  | succ i =>
    have hi := (List.getElem?_eq_some_iff.mp e).1
    exact (List.getElem?_eq_some_iff.mp (To.lane t (c.nx i p[i] l (List.getElem?_eq_getElem (by omega)) e)).1).1
/-- each lane may be taken where it begins -/
theorem Chp.own (t : To h L g (fun x => W x g)) {p : List Nat} (c : Chp L W g p) : ∀ l ∈ p, l ∈ W (lnAt L l).b g := fun l m => by
  obtain ⟨i, e⟩ := List.mem_iff_getElem?.mp m
  cases i with
  | zero => exact c.hd l e
  | succ i =>
    have hi := (List.getElem?_eq_some_iff.mp e).1
    have := c.nx i p[i] l (List.getElem?_eq_getElem (by omega)) e
    rw [(To.lane t this).2]
    exact this
/-- ranks fall along a chain -/
theorem Chp.falls {R : Nat → Nat} (hR : ∀ x k, k ∈ W x g → R (lnAt L k).e < R x) {p : List Nat} (c : Chp L W g p) : ∀ (i j a b : Nat), i < j → p[i]? = some a → p[j]? = some b → R (lnAt L b).e < R (lnAt L a).e := by
  intro i j
  induction j with
  | zero => intro a b l; omega
  | succ j ih =>
    intro a b l ea eb
    have hj := (List.getElem?_eq_some_iff.mp eb).1
    have s := hR _ _ (c.nx j p[j] b (List.getElem?_eq_getElem (by omega)) eb)
    rcases Nat.lt_or_eq_of_le (Nat.le_of_lt_succ l) with q | q
    · have := ih a p[j] q ea (List.getElem?_eq_getElem (by omega))
      omega
    · subst q
      rw [List.getElem?_eq_getElem (by omega)] at ea
      cases ea
      exact s
theorem To.falls (t : To h L g (fun x => W x g)) : ∃ R : Nat → Nat, ∀ x k, k ∈ W x g → R (lnAt L k).e < R x := by
  obtain ⟨R, hR⟩ := t.rk
  refine ⟨R, fun x k m => ?_⟩
  obtain ⟨l, e, a, _⟩ := hR x k m
  have el : lnAt L k = l := by
    unfold lnAt
    rw [List.getD_eq_getElem?_getD, e]
    rfl
  rw [el]
  exact a
theorem Chp.nodup (t : To h L g (fun x => W x g)) {p : List Nat} (c : Chp L W g p) : p.Nodup := by
  obtain ⟨R, hR⟩ := To.falls t
  rw [List.nodup_iff_pairwise_ne, List.pairwise_iff_getElem]
  intro i j hi hj l e
  have := c.falls hR i j p[i] p[j] l (List.getElem?_eq_getElem hi) (List.getElem?_eq_getElem hj)
  rw [e] at this
  omega
theorem Chp.fresh (t : To h L g (fun x => W x g)) {p : List Nat} (c : Chp L W g p) {k : Nat} (m : k ∈ wnt L W g p) : k ∉ p := fun mk => by
  have nd := (c.snoc m).nodup t
  rw [List.nodup_append] at nd
  exact nd.2.2 k mk k (List.mem_singleton.mpr rfl) rfl
theorem Chp.len (t : To h L g (fun x => W x g)) {p : List Nat} (c : Chp L W g p) : p.length ≤ L.length := len_lt (c.nodup t) (c.lt t)
theorem To.nd (t : To h L g (fun x => W x g)) (x : Nat) : (W x g).Nodup := by
  refine (t.sub x).nodup ?_
  exact (spots_sorted _ _).imp fun h => Nat.ne_of_lt h
end
end La

namespace La
open PySem PySem.Spec PyProof.Rows L2 Tl
theorem its_nats (Q : List Nat) : (rd (natsT Q)).its = some (false, Q.map natD) := rfl
theorem at_lst {p : List Nat} (h : p ≠ []) : L2.atI (p.map natD) (-1) = some (natD (lst p)) := by
  rw [atI_neg1, List.getLast?_map, List.getLast?_eq_getElem?, lst_at h]
  rfl
def gdP (L : List Lane) (W : Nat → Nat → List Nat) (S : List Nat) (g : Nat) (p : List Nat) : Bool := !(wnt L W g p).isEmpty && (wnt L W g p).all fun l => decide (l ∈ S)
abbrev GP := Nat × List Nat
def gpD (q : GP) : D := .tuple [.int (q.1 : Nat), natsT q.2]
abbrev apS (h : Nat) (L : List Lane) (W : Nat → Nat → List Nat) (S : List Nat) (x4 x5 x6 x7 : Option D) (R : List D) : SS := ⟨[some (netT h L), some (wayG h L W (onW L W)), some (.list (S.map natD)), none, x4, x5, x6, x7, none], [(3, .fl R)]⟩
theorem el_of {L : List Lane} {l : Nat} (h : l < L.length) : L[l]? = some (lnAt L l) := by
  unfold lnAt
  rw [List.getD_eq_getElem?_getD, List.getElem?_eq_getElem h]
  rfl
/-- one path looked at -/
theorem ap2b {h g : Nat} {L : List Lane} {W : Nat → Nat → List Nat} {S p : List Nat} {x5 x7 : Option D} {R : List D} (hg : g < h) (hp : p ≠ []) (hl : lst p < L.length) (hR : R.length < 16000000) :
    s_all_paths_2b_2b_1b (apS h L W S (some (.int (g : Nat))) x5 (some (natsT p)) x7 R) = some (.nx (apS h L W S (some (.int (g : Nat))) x5 (some (natsT p)) (some (natsT (wnt L W g p))) (if gdP L W S g p = true then R ++ [gpD (g, p)] else R))) := by
  have eQ : onW L W (lst p) g = wnt L W g p := by
    rw [onW_at (el_of hl)]
    rfl
  have i1 := ix_rows (N := L.length) (h := h) (j := lst p) (V := onW L W) hl
  have i2 := ix_row (h := h) (g := g) (j := lst p) (V := onW L W) hg
  rw [eQ] at i2
  have w1 := ix_wayG1 h L W (onW L W)
  have n1 : gIx [.val (.leaf (natsT p)), .val (.leaf (.int (-1)))] = some (rd (natD (lst p))) := by simp [natsT, at_lst hp]
  have it := its_nats (wnt L W g p)
  have f1 : s_all_paths_2b_2b_1b_1 (apS h L W S (some (.int (g : Nat))) x5 (some (natsT p)) x7 R) = some (.nx (apS h L W S (some (.int (g : Nat))) x5 (some (natsT p)) (some (natsT (wnt L W g p))) R)) := by
    unfold apS
    generalize rowsL L.length h (onW L W) = RL at *
    generalize rowD h (onW L W) (lst p) = RD at *
    generalize wayG h L W (onW L W) = Y at *
    generalize netT h L = N at *
    generalize natsT p = pD at *
    generalize natsT (wnt L W g p) = qD at *
    simp [s_all_paths_2b_2b_1b_1, w1, n1, i1, i2]
  have f2 : s_all_paths_2b_2b_1b_2 (apS h L W S (some (.int (g : Nat))) x5 (some (natsT p)) (some (natsT (wnt L W g p))) R) = some (.nx (apS h L W S (some (.int (g : Nat))) x5 (some (natsT p)) (some (natsT (wnt L W g p))) (if gdP L W S g p = true then R ++ [gpD (g, p)] else R))) := by
    unfold gdP
    have ln : gLen [.val (.leaf (natsT (wnt L W g p)))] = some (rInt ((wnt L W g p).length : Nat)) := by simp [natsT]
    generalize wnt L W g p = Q at *
    have gp : gpD (g, p) = .tuple [.int (g : Nat), natsT p] := rfl
    rw [gp]
    unfold apS
    generalize wayG h L W (onW L W) = Y at *
    generalize netT h L = N at *
    generalize natsT p = pD at *
    by_cases e : Q.length = 0
    · have e0 : Q = [] := List.length_eq_zero_iff.mp e
      subst e0
      simp [s_all_paths_2b_2b_1b_2, ln]
    · have e1 : Q.isEmpty = false := by
        cases Q with
        | nil => exact absurd rfl e
        | cons => rfl
      have e2 : 0 < Q.length := by omega
      generalize hqD : natsT Q = qD at *
      simp [s_all_paths_2b_2b_1b_2, ln, e2, it, e1]
      generalize hC : lcLoop _ _ _ _ _ _ _ _ _ = z
      obtain rfl := lc_typM hC (fun l => .bool (decide (l ∈ S))) rfl fun l m => ⟨_, by simp; rfl, _, by simp; rfl, rfl⟩
      simp [boolsD_mapD, Tl.allB, List.all_map, Function.comp_def]
      by_cases a : (Q.all fun l => decide (l ∈ S)) = true
      · simp [a, hR]
        simpa using a
      · have a' : (Q.all fun l => decide (l ∈ S)) = false := Bool.eq_false_iff.mpr a
        simp [a']
        simpa using a'
  exact (seq_nx f1).trans ((seq_nx f2).trans rfl)
theorem ap2 {h g : Nat} {L : List Lane} {W : Nat → Nat → List Nat} {S : List Nat} {x6 x7 : Option D} {R : List GP} {P : List (List Nat)} (hg : g < h) (hP : ∀ p ∈ P, p ≠ [] ∧ lst p < L.length) (hR : R.length + P.length < 16000000) :
    ∃ y6 y7, s_all_paths_2b_2b_1 (apS h L W S (some (.int (g : Nat))) (some (.list (P.map natsT))) x6 x7 (R.map gpD)) = some (.nx (apS h L W S (some (.int (g : Nat))) (some (.list (P.map natsT))) y6 y7 ((R ++ (P.filter (gdP L W S g)).map fun p => (g, p)).map gpD))) := by
  generalize hF : s_all_paths_2b_2b_1 _ = y
  have hF' : forL [6] (gtN 6) s_all_paths_2b_2b_1b (P.map natsT) (apS h L W S (some (.int (g : Nat))) (some (.list (P.map natsT))) x6 x7 (R.map gpD)) = y := by
    rw [← hF]
    unfold apS
    generalize wayG h L W (onW L W) = Y
    generalize netT h L = N
    generalize P.map natsT = PD
    simp [s_all_paths_2b_2b_1]
  clear hF
  generalize hPD : PyData.list (P.map natsT) = PD at hF' ⊢
  obtain ⟨s', rfl, y6, y7, rfl⟩ := for_at hF' (fun k s => ∃ y6 y7, s = apS h L W S (some (.int (g : Nat))) (some PD) y6 y7 ((R ++ ((P.take k).filter (gdP L W S g)).map fun p => (g, p)).map gpD)) ⟨x6, x7, by simp⟩ (by
    rintro k hk s ⟨y6, y7, rfl⟩
    obtain ⟨a1, a2⟩ := hP P[k] (List.getElem_mem hk)
    have l1 := List.length_filter_le (gdP L W S g) (P.take k)
    rw [List.length_take] at l1
    have f := ap2b (h := h) (g := g) (L := L) (W := W) (S := S) (p := P[k]) (x5 := some PD) (x7 := y7) (R := (R ++ ((P.take k).filter (gdP L W S g)).map fun p => (g, p)).map gpD) hg a1 a2 (by rw [List.length_map, List.length_append, List.length_map]; omega)
    refine ⟨_, rfl, _, .inl f, some (natsT P[k]), some (natsT (wnt L W g P[k])), ?_⟩
    rw [List.take_succ_eq_append_getElem hk, List.filter_append]
    by_cases q : gdP L W S g P[k] = true
    · rw [if_pos q, List.filter_cons_of_pos q, List.filter_nil]
      have e : (R ++ ((P.take k).filter (gdP L W S g)).map fun p => (g, p)).map gpD ++ [gpD (g, P[k])] = (R ++ ((P.take k).filter (gdP L W S g) ++ [P[k]]).map fun p => (g, p)).map gpD := by simp
      rw [e]
    · rw [if_neg q, List.filter_cons_of_neg q, List.filter_nil, List.append_nil])
  rw [List.take_length]
  exact ⟨y6, y7, rfl⟩
end La

namespace La
open PySem PySem.Spec PyProof.Rows L2 Tl
theorem mem_allOf {f : Tr → St → List Int} {Ts : List Tr} {S : List St} {n : Nat} {t : Tr} {s : St} {x : Int} (e1 : Ts[n]? = some t) (e2 : S[n]? = some s) (m : x ∈ f t s) : (((n : Nat) : Int), x) ∈ allOf f Ts S := by
  unfold allOf
  refine List.mem_flatMap.mpr ⟨((t, s), n), ?_, List.mem_map.mpr ⟨x, m, rfl⟩⟩
  refine List.mem_iff_getElem?.mpr ⟨n, ?_⟩
  rw [List.getElem?_zipIdx, (List.getElem?_zip_eq_some (z := (t, s))).mpr ⟨e1, e2⟩]
  simp
end La

namespace La
open PySem PySem.Spec PyProof.Rows L2 Tl
def rms (L : List Lane) (p : List Nat) : Int := (p.map (roomAt L)).sum
theorem rms_cons (L : List Lane) (l : Nat) (p : List Nat) : rms L (l :: p) = roomAt L l + rms L p := by simp [rms]
theorem rms_sub {L : List Lane} : ∀ {A p : List Nat}, A.Sublist p → (∀ l ∈ p, 1 ≤ roomAt L l) → rms L A + ((p.length : Int) - A.length) ≤ rms L p := by
  intro A p h
  induction h with
  | slnil => intro _; simp [rms]
  | cons l h ih =>
    intro pos
    have := ih fun x m => pos x (List.mem_cons_of_mem _ m)
    have := pos l List.mem_cons_self
    rw [rms_cons, List.length_cons]
    omega
  | cons_cons l h ih =>
    intro pos
    have := ih fun x m => pos x (List.mem_cons_of_mem _ m)
    rw [rms_cons, rms_cons, List.length_cons, List.length_cons]
    omega
structure PI (L : List Lane) (E : List GP) (i : Nat) (A : List Nat) (S : List St) : Prop where
  len : S.length = E.length
  bef : ∀ n q, n < i → E[n]? = some q → ∃ s, S[n]? = some s ∧ s.left = 0 ∧ s.come = 0 ∧ s.held = q.2.map fun l => (l, roomAt L l)
  cur : ∀ q, E[i]? = some q → ∃ s, S[i]? = some s ∧ s.held.map (·.1) = A ∧ s.come = 0 ∧ (A = [] → s.left = rms L q.2)
  aft : ∀ n q, i < n → E[n]? = some q → S[n]? = some ⟨rms L q.2, [], 0⟩
def trP (L : List Lane) (q : GP) : Tr := ⟨(lnAt L (q.2.headD 0)).b, q.1, rms L q.2⟩
theorem PI.set {L : List Lane} {E : List GP} {i : Nat} {A A' : List Nat} {S : List St} {s' : St} (k : PI L E i A S) (h1 : s'.held.map (·.1) = A') (h2 : s'.come = 0) (h3 : A' ≠ []) : PI L E i A' (S.set i s') := by
  refine ⟨by rw [List.length_set]; exact k.len, fun n q hn e => ?_, fun q e => ?_, fun n q hn e => ?_⟩
  · obtain ⟨s, a, b⟩ := k.bef n q hn e
    exact ⟨s, by rw [List.getElem?_set_ne (by omega)]; exact a, b⟩
  · have hi := (List.getElem?_eq_some_iff.mp e).1
    refine ⟨s', by rw [List.getElem?_set_self (by rw [k.len]; exact hi)], h1, h2, fun z => absurd z h3⟩
  · rw [List.getElem?_set_ne (by omega)]
    exact k.aft n q hn e
end La

namespace La
open PySem PySem.Spec PyProof.Rows L2 Tl
/-- a family of paths that share no lane and hold what they want, in step with what is held and wanted -/
structure Fam (L : List Lane) (W : Nat → Nat → List Nat) (PA F : List GP) (H Wt : List Nat) : Prop where
  sub : ∀ q ∈ F, q ∈ PA
  one : ∀ q ∈ F, ∀ q' ∈ F, ∀ l, l ∈ q.2 → l ∈ q'.2 → q = q'
  cl : ∀ q ∈ F, ∀ l ∈ wnt L W q.1 q.2, ∃ q' ∈ F, l ∈ q'.2
  hh : ∀ l ∈ H, ∀ q ∈ F, l ∈ q.2 → ∀ l' ∈ q.2, l' ∈ H
  ww : ∀ l ∈ Wt, ∃ q ∈ F, l ∈ q.2
theorem Fam.step {L : List Lane} {W : Nat → Nat → List Nat} {PA F : List GP} {H Wt : List Nat} (f : Fam L W PA F H Wt) {q : GP} (m : q ∈ F) : Fam L W PA F (H ++ q.2) (Wt ++ wnt L W q.1 q.2) := by
  refine ⟨f.sub, f.one, f.cl, fun l ml q' mq' mlq l' ml' => ?_, fun l ml => ?_⟩
  · rcases List.mem_append.mp ml with ml | ml
    · exact List.mem_append_left _ (f.hh l ml q' mq' mlq l' ml')
    · have := f.one q m q' mq' l ml mlq
      subst this
      exact List.mem_append_right _ ml'
  · rcases List.mem_append.mp ml with ml | ml
    · exact f.ww l ml
    · exact f.cl q m l ml
end La

namespace La
open PySem PySem.Spec PyProof.Rows L2 Tl
abbrev wpI : MV := mLc [9] (iSeq (mVar 8)) (gtN 9) mYes (mBin gIx (mBin gIx (mBin gIx (mVar 0) (mC (.int 1))) (mVar 9)) (mC (.int 2)))
structure Cho (h : Nat) (L : List Lane) (W : Nat → Nat → List Nat) (E : List GP) : Prop where
  ne : E ≠ []
  ch : ∀ q ∈ E, q.1 < h ∧ Chp L W q.1 q.2 ∧ wnt L W q.1 q.2 ≠ []
  nd : (E.flatMap (·.2)).Nodup
  cl : ∀ q ∈ E, ∀ l ∈ wnt L W q.1 q.2, l ∈ E.flatMap (·.2)
section
variable {h : Nat} {L : List Lane} {W : Nat → Nat → List Nat} {E : List GP}
theorem len_flat : ∀ {E : List GP}, (∀ q ∈ E, q.2 ≠ []) → E.length ≤ (E.flatMap (·.2)).length
  | [], _ => Nat.zero_le _
  | q :: E, hh => by
    have ih := len_flat fun x m => hh x (List.mem_cons_of_mem _ m)
    have := List.length_pos_iff.mpr (hh q List.mem_cons_self)
    rw [List.flatMap_cons, List.length_append, List.length_cons]
    omega
theorem Cho.lt (c : Cho h L W E) (t : ∀ g, g < h → To h L g (fun x => W x g)) : ∀ q ∈ E, ∀ l ∈ q.2, l < L.length := fun q m => (c.ch q m).2.1.lt (t _ (c.ch q m).1)
theorem Cho.len (c : Cho h L W E) (t : ∀ g, g < h → To h L g (fun x => W x g)) : E.length ≤ L.length := by
  have h1 := len_flat fun q m => (c.ch q m).2.1.ne
  have h2 := len_lt c.nd fun l m => by
    obtain ⟨q, mq, ml⟩ := List.mem_flatMap.mp m
    exact c.lt t q mq l ml
  omega
theorem Cho.pos (c : Cho h L W E) (t : ∀ g, g < h → To h L g (fun x => W x g)) (hL : Ln h L) : ∀ q ∈ E, ∀ l ∈ q.2, 1 ≤ roomAt L l ∧ roomAt L l ≤ 4 := fun q m l ml => roomAt_ln hL l (c.lt t q m l ml)
theorem rms_pos {p : List Nat} (hp : p ≠ []) (pos : ∀ l ∈ p, 1 ≤ roomAt L l) : 1 ≤ rms L p := by
  have := rms_sub (L := L) (A := []) (p := p) (List.nil_sublist p) pos
  have hl := List.length_pos_iff.mpr hp
  have : rms L [] = 0 := rfl
  simp at *
  omega
theorem Cho.tp (c : Cho h L W E) (t : ∀ g, g < h → To h L g (fun x => W x g)) (hL : Ln h L) : ∀ u ∈ E.map (trP L), 1 ≤ u.p := fun u m => by
  obtain ⟨q, mq, rfl⟩ := List.mem_map.mp m
  exact rms_pos (c.ch q mq).2.1.ne fun l ml => (c.pos t hL q mq l ml).1
theorem hd_at {p : List Nat} (hp : p ≠ []) : p[0]? = some (p.headD 0) := by
  obtain ⟨l, r, rfl⟩ := List.exists_cons_of_ne_nil hp
  rfl
theorem Cho.led (c : Cho h L W E) (t : ∀ g, g < h → To h L g (fun x => W x g)) (hL : Ln h L) (h8 : L.length ≤ 8) : Led h L W (onW L W) (E.map (trP L)) := by
  have wp : WayP h L W (onW L W) := WayP.whole t
  have := c.len t
  refine ⟨by omega, (To.way hL wp).1, (To.way hL wp).2, by rw [List.length_map]; omega, fun u m => ?_⟩
  obtain ⟨q, mq, rfl⟩ := List.mem_map.mp m
  obtain ⟨hg, ch, _⟩ := c.ch q mq
  have ml : q.2.headD 0 ∈ q.2 := List.mem_of_getElem? (hd_at ch.ne)
  exact ⟨(hL _ (List.mem_of_getElem? (el_of (c.lt t q mq _ ml)))).1, hg⟩
theorem PI.taken {i : Nat} {A : List Nat} {S : List St} (k : PI L E i A S) {l : Nat} (m : l ∈ takenL S) : (∃ n q, n < i ∧ E[n]? = some q ∧ l ∈ q.2) ∨ (i < E.length ∧ l ∈ A) := by
  obtain ⟨s, ms, ml⟩ := List.mem_flatMap.mp m
  obtain ⟨n, en⟩ := List.mem_iff_getElem?.mp ms
  have hn := (List.getElem?_eq_some_iff.mp en).1
  rw [k.len] at hn
  have eq : E[n]? = some E[n] := List.getElem?_eq_getElem hn
  rcases Nat.lt_trichotomy n i with z | z | z
  · obtain ⟨s', e', _, _, hh⟩ := k.bef n _ z eq
    rw [en] at e'
    cases e'
    rw [hh, List.map_map] at ml
    obtain ⟨x, mx, rfl⟩ := List.mem_map.mp ml
    exact .inl ⟨n, _, z, eq, mx⟩
  · subst z
    obtain ⟨s', e', hA, _⟩ := k.cur _ eq
    rw [en] at e'
    cases e'
    rw [hA] at ml
    exact .inr ⟨hn, ml⟩
  · have := k.aft n _ z eq
    rw [en] at this
    cases this
    cases ml
theorem PI.next {i : Nat} {A : List Nat} {S : List St} {q : GP} (k : PI L E i A S) (ei : E[i]? = some q) (hs : ∃ s, S[i]? = some s ∧ s.left = 0 ∧ s.come = 0 ∧ s.held = q.2.map fun l => (l, roomAt L l)) : PI L E (i + 1) [] S := by
  refine ⟨k.len, fun n q' hn e => ?_, fun q' e => ?_, fun n q' hn e => k.aft n q' (by omega) e⟩
  · rcases Nat.lt_or_eq_of_le (Nat.le_of_lt_succ hn) with z | z
    · exact k.bef n q' z e
    · subst z
      rw [ei] at e
      cases e
      exact hs
  · exact ⟨_, k.aft (i + 1) q' (by omega) e, rfl, rfl, fun _ => rfl⟩
theorem PI.first : PI L E 0 [] (wafter (E.map (trP L)) []) := by
  have at_ : ∀ (n : Nat) (q : GP), E[n]? = some q → (wafter (E.map (trP L)) [])[n]? = some ⟨rms L q.2, [], 0⟩ := fun n q e => by
    show (began (E.map (trP L)))[n]? = _
    rw [began, List.getElem?_map, List.getElem?_map, e]
    rfl
  refine ⟨by show (began _).length = _; rw [began, List.length_map, List.length_map], fun n q hn _ => absurd hn (Nat.not_lt_zero n), fun q e => ⟨_, at_ 0 q e, rfl, rfl, fun _ => rfl⟩, fun n q _ e => at_ n q e⟩
end
abbrev wpS (N Y C TD : D) (SD : List D) (x6 x7 x8 x9 x10 : Option D) (R : List D) : SS := ⟨[some N, some Y, some C, some TD, some (.list SD), none, x6, x7, x8, x9, x10], [(5, .fl R)]⟩
end La

namespace La
open PySem PySem.Spec PyProof.Rows L2 Tl
/-- paths that share no lane and hold all that they want -/
structure FamS (h : Nat) (L : List Lane) (W : Nat → Nat → List Nat) (F : List GP) : Prop where
  ch : ∀ q ∈ F, q.1 < h ∧ Chp L W q.1 q.2 ∧ wnt L W q.1 q.2 ≠ []
  one : ∀ q ∈ F, ∀ q' ∈ F, ∀ l, l ∈ q.2 → l ∈ q'.2 → q = q'
  cl : ∀ q ∈ F, ∀ l ∈ wnt L W q.1 q.2, ∃ q' ∈ F, l ∈ q'.2
section
variable {h : Nat} {L : List Lane} {W : Nat → Nat → List Nat}
theorem Chp.frm (t : ∀ g, g < h → To h L g (fun x => W x g)) {g : Nat} (hg : g < h) {p : List Nat} (c : Chp L W g p) {i l : Nat} (e : p[i]? = some l) : ∀ (n k : Nat), p[i + n]? = some k → Frm (onW L W) g l k
  | 0, k, ek => by
    rw [Nat.add_zero, e] at ek
    cases ek
    exact .refl
  | n + 1, k, ek => by
    have hk := (List.getElem?_eq_some_iff.mp ek).1
    have e2 : p[i + n]? = some p[i + n] := List.getElem?_eq_getElem (by omega)
    refine .step (Chp.frm t hg c e n _ e2) ?_
    rw [onW_at (el_of (c.lt (t _ hg) _ (List.mem_of_getElem? e2)))]
    exact c.nx (i + n) _ k e2 ek
theorem FamS.sty (t : ∀ g, g < h → To h L g (fun x => W x g)) (hL : Ln h L) {F : List GP} (f : FamS h L W F) : ∀ q ∈ F, ∀ l ∈ q.2, Sty h L W (onW L W) l := fun q mq l ml => by
  refine ⟨fun l => ∃ q ∈ F, l ∈ q.2, fun l hl => ?_, ⟨q, mq, ml⟩⟩
  obtain ⟨q, mq, ml⟩ := hl
  obtain ⟨hg, c, wn⟩ := f.ch q mq
  have el := el_of (c.lt (t _ hg) l ml)
  have own := c.own (t _ hg) l ml
  obtain ⟨i, ei⟩ := List.mem_iff_getElem?.mp ml
  have hi := (List.getElem?_eq_some_iff.mp ei).1
  have fr := c.frm t hg ei (q.2.length - 1 - i) (lst q.2) (by rw [show i + (q.2.length - 1 - i) = q.2.length - 1 by omega]; exact lst_at c.ne)
  have cm : Cme h W (onW L W) q.1 l := .start (hL _ (List.mem_of_getElem? el)).1 own
  refine ⟨q.1, lst q.2, hg, ?_, ⟨cm, fr⟩, fun k mk => ?_⟩
  · have ell := el_of (c.lt (t _ hg) _ (lst_mem c.ne))
    refine ⟨fr.cme cm, _, ell, fun z => wn ?_⟩
    have home : W q.1 q.1 = [] := (t _ hg).home
    unfold wnt
    rw [z]
    exact home
  · rw [onW_at (el_of (c.lt (t _ hg) _ (lst_mem c.ne)))] at mk
    exact f.cl q mq k mk
end
end La

namespace La
open PySem PySem.Spec PyProof.Rows L2 Tl
end La

namespace La
open PySem PySem.Spec PyProof.Rows L2 Tl
section
variable {L : List Lane} {B O : Nat → Nat → List Nat} {Ts : List Tr}
end
end La

namespace La
open PySem PySem.Spec PyProof.Rows L2 Tl
theorem Wv.fos {h : Nat} {L : List Lane} {B O : Nat → Nat → List Nat} {Ts : List Tr} (w : Led h L B O Ts) {Q : Pth} (wv : Wv L B O Ts Q) : FoS h L B O Ts (wafter Ts Q) := by
  have key : ∀ k, k ≤ Q.length → FoS h L B O Ts (wafter Ts (Q.take k)) := by
    intro k
    induction k with
    | zero => exact fun _ => began_fo
    | succ k ih =>
      intro hk
      have fo := ih (by omega)
      have g := (wv.take k).good w
      have m := wv k _ (List.getElem?_eq_getElem (by omega : k < Q.length))
      rw [List.take_succ_eq_append_getElem (by omega), wafter_snoc]
      obtain ⟨j, s, e1, es, hx⟩ := steps_mem g w m
      have eq : Q[k] = ((j : Int), Q[k].2) := by rw [← e1]
      rw [eq] at m ⊢
      rw [wstep_at es]
      exact fo.step g w es m
  have := key Q.length (Nat.le_refl _)
  rwa [List.take_length] at this
theorem Fol.at_ {O : Nat → Nat → List Nat} {g : Nat} : ∀ {p : List Nat}, Fol O g p → ∀ (i a c : Nat), p[i]? = some a → p[i + 1]? = some c → c ∈ O a g
  | [], _, i, a, c, e, _ => by simp at e
  | x :: r, f, 0, a, c, e1, e2 => by
    cases e1
    exact f.1 c (by rw [List.head?_eq_getElem?]; exact e2)
  | x :: r, f, i + 1, a, c, e1, e2 => Fol.at_ f.2 i a c e1 e2
theorem To.told {h : Nat} {L : List Lane} {W : Nat → Nat → List Nat} {g : Nat} (t : To h L g (fun x => W x g)) {l : Nat} (d : Told h L.length W (onW L W) g l) : l ∈ W (lnAt L l).b g ∧ l < L.length := by
  have key : ∀ x, l ∈ W x g → l ∈ W (lnAt L l).b g ∧ l < L.length := fun x m => by
    obtain ⟨e, b⟩ := To.lane t m
    rw [b]
    exact ⟨m, (List.getElem?_eq_some_iff.mp e).1⟩
  rcases d with ⟨b, _, m⟩ | ⟨a, ha, m⟩
  · exact key b m
  · rw [onW_at (el_of ha)] at m
    exact key _ m
end La

namespace La
open PySem PySem.Spec PyProof.Rows L2 Tl
end La

namespace La
open PySem PySem.Spec PyProof.Rows L2 Tl
end La

namespace La
open PySem PySem.Spec PyProof.Rows L2 Tl
end La

namespace La
open PySem PySem.Spec PyProof.Rows L2 Tl
end La

namespace La
open PySem PySem.Spec PyProof.Rows L2 Tl
end La

namespace La
open PySem PySem.Spec PyProof.Rows L2 Tl
end La

namespace La
open PySem PySem.Spec PyProof.Rows L2 Tl
end La

namespace La
open PySem PySem.Spec PyProof.Rows L2 Tl
end La

namespace La
open PySem PySem.Spec PyProof.Rows L2 Tl
end La

namespace La
open PySem PySem.Spec PyProof.Rows L2 Tl
end La

namespace La
open PySem PySem.Spec PyProof.Rows L2 Tl
end La

namespace La
open PySem PySem.Spec PyProof.Rows L2 Tl
end La

namespace La
open PySem PySem.Spec PyProof.Rows L2 Tl
/-- stands that weavings come to -/
def RcS (L : List Lane) (B O : Nat → Nat → List Nat) (Ts : List Tr) (S : List St) : Prop := ∃ Q, Wv L B O Ts Q ∧ wafter Ts Q = S
section
variable {h : Nat} {L : List Lane} {B O : Nat → Nat → List Nat} {Ts : List Tr}
theorem RcS.began : RcS L B O Ts (began Ts) := ⟨[], Wv.nil, rfl⟩
theorem RcS.step {S : List St} {q : Int × Int} (r : RcS L B O Ts S) (m : q ∈ lawSteps L B O Ts S) : RcS L B O Ts (wstep S q) := by
  obtain ⟨Q, wv, rfl⟩ := r
  exact ⟨Q ++ [q], wv.snoc m, wafter_snoc _ _ _⟩
theorem RcS.ind {P : List St → Prop} {S : List St} (r : RcS L B O Ts S) (p0 : P (La.began Ts)) (ps : ∀ S q, RcS L B O Ts S → P S → q ∈ lawSteps L B O Ts S → P (wstep S q)) : P S := by
  obtain ⟨Q, wv, rfl⟩ := r
  have key : ∀ k, k ≤ Q.length → P (wafter Ts (Q.take k)) := by
    intro k
    induction k with
    | zero => exact fun _ => p0
    | succ k ih =>
      intro hk
      have m := wv k _ (List.getElem?_eq_getElem (by omega : k < Q.length))
      rw [List.take_succ_eq_append_getElem (by omega), wafter_snoc]
      exact ps _ _ ⟨_, wv.take k, rfl⟩ (ih (by omega)) m
  have := key Q.length (Nat.le_refl _)
  rwa [List.take_length] at this
theorem RcS.good (w : Led h L B O Ts) {S : List St} (r : RcS L B O Ts S) : Good h L Ts S := by
  obtain ⟨Q, wv, rfl⟩ := r
  exact wv.good w
theorem RcS.fos (w : Led h L B O Ts) {S : List St} (r : RcS L B O Ts S) : FoS h L B O Ts S := by
  obtain ⟨Q, wv, rfl⟩ := r
  exact wv.fos w
/-- no lane is for two -/
def Dj (h N : Nat) (B O : Nat → Nat → List Nat) (Ts : List Tr) : Prop := ∀ (i j : Nat) (t u : Tr) (l : Nat), Ts[i]? = some t → Ts[j]? = some u → Told h N B O t.g l → Told h N B O u.g l → i = j
theorem taken_one69 (s : St) : takenL [s] = lanS s := by simp [takenL]
theorem mem_taken {S : List St} {l : Nat} (m : l ∈ takenL S) : ∃ (j : Nat) (s : St), S[j]? = some s ∧ l ∈ lanS s := by
  obtain ⟨s, ms, ml⟩ := List.mem_flatMap.mp m
  obtain ⟨j, ej⟩ := List.mem_iff_getElem?.mp ms
  exact ⟨j, s, ej, ml⟩
theorem one_alone (w : Led h L B O Ts) (dj : Dj h L.length B O Ts) {S : List St} (r : RcS L B O Ts S) {n : Nat} {t : Tr} {s : St} (et : Ts[n]? = some t) (es : S[n]? = some s) : lawOne L B O (takenL S) t s = lawOne L B O (takenL [s]) t s := by
  have g := r.good w
  have fo := r.fos w
  unfold lawOne
  congr 2
  refine List.filter_congr fun l ml => ?_
  rw [taken_one69]
  congr 1
  rw [decide_eq_decide]
  constructor
  · intro m
    obtain ⟨j, u, ej, mu⟩ := mem_taken m
    have hj : j < Ts.length := by rw [← g.len]; exact (List.getElem?_eq_some_iff.mp ej).1
    have etj : Ts[j]? = some Ts[j] := List.getElem?_eq_getElem hj
    have t1 := (fo.1 j _ u etj ej).told l mu
    have t2 : Told h L.length B O t.g l := by
      unfold lawTake at ml
      split at ml
      · rcases took ml with ⟨_, q⟩ | ⟨a, ea, q⟩
        · exact .inl ⟨_, (w.tr t (List.mem_of_getElem? et)).1, q⟩
        · have ma := List.mem_of_getLast? ea
          obtain ⟨p, mp, rfl⟩ := List.mem_map.mp ma
          exact .inr ⟨_, (g.ok n t s et es).ln p mp, q⟩
      · cases ml
    have := dj n j t _ l et etj t2 t1
    subst this
    rw [es] at ej
    cases ej
    exact mu
  · intro m
    exact List.mem_flatMap.mpr ⟨s, List.mem_of_getElem? es, m⟩
theorem step_mem {S : List St} {n : Nat} {t : Tr} {s : St} {x : Int} (et : Ts[n]? = some t) (es : S[n]? = some s) (m : x ∈ lawOne L B O (takenL S) t s) : ((n : Int), x) ∈ lawSteps L B O Ts S := (sortBy_perm ltQ _).mem_iff.mpr (mem_allOf et es m)
theorem Led.one (w : Led h L B O Ts) {t : Tr} (m : t ∈ Ts) : Led h L B O [t] := ⟨w.ln, w.wz, w.wi, by simp, fun u mu => by rw [List.mem_singleton.mp mu]; exact w.tr t m⟩
theorem RcS.single {t : Tr} (w : Led h L B O [t]) {S : List St} (r : RcS L B O [t] S) : ∃ s, S = [s] := by
  have := (r.good w).len
  match S, this with
  | [s], _ => exact ⟨s, rfl⟩
/-- each train's own stand is one that it comes to alone -/
theorem RcS.own (w : Led h L B O Ts) (dj : Dj h L.length B O Ts) {S : List St} (r : RcS L B O Ts S) : ∀ (n : Nat) (t : Tr) (s : St), Ts[n]? = some t → S[n]? = some s → RcS L B O [t] [s] := by
  refine RcS.ind (P := fun S => ∀ (n : Nat) (t : Tr) (s : St), Ts[n]? = some t → S[n]? = some s → RcS L B O [t] [s]) r ?_ ?_
  · intro n t s et es
    unfold La.began at es
    rw [List.getElem?_map, et] at es
    cases es
    exact RcS.began (Ts := [t])
  · intro S q r ih m n t s et es
    obtain ⟨j, u, e1, eu, hx⟩ := steps_mem (r.good w) w m
    obtain ⟨qj, x⟩ := q
    have e1 : qj = j := e1
    subst e1
    rw [wstep_at eu] at es
    have hj := (List.getElem?_eq_some_iff.mp eu).1
    rw [List.getElem?_set] at es
    by_cases q : j = n
    · subst q
      rw [if_pos rfl, if_pos hj] at es
      cases es
      obtain ⟨t', et', mx⟩ := one_of eu m
      rw [et] at et'
      cases et'
      rw [one_alone w dj r et eu] at mx
      have r1 := ih j t u et eu
      have := r1.step (step_mem (Ts := [t]) (S := [u]) (n := 0) rfl rfl mx)
      rw [wstep_at (S := [u]) (j := 0) rfl] at this
      exact this
    · rw [if_neg q] at es
      exact ih n t s et es
/-- one train goes, the others stay -/
theorem RcS.goes (w : Led h L B O Ts) (dj : Dj h L.length B O Ts) {S : List St} (r : RcS L B O Ts S) {n : Nat} {t : Tr} (et : Ts[n]? = some t) (es : S[n]? = some ⟨t.p, [], 0⟩) {s : St} (r1 : RcS L B O [t] [s]) : RcS L B O Ts (S.set n s) := by
  have w1 := w.one (List.mem_of_getElem? et)
  have hn := (List.getElem?_eq_some_iff.mp es).1
  have key : ∀ s', [s] = [s'] → RcS L B O Ts (S.set n s') := by
    refine RcS.ind (P := fun X => ∀ s', X = [s'] → RcS L B O Ts (S.set n s')) r1 ?_ ?_
    · intro s' e
      have e : [(⟨t.p, [], 0⟩ : St)] = [s'] := e
      cases e
      have : S.set n ⟨t.p, [], 0⟩ = S := by
        refine List.ext_getElem? fun i => ?_
        rw [List.getElem?_set]
        split
        · next z =>
          subst z
          exact es.symm
        · rfl
      rw [this]
      exact r
    · intro X q rX ih m s' e
      obtain ⟨u, rfl⟩ := rX.single w1
      obtain ⟨j, u', e1, eu, hx⟩ := steps_mem (rX.good w1) w1 m
      obtain ⟨qj, x⟩ := q
      have e1 : qj = j := e1
      subst e1
      have hj := (List.getElem?_eq_some_iff.mp eu).1
      obtain rfl : j = 0 := by
        simp at hj
        exact hj
      cases eu
      rw [wstep_at (S := [u]) (j := 0) rfl] at e
      have e : [doneSt u x] = [s'] := e
      cases e
      obtain ⟨t', et', mx⟩ := one_of (S := [u]) (n := 0) rfl m
      cases et'
      have ru := ih u rfl
      have eS : (S.set n u)[n]? = some u := by rw [List.getElem?_set, if_pos rfl, if_pos hn]
      rw [← one_alone w dj ru et eS] at mx
      have := ru.step (step_mem et eS mx)
      rw [wstep_at eS, List.set_set] at this
      exact this
  exact key s rfl
theorem RcS.all (w : Led h L B O Ts) (dj : Dj h L.length B O Ts) {S : List St} (hl : S.length = Ts.length) (hS : ∀ (n : Nat) (t : Tr) (s : St), Ts[n]? = some t → S[n]? = some s → RcS L B O [t] [s]) : RcS L B O Ts S := by
  have key : ∀ k, k ≤ Ts.length → RcS L B O Ts (S.take k ++ (La.began Ts).drop k) := by
    intro k
    have lb : (La.began Ts).length = Ts.length := by simp [La.began]
    induction k with
    | zero => exact fun _ => RcS.began
    | succ k ih =>
      intro hk
      have ih := ih (by omega)
      have et : Ts[k]? = some Ts[k] := List.getElem?_eq_getElem (by omega)
      have es : S[k]? = some S[k] := List.getElem?_eq_getElem (by omega)
      have lt : (S.take k).length = k := by rw [List.length_take]; omega
      have := ih.goes w dj et (by
        rw [List.getElem?_append_right (by omega), lt, Nat.sub_self, List.getElem?_drop, Nat.add_zero]
        unfold La.began
        rw [List.getElem?_map, et]
        rfl) (hS k _ _ et es)
      rw [List.set_append_right _ _ (by omega), lt, Nat.sub_self, List.drop_eq_getElem_cons (by omega), List.set_cons_zero] at this
      rw [List.take_succ_eq_append_getElem (by omega), List.append_assoc]
      exact this
  have := key Ts.length (Nat.le_refl _)
  rw [← hl, List.take_length, hl, List.drop_of_length_le (by simp [La.began]), List.append_nil] at this
  exact this
structure OwnL (L : List Lane) (B O : Nat → Nat → List Nat) (t : Tr) (X : List St) : Prop where
  nd : X.Nodup
  mem : ∀ s, s ∈ X ↔ RcS L B O [t] [s]
end
end La

namespace La
open PySem PySem.Spec PyProof.Rows L2 Tl
section
variable {h : Nat} {L : List Lane} {W : Nat → Nat → List Nat} {Ts : List Tr}
end
end La

namespace La
open PySem PySem.Spec PyProof.Rows L2 Tl
end La

namespace La
open PySem PySem.Spec PyProof.Rows L2 Tl
end La

namespace La
open PySem PySem.Spec PyProof.Rows L2 Tl
end La

namespace La
open PySem PySem.Spec PyProof.Rows L2 Tl
end La

namespace La
open PySem PySem.Spec PyProof.Rows L2 Tl
end La

namespace La
open PySem PySem.Spec PyProof.Rows L2 Tl
end La

namespace La
open PySem PySem.Spec PyProof.Rows L2 Tl
end La

namespace La
open PySem PySem.Spec PyProof.Rows L2 Tl
structure Way77 (h : Nat) (L : List Lane) (B O : Nat → Nat → List Nat) : Prop where
  wp : WayP h L B O
  hL : Ln h L
  h12 : h ≤ 12
  hl : L.length ≤ 40
theorem Way77.shw {h : Nat} {L : List Lane} {B O : Nat → Nat → List Nat} (w : Way77 h L B O) : (wayG h L B O).canLay0 = true ∧ (wayG h L B O).depth < 60 := by
  obtain ⟨wz, wi⟩ := To.way w.hL w.wp
  have S := shw_way w.h12 w.hl wz wi
  exact ⟨S.lay, Nat.lt_of_le_of_lt S.dp (by omega)⟩
theorem Way77.shaped {h : Nat} {L : List Lane} {B O : Nat → Nat → List Nat} (w : Way77 h L B O) : SeqAt.shaped (wayG h L B O) = true := by
  obtain ⟨a, b⟩ := w.shw
  unfold SeqAt.shaped
  rw [a, Bool.true_and, decide_eq_true_iff]
  exact Nat.le_of_lt (Nat.lt_of_lt_of_le b (by decide))
end La

namespace La
end La

namespace La
open PySem PySem.Spec PyProof.Rows L2 Tl
end La

namespace La
open PySem PySem.Spec PyProof.Rows L2 Tl
end La

namespace La
open PySem PySem.Spec PyProof.Rows L2 Tl
theorem byh77 {h : Nat} {L : List Lane} {W : Nat → Nat → List Nat} : byhB h L W (onW L W) = true := by
  unfold byhB
  rw [List.all_eq_true]
  intro p mp
  obtain ⟨i, ei⟩ := List.mem_iff_getElem?.mp mp
  obtain ⟨e1, e2⟩ := List.getElem?_zip_eq_some.mp ei
  have hi := (List.getElem?_eq_some_iff.mp e1).1
  rw [List.getElem?_range hi] at e2
  have e2 := Option.some.inj e2
  unfold rowEq
  rw [List.all_eq_true]
  intro g _
  rw [decide_eq_true_iff, ← e2, onW_at e1]
section
variable {N Y Z V TD : D} {x4 x7 x8 x9 : Option D} {t : T}
end
section
variable {N Y Z : D} {x4 x5 x6 x7 x9 : Option D} {t : T}
end
end La

namespace La
open PySem PySem.Spec PyProof.Rows L2 Tl
def Sm (h N : Nat) (B O : Nat → Nat → List Nat) : Prop := WayZ h N B O ∧ WayIn h N B O
theorem spots_sm {L : List Lane} {S : List Nat} {p : Lane → Bool} (sb : S.Sublist (spots p L)) : S.length ≤ L.length ∧ ∀ l ∈ S, l < L.length := by
  constructor
  · refine Nat.le_trans sb.length_le ?_
    unfold spots
    rw [List.length_map]
    exact Nat.le_trans (List.length_filter_le _ _) (by simp)
  · intro l m
    obtain ⟨x, e, _⟩ := mem_spots.mp (sb.subset m)
    exact (List.getElem?_eq_some_iff.mp e).1
theorem Sm.upB {h N x g : Nat} {B O : Nat → Nat → List Nat} {S : List Nat} (r : Sm h N B O) (s : S.length ≤ N ∧ ∀ l ∈ S, l < N) : Sm h N (up2 B x g S) O := by
  refine ⟨⟨fun a ha b hb => ?_, r.1.2⟩, fun a ha b hb l m => ?_, r.2.2⟩
  · unfold up2
    split
    · exact s.1
    · exact r.1.1 a ha b hb
  · unfold up2 at m
    split at m
    · exact s.2 l m
    · exact r.2.1 a ha b hb l m
theorem Sm.upO {h N x g : Nat} {B O : Nat → Nat → List Nat} {S : List Nat} (r : Sm h N B O) (s : S.length ≤ N ∧ ∀ l ∈ S, l < N) : Sm h N B (up2 O x g S) := by
  refine ⟨⟨r.1.1, fun a ha b hb => ?_⟩, r.2.1, fun a ha b hb l m => ?_⟩
  · unfold up2
    split
    · exact s.1
    · exact r.1.2 a ha b hb
  · unfold up2 at m
    split at m
    · exact s.2 l m
    · exact r.2.2 a ha b hb l m
abbrev otS (h : Nat) (L : List Lane) (WD : Option D) (x5 x6 x7 x8 x9 x10 x11 : Option D) (t : T) (B O : Nat → Nat → List Nat) : SS := ⟨[none, some (netT h L), WD, none, none, x5, x6, x7, x8, x9, x10, x11, none], [(0, t), (3, .ls (rowsT9 h h B)), (4, .ls (rowsT9 L.length h O))]⟩
theorem ot6 {n h x : Nat} {L : List Lane} {WD x5 x6 x7 x9 x10 x11 : Option D} {t : T} {B O : Nat → Nat → List Nat} (hl : L.length ≤ 40) (ht : Tp (n + 40) t) : ∃ (S : List Nat) (t' : T), s_law_otherwise_k11_6 (otS h L WD x5 x6 x7 (some (.int x)) x9 x10 x11 t B O) = some (.nx (otS h L WD x5 x6 x7 (some (.int x)) (some (natsT S)) x10 x11 t' B O)) ∧ S.Sublist (spots (fun l => l.b == x) L) ∧ Tp n t' := by
  generalize hG : s_law_otherwise_k11_6 _ = y
  have en : netT h L = .tuple [.int h, .list (L.map laneD)] := rfl
  have ez := enumFrom_map laneD L 0
  unfold otS at hG
  generalize hRB : rowsT9 h h B = RB at *
  generalize hRO : rowsT9 L.length h O = RO at *
  have q1 : L.length < 8000000 := by omega
  simp [s_law_otherwise_k11_6, en, ez, q1] at hG
  generalize hC : lcLoop _ _ _ _ _ _ _ _ _ = z at hG
  obtain ⟨ys, τ', rfl, sb, t', rfl, h'⟩ := lc_tapeP hC (fun q => .int (q.2 : Nat)) (fun q => q.1.b == x) (fun n τ => ∃ t, τ = [(0, t), (3, .ls RB), (4, .ls RO)] ∧ Tp n t) n ⟨t, rfl, ht.mono (by simp; omega)⟩ (by
    rintro ⟨l, k⟩ m n τ ⟨t, rfl, ht⟩
    refine ⟨_, by simp; rfl, ?_⟩
    by_cases q : l.b = x
    · obtain ⟨v, t2, e2, v0, v1, h2⟩ := take_ok (n := n) (m := 2) ht (by omega) (by omega)
      refine ⟨decide (v = 0), [(0, t2), (3, .ls RB), (4, .ls RO)], ?_, ⟨t2, rfl, h2⟩, fun _ => ⟨by simp [q], _, by simp; rfl, rfl⟩⟩
      simp [laneD, q, e2]
    · refine ⟨false, [(0, t), (3, .ls RB), (4, .ls RO)], ?_, ⟨t, rfl, ht.mono (by omega)⟩, fun z => nomatch z⟩
      have qi : ¬ ((l.b : Nat) : Int) = (x : Int) := by omega
      simp [laneD, qi])
  refine ⟨ys.map (·.2), t', ?_, ?_, h'⟩
  · subst hRB hRO
    have eS : natsT (ys.map (·.2)) = .tuple (ys.map fun q => .int (q.2 : Nat)) := by
      unfold natsT
      rw [List.map_map]
      rfl
    rw [← hG, eS]
    unfold otS
    rw [en]
    generalize rowsT9 h h B = RB at *
    generalize rowsT9 L.length h O = RO at *
    generalize (ys.map fun q => PyData.int (q.2 : Nat)) = SS at *
    simp
  · unfold spots
    exact sb.map _
/-- one answer set anew -/
theorem otPut {N h x g : Nat} {V : Nat → Nat → List Nat} {S : List Nat} (hx : x < N) (hg : g < h) : ixN (rowsT9 N h V).length ((x : Nat) : Int) = some x ∧ (rowsT9 N h V)[x]? = some (.fl (rowD h V x)) ∧ Tl.putAt (.fl (rowD h V x)) ((g : Nat) : Int) (natsT S) = some (.fl ((rowD h V x).set g (natsT S))) ∧ (rowsT9 N h V).set x (.fl ((rowD h V x).set g (natsT S))) = rowsT9 N h (up2 V x g S) := by
  have e4 : ixN (rowD h V x).length ((g : Nat) : Int) = some g := by simp [ixN, rowD, hg]
  refine ⟨by simp [ixN, hx], by simp [hx], ?_, ?_⟩
  · show (ixN _ _).map _ = _
    rw [e4]
    rfl
  · rw [rowD_up, rowsT_up]
theorem otB {h g x : Nat} {L : List Lane} {WD x5 x7 x10 x11 : Option D} {t : T} {B O : Nat → Nat → List Nat} {S : List Nat} (hg : g < h) (hx : x < h) : s_law_otherwise_k11_8e_1e_1 (otS h L WD x5 (some (.int g)) x7 (some (.int x)) (some (natsT S)) x10 x11 t B O) = some (.nx (otS h L WD x5 (some (.int g)) x7 (some (.int x)) (some (natsT S)) x10 x11 t (up2 B x g S) O)) := by
  obtain ⟨e2, e3, e7, e8⟩ := otPut (N := h) (h := h) (x := x) (g := g) (V := B) (S := S) hx hg
  have e1 : L2.atI (rowsT9 h h B) ((x : Nat) : Int) = some (.fl (rowD h B x)) := by rw [atI_ofNat]; exact e3
  unfold otS
  rw [← e8]
  generalize rowsT9 h h B = RB at *
  generalize rowsT9 L.length h O = RO at *
  generalize natsT S = SD at *
  generalize netT h L = ND at *
  generalize (rowD h B x).set g SD = R2 at *
  generalize rowD h B x = R1 at *
  simp [s_law_otherwise_k11_8e_1e_1, e1, e2, e3, gPut, e7]
theorem otO {h g j : Nat} {L : List Lane} {WD x5 x8 x10 x11 : Option D} {t : T} {B O : Nat → Nat → List Nat} {S : List Nat} (hg : g < h) (hj : j < L.length) : s_law_otherwise_k11_8t_1 (otS h L WD x5 (some (.int g)) (some (.int j)) x8 (some (natsT S)) x10 x11 t B O) = some (.nx (otS h L WD x5 (some (.int g)) (some (.int j)) x8 (some (natsT S)) x10 x11 t B (up2 O j g S))) := by
  obtain ⟨e2, e3, e7, e8⟩ := otPut (N := L.length) (h := h) (x := j) (g := g) (V := O) (S := S) hj hg
  have e1 : L2.atI (rowsT9 L.length h O) ((j : Nat) : Int) = some (.fl (rowD h O j)) := by rw [atI_ofNat]; exact e3
  unfold otS
  rw [← e8]
  generalize rowsT9 h h B = RB at *
  generalize rowsT9 L.length h O = RO at *
  generalize natsT S = SD at *
  generalize netT h L = ND at *
  generalize (rowD h O j).set g SD = R2 at *
  generalize rowD h O j = R1 at *
  simp [s_law_otherwise_k11_8t_1, e1, e2, e3, gPut, e7]
theorem otE {h g j x : Nat} {L : List Lane} {l : Lane} {WD x5 x7 : Option D} {t : T} {B O : Nat → Nat → List Nat} {S : List Nat} (hg : g < h) (hj : j < L.length) : ∃ O', (O' = O ∨ O' = up2 O j g S) ∧ s_law_otherwise_k11_8e_1t_1b_1 (otS h L WD x5 (some (.int g)) x7 (some (.int x)) (some (natsT S)) (some (.int j)) (some (laneD l)) t B O) = some (.nx (otS h L WD x5 (some (.int g)) x7 (some (.int x)) (some (natsT S)) (some (.int j)) (some (laneD l)) t B O')) := by
  obtain ⟨e2, e3, e7, e8⟩ := otPut (N := L.length) (h := h) (x := j) (g := g) (V := O) (S := S) hj hg
  have e1 : L2.atI (rowsT9 L.length h O) ((j : Nat) : Int) = some (.fl (rowD h O j)) := by rw [atI_ofNat]; exact e3
  by_cases q : l.e = x
  · refine ⟨up2 O j g S, .inr rfl, ?_⟩
    have qi : ((l.e : Nat) : Int) = (x : Int) := by omega
    unfold otS
    rw [← e8]
    generalize rowsT9 h h B = RB at *
    generalize rowsT9 L.length h O = RO at *
    generalize natsT S = SD at *
    generalize netT h L = ND at *
    generalize (rowD h O j).set g SD = R2 at *
    generalize rowD h O j = R1 at *
    simp [s_law_otherwise_k11_8e_1t_1b_1, laneD, qi, e1, e2, e3, gPut, e7]
  · refine ⟨O, .inl rfl, ?_⟩
    have qi : ¬ ((l.e : Nat) : Int) = (x : Int) := by omega
    unfold otS
    generalize rowsT9 h h B = RB at *
    generalize rowsT9 L.length h O = RO at *
    generalize natsT S = SD at *
    generalize netT h L = ND at *
    simp [s_law_otherwise_k11_8e_1t_1b_1, laneD, qi]
theorem otL {h g x : Nat} {L : List Lane} {WD x5 x7 x10 x11 : Option D} {t : T} {B O : Nat → Nat → List Nat} {S : List Nat} (hl : L.length ≤ 40) (hg : g < h) (s : S.length ≤ L.length ∧ ∀ l ∈ S, l < L.length) (r : Sm h L.length B O) : ∃ O' y10 y11, s_law_otherwise_k11_8e_1t_1 (otS h L WD x5 (some (.int g)) x7 (some (.int x)) (some (natsT S)) x10 x11 t B O) = some (.nx (otS h L WD x5 (some (.int g)) x7 (some (.int x)) (some (natsT S)) y10 y11 t B O')) ∧ Sm h L.length B O' := by
  generalize hF : s_law_otherwise_k11_8e_1t_1 _ = y
  have q1 : L.length < 8000000 := by omega
  have hF' : forL [10, 11] (gtT (gtCons (gtN 10) (gtCons (gtN 11) gtNil))) s_law_otherwise_k11_8e_1t_1b (enumFrom 0 (L.map laneD)) (otS h L WD x5 (some (.int g)) x7 (some (.int x)) (some (natsT S)) x10 x11 t B O) = y := by
    rw [← hF]
    have en : netT h L = .tuple [.int h, .list (L.map laneD)] := rfl
    unfold otS s_law_otherwise_k11_8e_1t_1
    generalize s_law_otherwise_k11_8e_1t_1b = body
    rw [en]
    generalize rowsT9 h h B = RB at *
    generalize rowsT9 L.length h O = RO at *
    generalize natsT S = SD at *
    simp [q1]
  obtain ⟨s', rfl, O', y10, y11, rfl, r'⟩ := for_enum hF' (fun _ s => ∃ O' y10 y11, s = otS h L WD x5 (some (.int g)) x7 (some (.int x)) (some (natsT S)) y10 y11 t B O' ∧ Sm h L.length B O') ⟨O, x10, x11, rfl, r⟩ (by
    rintro j hj s ⟨O', y10, y11, rfl, r'⟩
    obtain ⟨O2, d, e⟩ := otE (h := h) (g := g) (j := j) (x := x) (l := L[j]) (WD := WD) (x5 := x5) (x7 := x7) (t := t) (B := B) (O := O') (S := S) hg hj
    have r2 : Sm h L.length B O2 := by
      rcases d with rfl | rfl
      · exact r'
      · exact r'.upO s
    refine ⟨[none, some (netT h L), WD, none, none, x5, some (.int g), x7, some (.int x), some (natsT S), some (.int j), some (laneD L[j]), none], ?_, _, .inl ?_, O2, some (.int j), some (laneD L[j]), rfl, r2⟩
    · unfold otS
      generalize netT h L = ND
      generalize natsT S = SD
      generalize laneD L[j] = LD
      simp
    · show s_law_otherwise_k11_8e_1t_1b (otS h L WD x5 (some (.int g)) x7 (some (.int x)) (some (natsT S)) (some (.int j)) (some (laneD L[j])) t B O') = _
      unfold s_law_otherwise_k11_8e_1t_1b
      rw [seq_nx e]
      rfl)
  exact ⟨O', y10, y11, rfl, r'⟩
theorem oth11_ok {n h : Nat} {L : List Lane} {W : Nat → Nat → List Nat} {t : T} (h1 : 1 ≤ h) (h12 : h ≤ 12) (hL : Ln h L) (hl : L.length ≤ 40) (hT : ∀ g, g < h → To h L g (fun x => W x g)) (ht : Tp (n + 60) t) : ∃ (B' O' : Nat → Nat → List Nat) (t' : T), m_law_otherwise_k11 [t, .leaf (netT h L), .leaf (wayG h L W (onW L W))] = some (.leaf (wayG h L B' O'), [t', .leaf (netT h L), .leaf (wayG h L W (onW L W))]) ∧ Sm h L.length B' O' ∧ Tp n t' := by
  have r0 : Sm h L.length W (onW L W) := To.way hL (WayP.whole hT)
  generalize hO : onW L W = O at *
  have ew : wayG h L W O = .tuple [.list (rowsL h h W), .list (rowsL L.length h O)] := rfl
  have f1 : s_law_otherwise_k11_1 ⟨[none, some (netT h L), some (wayG h L W O), none, none, none, none, none, none, none, none, none, none], [(0, t)]⟩ = some (.nx (otS h L (some (wayG h L W O)) none none none none none none none t W O)) := by
    generalize hG : s_law_otherwise_k11_1 _ = y
    unfold otS
    have lcK : ∀ (N : Nat) (V : Nat → Nat → List Nat) {mt : MG} {me : MV} {fw : Fz} {vw τ : Tau} {x : Option (List T × Tau)}, lcLoopT [12] mt mYes me fw vw (rowsL N h V) [] τ = x → tout [12] τ = τ → (∀ a, a < N → ∃ fz, mt (.list (rowD h V a)) fw = some fz ∧ ∃ r, me ⟨fz, vw⟩ τ = some (r, τ) ∧ r.t = some (.fl (rowD h V a))) → x = some (rowsT9 N h V, τ) := fun N V mt me fw vw τ x hC hτ hm => by
      have := lcT_typM (e := fun j => PyData.list (rowD h V j)) (xs := List.range N) hC (fun j => T.fl (rowD h V j)) hτ fun a m => hm a (List.mem_range.mp m)
      rw [this]
      rfl
    rw [ew] at hG ⊢
    generalize netT h L = ND at *
    generalize hRB : rowsL h h W = RB at *
    generalize hRO : rowsL L.length h O = RO at *
    simp [s_law_otherwise_k11_1] at hG
    rw [← hRB] at hG
    generalize hC : lcLoopT _ _ _ _ _ _ (rowsL h h W) _ _ = z at hG
    obtain rfl := lcK h W hC rfl fun a ha => ⟨_, by simp; rfl, _, by simp; rfl, rfl⟩
    simp at hG
    rw [← hRO] at hG
    generalize hC : lcLoopT _ _ _ _ _ _ (rowsL L.length h O) _ _ = z at hG
    obtain rfl := lcK L.length O hC rfl fun a ha => ⟨_, by simp; rfl, _, by simp; rfl, rfl⟩
    rw [← hRB, ← hRO, ← hG]
    generalize rowsT9 h h W = TB at *
    generalize rowsT9 L.length h O = TO at *
    simp
  obtain ⟨v, t1, e1, v0, v1, ht1⟩ := take_ok (n := n + 59) (m := 3) ht (by omega) (by omega)
  obtain ⟨w, t2, e2, w0, w1, ht2⟩ := take_ok (n := n + 58) (m := (h : Int)) ht1 (by omega) (by omega)
  obtain ⟨k, rfl⟩ : ∃ a : Nat, v = a := ⟨v.toNat, by omega⟩
  obtain ⟨g, rfl⟩ : ∃ a : Nat, w = a := ⟨w.toNat, by omega⟩
  have hg : g < h := by omega
  have f2 : s_law_otherwise_k11_2 (otS h L (some (wayG h L W O)) none none none none none none none t W O) = some (.nx (otS h L (some (wayG h L W O)) (some (.int k)) (some (.int g)) none none none none none t2 W O)) := by
    have en : netT h L = .tuple [.int h, .list (L.map laneD)] := rfl
    unfold otS
    rw [en]
    generalize wayG h L W O = Y at *
    generalize rowsT9 h h W = TB at *
    generalize rowsT9 L.length h O = TO at *
    generalize L.map laneD = LD at *
    simp [s_law_otherwise_k11_2, e1, e2]
  have fin : ∀ (B' O' : Nat → Nat → List Nat) (x5 x6 x7 x8 x9 x10 x11 : Option D) (t' : T), s_law_otherwise_k11_9 (otS h L (some (wayG h L W O)) x5 x6 x7 x8 x9 x10 x11 t' B' O') = some (.rt (.leaf (wayG h L B' O')) ⟨[none, some (netT h L), some (wayG h L W O), some (.list (rowsL h h B')), some (.list (rowsL L.length h O')), x5, x6, x7, x8, x9, x10, x11, none], [(0, t')]⟩) := fun B' O' x5 x6 x7 x8 x9 x10 x11 t' => by
    have z1 := fz_rowsT h h B'
    have z2 := fz_rowsT L.length h O'
    have ew' : wayG h L B' O' = .tuple [.list (rowsL h h B'), .list (rowsL L.length h O')] := rfl
    rw [ew']
    unfold otS
    generalize netT h L = ND at *
    generalize wayG h L W O = Y at *
    generalize rowsT9 h h B' = TB at *
    generalize rowsT9 L.length h O' = TO at *
    generalize rowsL h h B' = RB at *
    generalize rowsL L.length h O' = RO at *
    simp [s_law_otherwise_k11_9, z1, z2]
  have out : ∀ (B' O' : Nat → Nat → List Nat) (x5 x6 x7 x8 x9 x10 x11 : Option D) (t' : T), b_law_otherwise_k11 ⟨[none, some (netT h L), some (wayG h L W O), none, none, none, none, none, none, none, none, none, none], [(0, t)]⟩ = some (.rt (.leaf (wayG h L B' O')) ⟨[none, some (netT h L), some (wayG h L W O), some (.list (rowsL h h B')), some (.list (rowsL L.length h O')), x5, x6, x7, x8, x9, x10, x11, none], [(0, t')]⟩) → m_law_otherwise_k11 [t, .leaf (netT h L), .leaf (wayG h L W O)] = some (.leaf (wayG h L B' O'), [t', .leaf (netT h L), .leaf (wayG h L W O)]) := fun B' O' x5 x6 x7 x8 x9 x10 x11 t' run => by
    generalize netT h L = ND at *
    generalize wayG h L W O = Y at *
    generalize wayG h L B' O' = Y' at *
    simp [m_law_otherwise_k11, run]
  by_cases ne : L = []
  · refine ⟨W, O, t2, out W O (some (.int k)) (some (.int g)) none none none none none t2 ?_, r0, ht2.mono (by omega)⟩
    have f3 : s_law_otherwise_k11_3 (otS h L (some (wayG h L W O)) (some (.int k)) (some (.int g)) none none none none none t2 W O) = some (.rt (.leaf (wayG h L W O)) ⟨[none, some (netT h L), some (wayG h L W O), some (.list (rowsL h h W)), some (.list (rowsL L.length h O)), some (.int k), some (.int g), none, none, none, none, none, none], [(0, t2)]⟩) := by
      have z := fin W O (some (.int k)) (some (.int g)) none none none none none t2
      subst ne
      have en : netT h [] = .tuple [.int h, .list []] := rfl
      unfold otS at z ⊢
      rw [en] at z ⊢
      generalize wayG h [] W O = Y at *
      generalize rowsT9 h h W = TB at *
      generalize rowsT9 ([] : List Lane).length h O = TO at *
      generalize rowsL h h W = RB at *
      generalize rowsL ([] : List Lane).length h O = RO at *
      unfold s_law_otherwise_k11_9 at z
      simp [s_law_otherwise_k11_3] at z ⊢
      rw [z]
      rfl
    rw [pieces_law_otherwise_k11, seq_nx f1, seq_nx f2, seq_rtw f3]
  · have nl : 0 < L.length := List.length_pos_iff.mpr ne
    obtain ⟨u, t3, e3, u0, u1, ht3⟩ := take_ok (n := n + 57) (m := (L.length : Int)) ht2 (by omega) (by omega)
    obtain ⟨j, rfl⟩ : ∃ a : Nat, u = a := ⟨u.toNat, by omega⟩
    have hj : j < L.length := by omega
    have hx : L[j].e < h := (hL _ (List.getElem_mem hj)).2.1
    have f3 : s_law_otherwise_k11_3 (otS h L (some (wayG h L W O)) (some (.int k)) (some (.int g)) none none none none none t2 W O) = some (.nx (otS h L (some (wayG h L W O)) (some (.int k)) (some (.int g)) none none none none none t2 W O)) := by
      obtain ⟨l, L', rfl⟩ := List.exists_cons_of_ne_nil ne
      have en : netT h (l :: L') = .tuple [.int h, .list (laneD l :: L'.map laneD)] := rfl
      have sh : SeqAt.shaped (.list (laneD l :: L'.map laneD)) = true := shaped_lanes (l :: L')
      unfold otS
      rw [en]
      generalize wayG h (l :: L') W O = Y at *
      generalize rowsT9 h h W = TB at *
      generalize rowsT9 (l :: L').length h O = TO at *
      generalize L'.map laneD = LD at *
      generalize laneD l = ld at *
      simp [s_law_otherwise_k11_3, sh]
    have f4 : s_law_otherwise_k11_4 (otS h L (some (wayG h L W O)) (some (.int k)) (some (.int g)) none none none none none t2 W O) = some (.nx (otS h L (some (wayG h L W O)) (some (.int k)) (some (.int g)) (some (.int j)) none none none none t3 W O)) := by
      have en : netT h L = .tuple [.int h, .list (L.map laneD)] := rfl
      have el : (L.map laneD).length = L.length := List.length_map _
      unfold otS
      rw [en]
      generalize wayG h L W O = Y at *
      generalize rowsT9 h h W = TB at *
      generalize rowsT9 L.length h O = TO at *
      generalize L.map laneD = LD at *
      simp [s_law_otherwise_k11_4, el, e3]
    have f5 : s_law_otherwise_k11_5 (otS h L (some (wayG h L W O)) (some (.int k)) (some (.int g)) (some (.int j)) none none none none t3 W O) = some (.nx (otS h L (some (wayG h L W O)) (some (.int k)) (some (.int g)) (some (.int j)) (some (.int (L[j].e : Nat))) none none none t3 W O)) := by
      have en : netT h L = .tuple [.int h, .list (L.map laneD)] := rfl
      have e6 : L2.atI (L.map laneD) ((j : Nat) : Int) = some (laneD L[j]) := by rw [atI_ofNat, List.getElem?_map, List.getElem?_eq_getElem hj]; rfl
      have e7 : laneD L[j] = .tuple [.int L[j].b, .int L[j].e, .int L[j].r] := rfl
      unfold otS
      rw [en]
      generalize wayG h L W O = Y at *
      generalize rowsT9 h h W = TB at *
      generalize rowsT9 L.length h O = TO at *
      generalize L.map laneD = LD at *
      generalize L[j] = l at *
      simp [s_law_otherwise_k11_5, e6, e7]
    generalize L[j].e = x at *
    obtain ⟨S, t4, f6, hS, ht4⟩ := ot6 (n := n) (h := h) (x := x) (L := L) (WD := some (wayG h L W O)) (x5 := some (.int k)) (x6 := some (.int g)) (x7 := some (.int j)) (x9 := none) (x10 := none) (x11 := none) (B := W) (O := O) hl (ht3.mono (by omega))
    have sS := spots_sm hS
    by_cases q : x = g
    · refine ⟨W, O, t4, out W O (some (.int k)) (some (.int g)) (some (.int j)) (some (.int x)) (some (natsT S)) none none t4 ?_, r0, ht4⟩
      have f7 : s_law_otherwise_k11_7 (otS h L (some (wayG h L W O)) (some (.int k)) (some (.int g)) (some (.int j)) (some (.int x)) (some (natsT S)) none none t4 W O) = some (.rt (.leaf (wayG h L W O)) ⟨[none, some (netT h L), some (wayG h L W O), some (.list (rowsL h h W)), some (.list (rowsL L.length h O)), some (.int k), some (.int g), some (.int j), some (.int x), some (natsT S), none, none, none], [(0, t4)]⟩) := by
        have z := fin W O (some (.int k)) (some (.int g)) (some (.int j)) (some (.int x)) (some (natsT S)) none none t4
        have qi : ((x : Nat) : Int) = (g : Int) := by omega
        unfold otS at z ⊢
        generalize netT h L = ND at *
        generalize natsT S = SD at *
        generalize wayG h L W O = Y at *
        generalize rowsT9 h h W = TB at *
        generalize rowsT9 L.length h O = TO at *
        generalize rowsL h h W = RB at *
        generalize rowsL L.length h O = RO at *
        unfold s_law_otherwise_k11_9 at z
        simp [s_law_otherwise_k11_7, qi] at z ⊢
        rw [z]
        rfl
      rw [pieces_law_otherwise_k11, seq_nx f1, seq_nx f2, seq_nx f3, seq_nx f4, seq_nx f5, seq_nx f6, seq_rtw f7]
    · have f7 : s_law_otherwise_k11_7 (otS h L (some (wayG h L W O)) (some (.int k)) (some (.int g)) (some (.int j)) (some (.int x)) (some (natsT S)) none none t4 W O) = some (.nx (otS h L (some (wayG h L W O)) (some (.int k)) (some (.int g)) (some (.int j)) (some (.int x)) (some (natsT S)) none none t4 W O)) := by
        have qi : ¬ ((x : Nat) : Int) = (g : Int) := by omega
        unfold otS
        generalize netT h L = ND at *
        generalize natsT S = SD at *
        generalize wayG h L W O = Y at *
        generalize rowsT9 h h W = TB at *
        generalize rowsT9 L.length h O = TO at *
        simp [s_law_otherwise_k11_7, qi]
      obtain ⟨B', O', y10, y11, f8, r'⟩ : ∃ B' O' y10 y11, s_law_otherwise_k11_8 (otS h L (some (wayG h L W O)) (some (.int k)) (some (.int g)) (some (.int j)) (some (.int x)) (some (natsT S)) none none t4 W O) = some (.nx (otS h L (some (wayG h L W O)) (some (.int k)) (some (.int g)) (some (.int j)) (some (.int x)) (some (natsT S)) y10 y11 t4 B' O')) ∧ Sm h L.length B' O' := by
        have c : ∀ (c : Nat) (a b : MS) {τ : Tau}, (mIfS (mXB (mBinB (gp pEq) (mVar 5) (mC (.int c)))) a b ⟨[none, some (netT h L), some (wayG h L W O), none, none, some (.int k), some (.int g), some (.int j), some (.int x), some (natsT S), none, none, none], τ⟩) = if k = c then a ⟨[none, some (netT h L), some (wayG h L W O), none, none, some (.int k), some (.int g), some (.int j), some (.int x), some (natsT S), none, none, none], τ⟩ else b ⟨[none, some (netT h L), some (wayG h L W O), none, none, some (.int k), some (.int g), some (.int j), some (.int x), some (natsT S), none, none, none], τ⟩ := fun c a b τ => by
          generalize netT h L = ND at *
          generalize natsT S = SD at *
          generalize wayG h L W O = Y at *
          by_cases e : k = c
          · subst e
            simp
          · have : ¬ ((k : Nat) : Int) = (c : Int) := by omega
            simp [this, e]
        unfold s_law_otherwise_k11_8 s_law_otherwise_k11_8e s_law_otherwise_k11_8t
        by_cases k0 : k = 0
        · refine ⟨W, up2 O j g S, none, none, ?_, r0.upO sS⟩
          refine (c 0 _ _).trans ((if_pos k0).trans ?_)
          have e := otO (h := h) (g := g) (j := j) (L := L) (WD := some (wayG h L W O)) (x5 := some (.int k)) (x8 := some (.int x)) (x10 := none) (x11 := none) (t := t4) (B := W) (O := O) (S := S) hg hj
          exact (seq_nx e).trans rfl
        · by_cases k1 : k = 1
          · obtain ⟨O', y10, y11, e, r'⟩ := otL (h := h) (g := g) (x := x) (L := L) (WD := some (wayG h L W O)) (x5 := some (.int k)) (x7 := some (.int j)) (x10 := none) (x11 := none) (t := t4) (B := W) (O := O) (S := S) hl hg sS r0
            refine ⟨W, O', y10, y11, ?_, r'⟩
            refine (c 0 _ _).trans ((if_neg k0).trans ?_)
            refine (seq_nx ((c 1 _ _).trans ((if_pos k1).trans ((seq_nx e).trans rfl)))).trans rfl
          · refine ⟨up2 W x g S, O, none, none, ?_, r0.upB sS⟩
            refine (c 0 _ _).trans ((if_neg k0).trans ?_)
            have e := otB (h := h) (g := g) (x := x) (L := L) (WD := some (wayG h L W O)) (x5 := some (.int k)) (x7 := some (.int j)) (x10 := none) (x11 := none) (t := t4) (B := W) (O := O) (S := S) hg hx
            refine (seq_nx ((c 1 _ _).trans ((if_neg k1).trans ((seq_nx e).trans rfl)))).trans rfl
      refine ⟨B', O', t4, out B' O' (some (.int k)) (some (.int g)) (some (.int j)) (some (.int x)) (some (natsT S)) y10 y11 t4 ?_, r', ht4⟩
      rw [pieces_law_otherwise_k11, seq_nx f1, seq_nx f2, seq_nx f3, seq_nx f4, seq_nx f5, seq_nx f6, seq_nx f7, seq_nx f8, seq_rtw (fin B' O' (some (.int k)) (some (.int g)) (some (.int j)) (some (.int x)) (some (natsT S)) y10 y11 t4)]
end La

namespace La
open PySem PySem.Spec PyProof.Rows L2 Tl
abbrev r11F (N : D) (x3 x7 x8 x9 x10 x11 : Option D) : Fz := [none, some N, none, x3, none, none, none, x7, x8, x9, x10, x11, none, none, none]
theorem st11_1 {N : D} {t t' : T} (e : m_law_net [t] = some (.leaf N, [t'])) : s_law_right_k11_1 ⟨[none, none, none, none, none, none, none, none, none, none, none, none, none, none, none], [(0, t)]⟩ = some (.nx ⟨r11F N none none none none none none, [(0, t')]⟩) := by
  simp [s_law_right_k11_1, e]
theorem st11_2 {N : D} {mo : Nat} {v : Int} {t t1 t2 A B : T} (e1 : m_law_take [t, .leaf (.int 3)] = some (.leaf (.int v), [t1, .leaf (.int 3)])) (emo : L2.atI [PyData.int 1, .int 2, .int 9] v = some (.int (mo : Nat))) (e2 : m_law_way_by_houses_k11 [t1, .leaf N, .leaf (.int mo)] = some (.tup [A, B], [t2, .leaf N, .leaf (.int mo)])) : s_law_right_k11_2 ⟨r11F N none none none none none none, [(0, t)]⟩ = some (.nx ⟨r11F N none none none none none none, [(0, t2), (2, A)]⟩) := by
  simp [s_law_right_k11_2, e1, emo, e2, gIxT]
theorem st11_3 {N : D} {h : Nat} {L : List Lane} {W : Nat → Nat → List Nat} {t : T} (en : N = .tuple [.int h, .list (L.map laneD)]) (hL : Ln h L) : s_law_right_k11_3 ⟨r11F N none none none none none none, [(0, t), (2, tb11 h W)]⟩ = some (.nx ⟨r11F N (some (wayG h L W (onW L W))) none none none none none, [(0, t), (2, tb11 h W)]⟩) := by
  have at1 := fun x (hx : x < h) => tb11_at (W := W) hx
  generalize hG : s_law_right_k11_3 _ = y
  unfold tb11 at hG ⊢
  generalize hTS : ((List.range h).map fun x => (T.fl (rowD h W x))) = TS at hG at1 ⊢
  subst en
  simp [s_law_right_k11_3] at hG
  generalize hC : lcLoopV _ _ _ _ _ _ _ _ = z at hG
  rw [← hTS] at hC
  obtain rfl := lcV_typ hC (fun x => .list (rowD h W x)) rfl fun x m => by
    generalize rowD h W x = RW
    exact ⟨.val (.fl RW), by simp, rfl⟩
  simp at hG
  generalize hC2 : lcLoop _ _ _ _ _ _ _ _ _ = z at hG
  obtain rfl := lc_typM hC2 (fun l => .list (rowD h W l.e)) rfl fun l m => by
    have hle := (hL l m).2.1
    have a1 := at1 l.e hle
    generalize rowD h W l.e = RW at *
    have g1 : gIx [.vw (.ls TS), .val (.leaf (.int ((l.e : Nat) : Int)))] = some (.vw (.fl RW)) := by
      simp [atI_ofNat, a1]
    exact ⟨_, by simp [laneD]; rfl, .val (.fl RW), by simp [g1], rfl⟩
  rw [← wayD_G]
  unfold wayD tabD
  subst hG
  generalize ((List.range h).map fun x => PyData.list (rowD h W x)) = A at *
  generalize (L.map fun l => PyData.list (rowD h W l.e)) = B at *
  generalize L.map laneD = LD at *
  simp
theorem st11_4 {N : D} {h : Nat} {W : Nat → Nat → List Nat} {t : T} {G : Option D} : s_law_right_k11_4 ⟨r11F N G none none none none none, [(0, t), (2, tb11 h W)]⟩ = some (.nx ⟨r11F N G none none none none none, [(0, t), (2, tb11 h W), (4, tb11 h W)]⟩) := by
  generalize hG : s_law_right_k11_4 _ = y
  unfold tb11 at hG ⊢
  generalize hTS : ((List.range h).map fun x => (T.fl (rowD h W x))) = TS at hG ⊢
  simp [s_law_right_k11_4] at hG
  generalize hC : lcLoopU _ _ _ _ _ _ _ _ = z at hG
  rw [← hTS] at hC
  obtain rfl := lcU_typ hC (fun x => .fl (rowD h W x)) rfl fun x m => by
    generalize rowD h W x = RW
    exact ⟨.val (.fl RW), by simp, rfl⟩
  rw [hTS] at hG
  subst hG
  simp
theorem st11_5 {N : D} {t A B C : T} {G : Option D} (e : m_taken_by_houses_k11 [.leaf N, A] = some (.tup [B, C], [.leaf N, A])) : s_law_right_k11_5 ⟨r11F N G none none none none none, [(0, t), (2, A), (4, A)]⟩ = some (.nx ⟨r11F N G none none none none none, [(0, t), (2, A), (4, A), (5, .tup [B, C])]⟩) := by
  simp [s_law_right_k11_5, e]
theorem st11_6 {N : D} {t A : T} {ts : List T} {G a : D} (hG : bd (T.fzL ts) tpK = some G) (hA : T.fz A = some a) (iA : isHole A = false) (sa : SeqAt.shaped a = true) (ea : PyData.eqv a a = true) (es : m_law_same 60 [.leaf G, .leaf G] = some (.leaf (.bool true), [.leaf G, .leaf G])) : s_law_right_k11_6 ⟨r11F N (some G) none none none none none, [(0, t), (2, A), (4, A), (5, .tup ts)]⟩ = some (.nx ⟨r11F N (some G) none none none none none, [(0, t), (2, A), (4, A), (5, .tup ts)]⟩) := by
  simp [s_law_right_k11_6, hG, hA, iA, sa, ea, es]
theorem st11_7 {N : D} {t X C : T} {r : List D} {rs : List T} {G : D} (hr : r.length < 1000) : s_law_right_k11_7 ⟨r11F N (some G) none none none none none, [(0, t), (2, .ls (.fl r :: rs)), (4, X), (5, C)]⟩ = some (.nx ⟨r11F N (some G) none none none none none, [(0, t), (2, .ls (.fl (r ++ [.tuple []]) :: rs)), (4, X), (5, C)]⟩) := by
  have q : r.length < 16000000 := by omega
  have i0 : ixN (rs.length + 1) 0 = some 0 := by simp [ixN]
  simp [s_law_right_k11_7, q, i0, T.put]
theorem st11_8 {N : D} {t X C : T} {rs : List T} {G : D} (hr : rs.length < 1000) : s_law_right_k11_8 ⟨r11F N (some G) none none none none none, [(0, t), (2, .ls rs), (4, X), (5, C)]⟩ = some (.nx ⟨r11F N (some G) none none none none none, [(0, t), (2, .ls (rs ++ [.fl []])), (4, X), (5, C)]⟩) := by
  have q : rs.length < 16000000 := by omega
  simp [s_law_right_k11_8, q]
theorem st11_9 {N : D} {t Y X : T} {ts : List T} {G : D} (hG : bd (T.fzL ts) tpK = some G) (es : m_law_same 60 [.leaf G, .leaf G] = some (.leaf (.bool true), [.leaf G, .leaf G])) : s_law_right_k11_9 ⟨r11F N (some G) none none none none none, [(0, t), (2, Y), (4, X), (5, .tup ts)]⟩ = some (.nx ⟨r11F N (some G) none none none none none, [(0, t), (2, Y), (4, X), (5, .tup ts)]⟩) := by
  simp [s_law_right_k11_9, hG, es]
theorem st11_10 {N : D} {t Y X C : T} {r : List D} {rs : List T} {G : D} (hr : r.length < 1000) : s_law_right_k11_10 ⟨r11F N (some G) none none none none none, [(0, t), (2, Y), (4, X), (5, .tup [.ls (.fl r :: rs), C])]⟩ = some (.nx ⟨r11F N (some G) none none none none none, [(0, t), (2, Y), (4, X), (5, .tup [.ls (.fl (r ++ [.tuple []]) :: rs), C])]⟩) := by
  have q : r.length < 16000000 := by omega
  have i0 : ixN (rs.length + 1) 0 = some 0 := by simp [ixN]
  simp [s_law_right_k11_10, q, i0, T.put]
theorem st11_11 {N : D} {t Y X C : T} {rs : List T} {G : D} : s_law_right_k11_11 ⟨r11F N (some G) none none none none none, [(0, t), (2, Y), (4, X), (5, .tup [.ls rs, C])]⟩ = some (.nx ⟨r11F N (some G) none none none none none, [(0, t), (2, Y), (4, X), (5, .tup [.ls rs.reverse, C])]⟩) := by
  simp [s_law_right_k11_11]
theorem st11_12 {N : D} {t Y X C : T} {rs : List T} {G : D} (hr : ∀ r ∈ rs, RowT r) : ∃ C', s_law_right_k11_12 ⟨r11F N (some G) none none none none none, [(0, t), (2, Y), (4, X), (5, .tup [C, .ls rs])]⟩ = some (.nx ⟨r11F N (some G) none none none none none, [(0, t), (2, Y), (4, X), (5, C')]⟩) := by
  simp [s_law_right_k11_12]
  generalize hF : forOL _ _ _ _ _ _ = y
  obtain ⟨rs', s', rfl, rfl, hlen⟩ := forOL_of hF (fun s => s = ⟨r11F N (some G) none none none none none, [(0, t), (2, Y), (4, X), (5, .hole)]⟩) RowT rfl hr (by
    rintro t s ⟨ds, rfl, hds⟩ rfl
    refine ⟨⟨rfl, by simp⟩, ?_⟩
    have q : ds.length < 16000000 := by omega
    simp [s_law_right_k11_12b, s_law_right_k11_12b_1, q])
  simp
theorem st11_13 {N : D} {t Y X C' : T} {ts : List T} {G : D} (e : m_taken_by_houses_k11 [.leaf N, X] = some (.tup ts, [.leaf N, X])) (iX : isHole X = false) (hG : bd (T.fzL ts) tpK = some G) (es : m_law_same 60 [.leaf G, .leaf G] = some (.leaf (.bool true), [.leaf G, .leaf G])) : s_law_right_k11_13 ⟨r11F N (some G) none none none none none, [(0, t), (2, Y), (4, X), (5, C')]⟩ = some (.nx ⟨r11F N (some G) none none none none none, [(0, t), (2, Y), (4, X), (5, C')]⟩) := by
  simp [s_law_right_k11_13, e, hG, es]
end La

namespace La
open PySem PySem.Spec PyProof.Rows L2 Tl
theorem lay_rowsL11 (h N : Nat) (V : Nat → Nat → List Nat) : PyData.canLayAll0 (rowsL N h V) = true ∧ PyData.depthAll (rowsL N h V) ≤ 2 := lay_rows (fun j => rowD h V j) (fun j => lay_row h V j) (List.range N)
theorem lay_wayG11 (h : Nat) (L : List Lane) (V U : Nat → Nat → List Nat) : (wayG h L V U).canLay0 = true ∧ (wayG h L V U).depth ≤ 4 := by
  obtain ⟨a1, a2⟩ := lay_rowsL11 h h V
  obtain ⟨b1, b2⟩ := lay_rowsL11 h L.length U
  unfold wayG
  generalize rowsL h h V = r1 at a1 a2
  generalize rowsL L.length h U = r2 at b1 b2
  refine ⟨by simp only [PyData.canLay0, PyData.canLayAll0, a1, b1, Bool.and_self], ?_⟩
  simp only [PyData.depth, PyData.depthAll]
  omega
theorem tabD_shaped (h : Nat) (V : Nat → Nat → List Nat) : SeqAt.shaped (tabD h V) = true ∧ PyData.eqv (tabD h V) (tabD h V) = true := by
  obtain ⟨a1, a2⟩ := lay_rowsL11 h h V
  have c : PyData.canLay0 (tabD h V) = true := by
    show PyData.canLayAll0 (rowsL h h V) = true
    exact a1
  have d : (tabD h V).depth ≤ 3 := by
    show PyData.depthAll (rowsL h h V) + 1 ≤ 3
    omega
  refine ⟨?_, eqv_self _ c⟩
  unfold SeqAt.shaped
  rw [c]
  simp
  omega
abbrev r11T (t Y X C : T) : Tau := [(0, t), (2, Y), (4, X), (5, C)]
theorem turn11 {n h : Nat} {L : List Lane} {W : Nat → Nat → List Nat} {t Y X C : T} {x7 x8 x9 x10 : Option D} (h1 : 1 ≤ h) (h12 : h ≤ 12) (hL : Ln h L) (hl : L.length ≤ 40) (hT : ∀ g, g < h → To h L g (fun x => W x g)) (ht : Tp (n + 60) t) : ∃ t' y8 y9 y10, s_law_right_k11_14b ⟨r11F (netT h L) (some (wayG h L W (onW L W))) x7 x8 x9 x10 none, r11T t Y X C⟩ = some (.nx ⟨r11F (netT h L) (some (wayG h L W (onW L W))) x7 y8 y9 y10 none, r11T t' Y X C⟩) ∧ Tp n t' := by
  obtain ⟨B, O, t', e1, sm, ht'⟩ := oth11_ok (n := n) h1 h12 hL hl hT ht
  have e2 := isByHouses_ok (B := B) (O := O) hL
  have e3 := lawDue11_ok (B := B) (O := O) hL
  have ok := (shw_way h12 hl sm.1 sm.2).ok (by omega) (by omega)
  have shp := (shw_way h12 hl sm.1 sm.2).shownShaped
  generalize byhB h L B O = q at *
  generalize wayG h L B O = Z at *
  generalize wayG h L W (onW L W) = G at *
  generalize netT h L = N at *
  refine ⟨t', some Z, some (.str Z.shown), some (.bool q), ?_, ht'⟩
  have f1 : s_law_right_k11_14b_1 ⟨r11F N (some G) x7 x8 x9 x10 none, r11T t Y X C⟩ = some (.nx ⟨r11F N (some G) x7 (some Z) x9 x10 none, r11T t' Y X C⟩) := by
    simp [s_law_right_k11_14b_1, e1]
  have f2 : s_law_right_k11_14b_2 ⟨r11F N (some G) x7 (some Z) x9 x10 none, r11T t' Y X C⟩ = some (.nx ⟨r11F N (some G) x7 (some Z) (some (.str Z.shown)) x10 none, r11T t' Y X C⟩) := by
    simp [s_law_right_k11_14b_2, ok]
  have f3 : s_law_right_k11_14b_3 ⟨r11F N (some G) x7 (some Z) (some (.str Z.shown)) x10 none, r11T t' Y X C⟩ = some (.nx ⟨r11F N (some G) x7 (some Z) (some (.str Z.shown)) (some (.bool q)) none, r11T t' Y X C⟩) := by
    simp [s_law_right_k11_14b_3, e2]
  have f4 : s_law_right_k11_14b_4 ⟨r11F N (some G) x7 (some Z) (some (.str Z.shown)) (some (.bool q)) none, r11T t' Y X C⟩ = some (.nx ⟨r11F N (some G) x7 (some Z) (some (.str Z.shown)) (some (.bool q)) none, r11T t' Y X C⟩) := by
    simp [s_law_right_k11_14b_4, e3, ok, shp]
  unfold s_law_right_k11_14b
  rw [seq_nx f1, seq_nx f2, seq_nx f3, seq_nx f4]
  rfl
theorem turns11 {n h : Nat} {L : List Lane} {W : Nat → Nat → List Nat} {t Y X C : T} (h1 : 1 ≤ h) (h12 : h ≤ 12) (hL : Ln h L) (hl : L.length ≤ 40) (hT : ∀ g, g < h → To h L g (fun x => W x g)) (ht : Tp (n + 480) t) : ∃ t' y7 y8 y9 y10, s_law_right_k11_14 ⟨r11F (netT h L) (some (wayG h L W (onW L W))) none none none none none, r11T t Y X C⟩ = some (.nx ⟨r11F (netT h L) (some (wayG h L W (onW L W))) y7 y8 y9 y10 none, r11T t' Y X C⟩) ∧ Tp n t' := by
  generalize hF : s_law_right_k11_14 _ = y
  have hF' : forL [7] (gtN 7) s_law_right_k11_14b (rangeD 0 1 8) ⟨r11F (netT h L) (some (wayG h L W (onW L W))) none none none none none, r11T t Y X C⟩ = y := by
    rw [← hF]
    unfold s_law_right_k11_14
    generalize s_law_right_k11_14b = body
    generalize netT h L = N at *
    generalize wayG h L W (onW L W) = G at *
    simp
  obtain ⟨s', rfl, t', y7, y8, y9, y10, rfl, ht'⟩ := for_rng hF' (fun k s => ∃ t' y7 y8 y9 y10, s = ⟨r11F (netT h L) (some (wayG h L W (onW L W))) y7 y8 y9 y10 none, r11T t' Y X C⟩ ∧ Tp (n + 60 * (8 - k)) t') ⟨t, none, none, none, none, rfl, ht⟩ (by
    rintro k s hk ⟨t', y7, y8, y9, y10, rfl, ht'⟩
    rw [show n + 60 * (8 - k) = n + 60 * (8 - (k + 1)) + 60 by omega] at ht'
    obtain ⟨t2, z8, z9, z10, e, g2⟩ := turn11 (Y := Y) (X := X) (C := C) (x7 := some (.int k)) (x8 := y8) (x9 := y9) (x10 := y10) h1 h12 hL hl hT ht'
    exact ⟨_, rfl, _, .inl e, t2, some (.int k), z8, z9, z10, rfl, g2⟩)
  exact ⟨t', y7, y8, y9, y10, rfl, ht'.mono (by omega)⟩
theorem right11_ok {n : Nat} {t : T} (ht : Tp (n + 2000000) t) : ∃ t' : T, m_law_right_k11 [t] = some (.leaf (.bool true), [t']) := by
  obtain ⟨h, L, t2, e2, h2, h12, hL, hl, g2⟩ := netT_ok (n := n + 1999600) (t := t) ht
  have wk : ∀ h N : Nat, h ≤ 12 → N ≤ 40 → wayK h N ≤ 900000 := fun h N a b => by
    have : ∀ h, h ≤ 12 → wayK h 40 ≤ 900000 := by decide +kernel
    have m : wayK h N ≤ wayK h 40 := by
      unfold wayK
      exact Nat.add_le_add_left (Nat.mul_le_mul_left _ (by omega)) _
    have := this h a
    omega
  have w1 := wk h L.length h12 hl
  have w2 : (1002 * (h + 1) + 2) * h ≤ 900000 := by
    unfold wayK at w1
    omega
  obtain ⟨v, t3, e3, v0, v1, g3⟩ := take_ok (n := n + 1999599) (m := 3) g2 (by omega) (by omega)
  obtain ⟨mo, emo, hmo⟩ : ∃ mo : Nat, L2.atI [PyData.int 1, .int 2, .int 9] v = some (.int (mo : Nat)) ∧ 1 ≤ mo := by
    have c : v = 0 ∨ v = 1 ∨ v = 2 := by omega
    rcases c with rfl | rfl | rfl
    · exact ⟨1, rfl, by omega⟩
    · exact ⟨2, rfl, by omega⟩
    · exact ⟨9, rfl, by omega⟩
  obtain ⟨W, t4, e4, hT, g4⟩ := wayByHouses11_ok (n := n + 1000000) (mo := mo) (by omega) (by omega) hL (by omega) hmo (g3.mono (by omega))
  have eT := taken11_ok (W := W) hL
  have fzT := fz_on11 h L W
  obtain ⟨c1, c2⟩ := lay_wayG11 h L W (onW L W)
  have es := same_ok 60 _ c1 (by omega)
  have fz1 := fz_tb11 h W
  obtain ⟨sA, eA⟩ := tabD_shaped h W
  obtain ⟨RS, eRS, lRS⟩ : ∃ RS, tb11 h W = .ls (.fl (rowD h W 0) :: RS) ∧ RS.length < 900 := by
    obtain ⟨k, rfl⟩ : ∃ k, h = k + 1 := ⟨h - 1, by omega⟩
    refine ⟨(List.range k).map fun x => .fl (rowD (k + 1) W (x + 1)), ?_, by simp; omega⟩
    unfold tb11
    rw [List.range_succ_eq_map, List.map_cons, List.map_map]
    rfl
  have lr : (rowD h W 0).length < 1000 := by simp; omega
  have eOn : on11 h L W = .ls (L.map fun l => .fl (rowD h W l.e)) := rfl
  have hr : ∀ r ∈ L.map fun l => T.fl (rowD h W l.e), RowT r := fun r m => by
    obtain ⟨l, _, rfl⟩ := List.mem_map.mp m
    exact ⟨_, rfl, by simp; omega⟩
  have f3 := st11_3 (N := netT h L) (t := t4) (W := W) rfl hL
  have en : (netT h L) = netT h L := rfl
  have iX : isHole (tb11 h W) = false := rfl
  have fzL : bd (T.fzL [tb11 h W, on11 h L W]) tpK = some (wayG h L W (onW L W)) := by rw [← fz_tup]; exact fzT
  have f1 := st11_1 e2
  have f2 := st11_2 e3 emo e4
  have f4 := st11_4 (N := netT h L) (h := h) (W := W) (t := t4) (G := some (wayG h L W (onW L W)))
  have f5 := st11_5 (t := t4) (G := some (wayG h L W (onW L W))) eT
  have f6 := st11_6 (N := netT h L) (t := t4) fzL fz1 iX sA eA es
  have f7 := st11_7 (N := netT h L) (t := t4) (X := tb11 h W) (C := .tup [tb11 h W, on11 h L W]) (r := rowD h W 0) (rs := RS) (G := wayG h L W (onW L W)) lr
  rw [← eRS] at f7
  have f8 := st11_8 (N := netT h L) (t := t4) (X := tb11 h W) (C := .tup [tb11 h W, on11 h L W]) (rs := .fl (rowD h W 0 ++ [.tuple []]) :: RS) (G := wayG h L W (onW L W)) (by rw [List.length_cons]; omega)
  have f9 := st11_9 (N := netT h L) (t := t4) (Y := .ls ((.fl (rowD h W 0 ++ [.tuple []]) :: RS) ++ [.fl []])) (X := tb11 h W) fzL es
  have f10 := st11_10 (N := netT h L) (t := t4) (Y := .ls ((.fl (rowD h W 0 ++ [.tuple []]) :: RS) ++ [.fl []])) (X := tb11 h W) (C := on11 h L W) (r := rowD h W 0) (rs := RS) (G := wayG h L W (onW L W)) lr
  rw [← eRS] at f10
  have f11 := st11_11 (N := netT h L) (t := t4) (Y := .ls ((.fl (rowD h W 0 ++ [.tuple []]) :: RS) ++ [.fl []])) (X := tb11 h W) (C := on11 h L W) (rs := .fl (rowD h W 0 ++ [.tuple []]) :: RS) (G := wayG h L W (onW L W))
  obtain ⟨C', f12⟩ := st11_12 (N := netT h L) (t := t4) (Y := .ls ((.fl (rowD h W 0 ++ [.tuple []]) :: RS) ++ [.fl []])) (X := tb11 h W) (C := .ls (.fl (rowD h W 0 ++ [.tuple []]) :: RS).reverse) (G := wayG h L W (onW L W)) hr
  rw [← eOn] at f12
  have f13 := st11_13 (N := netT h L) (t := t4) (Y := .ls ((.fl (rowD h W 0 ++ [.tuple []]) :: RS) ++ [.fl []])) (X := tb11 h W) (C' := C') eT iX fzL es
  obtain ⟨t5, y7, y8, y9, y10, f14, g5⟩ := turns11 (n := n + 900002) (t := t4) (Y := .ls ((.fl (rowD h W 0 ++ [.tuple []]) :: RS) ++ [.fl []])) (X := tb11 h W) (C := C') (by omega) h12 hL hl hT (g4.mono (by omega))
  obtain ⟨B, O, t6, e6, g6⟩ := lawWay11_ok (n := n) (h := h) (L := L) (t := t5) (by omega) (by omega) hL (by omega) (g5.mono (by omega))
  have i1 := isByHouses_ok (B := B) (O := O) hL
  have i2 := lawDue11_ok (B := B) (O := O) hL
  have i3 : m_is_by_houses [.leaf (netT h L), .leaf (wayG h L W (onW L W))] = some (.leaf (.bool true), [.leaf (netT h L), .leaf (wayG h L W (onW L W))]) := by rw [isByHouses_ok hL, byh77]
  clear eRS iX fzL hr eOn fzT fz1
  generalize byhB h L B O = q at *
  generalize wayG h L B O = Z at *
  generalize wayG h L W (onW L W) = G at *
  generalize netT h L = N at *
  generalize T.ls ((.fl (rowD h W 0 ++ [.tuple []]) :: RS) ++ [.fl []]) = Y at *
  generalize tb11 h W = X at *
  have f15 : s_law_right_k11_15 ⟨r11F N (some G) y7 y8 y9 y10 none, r11T t5 Y X C'⟩ = some (.nx ⟨r11F N (some G) y7 y8 y9 y10 (some Z), r11T t6 Y X C'⟩) := by
    simp [s_law_right_k11_15, e6]
  have f16 : s_law_right_k11_16 ⟨r11F N (some G) y7 y8 y9 y10 (some Z), r11T t6 Y X C'⟩ = some (.rt (.leaf (.bool true)) ⟨r11F N (some G) y7 y8 y9 y10 (some Z), r11T t6 Y X C'⟩) := by
    simp [s_law_right_k11_16, i1, i2, i3, pIsB]
  have run : b_law_right_k11 ⟨[none, none, none, none, none, none, none, none, none, none, none, none, none, none, none], [(0, t)]⟩ = some (.rt (.leaf (.bool true)) ⟨r11F N (some G) y7 y8 y9 y10 (some Z), r11T t6 Y X C'⟩) := by
    rw [pieces_law_right_k11, seq_nx f1, seq_nx f2, seq_nx f3, seq_nx f4, seq_nx f5, seq_nx f6, seq_nx f7, seq_nx f8, seq_nx f9, seq_nx f10, seq_nx f11, seq_nx f12, seq_nx f13, seq_nx f14, seq_nx f15, seq_rtw f16]
  refine ⟨t6, ?_⟩
  simp [m_law_right_k11, run]
theorem main (ns : List Int) (hns : ns.length ≤ 63) : ∃ ts', m_law_k11 [.scr (ns.map PyData.int)] = some (.leaf (.bool true), ts') := by
  simp only [m_law_k11]
  have eF : ∃ a : Option D, s_law_k11_1 ⟨[none, none], [(0, .scr (ns.map .int))]⟩ = some (.nx ⟨[none, a], [(0, .scr (ns.map .int))]⟩) := by
    generalize hF : s_law_k11_1 _ = y
    obtain ⟨M, hM, hM2⟩ : ∃ M : Nat, (if (3 : Int) < (if (8 : Int) < (ns.length : Int) then 8 else (ns.length : Int)) then (if (8 : Int) < (ns.length : Int) then 8 else (ns.length : Int)) else 3) = (M : Int) ∧ M ≤ 8 := by
      refine ⟨((if (3 : Int) < (if (8 : Int) < (ns.length : Int) then 8 else (ns.length : Int)) then (if (8 : Int) < (ns.length : Int) then 8 else (ns.length : Int)) else 3)).toNat, ?_, ?_⟩ <;> split <;> split <;> omega
    have e8 : -8000000 ≤ (M : Int) ∧ (M : Int) ≤ 8000000 := by omega
    simp [s_law_k11_1, hM, e8] at hF
    obtain ⟨s', rfl, a, rfl⟩ := for_rng hF (fun k s => ∃ a : Option D, s = ⟨[none, a], [(0, .scr (ns.map .int))]⟩) ⟨none, rfl⟩ (by
      rintro k s hk ⟨a, rfl⟩
      obtain ⟨t, e1, h1⟩ := tape_ok ns k
      obtain ⟨t', e2⟩ := right11_ok (n := 0) (t := t) (h1.mono (by decide))
      have f1 : s_law_k11_1b_1 ⟨[none, some (.int k)], [(0, .scr (ns.map .int))]⟩ = some (.nx ⟨[none, some (.int k)], [(0, .scr (ns.map .int))]⟩) := by
        simp [s_law_k11_1b_1, e1, e2]
      refine ⟨_, rfl, ⟨[none, some (.int k)], [(0, .scr (ns.map .int))]⟩, .inl ?_, some (.int k), rfl⟩
      show s_law_k11_1b ⟨[none, some (.int k)], [(0, .scr (ns.map .int))]⟩ = _
      unfold s_law_k11_1b
      rw [seq_nx f1]
      rfl)
    exact ⟨a, rfl⟩
  obtain ⟨a, e1⟩ := eF
  simp [pieces_law_k11, e1, s_law_k11_2]
end La

namespace La
open PySem PySem.Spec PyProof.Rows L2 Tl
def topS (i : Nat) : Stmt := PySem.Challenge.pw_trainlanes_k11_ways_by_houses.main.body.getD i (.Pass ⟨0, 0, 0, 0⟩)
theorem sc_taken_by_houses_k11 : FnScope ["net", "table", "rows", "begin", "end", "room"] ["net", "table"] (defScope (topS 1)) := ⟨rfl, rfl, rfl, by decide +kernel, rfl, by decide +kernel, by decide +kernel⟩
theorem sc_is_by_houses : FnScope ["net", "way", "lane", "rows"] ["net", "way"] (defScope (topS 2)) := ⟨rfl, rfl, rfl, by decide +kernel, rfl, by decide +kernel, by decide +kernel⟩
theorem sc_law_cell_at : FnScope ["_law_script", "_law_k"] ["_law_script", "_law_k"] (defScope (topS 4)) := ⟨rfl, rfl, rfl, by decide +kernel, rfl, by decide +kernel, by decide +kernel⟩
theorem sc_law_tape : FnScope ["_law_script", "_law_k", "_law_cell"] ["_law_script", "_law_k"] (defScope (topS 5)) := ⟨rfl, rfl, rfl, by decide +kernel, rfl, by decide +kernel, by decide +kernel⟩
theorem sc_law_take : FnScope ["_law_tape_here", "_law_many", "_law_found", "_law_once"] ["_law_tape_here", "_law_many"] (defScope (topS 6)) := ⟨rfl, rfl, rfl, by decide +kernel, rfl, by decide +kernel, by decide +kernel⟩
theorem sc_law_room : FnScope ["_law_tape_here"] ["_law_tape_here"] (defScope (topS 7)) := ⟨rfl, rfl, rfl, by decide +kernel, rfl, by decide +kernel, by decide +kernel⟩
theorem sc_law_net : FnScope ["_law_tape_here", "_law_way_here", "_law_great", "_law_houses", "_law_lanes", "_law_many", "_law_house", "_law_other", "_law_turn", "_law_begin", "_law_end"] ["_law_tape_here"] (defScope (topS 8)) := ⟨rfl, rfl, rfl, by decide +kernel, rfl, by decide +kernel, by decide +kernel⟩
theorem sc_law_some : FnScope ["_law_tape_here", "_law_things", "_law_some_here", "_law_thing"] ["_law_tape_here", "_law_things"] (defScope (topS 9)) := ⟨rfl, rfl, rfl, by decide +kernel, rfl, by decide +kernel, by decide +kernel⟩
theorem sc_law_taken_to : FnScope ["_law_tape_here", "_law_net_here", "_law_goal", "_law_most", "_law_found", "_law_inner", "_law_served", "_law_lanes", "_law_house", "_law_k", "_law_lane"] ["_law_tape_here", "_law_net_here", "_law_goal", "_law_most"] (defScope (topS 10)) := ⟨rfl, rfl, rfl, by decide +kernel, rfl, by decide +kernel, by decide +kernel⟩
theorem sc_law_by_houses_k11 : FnScope ["_law_net_here", "_law_table", "_law_begin", "_law_end", "_law_room_here", "_law_goal"] ["_law_net_here", "_law_table"] (defScope (topS 11)) := ⟨rfl, rfl, rfl, by decide +kernel, rfl, by decide +kernel, by decide +kernel⟩
theorem sc_law_way_by_houses_k11 : FnScope ["_law_tape_here", "_law_net_here", "_law_most", "_law_columns", "_law_goal", "_law_house", "_law_column"] ["_law_tape_here", "_law_net_here", "_law_most"] (defScope (topS 12)) := ⟨rfl, rfl, rfl, by decide +kernel, rfl, by decide +kernel, by decide +kernel⟩
theorem sc_law_way_k11 : FnScope ["_law_tape_here", "_law_net_here", "_law_most", "_law_which", "_law_begins", "_law_ons", "_law_less", "_law_row", "_law_one"] ["_law_tape_here", "_law_net_here"] (defScope (topS 13)) := ⟨rfl, rfl, rfl, by decide +kernel, rfl, by decide +kernel, by decide +kernel⟩
theorem sc_law_same : FnScope ["_law_found", "_law_due_here", "_law_one", "_law_other"] ["_law_found", "_law_due_here"] (defScope (topS 14)) := ⟨rfl, rfl, rfl, by decide +kernel, rfl, by decide +kernel, by decide +kernel⟩
theorem sc_law_otherwise_k11 : FnScope ["_law_tape_here", "_law_net_here", "_law_way_here", "_law_begins", "_law_ons", "_law_which", "_law_goal", "_law_lane", "_law_house", "_law_some_here", "_law_k", "_law_one", "_law_rows"] ["_law_tape_here", "_law_net_here", "_law_way_here"] (defScope (topS 15)) := ⟨rfl, rfl, rfl, by decide +kernel, rfl, by decide +kernel, by decide +kernel⟩
theorem sc_law_due : FnScope ["_law_net_here", "_law_way_here", "_law_lane", "_law_rows"] ["_law_net_here", "_law_way_here"] (defScope (topS 16)) := ⟨rfl, rfl, rfl, by decide +kernel, rfl, by decide +kernel, by decide +kernel⟩
theorem sc_law_right_k11 : FnScope ["_law_tape_here", "_law_net_here", "_law_table", "_law_due_here", "_law_kept", "_law_way_here", "_law_rows", "_law_turn", "_law_bent", "_law_shown", "_law_found", "_law_other", "_law_begin", "_law_end", "_law_room_here"] ["_law_tape_here"] (defScope (topS 17)) := ⟨rfl, rfl, rfl, by decide +kernel, rfl, by decide +kernel, by decide +kernel⟩
theorem sc_law_k11 : FnScope ["_law_script", "_law_k"] ["_law_script"] (defScope (topS 18)) := ⟨rfl, rfl, rfl, by decide +kernel, rfl, by decide +kernel, by decide +kernel⟩
structure Zs (K : PySem.W.Frag) (mg : Str → Option Value) : Prop where
  b : Bt mg
  d_taken_by_houses_k11 : Dn K mg "taken_by_houses" (topS 1) ["net", "table"]
  d_is_by_houses : Dn K mg "is_by_houses" (topS 2) ["net", "way"]
  d_law_cell_at : Dn K mg "_law_cell_at" (topS 4) ["_law_script", "_law_k"]
  d_law_tape : Dn K mg "_law_tape" (topS 5) ["_law_script", "_law_k"]
  d_law_take : Dn K mg "_law_take" (topS 6) ["_law_tape_here", "_law_many"]
  d_law_room : Dn K mg "_law_room" (topS 7) ["_law_tape_here"]
  d_law_net : Dn K mg "_law_net" (topS 8) ["_law_tape_here"]
  d_law_some : Dn K mg "_law_some" (topS 9) ["_law_tape_here", "_law_things"]
  d_law_taken_to : Dn K mg "_law_taken_to" (topS 10) ["_law_tape_here", "_law_net_here", "_law_goal", "_law_most"]
  d_law_by_houses_k11 : Dn K mg "_law_by_houses" (topS 11) ["_law_net_here", "_law_table"]
  d_law_way_by_houses_k11 : Dn K mg "_law_way_by_houses" (topS 12) ["_law_tape_here", "_law_net_here", "_law_most"]
  d_law_way_k11 : Dn K mg "_law_way" (topS 13) ["_law_tape_here", "_law_net_here"]
  d_law_same : Dn K mg "_law_same" (topS 14) ["_law_found", "_law_due_here"]
  d_law_otherwise_k11 : Dn K mg "_law_otherwise" (topS 15) ["_law_tape_here", "_law_net_here", "_law_way_here"]
  d_law_due : Dn K mg "_law_due" (topS 16) ["_law_net_here", "_law_way_here"]
  d_law_right_k11 : Dn K mg "_law_right" (topS 17) ["_law_tape_here"]
  d_law_k11 : Dn K mg "law" (topS 18) ["_law_script"]
section
variable {P : Program} {w : World} {K : PySem.W.Frag} {mg : Str → Option Value} {base : Heap}
theorem c_taken_by_houses_k11 (Z : Zs K mg) : Fm P w K mg base 1 "taken_by_houses" 2 m_taken_by_houses_k11 := by
  have B := Z.b
  have S := sc_taken_by_houses_k11
  exact fm_mk (k := 0) Z.d_taken_by_houses_k11 sc_taken_by_houses_k11 [false, true] rfl fun f cdv Ar up s H E hr =>
    (sr_cons (sr_ret (er_tupT (ar_cons (ev_br (ev_er (pe_lc0 (own := [("rows", 2)]) rfl S.nd (blkOk_by (by kernel_rfl))) (ev_lcU (own := [("rows", 2)]) (ivv_see (pv 1)) (fun _ _ _ _ _ => (pg_name (i := 2) S.nd rfl (.inl rfl))) (by decide) (fun _ _ _ _ _ => (ev_br (er_callTy call_list_of vr_list (by rfl) B.list bt_list (ar_cons (er_see (pv 2)) ar_nil)) 2)))) 1) (ar_cons (ev_er (pe_lc0 (own := [("begin", 3), ("end", 4), ("room", 5)]) rfl S.nd (blkOk_by (by kernel_rfl))) (ev_lcT0 (own := [("begin", 3), ("end", 4), ("room", 5)]) (ir_seq (er_ix ix_seq vr_ix (er_var (pv 0)) er_int (fun _ _ => rfl))) (fun _ _ _ _ _ => (gr_tup rfl (grs_cons (gr_name (pg_name (i := 3) S.nd rfl (.inl rfl))) (grs_cons (gr_name (pg_name (i := 4) S.nd rfl (.inl rfl))) (grs_cons (gr_name (pg_name (i := 5) S.nd rfl (.inl rfl))) grs_nil))))) (by decide) (fun _ _ _ _ _ => (ev_br (er_callTy call_list_of vr_list (by rfl) B.list bt_list (ar_cons (er_ix ix_seq vr_ix (er_see (pv 1)) (er_var (pv 4)) (fun _ _ => rfl)) ar_nil)) 1)))) ar_nil)))) sr_nil)
theorem c_is_by_houses (Z : Zs K mg) : Fm P w K mg base 1 "is_by_houses" 2 m_is_by_houses := by
  have B := Z.b
  have S := sc_is_by_houses
  exact fm_mk (k := 0) Z.d_is_by_houses sc_is_by_houses [false, false] rfl fun f cdv Ar up s H E hr =>
    (sr_cons (sr_ret (er_callB (cr_all rfl) vr_all (by rfl) B.all bt_all (ar_cons (ev_er (pe_lc0 (own := [("lane", 2), ("rows", 3)]) rfl S.nd (blkOk_by (by kernel_rfl))) (ev_lc0 (own := [("lane", 2), ("rows", 3)]) (ir_zip (er_ix ix_seq vr_ix (er_var (pv 0)) er_int (fun _ _ => rfl)) (er_ix ix_seq vr_ix (er_var (pv 1)) er_int (fun _ _ => rfl)) (by rfl) B.zip) (fun _ _ _ _ _ => (gr_tup rfl (grs_cons (gr_name (pg_name (i := 2) S.nd rfl (.inl rfl))) (grs_cons (gr_name (pg_name (i := 3) S.nd rfl (.inl rfl))) grs_nil)))) (by decide) (fun _ _ _ _ _ => (er_cmp (op_eqD (hu_eq hr)) vr_eq (er_var (pv 3)) (er_ix ix_seq vr_ix (er_ix ix_seq vr_ix (er_var (pv 1)) er_int (fun _ _ => rfl)) (er_ix ix_seq vr_ix (er_var (pv 2)) er_int (fun _ _ => rfl)) (fun _ _ => rfl)) (nomark _))))) ar_nil))) sr_nil)
theorem c_law_cell_at (Z : Zs K mg) : Fm P w K mg base 1 "_law_cell_at" 2 m_law_cell_at := by
  have B := Z.b
  have S := sc_law_cell_at
  exact fm_mk (k := 0) Z.d_law_cell_at sc_law_cell_at [true, false] rfl fun f cdv Ar up s H E hr =>
    (sr_cons (sr_ret (ev_br (er_if (tr_br (tr_cmp op_lt vr_c2 (er_var (pv 1)) (er_callB call_len vr_len (by rfl) B.len bt_len (ar_cons (er_see (pv 0)) ar_nil)) (nomark _)) 0) (er_ix ix_seq vr_ix (er_see (pv 0)) (er_var (pv 1)) (fun _ _ => rfl)) er_int) 0)) sr_nil)
theorem c_law_tape (Z : Zs K mg) : Fm P w K mg base 2 "_law_tape" 2 m_law_tape := by
  have B := Z.b
  have S := sc_law_tape
  have c_law_cell_at := c_law_cell_at (P := P) (w := w) (base := base) Z
  exact fm_mk (k := 1) Z.d_law_tape sc_law_tape [true, false] rfl fun f cdv Ar up s H E hr =>
    (sr_cons (sr_set (ps_set (i := 2) S.nd rfl (.inl rfl) peW) (er_call c_law_cell_at hr (ca_io (pv 0) (ca_cons (er_var (pv 1)) ca_nil)))) (sr_cons (sr_ret (er_lst (ar_cons (er_op op_mulAll vr_mul (er_callB call_abs vr_abs (by rfl) B.abs bt_abs (ar_cons (er_var (pv 2)) ar_nil)) (er_callTy call_int1 vr_int (by rfl) B.int bt_int (ar_cons (er_cmp op_ge vr_c2 (er_callB call_abs vr_abs (by rfl) B.abs bt_abs (ar_cons (er_var (pv 2)) ar_nil)) (er_op op_pow vr_pow er_int er_int) (nomark _)) ar_nil))) (ar_cons (er_op op_mod vr_mod (er_op op_mulAll vr_mul (er_op op_addAll vr_add (er_op op_addAll vr_add (er_op op_mod vr_mod (er_var (pv 2)) er_int) (er_op op_mulAll vr_mul er_int (er_var (pv 1)))) er_int) er_int) er_int) (ar_cons er_int ar_nil))))) sr_nil))
theorem c_law_take (Z : Zs K mg) : Fm P w K mg base 1 "_law_take" 2 m_law_take := by
  have B := Z.b
  have S := sc_law_take
  exact fm_mk (k := 0) Z.d_law_take sc_law_take [true, false] rfl fun f cdv Ar up s H E hr =>
    (sr_cons (sr_if (tr_br (tr_cmp op_gt vr_c2 (er_ix ix_seq vr_ix (er_see (pv 0)) er_int (fun _ _ => rfl)) er_int (nomark _)) 0) (sr_cons (sr_set (ps_set (i := 2) S.nd rfl (.inl rfl) peW) (ev_br (er_op op_mod vr_mod (er_ix ix_seq vr_ix (er_see (pv 0)) er_int (fun _ _ => rfl)) (er_var (pv 1))) 0)) (sr_cons (sr_setP (ps_asg peW (pg_sub peW peW set_list)) (ev_br (er_op op_fdiv vr_div (er_ix ix_seq vr_ix (er_see (pv 0)) er_int (fun _ _ => rfl)) (er_var (pv 1))) 0) (pv_here (pv 0)) er_int) (sr_cons (sr_ret (er_var (pv 2))) sr_nil))) sr_nil) (sr_cons (sr_setP (ps_asg peW (pg_sub peW peW set_list)) (ev_br (er_op op_addAll vr_add (er_ix ix_seq vr_ix (er_see (pv 0)) er_int (fun _ _ => rfl)) er_int) 0) (pv_here (pv 0)) er_int) (sr_cons (sr_set (ps_set (i := 3) S.nd rfl (.inl rfl) peW) (ev_br (er_op op_mod vr_mod (er_op op_mulAll vr_mul (er_op op_addAll vr_add (er_ix ix_seq vr_ix (er_see (pv 0)) er_int (fun _ _ => rfl)) (er_op op_mulAll vr_mul er_int (er_ix ix_seq vr_ix (er_see (pv 0)) er_int (fun _ _ => rfl)))) (er_op op_addAll vr_add er_int (er_ix ix_seq vr_ix (er_see (pv 0)) er_int (fun _ _ => rfl)))) er_int) 0)) (sr_cons (sr_setP (ps_asg peW (pg_sub peW peW set_list)) (ev_br (er_op op_mod vr_mod (er_op op_addAll vr_add (er_op op_mulAll vr_mul (er_var (pv 3)) (er_op op_addAll vr_add (er_op op_mod vr_mod (er_var (pv 3)) er_int) er_int)) (er_ix ix_seq vr_ix (er_see (pv 0)) er_int (fun _ _ => rfl))) er_int) 0) (pv_here (pv 0)) er_int) (sr_cons (sr_ret (ev_br (er_op op_mod vr_mod (er_op op_fdiv vr_div (er_op op_mod vr_mod (er_op op_mulAll vr_mul (er_ix ix_seq vr_ix (er_see (pv 0)) er_int (fun _ _ => rfl)) (er_op op_addAll vr_add (er_op op_mod vr_mod (er_ix ix_seq vr_ix (er_see (pv 0)) er_int (fun _ _ => rfl)) er_int) er_int)) er_int) er_int) (er_var (pv 1))) 0)) sr_nil)))))
theorem c_law_room (Z : Zs K mg) : Fm P w K mg base 2 "_law_room" 1 m_law_room := by
  have B := Z.b
  have S := sc_law_room
  have c_law_take := c_law_take (P := P) (w := w) (base := base) Z
  exact fm_mk (k := 1) Z.d_law_room sc_law_room [true] rfl fun f cdv Ar up s H E hr =>
    (sr_cons (sr_ret (er_ix ix_seq vr_ix (er_lst (ar_cons er_int (ar_cons er_int (ar_cons (er_op op_addAll vr_add er_int (er_call c_law_take hr (ca_io (pv 0) (ca_cons er_int ca_nil)))) ar_nil)))) (er_call c_law_take hr (ca_io (pv 0) (ca_cons er_int ca_nil))) (fun _ _ => rfl))) sr_nil)
theorem c_law_net (Z : Zs K mg) : Fm P w K mg base 3 "_law_net" 1 m_law_net := by
  have B := Z.b
  have S := sc_law_net
  have c_law_take := c_law_take (P := P) (w := w) (base := base) Z
  have c_law_room := c_law_room (P := P) (w := w) (base := base) Z
  exact fm_mk (k := 2) Z.d_law_net sc_law_net [true] rfl fun f cdv Ar up s H E hr =>
    (sr_cons (sr_set (ps_set (i := 1) S.nd rfl (.inl rfl) peW) (er_call c_law_take hr (ca_io (pv 0) (ca_cons er_int ca_nil)))) (sr_cons (sr_set (ps_set (i := 2) S.nd rfl (.inl rfl) peW) (er_cmp (op_eqD (hu_eq hr)) vr_eq (er_call c_law_take hr (ca_io (pv 0) (ca_cons er_int ca_nil))) er_int (nomark _))) (sr_cons (sr_set (ps_set (i := 3) S.nd rfl (.inr rfl) peW) (er_if (tr_tru (er_var (pv 2))) (er_op op_addAll vr_add er_int (er_call c_law_take hr (ca_io (pv 0) (ca_cons er_int ca_nil)))) (er_op op_addAll vr_add er_int (er_call c_law_take hr (ca_io (pv 0) (ca_cons er_int ca_nil)))))) (sr_cons (sr_setO (ps_set (i := 4) S.nd rfl (.inl rfl) peW) (er_lst ar_nil)) (sr_cons (sr_if (tr_cmp (op_eqD (hu_eq hr)) vr_eq (er_var (pv 1)) er_int (nomark _)) (sr_cons (sr_set (ps_set (i := 5) S.nd rfl (.inl rfl) peW) (er_op op_addAll vr_add er_int (er_call c_law_take hr (ca_io (pv 0) (ca_cons er_int ca_nil))))) (sr_cons (sr_for PassesOwn.never rfl (ir_range1 (ar_cons (er_var (pv 3)) ar_nil) (by rfl) B.range) (gr_name (pg_name (i := 6) S.nd rfl (.inr rfl))) (sr_cons (sr_do (er_mut mu_extend PySem.F.slot_list_extend PySem.F.type_list_extend mt_extend (pv 4) (ar_cons (ev_er (pe_lc0 (own := [("_law_turn", 8)]) rfl S.nd (blkOk_by (by kernel_rfl))) (ev_lc0 (own := [("_law_turn", 8)]) (ir_range1 (ar_cons (er_var (pv 5)) ar_nil) (by rfl) B.range) (fun _ _ _ _ _ => (gr_name (pg_name (i := 8) S.nd rfl (.inl rfl)))) (by decide) (fun _ _ _ _ _ => (er_tup (ar_cons (er_var (pv 6)) (ar_cons (er_op op_mod vr_mod (er_op op_addAll vr_add (er_var (pv 6)) er_int) (er_var (pv 3))) (ar_cons (er_call c_law_room hr (ca_io (pv 0) ca_nil)) ar_nil))))))) ar_nil))) sr_nil)) sr_nil)) sr_nil) (sr_cons (sr_if (tr_cmp (op_eqD (hu_eq hr)) vr_eq (er_var (pv 1)) er_int (nomark _)) (sr_cons (sr_for PassesOwn.never rfl (ir_range2 (ar_cons er_int (ar_cons (er_var (pv 3)) ar_nil)) (by rfl) B.range) (gr_name (pg_name (i := 6) S.nd rfl (.inr rfl))) (sr_cons (sr_set (ps_set (i := 7) S.nd rfl (.inl rfl) peW) (er_call c_law_take hr (ca_io (pv 0) (ca_cons (er_var (pv 6)) ca_nil)))) (sr_cons (sr_do (er_mut mu_extend PySem.F.slot_list_extend PySem.F.type_list_extend mt_extend (pv 4) (ar_cons (er_lst (ar_cons (er_tup (ar_cons (er_var (pv 6)) (ar_cons (er_var (pv 7)) (ar_cons (er_call c_law_room hr (ca_io (pv 0) ca_nil)) ar_nil)))) (ar_cons (er_tup (ar_cons (er_var (pv 7)) (ar_cons (er_var (pv 6)) (ar_cons (er_call c_law_room hr (ca_io (pv 0) ca_nil)) ar_nil)))) ar_nil))) ar_nil))) sr_nil))) sr_nil) sr_nil) (sr_cons (sr_for PassesOwn.never rfl (ir_range1 (ar_cons (er_call c_law_take hr (ca_io (pv 0) (ca_cons er_int ca_nil))) ar_nil) (by rfl) B.range) (gr_name (pg_name (i := 8) S.nd rfl (.inl rfl))) (sr_cons (sr_set (ps_set (i := 9) S.nd rfl (.inl rfl) peW) (er_call c_law_take hr (ca_io (pv 0) (ca_cons (er_var (pv 3)) ca_nil)))) (sr_cons (sr_set (ps_set (i := 10) S.nd rfl (.inl rfl) peW) (er_op op_mod vr_mod (er_op op_addAll vr_add (er_op op_addAll vr_add (er_var (pv 9)) er_int) (er_call c_law_take hr (ca_io (pv 0) (ca_cons (er_op op_sub' vr_sub (er_var (pv 3)) er_int) ca_nil)))) (er_var (pv 3)))) (sr_cons (sr_do (er_mut mu_insert PySem.F.slot_list_insert PySem.F.type_list_insert mt_insert (pv 4) (ar_cons (er_call c_law_take hr (ca_io (pv 0) (ca_cons (ev_br (er_op op_addAll vr_add (er_callB call_len vr_len (by rfl) B.len bt_len (ar_cons (er_see (pv 4)) ar_nil)) er_int) 4) ca_nil))) (ar_cons (er_tup (ar_cons (er_var (pv 9)) (ar_cons (er_var (pv 10)) (ar_cons (er_call c_law_room hr (ca_io (pv 0) ca_nil)) ar_nil)))) ar_nil)))) (sr_cons (sr_if (tr_cmp (op_eqD (hu_eq hr)) vr_eq (er_var (pv 1)) er_int (nomark _)) (sr_cons (sr_do (er_mut mu_append PySem.F.slot_list_append PySem.F.type_list_append mt_append (pv 4) (ar_cons (er_tup (ar_cons (er_var (pv 10)) (ar_cons (er_var (pv 9)) (ar_cons (er_call c_law_room hr (ca_io (pv 0) ca_nil)) ar_nil)))) ar_nil))) sr_nil) sr_nil) sr_nil))))) (sr_cons (sr_ret (er_tup (ar_cons (er_var (pv 3)) (ar_cons (ev_br (er_cut (er_see (pv 4)) po_none ov_none (po_some peW) (ov_some (er_if (tr_tru (er_var (pv 2))) er_int er_int))) 4) ar_nil)))) sr_nil))))))))
theorem c_law_some (Z : Zs K mg) : Fm P w K mg base 2 "_law_some" 2 m_law_some := by
  have B := Z.b
  have S := sc_law_some
  have c_law_take := c_law_take (P := P) (w := w) (base := base) Z
  exact fm_mk (k := 1) Z.d_law_some sc_law_some [true, false] rfl fun f cdv Ar up s H E hr =>
    (sr_cons (sr_set (ps_lc1 (own := [("_law_thing", 3)]) (i := 2) rfl S.nd rfl rfl rfl (blkOk_by (by kernel_rfl))) (ev_lc1 (own := [("_law_thing", 3)]) (ir_seq (er_var (pv 1))) (fun _ _ _ _ _ => (gr_name (pg_name (i := 3) S.nd rfl (.inl rfl)))) (by decide) (fun _ _ _ _ _ => (tr_cmp (op_eqD (hu_eq hr)) vr_eq (er_call c_law_take hr (ca_io (pv 0) (ca_cons er_int ca_nil))) er_int (nomark _))) (fun _ _ _ _ _ => (er_var (pv 3))))) (sr_cons (sr_ret (er_if (tr_cmp (op_neD (hu_eq hr)) vr_ne (er_var (pv 2)) (er_lst ar_nil) (nomark _)) (er_var (pv 2)) (er_lst (ar_cons (er_ix ix_seq vr_ix (er_var (pv 1)) (er_call c_law_take hr (ca_io (pv 0) (ca_cons (er_callB call_len vr_len (by rfl) B.len bt_len (ar_cons (er_var (pv 1)) ar_nil)) ca_nil))) (fun _ _ => rfl)) ar_nil)))) sr_nil))
theorem c_law_taken_to (Z : Zs K mg) : Fm P w K mg base 3 "_law_taken_to" 4 m_law_taken_to := by
  have B := Z.b
  have S := sc_law_taken_to
  have c_law_take := c_law_take (P := P) (w := w) (base := base) Z
  have c_law_some := c_law_some (P := P) (w := w) (base := base) Z
  exact fm_mk (k := 2) Z.d_law_taken_to sc_law_taken_to [true, false, false, false] rfl fun f cdv Ar up s H E hr =>
    (sr_cons (sr_setO (ps_lc0 (own := [("_law_house", 8)]) (i := 4) rfl S.nd rfl rfl rfl (blkOk_by (by kernel_rfl))) (ev_lc0 (own := [("_law_house", 8)]) (ir_range1 (ar_cons (er_ix ix_seq vr_ix (er_var (pv 1)) er_int (fun _ _ => rfl)) ar_nil) (by rfl) B.range) (fun _ _ _ _ _ => (gr_name (pg_name (i := 8) S.nd rfl (.inl rfl)))) (by decide) (fun _ _ _ _ _ => (er_tup ar_nil)))) (sr_cons (sr_setO (ps_set (i := 5) S.nd rfl (.inr rfl) peW) (er_lst (ar_cons (er_var (pv 2)) ar_nil))) (sr_cons (sr_set (ps_set (i := 6) S.nd rfl (.inl rfl) peW) (er_if (tr_cmp op_gt vr_c2 (er_call c_law_take hr (ca_io (pv 0) (ca_cons er_int ca_nil))) er_int (nomark _)) (er_ix ix_seq vr_ix (er_var (pv 1)) er_int (fun _ _ => rfl)) (er_call c_law_take hr (ca_io (pv 0) (ca_cons (er_ix ix_seq vr_ix (er_var (pv 1)) er_int (fun _ _ => rfl)) ca_nil))))) (sr_cons (sr_while whF PassesOwn.never (tr_br (tr_cmp op_le vr_c2 (er_callB call_len vr_len (by rfl) B.len bt_len (ar_cons (er_see (pv 5)) ar_nil)) (er_var (pv 6)) (nomark _)) 5) (sr_cons (sr_set (ps_lc1 (own := [("_law_k", 9), ("_law_lane", 10)]) (i := 7) rfl S.nd rfl rfl rfl (blkOk_by (by kernel_rfl))) (ev_lc1 (own := [("_law_k", 9), ("_law_lane", 10)]) (ir_enum (er_ix ix_seq vr_ix (er_var (pv 1)) er_int (fun _ _ => rfl)) (by rfl) B.enumerate) (fun _ _ _ _ _ => (gr_tup rfl (grs_cons (gr_name (pg_name (i := 9) S.nd rfl (.inl rfl))) (grs_cons (gr_name (pg_name (i := 10) S.nd rfl (.inl rfl))) grs_nil)))) (by decide) (fun _ _ _ _ _ => (tr_w (tw_and (tr_br (tr_cmp (op_inAll (hu_in hr)) vr_in (er_ix ix_seq vr_ix (er_var (pv 10)) er_int (fun _ _ => rfl)) (er_see (pv 5)) (by with_unfolding_all rfl)) 5) (tw_and1 (tr_br (tr_cmp (op_notInAll (hu_in hr)) vr_notIn (er_ix ix_seq vr_ix (er_var (pv 10)) er_int (fun _ _ => rfl)) (er_see (pv 5)) (by with_unfolding_all rfl)) 5))))) (fun _ _ _ _ _ => (er_var (pv 9))))) (sr_cons (sr_if (tr_cmp (op_eqD (hu_eq hr)) vr_eq (er_var (pv 7)) (er_lst ar_nil) (nomark _)) (sr_cons (sr_ret (er_tk (pv 4))) sr_nil) sr_nil) (sr_cons (sr_set (ps_set (i := 8) S.nd rfl (.inr rfl) peW) (er_ix ix_seq vr_ix (er_ix ix_seq vr_ix (er_ix ix_seq vr_ix (er_var (pv 1)) er_int (fun _ _ => rfl)) (er_ix ix_seq vr_ix (er_var (pv 7)) (er_call c_law_take hr (ca_io (pv 0) (ca_cons (er_callB call_len vr_len (by rfl) B.len bt_len (ar_cons (er_var (pv 7)) ar_nil)) ca_nil))) (fun _ _ => rfl)) (fun _ _ => rfl)) er_int (fun _ _ => rfl))) (sr_cons (sr_setP (ps_asg peW (pg_sub peW peW set_list)) (er_callTy call_tuple_of vr_tuple (by rfl) B.tuple bt_tuple (ar_cons (er_cut (er_call c_law_some hr (ca_io (pv 0) (ca_cons (ev_er (pe_lc1 (own := [("_law_k", 9)]) rfl S.nd (blkOk_by (by kernel_rfl))) (ev_lc1 (own := [("_law_k", 9)]) (ir_seq (er_var (pv 7))) (fun _ _ _ _ _ => (gr_name (pg_name (i := 9) S.nd rfl (.inl rfl)))) (by decide) (fun _ _ _ _ _ => (tr_cmp (op_eqD (hu_eq hr)) vr_eq (er_ix ix_seq vr_ix (er_ix ix_seq vr_ix (er_ix ix_seq vr_ix (er_var (pv 1)) er_int (fun _ _ => rfl)) (er_var (pv 9)) (fun _ _ => rfl)) er_int (fun _ _ => rfl)) (er_var (pv 8)) (nomark _))) (fun _ _ _ _ _ => (er_var (pv 9))))) ca_nil))) po_none ov_none (po_some peW) (ov_some (er_var (pv 3)))) ar_nil)) (pv_here (pv 4)) (er_var (pv 8))) (sr_cons (sr_do (er_mut mu_append PySem.F.slot_list_append PySem.F.type_list_append mt_append (pv 5) (ar_cons (er_var (pv 8)) ar_nil))) sr_nil)))))) (sr_cons (sr_ret (er_tk (pv 4))) sr_nil)))))
theorem c_law_by_houses_k11 (Z : Zs K mg) : Fm P w K mg base 1 "_law_by_houses" 2 m_law_by_houses_k11 := by
  have B := Z.b
  have S := sc_law_by_houses_k11
  exact fm_mk (k := 0) Z.d_law_by_houses_k11 sc_law_by_houses_k11 [false, true] rfl fun f cdv Ar up s H E hr =>
    (sr_cons (sr_ret (er_tupK (pv 1) (ev_er (pe_lc0 (own := [("_law_begin", 2), ("_law_end", 3), ("_law_room_here", 4)]) rfl S.nd (blkOk_by (by kernel_rfl))) (ev_lc0 (own := [("_law_begin", 2), ("_law_end", 3), ("_law_room_here", 4)]) (ir_seq (er_ix ix_seq vr_ix (er_var (pv 0)) er_int (fun _ _ => rfl))) (fun _ _ _ _ _ => (gr_tup rfl (grs_cons (gr_name (pg_name (i := 2) S.nd rfl (.inl rfl))) (grs_cons (gr_name (pg_name (i := 3) S.nd rfl (.inr rfl))) (grs_cons (gr_name (pg_name (i := 4) S.nd rfl (.inl rfl))) grs_nil))))) (by decide) (fun _ _ _ _ _ => (ev_br (ev_er (pe_lc0 (own := [("_law_goal", 5)]) rfl S.nd (blkOk_by (by kernel_rfl))) (ev_lc0 (own := [("_law_goal", 5)]) (ir_range1 (ar_cons (er_ix ix_seq vr_ix (er_var (pv 0)) er_int (fun _ _ => rfl)) ar_nil) (by rfl) B.range) (fun _ _ _ _ _ => (gr_name (pg_name (i := 5) S.nd rfl (.inl rfl)))) (by decide) (fun _ _ _ _ _ => (er_ix ix_seq vr_ix (er_ix ix_seq vr_ix (er_see (pv 1)) (er_var (pv 3)) (fun _ _ => rfl)) (er_var (pv 5)) (fun _ _ => rfl))))) 1)))))) sr_nil)
theorem c_law_way_by_houses_k11 (Z : Zs K mg) : Fm P w K mg base 4 "_law_way_by_houses" 3 m_law_way_by_houses_k11 := by
  have B := Z.b
  have S := sc_law_way_by_houses_k11
  have c_law_taken_to := c_law_taken_to (P := P) (w := w) (base := base) Z
  have c_law_by_houses_k11 := c_law_by_houses_k11 (P := P) (w := w) (base := base) Z
  exact fm_mk (k := 3) Z.d_law_way_by_houses_k11 sc_law_way_by_houses_k11 [true, false, false] rfl fun f cdv Ar up s H E hr =>
    (sr_cons (sr_set (ps_set (i := 3) S.nd rfl (.inr rfl) peW) (ev_er (pe_lc0 (own := [("_law_goal", 4)]) rfl S.nd (blkOk_by (by kernel_rfl))) (ev_lc0 (own := [("_law_goal", 4)]) (ir_range1 (ar_cons (er_ix ix_seq vr_ix (er_var (pv 1)) er_int (fun _ _ => rfl)) ar_nil) (by rfl) B.range) (fun _ _ _ _ _ => (gr_name (pg_name (i := 4) S.nd rfl (.inl rfl)))) (by decide) (fun _ _ _ _ _ => (er_call c_law_taken_to hr (ca_io (pv 0) (ca_cons (er_var (pv 1)) (ca_cons (er_var (pv 4)) (ca_cons (er_var (pv 2)) ca_nil))))))))) (sr_cons (sr_ret (er_call c_law_by_houses_k11 hr (ca_cons (er_var (pv 1)) (ca_own (ev_er (pe_lc0 (own := [("_law_house", 5)]) rfl S.nd (blkOk_by (by kernel_rfl))) (ev_lcT0 (own := [("_law_house", 5)]) (ir_range1 (ar_cons (er_ix ix_seq vr_ix (er_var (pv 1)) er_int (fun _ _ => rfl)) ar_nil) (by rfl) B.range) (fun _ _ _ _ _ => (gr_name (pg_name (i := 5) S.nd rfl (.inr rfl)))) (by decide) (fun _ _ _ _ _ => (ev_er (pe_lc0 (own := [("_law_column", 6)]) rfl S.nd (blkOk_by (by kernel_rfl))) (ev_lc0 (own := [("_law_column", 6)]) (ir_seq (er_var (pv 3))) (fun _ _ _ _ _ => (gr_name (pg_name (i := 6) S.nd rfl (.inl rfl)))) (by decide) (fun _ _ _ _ _ => (er_ix ix_seq vr_ix (er_var (pv 6)) (er_var (pv 5)) (fun _ _ => rfl)))))))) ca_nil)))) sr_nil))
theorem c_law_way_k11 (Z : Zs K mg) : Fm P w K mg base 5 "_law_way" 2 m_law_way_k11 := by
  have B := Z.b
  have S := sc_law_way_k11
  have c_law_take := c_law_take (P := P) (w := w) (base := base) Z
  have c_law_some := c_law_some (P := P) (w := w) (base := base) Z
  have c_law_way_by_houses_k11 := c_law_way_by_houses_k11 (P := P) (w := w) (base := base) Z
  exact fm_mk (k := 4) Z.d_law_way_k11 sc_law_way_k11 [true, false] rfl fun f cdv Ar up s H E hr =>
    (sr_cons (sr_set (ps_set (i := 2) S.nd rfl (.inl rfl) peW) (er_ix ix_seq vr_ix (er_lst (ar_cons er_int (ar_cons er_int (ar_cons er_int ar_nil)))) (er_call c_law_take hr (ca_io (pv 0) (ca_cons er_int ca_nil))) (fun _ _ => rfl))) (sr_cons (sr_set (ps_set (i := 3) S.nd rfl (.inl rfl) peW) (er_call c_law_take hr (ca_io (pv 0) (ca_cons er_int ca_nil)))) (sr_cons (sr_asg (ps_asg peW pgW) (er_call c_law_way_by_houses_k11 hr (ca_io (pv 0) (ca_cons (er_var (pv 1)) (ca_cons (er_var (pv 2)) ca_nil)))) (gr_tup rfl (grs_cons (gr_name (pg_name (i := 4) S.nd rfl (.inl rfl))) (grs_cons (gr_name (pg_name (i := 5) S.nd rfl (.inl rfl))) grs_nil)))) (sr_cons (sr_if (tr_cmp op_lt vr_c2 (er_var (pv 3)) er_int (nomark _)) (sr_cons (sr_ret (er_tup (ar_cons (er_var (pv 4)) (ar_cons (er_var (pv 5)) ar_nil)))) sr_nil) sr_nil) (sr_cons (sr_setO (ps_set (i := 6) S.nd rfl (.inl rfl) peW) (er_lst ar_nil)) (sr_cons (sr_for PassesOwn.never rfl (ir_seq (er_ix ix_seq vr_ix (er_lst (ar_cons (er_var (pv 5)) (ar_cons (er_var (pv 4)) ar_nil))) (er_op op_sub' vr_sub (er_var (pv 3)) er_int) (fun _ _ => rfl))) (gr_name (pg_name (i := 7) S.nd rfl (.inl rfl))) (sr_cons (sr_do (er_mut mu_append PySem.F.slot_list_append PySem.F.type_list_append mt_append (pv 6) (ar_cons (ev_er (pe_lc0 (own := [("_law_one", 8)]) rfl S.nd (blkOk_by (by kernel_rfl))) (ev_lc0 (own := [("_law_one", 8)]) (ir_seq (er_var (pv 7))) (fun _ _ _ _ _ => (gr_name (pg_name (i := 8) S.nd rfl (.inl rfl)))) (by decide) (fun _ _ _ _ _ => (er_if (tr_cmp (op_neD (hu_eq hr)) vr_ne (er_var (pv 8)) (er_tup ar_nil) (nomark _)) (er_callTy call_tuple_of vr_tuple (by rfl) B.tuple bt_tuple (ar_cons (er_call c_law_some hr (ca_io (pv 0) (ca_cons (er_callTy call_list_of vr_list (by rfl) B.list bt_list (ar_cons (er_var (pv 8)) ar_nil)) ca_nil))) ar_nil)) (er_tup ar_nil))))) ar_nil))) sr_nil)) (sr_cons (sr_fz (sr_ret (er_if (tr_cmp (op_eqD (hu_eq hr)) vr_eq (er_var (pv 3)) er_int (nomark _)) (er_tup (ar_cons (er_var (pv 4)) (ar_cons (er_var (pv 6)) ar_nil))) (er_tup (ar_cons (er_var (pv 6)) (ar_cons (er_var (pv 5)) ar_nil))))) 6) sr_nil)))))))
theorem c_law_same (Z : Zs K mg) : ∀ j, Fm P w K mg base (1 + j) "_law_same" 2 (m_law_same j)
  | 0 => fm_mk (k := 0) Z.d_law_same sc_law_same [false, false] rfl fun f cdv Ar up s H E hr => ⟨fun s o em => nomatch em⟩
  | j + 1 => by
    have B := Z.b
    have S := sc_law_same
    have ih := c_law_same Z j
    exact fm_mk (k := 1 + j) Z.d_law_same sc_law_same [false, false] rfl fun f cdv Ar up s H E hr =>
      (sr_cons (sr_if (tr_tru (er_isi2 isT_list isT_tuple (er_var (pv 1)) (pe_bltn (by rfl) B.list bt_list rfl) (pe_bltn (by rfl) B.tuple bt_tuple rfl) (hm := B.isinstance))) (sr_cons (sr_if (tr_w (tw_or (tr_cmp (op_neD (hu_eq hr)) vr_ne (er_isi isT_list (er_var (pv 0)) (pe_bltn (by rfl) B.list bt_list rfl) (hm := B.isinstance)) (er_isi isT_list (er_var (pv 1)) (pe_bltn (by rfl) B.list bt_list rfl) (hm := B.isinstance)) (nomark _)) (tw_or1 (tr_cmp (op_neD (hu_eq hr)) vr_ne (er_isi isT_tuple (er_var (pv 0)) (pe_bltn (by rfl) B.tuple bt_tuple rfl) (hm := B.isinstance)) (er_isi isT_tuple (er_var (pv 1)) (pe_bltn (by rfl) B.tuple bt_tuple rfl) (hm := B.isinstance)) (nomark _))))) (sr_cons (sr_ret er_bl) sr_nil) sr_nil) (sr_cons (sr_if (tr_cmp (op_neD (hu_eq hr)) vr_ne (er_callB call_len vr_len (by rfl) B.len bt_len (ar_cons (er_var (pv 0)) ar_nil)) (er_callB call_len vr_len (by rfl) B.len bt_len (ar_cons (er_var (pv 1)) ar_nil)) (nomark _)) (sr_cons (sr_ret er_bl) sr_nil) sr_nil) (sr_cons (sr_ret (er_callB (cr_all rfl) vr_all (by rfl) B.all bt_all (ar_cons (ev_er (pe_lc0 (own := [("_law_one", 2), ("_law_other", 3)]) rfl S.nd (blkOk_by (by kernel_rfl))) (ev_lc0 (own := [("_law_one", 2), ("_law_other", 3)]) (ir_zip (er_var (pv 0)) (er_var (pv 1)) (by rfl) B.zip) (fun _ _ _ _ _ => (gr_tup rfl (grs_cons (gr_name (pg_name (i := 2) S.nd rfl (.inl rfl))) (grs_cons (gr_name (pg_name (i := 3) S.nd rfl (.inl rfl))) grs_nil)))) (by decide) (fun _ _ _ _ _ => (er_call ih hr (ca_cons (er_var (pv 2)) (ca_cons (er_var (pv 3)) ca_nil)) (hkj := by omega))))) ar_nil))) sr_nil))) sr_nil) (sr_cons (sr_if (tr_w (tw_or (tr_cmp op_isN vr_isN (er_var (pv 1)) er_non (nomark _)) (tw_or1 (tr_tru (er_isi isT_str (er_var (pv 1)) (pe_bltn (by rfl) B.str bt_str rfl) (hm := B.isinstance)))))) (sr_cons (sr_ret (er_and (er_cmp (op_eqD (hu_eq hr)) vr_eq (er_var (pv 0)) (er_var (pv 1)) (nomark _)) (er_one (er_cmp (op_eqD (hu_eq hr)) vr_eq (er_isi isT_str (er_var (pv 0)) (pe_bltn (by rfl) B.str bt_str rfl) (hm := B.isinstance)) (er_isi isT_str (er_var (pv 1)) (pe_bltn (by rfl) B.str bt_str rfl) (hm := B.isinstance)) (nomark _))))) sr_nil) sr_nil) (sr_cons (sr_if (tr_tru (er_isi isT_bool (er_var (pv 1)) (pe_bltn (by rfl) B.bool bt_bool rfl) (hm := B.isinstance))) (sr_cons (sr_ret (er_and (er_isi isT_bool (er_var (pv 0)) (pe_bltn (by rfl) B.bool bt_bool rfl) (hm := B.isinstance)) (er_one (er_cmp (op_eqD (hu_eq hr)) vr_eq (er_var (pv 0)) (er_var (pv 1)) (nomark _))))) sr_nil) sr_nil) (sr_cons (sr_ret (er_and (er_isi isT_int (er_var (pv 0)) (pe_bltn (by rfl) B.int bt_int rfl) (hm := B.isinstance)) (er_and (er_not (er_isi isT_bool (er_var (pv 0)) (pe_bltn (by rfl) B.bool bt_bool rfl) (hm := B.isinstance))) (er_one (er_cmp (op_eqD (hu_eq hr)) vr_eq (er_var (pv 0)) (er_var (pv 1)) (nomark _)))))) sr_nil))))
theorem c_law_otherwise_k11 (Z : Zs K mg) : Fm P w K mg base 2 "_law_otherwise" 3 m_law_otherwise_k11 := by
  have B := Z.b
  have S := sc_law_otherwise_k11
  have c_law_take := c_law_take (P := P) (w := w) (base := base) Z
  exact fm_mk (k := 1) Z.d_law_otherwise_k11 sc_law_otherwise_k11 [true, false, false] rfl fun f cdv Ar up s H E hr =>
    (sr_cons (sr_parG2 (ps_par (i := 3) (j := 4) rfl S.nd rfl rfl (by decide) rfl rfl paW rfl) (ar_cons (ev_er (pe_lc0 (own := [("_law_rows", 12)]) rfl S.nd (blkOk_by (by kernel_rfl))) (ev_lcT0 (own := [("_law_rows", 12)]) (ir_seq (er_ix ix_seq vr_ix (er_var (pv 2)) er_int (fun _ _ => rfl))) (fun _ _ _ _ _ => (gr_name (pg_name (i := 12) S.nd rfl (.inl rfl)))) (by decide) (fun _ _ _ _ _ => (er_callTy call_list_of vr_list (by rfl) B.list bt_list (ar_cons (er_var (pv 12)) ar_nil))))) (ar_cons (ev_er (pe_lc0 (own := [("_law_rows", 12)]) rfl S.nd (blkOk_by (by kernel_rfl))) (ev_lcT0 (own := [("_law_rows", 12)]) (ir_seq (er_ix ix_seq vr_ix (er_var (pv 2)) er_int (fun _ _ => rfl))) (fun _ _ _ _ _ => (gr_name (pg_name (i := 12) S.nd rfl (.inl rfl)))) (by decide) (fun _ _ _ _ _ => (er_callTy call_list_of vr_list (by rfl) B.list bt_list (ar_cons (er_var (pv 12)) ar_nil))))) ar_nil))) (sr_cons (sr_par (ps_par (i := 5) (j := 6) rfl S.nd rfl rfl (by decide) rfl rfl paW rfl) (ar_cons (er_call c_law_take hr (ca_io (pv 0) (ca_cons er_int ca_nil))) (ar_cons (er_call c_law_take hr (ca_io (pv 0) (ca_cons (er_ix ix_seq vr_ix (er_var (pv 1)) er_int (fun _ _ => rfl)) ca_nil))) ar_nil))) (sr_cons (sr_if (tr_cmp (op_eqD (hu_eq hr)) vr_eq (er_ix ix_seq vr_ix (er_var (pv 1)) er_int (fun _ _ => rfl)) (er_lst ar_nil) (nomark _)) (sr_cons (sr_fz (sr_fz (sr_ret (er_tup (ar_cons (er_var (pv 3)) (ar_cons (er_var (pv 4)) ar_nil)))) 3) 4) sr_nil) sr_nil) (sr_cons (sr_set (ps_set (i := 7) S.nd rfl (.inl rfl) peW) (er_call c_law_take hr (ca_io (pv 0) (ca_cons (er_callB call_len vr_len (by rfl) B.len bt_len (ar_cons (er_ix ix_seq vr_ix (er_var (pv 1)) er_int (fun _ _ => rfl)) ar_nil)) ca_nil)))) (sr_cons (sr_set (ps_set (i := 8) S.nd rfl (.inr rfl) peW) (er_ix ix_seq vr_ix (er_ix ix_seq vr_ix (er_ix ix_seq vr_ix (er_var (pv 1)) er_int (fun _ _ => rfl)) (er_var (pv 7)) (fun _ _ => rfl)) er_int (fun _ _ => rfl))) (sr_cons (sr_set (ps_set (i := 9) S.nd rfl (.inl rfl) peW) (er_callTy call_tuple_of vr_tuple (by rfl) B.tuple bt_tuple (ar_cons (ev_er (pe_lc1 (own := [("_law_k", 10), ("_law_one", 11)]) rfl S.nd (blkOk_by (by kernel_rfl))) (ev_lc1 (own := [("_law_k", 10), ("_law_one", 11)]) (ir_enum (er_ix ix_seq vr_ix (er_var (pv 1)) er_int (fun _ _ => rfl)) (by rfl) B.enumerate) (fun _ _ _ _ _ => (gr_tup rfl (grs_cons (gr_name (pg_name (i := 10) S.nd rfl (.inl rfl))) (grs_cons (gr_name (pg_name (i := 11) S.nd rfl (.inl rfl))) grs_nil)))) (by decide) (fun _ _ _ _ _ => (tr_w (tw_and (tr_cmp (op_eqD (hu_eq hr)) vr_eq (er_ix ix_seq vr_ix (er_var (pv 11)) er_int (fun _ _ => rfl)) (er_var (pv 8)) (nomark _)) (tw_and1 (tr_cmp (op_eqD (hu_eq hr)) vr_eq (er_call c_law_take hr (ca_io (pv 0) (ca_cons er_int ca_nil))) er_int (nomark _)))))) (fun _ _ _ _ _ => (er_var (pv 10))))) ar_nil))) (sr_cons (sr_if (tr_cmp (op_eqD (hu_eq hr)) vr_eq (er_var (pv 8)) (er_var (pv 6)) (nomark _)) (sr_cons (sr_fz (sr_fz (sr_ret (er_tup (ar_cons (er_var (pv 3)) (ar_cons (er_var (pv 4)) ar_nil)))) 3) 4) sr_nil) sr_nil) (sr_cons (sr_if (tr_cmp (op_eqD (hu_eq hr)) vr_eq (er_var (pv 5)) er_int (nomark _)) (sr_cons (sr_setP (ps_asg peW (pg_sub peW peW set_list)) (er_var (pv 9)) (pv_at (pv_here (pv 4)) (er_var (pv 7)) (fun _ _ => rfl)) (er_var (pv 6))) sr_nil) (sr_cons (sr_if (tr_cmp (op_eqD (hu_eq hr)) vr_eq (er_var (pv 5)) er_int (nomark _)) (sr_cons (sr_for PassesOwn.never rfl (ir_enum (er_ix ix_seq vr_ix (er_var (pv 1)) er_int (fun _ _ => rfl)) (by rfl) B.enumerate) (gr_tup rfl (grs_cons (gr_name (pg_name (i := 10) S.nd rfl (.inl rfl))) (grs_cons (gr_name (pg_name (i := 11) S.nd rfl (.inl rfl))) grs_nil))) (sr_cons (sr_if (tr_cmp (op_eqD (hu_eq hr)) vr_eq (er_ix ix_seq vr_ix (er_var (pv 11)) er_int (fun _ _ => rfl)) (er_var (pv 8)) (nomark _)) (sr_cons (sr_setP (ps_asg peW (pg_sub peW peW set_list)) (er_var (pv 9)) (pv_at (pv_here (pv 4)) (er_var (pv 10)) (fun _ _ => rfl)) (er_var (pv 6))) sr_nil) sr_nil) sr_nil)) sr_nil) (sr_cons (sr_setP (ps_asg peW (pg_sub peW peW set_list)) (er_var (pv 9)) (pv_at (pv_here (pv 3)) (er_var (pv 8)) (fun _ _ => rfl)) (er_var (pv 6))) sr_nil)) sr_nil)) (sr_cons (sr_fz (sr_fz (sr_ret (er_tup (ar_cons (er_var (pv 3)) (ar_cons (er_var (pv 4)) ar_nil)))) 3) 4) sr_nil)))))))))
theorem c_law_due (Z : Zs K mg) : Fm P w K mg base 1 "_law_due" 2 m_law_due := by
  have B := Z.b
  have S := sc_law_due
  exact fm_mk (k := 0) Z.d_law_due sc_law_due [false, false] rfl fun f cdv Ar up s H E hr =>
    (sr_cons (sr_for PassesOwn.never rfl (ir_zip (er_ix ix_seq vr_ix (er_var (pv 0)) er_int (fun _ _ => rfl)) (er_ix ix_seq vr_ix (er_var (pv 1)) er_int (fun _ _ => rfl)) (by rfl) B.zip) (gr_tup rfl (grs_cons (gr_name (pg_name (i := 2) S.nd rfl (.inl rfl))) (grs_cons (gr_name (pg_name (i := 3) S.nd rfl (.inl rfl))) grs_nil))) (sr_cons (sr_if (tr_cmp (op_neD (hu_eq hr)) vr_ne (er_callTy call_list_of vr_list (by rfl) B.list bt_list (ar_cons (er_var (pv 3)) ar_nil)) (er_callTy call_list_of vr_list (by rfl) B.list bt_list (ar_cons (er_ix ix_seq vr_ix (er_ix ix_seq vr_ix (er_var (pv 1)) er_int (fun _ _ => rfl)) (er_ix ix_seq vr_ix (er_var (pv 2)) er_int (fun _ _ => rfl)) (fun _ _ => rfl)) ar_nil)) (nomark _)) (sr_cons (sr_ret er_bl) sr_nil) sr_nil) sr_nil)) (sr_cons (sr_ret er_bl) sr_nil))
theorem c_law_right_k11 (Z : Zs K mg) : Fm P w K mg base 62 "_law_right" 1 m_law_right_k11 := by
  have B := Z.b
  have S := sc_law_right_k11
  have c_taken_by_houses_k11 := c_taken_by_houses_k11 (P := P) (w := w) (base := base) Z
  have c_is_by_houses := c_is_by_houses (P := P) (w := w) (base := base) Z
  have c_law_take := c_law_take (P := P) (w := w) (base := base) Z
  have c_law_net := c_law_net (P := P) (w := w) (base := base) Z
  have c_law_way_by_houses_k11 := c_law_way_by_houses_k11 (P := P) (w := w) (base := base) Z
  have c_law_way_k11 := c_law_way_k11 (P := P) (w := w) (base := base) Z
  have c_law_same := fun j => c_law_same (P := P) (w := w) (base := base) Z j
  have c_law_otherwise_k11 := c_law_otherwise_k11 (P := P) (w := w) (base := base) Z
  have c_law_due := c_law_due (P := P) (w := w) (base := base) Z
  exact fm_mk (k := 61) Z.d_law_right_k11 sc_law_right_k11 [true] rfl fun f cdv Ar up s H E hr =>
    (sr_cons (sr_set (ps_set (i := 1) S.nd rfl (.inl rfl) peW) (er_call c_law_net hr (ca_io (pv 0) ca_nil))) (sr_cons (sr_setO (ps_set (i := 2) S.nd rfl (.inr rfl) peW) (er_ix ix_seq vr_ixT (er_call c_law_way_by_houses_k11 hr (ca_io (pv 0) (ca_cons (er_var (pv 1)) (ca_cons (er_ix ix_seq vr_ix (er_lst (ar_cons er_int (ar_cons er_int (ar_cons er_int ar_nil)))) (er_call c_law_take hr (ca_io (pv 0) (ca_cons er_int ca_nil))) (fun _ _ => rfl)) ca_nil)))) er_int (fun _ _ => rfl))) (sr_cons (sr_set (ps_set (i := 3) S.nd rfl (.inl rfl) peW) (er_tup (ar_cons (ev_br (ev_er (pe_lc0 (own := [("_law_rows", 6)]) rfl S.nd (blkOk_by (by kernel_rfl))) (ev_lcV (own := [("_law_rows", 6)]) (ivv_see (pv 2)) (fun _ _ _ _ _ => (pg_name (i := 6) S.nd rfl (.inl rfl))) (by decide) (fun _ _ _ _ _ => (er_callTy call_list_of vr_list (by rfl) B.list bt_list (ar_cons (er_see (pv 6)) ar_nil))))) 2) (ar_cons (ev_br (ev_er (pe_lc0 (own := [("_law_begin", 12), ("_law_end", 13), ("_law_room_here", 14)]) rfl S.nd (blkOk_by (by kernel_rfl))) (ev_lc0 (own := [("_law_begin", 12), ("_law_end", 13), ("_law_room_here", 14)]) (ir_seq (er_ix ix_seq vr_ix (er_var (pv 1)) er_int (fun _ _ => rfl))) (fun _ _ _ _ _ => (gr_tup rfl (grs_cons (gr_name (pg_name (i := 12) S.nd rfl (.inl rfl))) (grs_cons (gr_name (pg_name (i := 13) S.nd rfl (.inl rfl))) (grs_cons (gr_name (pg_name (i := 14) S.nd rfl (.inl rfl))) grs_nil))))) (by decide) (fun _ _ _ _ _ => (er_callTy call_list_of vr_list (by rfl) B.list bt_list (ar_cons (er_ix ix_seq vr_ix (er_see (pv 2)) (er_var (pv 13)) (fun _ _ => rfl)) ar_nil))))) 2) ar_nil)))) (sr_cons (sr_setO (ps_lc0 (own := [("_law_rows", 6)]) (i := 4) rfl S.nd rfl rfl rfl (blkOk_by (by kernel_rfl))) (ev_br (ev_lcU (own := [("_law_rows", 6)]) (ivv_see (pv 2)) (fun _ _ _ _ _ => (pg_name (i := 6) S.nd rfl (.inl rfl))) (by decide) (fun _ _ _ _ _ => (ev_br (er_callTy call_list_of vr_list (by rfl) B.list bt_list (ar_cons (er_see (pv 6)) ar_nil)) 6))) 2)) (sr_cons (sr_setO (ps_set (i := 5) S.nd rfl (.inl rfl) peW) (er_call c_taken_by_houses_k11 hr (ca_cons (er_var (pv 1)) (ca_io (pv 2) ca_nil)))) (sr_cons (sr_if (tr_w (tw_or (tr_br (tr_not (tr_tru (er_look (c_law_same 60) hr (ca_see (er_see (pv 5)) (ca_see (er_var (pv 3)) ca_nil))))) 5) (tw_or1 (tr_br (tr_br (tr_cmp (op_neD (hu_eq hr)) vr_ne (er_see (pv 2)) (er_see (pv 4)) (nomark _)) 4) 2)))) (sr_cons (sr_ret er_bl) sr_nil) sr_nil) (sr_cons (sr_do (er_mutP mu_append PySem.F.slot_list_append PySem.F.type_list_append mt_append (pv_at (pv_here (pv 2)) er_int (fun _ _ => rfl)) (ar_cons (er_tup ar_nil) ar_nil))) (sr_cons (sr_do (er_apT (pv 2) (er_lst ar_nil))) (sr_cons (sr_if (tr_br (tr_not (tr_tru (er_look (c_law_same 60) hr (ca_see (er_see (pv 5)) (ca_see (er_var (pv 3)) ca_nil))))) 5) (sr_cons (sr_ret er_bl) sr_nil) sr_nil) (sr_cons (sr_do (er_mutP mu_append PySem.F.slot_list_append PySem.F.type_list_append mt_append (pv_at (pv_at (pv_here (pv 5)) er_int (fun _ _ => rfl)) er_int (fun _ _ => rfl)) (ar_cons (er_tup ar_nil) ar_nil))) (sr_cons (sr_do (er_mutP0 mu_revT PySem.F.slot_list_reverse PySem.F.type_list_reverse mt_reverse (pv_at (pv_here (pv 5)) er_int (fun _ _ => rfl)))) (sr_cons (sr_forO PassesOwn.never rfl (pv_at (pv_here (pv 5)) er_int (fun _ _ => rfl)) (pg_name (i := 6) S.nd rfl (.inl rfl)) (sr_cons (sr_do (er_mut mu_append PySem.F.slot_list_append PySem.F.type_list_append mt_append (pv 6) (ar_cons (er_tup (ar_cons er_int ar_nil)) ar_nil))) sr_nil)) (sr_cons (sr_if (tr_not (tr_tru (er_look (c_law_same 60) hr (ca_see (er_call c_taken_by_houses_k11 hr (ca_cons (er_var (pv 1)) (ca_io (pv 4) ca_nil))) (ca_see (er_var (pv 3)) ca_nil))))) (sr_cons (sr_ret er_bl) sr_nil) sr_nil) (sr_cons (sr_for PassesOwn.never rfl (ir_range1 (ar_cons er_int ar_nil) (by rfl) B.range) (gr_name (pg_name (i := 7) S.nd rfl (.inl rfl))) (sr_cons (sr_set (ps_set (i := 8) S.nd rfl (.inl rfl) peW) (er_call c_law_otherwise_k11 hr (ca_io (pv 0) (ca_cons (er_var (pv 1)) (ca_cons (er_var (pv 3)) ca_nil))))) (sr_cons (sr_set (ps_set (i := 9) S.nd rfl (.inl rfl) peW) (er_callB (call_repr hr) vr_repr (by rfl) B.repr bt_repr (ar_cons (er_var (pv 8)) ar_nil))) (sr_cons (sr_set (ps_set (i := 10) S.nd rfl (.inl rfl) peW) (er_call c_is_by_houses hr (ca_cons (er_var (pv 1)) (ca_cons (er_var (pv 8)) ca_nil)))) (sr_cons (sr_if (tr_w (tw_or (tr_not (tr_tru (er_isi isT_bool (er_var (pv 10)) (pe_bltn (by rfl) B.bool bt_bool rfl) (hm := B.isinstance)))) (tw_or (tr_cmp (op_neD (hu_eq hr)) vr_ne (er_var (pv 10)) (er_call c_law_due hr (ca_cons (er_var (pv 1)) (ca_cons (er_var (pv 8)) ca_nil))) (nomark _)) (tw_or1 (tr_cmp (op_neD (hu_eq hr)) vr_ne (er_callB (call_repr hr) vr_repr (by rfl) B.repr bt_repr (ar_cons (er_var (pv 8)) ar_nil)) (er_var (pv 9)) (nomark _)))))) (sr_cons (sr_ret er_bl) sr_nil) sr_nil) sr_nil))))) (sr_cons (sr_set (ps_set (i := 11) S.nd rfl (.inl rfl) peW) (er_call c_law_way_k11 hr (ca_io (pv 0) (ca_cons (er_var (pv 1)) ca_nil)))) (sr_cons (sr_ret (er_and (er_cmp (op_eqD (hu_eq hr)) vr_eq (er_call c_is_by_houses hr (ca_cons (er_var (pv 1)) (ca_cons (er_var (pv 11)) ca_nil))) (er_call c_law_due hr (ca_cons (er_var (pv 1)) (ca_cons (er_var (pv 11)) ca_nil))) (nomark _)) (er_one (er_cmp op_isBl vr_isB (er_call c_is_by_houses hr (ca_cons (er_var (pv 1)) (ca_cons (er_var (pv 3)) ca_nil))) er_bl (nomark _))))) sr_nil))))))))))))))))
theorem c_law_k11 (Z : Zs K mg) : Fm P w K mg base 63 "law" 1 m_law_k11 := by
  have B := Z.b
  have S := sc_law_k11
  have c_law_tape := c_law_tape (P := P) (w := w) (base := base) Z
  have c_law_right_k11 := c_law_right_k11 (P := P) (w := w) (base := base) Z
  exact fm_mk (k := 62) Z.d_law_k11 sc_law_k11 [true] rfl fun f cdv Ar up s H E hr =>
    (sr_cons (sr_for PassesOwn.never rfl (ir_range1 (ar_cons (ev_br (er_callB (call_max2 rfl) vr_max2 (by rfl) B.max bt_max (ar_cons er_int (ar_cons (er_callB (call_min2 rfl) vr_min2 (by rfl) B.min bt_min (ar_cons (er_callB call_len vr_len (by rfl) B.len bt_len (ar_cons (er_see (pv 0)) ar_nil)) (ar_cons er_int ar_nil))) ar_nil))) 0) ar_nil) (by rfl) B.range) (gr_name (pg_name (i := 1) S.nd rfl (.inl rfl))) (sr_cons (sr_if (tr_not (tr_tru (er_call c_law_right_k11 hr (ca_own (er_call c_law_tape hr (ca_io (pv 0) (ca_cons (er_var (pv 1)) ca_nil))) ca_nil)))) (sr_cons (sr_ret er_bl) sr_nil) sr_nil) sr_nil)) (sr_cons (sr_ret er_bl) sr_nil))
end
theorem zs_mk {K : PySem.W.Frag} {h : Heap} {mg : Str → Option Value} (X : K.In h) (G : h.Ns mainGlobals mg)
    {f0 : Addr} {od0 an0 : Option Addr} {sl0 : Array (Option Value)} {oc0 kV0 dc0 pm0 cd0 ct0 : Value} (a0 : PySem.W.nsIn K mainGlobals "taken_by_houses" = some (some (.ref f0))) (l0 : K.lookup f0 = some ⟨oc0, od0, .func (PySem.W.fnOf "taken_by_houses" "taken_by_houses" (defArgs (topS 1)) (defBody (topS 1)) (defScope (topS 1)) .none kV0 dc0 pm0 an0 cd0 ct0), sl0⟩) (c0 : PySem.W.codeIn K cd0 "taken_by_houses" = true) (k0 : PySem.W.keepIn K (.ref f0) = true)
    {f1 : Addr} {od1 an1 : Option Addr} {sl1 : Array (Option Value)} {oc1 kV1 dc1 pm1 cd1 ct1 : Value} (a1 : PySem.W.nsIn K mainGlobals "is_by_houses" = some (some (.ref f1))) (l1 : K.lookup f1 = some ⟨oc1, od1, .func (PySem.W.fnOf "is_by_houses" "is_by_houses" (defArgs (topS 2)) (defBody (topS 2)) (defScope (topS 2)) .none kV1 dc1 pm1 an1 cd1 ct1), sl1⟩) (c1 : PySem.W.codeIn K cd1 "is_by_houses" = true) (k1 : PySem.W.keepIn K (.ref f1) = true)
    {f2 : Addr} {od2 an2 : Option Addr} {sl2 : Array (Option Value)} {oc2 kV2 dc2 pm2 cd2 ct2 : Value} (a2 : PySem.W.nsIn K mainGlobals "_law_cell_at" = some (some (.ref f2))) (l2 : K.lookup f2 = some ⟨oc2, od2, .func (PySem.W.fnOf "_law_cell_at" "_law_cell_at" (defArgs (topS 4)) (defBody (topS 4)) (defScope (topS 4)) .none kV2 dc2 pm2 an2 cd2 ct2), sl2⟩) (c2 : PySem.W.codeIn K cd2 "_law_cell_at" = true) (k2 : PySem.W.keepIn K (.ref f2) = true)
    {f3 : Addr} {od3 an3 : Option Addr} {sl3 : Array (Option Value)} {oc3 kV3 dc3 pm3 cd3 ct3 : Value} (a3 : PySem.W.nsIn K mainGlobals "_law_tape" = some (some (.ref f3))) (l3 : K.lookup f3 = some ⟨oc3, od3, .func (PySem.W.fnOf "_law_tape" "_law_tape" (defArgs (topS 5)) (defBody (topS 5)) (defScope (topS 5)) .none kV3 dc3 pm3 an3 cd3 ct3), sl3⟩) (c3 : PySem.W.codeIn K cd3 "_law_tape" = true) (k3 : PySem.W.keepIn K (.ref f3) = true)
    {f4 : Addr} {od4 an4 : Option Addr} {sl4 : Array (Option Value)} {oc4 kV4 dc4 pm4 cd4 ct4 : Value} (a4 : PySem.W.nsIn K mainGlobals "_law_take" = some (some (.ref f4))) (l4 : K.lookup f4 = some ⟨oc4, od4, .func (PySem.W.fnOf "_law_take" "_law_take" (defArgs (topS 6)) (defBody (topS 6)) (defScope (topS 6)) .none kV4 dc4 pm4 an4 cd4 ct4), sl4⟩) (c4 : PySem.W.codeIn K cd4 "_law_take" = true) (k4 : PySem.W.keepIn K (.ref f4) = true)
    {f5 : Addr} {od5 an5 : Option Addr} {sl5 : Array (Option Value)} {oc5 kV5 dc5 pm5 cd5 ct5 : Value} (a5 : PySem.W.nsIn K mainGlobals "_law_room" = some (some (.ref f5))) (l5 : K.lookup f5 = some ⟨oc5, od5, .func (PySem.W.fnOf "_law_room" "_law_room" (defArgs (topS 7)) (defBody (topS 7)) (defScope (topS 7)) .none kV5 dc5 pm5 an5 cd5 ct5), sl5⟩) (c5 : PySem.W.codeIn K cd5 "_law_room" = true) (k5 : PySem.W.keepIn K (.ref f5) = true)
    {f6 : Addr} {od6 an6 : Option Addr} {sl6 : Array (Option Value)} {oc6 kV6 dc6 pm6 cd6 ct6 : Value} (a6 : PySem.W.nsIn K mainGlobals "_law_net" = some (some (.ref f6))) (l6 : K.lookup f6 = some ⟨oc6, od6, .func (PySem.W.fnOf "_law_net" "_law_net" (defArgs (topS 8)) (defBody (topS 8)) (defScope (topS 8)) .none kV6 dc6 pm6 an6 cd6 ct6), sl6⟩) (c6 : PySem.W.codeIn K cd6 "_law_net" = true) (k6 : PySem.W.keepIn K (.ref f6) = true)
    {f7 : Addr} {od7 an7 : Option Addr} {sl7 : Array (Option Value)} {oc7 kV7 dc7 pm7 cd7 ct7 : Value} (a7 : PySem.W.nsIn K mainGlobals "_law_some" = some (some (.ref f7))) (l7 : K.lookup f7 = some ⟨oc7, od7, .func (PySem.W.fnOf "_law_some" "_law_some" (defArgs (topS 9)) (defBody (topS 9)) (defScope (topS 9)) .none kV7 dc7 pm7 an7 cd7 ct7), sl7⟩) (c7 : PySem.W.codeIn K cd7 "_law_some" = true) (k7 : PySem.W.keepIn K (.ref f7) = true)
    {f8 : Addr} {od8 an8 : Option Addr} {sl8 : Array (Option Value)} {oc8 kV8 dc8 pm8 cd8 ct8 : Value} (a8 : PySem.W.nsIn K mainGlobals "_law_taken_to" = some (some (.ref f8))) (l8 : K.lookup f8 = some ⟨oc8, od8, .func (PySem.W.fnOf "_law_taken_to" "_law_taken_to" (defArgs (topS 10)) (defBody (topS 10)) (defScope (topS 10)) .none kV8 dc8 pm8 an8 cd8 ct8), sl8⟩) (c8 : PySem.W.codeIn K cd8 "_law_taken_to" = true) (k8 : PySem.W.keepIn K (.ref f8) = true)
    {f9 : Addr} {od9 an9 : Option Addr} {sl9 : Array (Option Value)} {oc9 kV9 dc9 pm9 cd9 ct9 : Value} (a9 : PySem.W.nsIn K mainGlobals "_law_by_houses" = some (some (.ref f9))) (l9 : K.lookup f9 = some ⟨oc9, od9, .func (PySem.W.fnOf "_law_by_houses" "_law_by_houses" (defArgs (topS 11)) (defBody (topS 11)) (defScope (topS 11)) .none kV9 dc9 pm9 an9 cd9 ct9), sl9⟩) (c9 : PySem.W.codeIn K cd9 "_law_by_houses" = true) (k9 : PySem.W.keepIn K (.ref f9) = true)
    {f10 : Addr} {od10 an10 : Option Addr} {sl10 : Array (Option Value)} {oc10 kV10 dc10 pm10 cd10 ct10 : Value} (a10 : PySem.W.nsIn K mainGlobals "_law_way_by_houses" = some (some (.ref f10))) (l10 : K.lookup f10 = some ⟨oc10, od10, .func (PySem.W.fnOf "_law_way_by_houses" "_law_way_by_houses" (defArgs (topS 12)) (defBody (topS 12)) (defScope (topS 12)) .none kV10 dc10 pm10 an10 cd10 ct10), sl10⟩) (c10 : PySem.W.codeIn K cd10 "_law_way_by_houses" = true) (k10 : PySem.W.keepIn K (.ref f10) = true)
    {f11 : Addr} {od11 an11 : Option Addr} {sl11 : Array (Option Value)} {oc11 kV11 dc11 pm11 cd11 ct11 : Value} (a11 : PySem.W.nsIn K mainGlobals "_law_way" = some (some (.ref f11))) (l11 : K.lookup f11 = some ⟨oc11, od11, .func (PySem.W.fnOf "_law_way" "_law_way" (defArgs (topS 13)) (defBody (topS 13)) (defScope (topS 13)) .none kV11 dc11 pm11 an11 cd11 ct11), sl11⟩) (c11 : PySem.W.codeIn K cd11 "_law_way" = true) (k11 : PySem.W.keepIn K (.ref f11) = true)
    {f12 : Addr} {od12 an12 : Option Addr} {sl12 : Array (Option Value)} {oc12 kV12 dc12 pm12 cd12 ct12 : Value} (a12 : PySem.W.nsIn K mainGlobals "_law_same" = some (some (.ref f12))) (l12 : K.lookup f12 = some ⟨oc12, od12, .func (PySem.W.fnOf "_law_same" "_law_same" (defArgs (topS 14)) (defBody (topS 14)) (defScope (topS 14)) .none kV12 dc12 pm12 an12 cd12 ct12), sl12⟩) (c12 : PySem.W.codeIn K cd12 "_law_same" = true) (k12 : PySem.W.keepIn K (.ref f12) = true)
    {f13 : Addr} {od13 an13 : Option Addr} {sl13 : Array (Option Value)} {oc13 kV13 dc13 pm13 cd13 ct13 : Value} (a13 : PySem.W.nsIn K mainGlobals "_law_otherwise" = some (some (.ref f13))) (l13 : K.lookup f13 = some ⟨oc13, od13, .func (PySem.W.fnOf "_law_otherwise" "_law_otherwise" (defArgs (topS 15)) (defBody (topS 15)) (defScope (topS 15)) .none kV13 dc13 pm13 an13 cd13 ct13), sl13⟩) (c13 : PySem.W.codeIn K cd13 "_law_otherwise" = true) (k13 : PySem.W.keepIn K (.ref f13) = true)
    {f14 : Addr} {od14 an14 : Option Addr} {sl14 : Array (Option Value)} {oc14 kV14 dc14 pm14 cd14 ct14 : Value} (a14 : PySem.W.nsIn K mainGlobals "_law_due" = some (some (.ref f14))) (l14 : K.lookup f14 = some ⟨oc14, od14, .func (PySem.W.fnOf "_law_due" "_law_due" (defArgs (topS 16)) (defBody (topS 16)) (defScope (topS 16)) .none kV14 dc14 pm14 an14 cd14 ct14), sl14⟩) (c14 : PySem.W.codeIn K cd14 "_law_due" = true) (k14 : PySem.W.keepIn K (.ref f14) = true)
    {f15 : Addr} {od15 an15 : Option Addr} {sl15 : Array (Option Value)} {oc15 kV15 dc15 pm15 cd15 ct15 : Value} (a15 : PySem.W.nsIn K mainGlobals "_law_right" = some (some (.ref f15))) (l15 : K.lookup f15 = some ⟨oc15, od15, .func (PySem.W.fnOf "_law_right" "_law_right" (defArgs (topS 17)) (defBody (topS 17)) (defScope (topS 17)) .none kV15 dc15 pm15 an15 cd15 ct15), sl15⟩) (c15 : PySem.W.codeIn K cd15 "_law_right" = true) (k15 : PySem.W.keepIn K (.ref f15) = true)
    {f16 : Addr} {od16 an16 : Option Addr} {sl16 : Array (Option Value)} {oc16 kV16 dc16 pm16 cd16 ct16 : Value} (a16 : PySem.W.nsIn K mainGlobals "law" = some (some (.ref f16))) (l16 : K.lookup f16 = some ⟨oc16, od16, .func (PySem.W.fnOf "law" "law" (defArgs (topS 18)) (defBody (topS 18)) (defScope (topS 18)) .none kV16 dc16 pm16 an16 cd16 ct16), sl16⟩) (c16 : PySem.W.codeIn K cd16 "law" = true) (k16 : PySem.W.keepIn K (.ref f16) = true)
    (z_len : PySem.W.nsIn K mainGlobals "len" = some none)
    (z_range : PySem.W.nsIn K mainGlobals "range" = some none)
    (z_enumerate : PySem.W.nsIn K mainGlobals "enumerate" = some none)
    (z_zip : PySem.W.nsIn K mainGlobals "zip" = some none)
    (z_reversed : PySem.W.nsIn K mainGlobals "reversed" = some none)
    (z_abs : PySem.W.nsIn K mainGlobals "abs" = some none)
    (z_min : PySem.W.nsIn K mainGlobals "min" = some none)
    (z_max : PySem.W.nsIn K mainGlobals "max" = some none)
    (z_int : PySem.W.nsIn K mainGlobals "int" = some none)
    (z_bool : PySem.W.nsIn K mainGlobals "bool" = some none)
    (z_list : PySem.W.nsIn K mainGlobals "list" = some none)
    (z_tuple : PySem.W.nsIn K mainGlobals "tuple" = some none)
    (z_set : PySem.W.nsIn K mainGlobals "set" = some none)
    (z_dict : PySem.W.nsIn K mainGlobals "dict" = some none)
    (z_sorted : PySem.W.nsIn K mainGlobals "sorted" = some none)
    (z_sum : PySem.W.nsIn K mainGlobals "sum" = some none)
    (z_all : PySem.W.nsIn K mainGlobals "all" = some none)
    (z_any : PySem.W.nsIn K mainGlobals "any" = some none)
    (z_str : PySem.W.nsIn K mainGlobals "str" = some none)
    (z_repr : PySem.W.nsIn K mainGlobals "repr" = some none)
    (z_isinstance : PySem.W.nsIn K mainGlobals "isinstance" = some none)
    : Zs K mg where
  b := ⟨PySem.W.mg_none_of X G z_len, PySem.W.mg_none_of X G z_range, PySem.W.mg_none_of X G z_enumerate, PySem.W.mg_none_of X G z_zip, PySem.W.mg_none_of X G z_reversed, PySem.W.mg_none_of X G z_abs, PySem.W.mg_none_of X G z_min, PySem.W.mg_none_of X G z_max, PySem.W.mg_none_of X G z_int, PySem.W.mg_none_of X G z_bool, PySem.W.mg_none_of X G z_list, PySem.W.mg_none_of X G z_tuple, PySem.W.mg_none_of X G z_set, PySem.W.mg_none_of X G z_dict, PySem.W.mg_none_of X G z_sorted, PySem.W.mg_none_of X G z_sum, PySem.W.mg_none_of X G z_all, PySem.W.mg_none_of X G z_any, PySem.W.mg_none_of X G z_str, PySem.W.mg_none_of X G z_repr, PySem.W.mg_none_of X G z_isinstance⟩
  d_taken_by_houses_k11 := dn_mk X G a0 l0 c0 k0 fun _ _ _ _ _ _ us hl => match us, hl with | [_, _], _ => rfl
  d_is_by_houses := dn_mk X G a1 l1 c1 k1 fun _ _ _ _ _ _ us hl => match us, hl with | [_, _], _ => rfl
  d_law_cell_at := dn_mk X G a2 l2 c2 k2 fun _ _ _ _ _ _ us hl => match us, hl with | [_, _], _ => rfl
  d_law_tape := dn_mk X G a3 l3 c3 k3 fun _ _ _ _ _ _ us hl => match us, hl with | [_, _], _ => rfl
  d_law_take := dn_mk X G a4 l4 c4 k4 fun _ _ _ _ _ _ us hl => match us, hl with | [_, _], _ => rfl
  d_law_room := dn_mk X G a5 l5 c5 k5 fun _ _ _ _ _ _ us hl => match us, hl with | [_], _ => rfl
  d_law_net := dn_mk X G a6 l6 c6 k6 fun _ _ _ _ _ _ us hl => match us, hl with | [_], _ => rfl
  d_law_some := dn_mk X G a7 l7 c7 k7 fun _ _ _ _ _ _ us hl => match us, hl with | [_, _], _ => rfl
  d_law_taken_to := dn_mk X G a8 l8 c8 k8 fun _ _ _ _ _ _ us hl => match us, hl with | [_, _, _, _], _ => rfl
  d_law_by_houses_k11 := dn_mk X G a9 l9 c9 k9 fun _ _ _ _ _ _ us hl => match us, hl with | [_, _], _ => rfl
  d_law_way_by_houses_k11 := dn_mk X G a10 l10 c10 k10 fun _ _ _ _ _ _ us hl => match us, hl with | [_, _, _], _ => rfl
  d_law_way_k11 := dn_mk X G a11 l11 c11 k11 fun _ _ _ _ _ _ us hl => match us, hl with | [_, _], _ => rfl
  d_law_same := dn_mk X G a12 l12 c12 k12 fun _ _ _ _ _ _ us hl => match us, hl with | [_, _], _ => rfl
  d_law_otherwise_k11 := dn_mk X G a13 l13 c13 k13 fun _ _ _ _ _ _ us hl => match us, hl with | [_, _, _], _ => rfl
  d_law_due := dn_mk X G a14 l14 c14 k14 fun _ _ _ _ _ _ us hl => match us, hl with | [_, _], _ => rfl
  d_law_right_k11 := dn_mk X G a15 l15 c15 k15 fun _ _ _ _ _ _ us hl => match us, hl with | [_], _ => rfl
  d_law_k11 := dn_mk X G a16 l16 c16 k16 fun _ _ _ _ _ _ us hl => match us, hl with | [_], _ => rfl

end La
open PySem PySem.W PyProof.Rows
set_option maxHeartbeats 0 in
theorem PySem.Challenge.cw_trainlanes_k11_ways_by_houses_holds : PySem.Challenge.rw_trainlanes_k11_ways_by_houses.Holds := by
  w_on; o_law; k_head; (case hw => w_witness2)
  k_fill
  refine Tl.law_end (k := 63) rfl rfl Tl.rm_caller (fun w h Y => PySem.W.kIn_of Y) ?F La.main
  case F =>
    intro w mg h KX G base _ _
    refine La.c_law_k11 ?Z
    refine' La.zs_mk KX G ?a0 ?l0 ?c0 ?k0 ?a1 ?l1 ?c1 ?k1 ?a2 ?l2 ?c2 ?k2 ?a3 ?l3 ?c3 ?k3 ?a4 ?l4 ?c4 ?k4 ?a5 ?l5 ?c5 ?k5 ?a6 ?l6 ?c6 ?k6 ?a7 ?l7 ?c7 ?k7 ?a8 ?l8 ?c8 ?k8 ?a9 ?l9 ?c9 ?k9 ?a10 ?l10 ?c10 ?k10 ?a11 ?l11 ?c11 ?k11 ?a12 ?l12 ?c12 ?k12 ?a13 ?l13 ?c13 ?k13 ?a14 ?l14 ?c14 ?k14 ?a15 ?l15 ?c15 ?k15 ?a16 ?l16 ?c16 ?k16 ?z_len ?z_range ?z_enumerate ?z_zip ?z_reversed ?z_abs ?z_min ?z_max ?z_int ?z_bool ?z_list ?z_tuple ?z_set ?z_dict ?z_sorted ?z_sum ?z_all ?z_any ?z_str ?z_repr ?z_isinstance
    (case a0 => k_is); (case l0 => k_is); (case c0 => k_is); (case k0 => k_is); (case a1 => k_is); (case l1 => k_is); (case c1 => k_is); (case k1 => k_is); (case a2 => k_is); (case l2 => k_is); (case c2 => k_is); (case k2 => k_is); (case a3 => k_is); (case l3 => k_is); (case c3 => k_is); (case k3 => k_is); (case a4 => k_is); (case l4 => k_is); (case c4 => k_is); (case k4 => k_is); (case a5 => k_is); (case l5 => k_is); (case c5 => k_is); (case k5 => k_is); (case a6 => k_is); (case l6 => k_is); (case c6 => k_is); (case k6 => k_is); (case a7 => k_is); (case l7 => k_is); (case c7 => k_is); (case k7 => k_is); (case a8 => k_is); (case l8 => k_is); (case c8 => k_is); (case k8 => k_is); (case a9 => k_is); (case l9 => k_is); (case c9 => k_is); (case k9 => k_is); (case a10 => k_is); (case l10 => k_is); (case c10 => k_is); (case k10 => k_is); (case a11 => k_is); (case l11 => k_is); (case c11 => k_is); (case k11 => k_is); (case a12 => k_is); (case l12 => k_is); (case c12 => k_is); (case k12 => k_is); (case a13 => k_is); (case l13 => k_is); (case c13 => k_is); (case k13 => k_is); (case a14 => k_is); (case l14 => k_is); (case c14 => k_is); (case k14 => k_is); (case a15 => k_is); (case l15 => k_is); (case c15 => k_is); (case k15 => k_is); (case a16 => k_is); (case l16 => k_is); (case c16 => k_is); (case k16 => k_is); (case z_len => k_is); (case z_range => k_is); (case z_enumerate => k_is); (case z_zip => k_is); (case z_reversed => k_is); (case z_abs => k_is); (case z_min => k_is); (case z_max => k_is); (case z_int => k_is); (case z_bool => k_is); (case z_list => k_is); (case z_tuple => k_is); (case z_set => k_is); (case z_dict => k_is); (case z_sorted => k_is); (case z_sum => k_is); (case z_all => k_is); (case z_any => k_is); (case z_str => k_is); (case z_repr => k_is); (case z_isinstance => k_is)
