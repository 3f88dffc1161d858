import PyProof.Rows.All
import Wide.All
import OpenK.AllK
import Wide.FinOn
import HandS.ForMost
import KE.KeyNested
import KE.KDictKeyed
import KE.KExcIs
import HandS.Zip
import HandS.NoneIn
import HandS.More
import HandS.IsInst
import HandS.SortInts
import HandS.Conv
import HandS.Deep
import HandS.TupAny
import HandS.Style
import HandS.SortRule
import KE.KDictPairs
import HandS.TupMul
import HandS.WideBits
import PyProof.AutoSeq1
import PyProof.Rows.IntBool
import PyProof.Rows.FloatCmp
import KE.GoesEnum
import KE.GoesRev
import KE.DataMinMax
import KE.DataEq
import HandS.SortKw
import HandS.Text
import HandS.Iter
import KE.SortData
import HandS.SetFor
import HandS.Strs
import PyProof.DictUpdate
import HandS.WordsDict
import KE.KDictDisplayH
import KE.DataFind
import HandS.Call
import HandS.Exc
import HandS.ExcInit
import HandS.ExcOwn
import HandS.WordsExc
import PySem.Challenge.RW_trainlanes_k63_whole_net_texts_spoilt
set_option Elab.async false
set_option linter.all false
set_option maxRecDepth 100000
set_option maxHeartbeats 4000000
namespace Tl
open PySem PySem.Spec PyProof.Rows L2

abbrev D := PyData
def keyD : Key → D
  | .inl i => .int i
  | .inr x => .str x
abbrev NK := NestedKey
mutual
def tfree : NK → Bool
  | .none => true
  | .num _ => true
  | .text _ => false
  | .tup ks => tfreeL ks
def tfreeL : List NK → Bool
  | [] => true
  | k :: ks => tfree k && tfreeL ks
end
def okN : NK → Bool
  | .tup ks => tfreeL ks && decide ((NestedKey.tup ks).depth ≤ 8)
  | _ => false
mutual
def nhash : NK → Int
  | .none => reduceHash 0xFCA86420
  | .num i => hashInt i
  | .text _ => 0
  | .tup ks => reduceHash (Builtin.Tuple.tupleHashOf (nhashes ks))
def nhashes : List NK → List Int
  | [] => []
  | k :: ks => nhash k :: nhashes ks
end
theorem okN_free {k : NK} (h : okN k = true) : tfree k = true := by
  cases k with
  | tup ks =>
    have h' : (tfreeL ks && decide ((NestedKey.tup ks).depth ≤ 8)) = true := h
    rw [Bool.and_eq_true] at h'
    exact h'.1
  | _ => cases h
/-- a dict with such keys: its key tuples' addresses, its things -/
abbrev dnO (a : Addr) (kvs : List (NK × Addr × V)) : HO := .ext fun h => kvs.length ≤ sizeLine ∧ (a == sysModules) = false ∧ ∃ xs : List (NK × Addr × Value),
  Paired (fun (p : NK × Addr × V) (q : NK × Addr × Value) => p.1 = q.1 ∧ p.2.1 = q.2.1 ∧ RelV p.2.2 q.2.2) kvs xs ∧
  ∃ o es ep, h.get? a = some o ∧ o.ExactDict ∧ o.data = .dict es ep ∧ es.toList = xs.map (fun x => (⟨nhash x.1, .ref x.2.1, x.2.2⟩ : DictEntry)) ∧ (xs.map (·.1)).Nodup

/-- the built-in classes that isinstance asks data for -/
def btsX : List String := ["int", "bool", "str", "list", "tuple"]
/-- what the written part says of an exception class -/
structure XcC (K : PySem.W.Frag) (C : Addr) : Prop where
  cl : (PySem.W.clsIn K C).isSome = true
  ga : PySem.W.findIn K (.ref C) "__getattribute__" = some (some (.builtin "BaseException.__getattribute__"))
  gg : PySem.W.findIn K (.ref C) "__getattr__" = some none
  ex : PySem.W.subIn K (.ref C) (.type "BaseException") = some true
  hd : PySem.W.hasDictIn K C = true
  ca : PySem.W.findIn K (.ref C) "__class__" = some (some (.builtin "object.__class__"))
  sp : PySem.W.specialIn K (.builtin "object.__class__") "__get__" = some (some (.builtin "getset_descriptor.__get__"))
  tk : PySem.W.takesIn K (.builtin "object.__class__") = some true
  ob : PySem.W.mroIn K C (.type "object") = some true
  kb : ∀ n ∈ btsX, PySem.W.kitOne K (.ref C) (.type n) = some false
  ve : PySem.W.kitOne K (.ref C) (.type "ValueError") = some true
/-- a caught exception: its class, its own dict -/
abbrev xcO (a C : Addr) (d : Option Addr) : HO := .ext fun h => ∃ oe vs, h.get? a = some oe ∧ oe.cls = .ref C ∧ oe.dict = d ∧ oe.data = .fields vs
section
variable (K : PySem.W.Frag) (F : Hp)
mutual
inductive Rep : V → D → Prop
  | non : Rep .non .none
  | bl (b : Bool) : Rep (.bl b) (.bool b)
  | int (i : Int) : Rep (.int i) (.int i)
  | str (x : Str) : Rep (.str x) (.str x)
  | lst {a : Addr} {xs : List V} {ds : List D} : F a = some (.lst xs) → xs.length ≤ sizeLine → RepL xs ds → Rep (.ref a) (.list ds)
  | tup {a : Addr} {xs : List V} {ds : List D} : SqT K F a xs → xs.length ≤ sizeLine → RepL xs ds → Rep (.ref a) (.tuple ds)
  | dk {a : Addr} {kvs : List (Key × V)} {es : List (D × D)} : F a = some (.dK kvs) → RepK kvs es → Rep (.ref a) (.dict es)
  | dn {a : Addr} {kvs : List (NK × Addr × V)} {es : List (D × D)} : F a = some (dnO a kvs) → RepN kvs es → Rep (.ref a) (.dict ((.none, .none) :: es))
  | dl {a : Addr} {o : Obj} {kvs : List (NK × Addr × V)} {es : List (D × D)} : F a = some (.frz o (dnO a kvs)) → RepN kvs es → Rep (.ref a) (.dict ((.none, .bool true) :: es))
  | xc {a C : Addr} {c : Str} : F a = some (xcO a C none) → XcC K C → PySem.W.nsIn K mainGlobals c = some (some (.ref C)) → Rep (.ref a) (.dict [(.none, .str c)])
  | xf {a C dx : Addr} {c f : Str} {v : V} {d : D} : F a = some (xcO a C (some dx)) → XcC K C → PySem.W.nsIn K mainGlobals c = some (some (.ref C)) → F dx = some (.xd [(f, v)]) → Rep v d → Rep (.ref a) (.dict [(.none, .str c), (.str f, d)])
inductive RepL : List V → List D → Prop
  | nil : RepL [] []
  | cons {v : V} {vs : List V} {d : D} {ds : List D} : Rep v d → RepL vs ds → RepL (v :: vs) (d :: ds)
inductive RepK : List (Key × V) → List (D × D) → Prop
  | nil : RepK [] []
  | cons {k : Key} {v : V} {vs : List (Key × V)} {d : D} {ds : List (D × D)} : Rep v d → RepK vs ds → RepK ((k, v) :: vs) ((keyD k, d) :: ds)
inductive RepN : List (NK × Addr × V) → List (D × D) → Prop
  | nil : RepN [] []
  | cons {k : NK} {b : Addr} {v : V} {vs : List (NK × Addr × V)} {d : D} {ds : List (D × D)} : okN k = true → Rep (.ref b) k.data → Rep v d → RepN vs ds → RepN ((k, b, v) :: vs) ((k.data, d) :: ds)
end
end

section
variable {K : PySem.W.Frag} {F F' : Hp}
theorem sameT {K : PySem.W.Frag} {H H' : Hp} {a : Addr} {xs : List V} (e : Same H H') (h : SqT K H a xs) : SqT K H' a xs := by
  rcases h with h | h
  · rcases h with h | ⟨o, h⟩
    · exact .inl (.inl (e _ _ h))
    · exact .inl (.inr ⟨o, e _ _ h⟩)
  · exact .inr h
theorem Rep.monoAll (e : Same F F') :
    (∀ v d, Rep K F v d → Rep K F' v d) ∧ (∀ vs ds, RepL K F vs ds → RepL K F' vs ds) ∧ (∀ vs ds, RepK K F vs ds → RepK K F' vs ds) ∧ (∀ vs ds, RepN K F vs ds → RepN K F' vs ds) := by
  refine ⟨?_, ?_, ?_, ?_⟩ <;> intro v d h
  · exact Rep.rec (K := K) (F := F) (motive_1 := fun v d _ => Rep K F' v d) (motive_2 := fun v d _ => RepL K F' v d) (motive_3 := fun v d _ => RepK K F' v d) (motive_4 := fun v d _ => RepN K F' v d)
      .non .bl .int .str (fun h z _ r => .lst (e _ _ h) z r) (fun h z _ r => .tup (sameT e h) z r) (fun h _ r => .dk (e _ _ h) r) (fun h _ r => .dn (e _ _ h) r) (fun h _ r => .dl (e _ _ h) r) (fun h k n => .xc (e _ _ h) k n) (fun h k n g _ r => .xf (e _ _ h) k n (e _ _ g) r)
      .nil (fun _ _ a b => .cons a b) .nil (fun _ _ a b => .cons a b) .nil (fun k _ _ _ a b c => .cons k a b c) h
  · exact RepL.rec (K := K) (F := F) (motive_1 := fun v d _ => Rep K F' v d) (motive_2 := fun v d _ => RepL K F' v d) (motive_3 := fun v d _ => RepK K F' v d) (motive_4 := fun v d _ => RepN K F' v d)
      .non .bl .int .str (fun h z _ r => .lst (e _ _ h) z r) (fun h z _ r => .tup (sameT e h) z r) (fun h _ r => .dk (e _ _ h) r) (fun h _ r => .dn (e _ _ h) r) (fun h _ r => .dl (e _ _ h) r) (fun h k n => .xc (e _ _ h) k n) (fun h k n g _ r => .xf (e _ _ h) k n (e _ _ g) r)
      .nil (fun _ _ a b => .cons a b) .nil (fun _ _ a b => .cons a b) .nil (fun k _ _ _ a b c => .cons k a b c) h
  · exact RepK.rec (K := K) (F := F) (motive_1 := fun v d _ => Rep K F' v d) (motive_2 := fun v d _ => RepL K F' v d) (motive_3 := fun v d _ => RepK K F' v d) (motive_4 := fun v d _ => RepN K F' v d)
      .non .bl .int .str (fun h z _ r => .lst (e _ _ h) z r) (fun h z _ r => .tup (sameT e h) z r) (fun h _ r => .dk (e _ _ h) r) (fun h _ r => .dn (e _ _ h) r) (fun h _ r => .dl (e _ _ h) r) (fun h k n => .xc (e _ _ h) k n) (fun h k n g _ r => .xf (e _ _ h) k n (e _ _ g) r)
      .nil (fun _ _ a b => .cons a b) .nil (fun _ _ a b => .cons a b) .nil (fun k _ _ _ a b c => .cons k a b c) h
  · exact RepN.rec (K := K) (F := F) (motive_1 := fun v d _ => Rep K F' v d) (motive_2 := fun v d _ => RepL K F' v d) (motive_3 := fun v d _ => RepK K F' v d) (motive_4 := fun v d _ => RepN K F' v d)
      .non .bl .int .str (fun h z _ r => .lst (e _ _ h) z r) (fun h z _ r => .tup (sameT e h) z r) (fun h _ r => .dk (e _ _ h) r) (fun h _ r => .dn (e _ _ h) r) (fun h _ r => .dl (e _ _ h) r) (fun h k n => .xc (e _ _ h) k n) (fun h k n g _ r => .xf (e _ _ h) k n (e _ _ g) r)
      .nil (fun _ _ a b => .cons a b) .nil (fun _ _ a b => .cons a b) .nil (fun k _ _ _ a b c => .cons k a b c) h
theorem Rep.mono {v : V} {d : D} (h : Rep K F v d) (e : Same F F') : Rep K F' v d := (Rep.monoAll e).1 v d h
theorem RepL.mono {v : List V} {d : List D} (h : RepL K F v d) (e : Same F F') : RepL K F' v d := (Rep.monoAll e).2.1 v d h
theorem RepL.length : ∀ {vs : List V} {ds : List D}, RepL K F vs ds → vs.length = ds.length
  | _, _, .nil => rfl
  | _, _, .cons _ h => congrArg (· + 1) (RepL.length h)
theorem RepL.get : ∀ {vs : List V} {ds : List D} {i : Nat} {d : D}, RepL K F vs ds → ds[i]? = some d → ∃ v, vs[i]? = some v ∧ Rep K F v d
  | _, _, _, _, .nil, e => by simp at e
  | _, _, 0, _, .cons r _, e => by
    simp at e
    subst e
    exact ⟨_, rfl, r⟩
  | _, _, i + 1, d, .cons _ t, e => by
    obtain ⟨u, h1, h2⟩ := RepL.get (i := i) (d := d) t (by simpa using e)
    exact ⟨u, by simpa using h1, h2⟩
theorem RepL.append : ∀ {xs ys : List V} {ds es : List D}, RepL K F xs ds → RepL K F ys es → RepL K F (xs ++ ys) (ds ++ es)
  | _, _, _, _, .nil, s => s
  | _, _, _, _, .cons r t, s => .cons r (RepL.append t s)
theorem RepL.take : ∀ {xs : List V} {ds : List D} (n : Nat), RepL K F xs ds → RepL K F (xs.take n) (ds.take n)
  | _, _, 0, _ => .nil
  | _, _, _ + 1, .nil => .nil
  | _, _, n + 1, .cons r t => .cons r (RepL.take n t)
theorem RepL.drop : ∀ {xs : List V} {ds : List D} (n : Nat), RepL K F xs ds → RepL K F (xs.drop n) (ds.drop n)
  | _, _, 0, r => r
  | _, _, _ + 1, .nil => .nil
  | _, _, n + 1, .cons r t => RepL.drop n t
theorem RepL.set {x : V} {u : D} (r : Rep K F x u) : ∀ {xs : List V} {us : List D} (i : Nat), RepL K F xs us → RepL K F (xs.set i x) (us.set i u)
  | _, _, _, .nil => .nil
  | _, _, 0, .cons _ t => .cons r t
  | _, _, i + 1, .cons q t => .cons q (RepL.set r i t)
theorem RepL.eraseIdx : ∀ {xs : List V} {us : List D} (i : Nat), RepL K F xs us → RepL K F (xs.eraseIdx i) (us.eraseIdx i)
  | _, _, _, .nil => .nil
  | _, _, 0, .cons _ t => t
  | _, _, i + 1, .cons q t => .cons q (RepL.eraseIdx i t)
theorem RepL.dropLast : ∀ {xs : List V} {us : List D}, RepL K F xs us → RepL K F xs.dropLast us.dropLast
  | _, _, .nil => .nil
  | _, _, .cons _ .nil => .nil
  | _, _, .cons q (.cons q' t) => .cons q (RepL.dropLast (.cons q' t))
theorem RepL.reverse {xs : List V} {us : List D} (h : RepL K F xs us) : RepL K F xs.reverse us.reverse := by
  induction xs generalizing us with
  | nil =>
    cases h
    exact .nil
  | cons x xs ih =>
    cases h with
    | cons r t =>
      rw [List.reverse_cons, List.reverse_cons]
      exact (ih t).append (.cons r .nil)
theorem RepL.ints : ∀ {vs : List V} {ns : List Int}, RepL K F vs (ns.map PyData.int) → vs = ns.map V.int
  | _, [], h => by
    cases h
    rfl
  | _, n :: ns, h => by
    cases h with
    | cons r t =>
      cases r
      rw [RepL.ints t]
      rfl
theorem RepL.ofInts : ∀ (ns : List Int), RepL K F (ns.map V.int) (ns.map PyData.int)
  | [] => .nil
  | n :: ns => .cons (.int n) (RepL.ofInts ns)
theorem RepL.bools : ∀ {vs : List V} {ns : List Bool}, RepL K F vs (ns.map PyData.bool) → vs = ns.map V.bl
  | _, [], h => by
    cases h
    rfl
  | _, n :: ns, h => by
    cases h with
    | cons r t =>
      cases r
      rw [RepL.bools t]
      rfl
end

inductive T where
  | leaf (d : D)
  | fl (ds : List D)
  | ls (ts : List T)
  | tup (ts : List T)
  | dk (es : List (Key × D))
  | dn (es : List (NK × D))
  | dd (es : List (Key × List (Key × D)))
  | lk (es : List (Key × D))
  | scr (ds : List D)
  | ob (cn : Str) (ns : List Str) (ts : List T)
  | hole
/-- a dict of dicts, as data -/
abbrev ddD (es : List (Key × List (Key × D))) : List (D × D) := es.map fun p => (keyD p.1, .dict (p.2.map fun q => (keyD q.1, q.2)))
mutual
/-- the plain data of a tree -/
def T.fz : T → Option D
  | .leaf d => some d
  | .fl ds => some (.list ds)
  | .ls ts => (T.fzL ts).map .list
  | .tup ts => (T.fzL ts).map .tuple
  | .dk es => some (.dict (es.map fun p => (keyD p.1, p.2)))
  | .dn es => some (.dict ((.none, .none) :: es.map fun p => (p.1.data, p.2)))
  | .dd es => some (.dict (ddD es))
  | .lk _ => none
  | .scr _ => none
  | .ob _ _ _ => none
  | .hole => none
def T.fzL : List T → Option (List D)
  | [] => some []
  | t :: ts => (T.fz t).bind fun d => (T.fzL ts).bind fun ds => some (d :: ds)
end
/-- the entries of an owned dict -/
abbrev KvOk (K : PySem.W.Frag) (F : Hp) {κ : Type} : List (κ × V) → List (κ × D) → Prop := Paired fun p q => p.1 = q.1 ∧ Rep K F p.2 q.2
abbrev NvOk (K : PySem.W.Frag) (F : Hp) : List (NK × Addr × V) → List (NK × D) → Prop := Paired fun p q => p.1 = q.1 ∧ okN p.1 = true ∧ Rep K F (.ref p.2.1) p.1.data ∧ Rep K F p.2.2 q.2
/-- the entries of a dict of dicts, each owned -/
inductive OwnD (K : PySem.W.Frag) (F H : Hp) : List (Key × V) → List (Key × List (Key × D)) → List Addr → Prop
  | nil : OwnD K F H [] [] []
  | cons {k : Key} {b : Addr} {xs : List (Key × V)} {ys : List (Key × D)} {kvs : List (Key × V)} {es : List (Key × List (Key × D))} {A : List Addr} : H b = some (.dK xs) → KvOk K F xs ys → OwnD K F H kvs es A → OwnD K F H ((k, .ref b) :: kvs) ((k, ys) :: es) (b :: A)
section
variable (K : PySem.W.Frag) (F H : Hp)
mutual
inductive Own : V → T → List Addr → Prop
  | leaf {v : V} {d : D} : Rep K F v d → Own v (.leaf d) []
  | fl {a : Addr} {xs : List V} {ds : List D} : H a = some (.lst xs) → xs.length ≤ sizeLine → RepL K F xs ds → Own (.ref a) (.fl ds) [a]
  | ls {a : Addr} {xs : List V} {ts : List T} {A : List Addr} : H a = some (.lst xs) → xs.length ≤ sizeLine → OwnL xs ts A → Own (.ref a) (.ls ts) (a :: A)
  | tup {a : Addr} {xs : List V} {ts : List T} {A : List Addr} : SqT K F a xs → xs.length ≤ sizeLine → OwnL xs ts A → Own (.ref a) (.tup ts) A
  | dk {a : Addr} {kvs : List (Key × V)} {es : List (Key × D)} : H a = some (.dK kvs) → KvOk K F kvs es → Own (.ref a) (.dk es) [a]
  | dn {a : Addr} {kvs : List (NK × Addr × V)} {es : List (NK × D)} : H a = some (dnO a kvs) → NvOk K F kvs es → Own (.ref a) (.dn es) [a]
  | dd {a : Addr} {kvs : List (Key × V)} {es : List (Key × List (Key × D))} {A : List Addr} : H a = some (.dK kvs) → OwnD K F H kvs es A → Own (.ref a) (.dd es) (a :: A)
  | lk {a : Addr} {o : Obj} {kvs : List (Key × V)} {es : List (Key × D)} : F a = some (.frz o (.dK kvs)) → KvOk K F kvs es → Own (.ref a) (.lk es) []
  | scr {a : Addr} {xs : List V} {ds : List D} : SqL K F a xs → xs.length ≤ sizeLine → RepL K F xs ds → Own (.ref a) (.scr ds) []
  | ob {a C dx : Addr} {cn : Str} {ns : List Str} {vs : List V} {ts : List T} {A : List Addr} : PySem.W.nsIn K mainGlobals cn = some (some (.ref C)) → H a = some (.ins C dx (ns.zip vs)) → ns.length = ts.length → OwnL vs ts A → Own (.ref a) (.ob cn ns ts) (a :: A)
  | hole {v : V} : Own v .hole []
inductive OwnL : List V → List T → List Addr → Prop
  | nil : OwnL [] [] []
  | cons {v : V} {vs : List V} {t : T} {ts : List T} {A B : List Addr} : Own v t A → OwnL vs ts B → OwnL (v :: vs) (t :: ts) (A ++ B)
end
end
section
variable {K : PySem.W.Frag} {F F' H H' : Hp}
theorem KvOk.mono {κ : Type} (e : Same F F') {xs : List (κ × V)} {es : List (κ × D)} (h : KvOk K F xs es) : KvOk K F' xs es := Paired.mapP h fun _ _ z => ⟨z.1, z.2.mono e⟩
theorem KvOk.repK (e : Same F F') : ∀ {xs : List (Key × V)} {es : List (Key × D)}, KvOk K F xs es → RepK K F' xs (es.map fun p => (keyD p.1, p.2))
  | _, _, .nil => .nil
  | _, _, .cons (a := (k, v)) (b := (k', d)) h t => by
    obtain ⟨rfl, r⟩ := h
    exact .cons (r.mono e) (KvOk.repK e t)
theorem NvOk.mono (e : Same F F') {xs : List (NK × Addr × V)} {es : List (NK × D)} (h : NvOk K F xs es) : NvOk K F' xs es := Paired.mapP h fun _ _ z => ⟨z.1, z.2.1, z.2.2.1.mono e, z.2.2.2.mono e⟩
theorem NvOk.repN (e : Same F F') : ∀ {xs : List (NK × Addr × V)} {es : List (NK × D)}, NvOk K F xs es → RepN K F' xs (es.map fun p => (p.1.data, p.2))
  | _, _, .nil => .nil
  | _, _, .cons (a := (k, b, v)) (b := (k', d)) h t => by
    obtain ⟨rfl, o, r, q⟩ := h
    exact .cons o (r.mono e) (q.mono e) (NvOk.repN e t)
theorem OwnD.stay (e : Same F F') : ∀ {kvs : List (Key × V)} {es : List (Key × List (Key × D))} {A : List Addr}, OwnD K F H kvs es A → (∀ a ∈ A, ∀ o, H a = some o → H' a = some o) → OwnD K F' H' kvs es A
  | _, _, _, .nil, _ => .nil
  | _, _, _, .cons h r t, k => .cons (k _ List.mem_cons_self _ h) (r.mono e) (OwnD.stay e t fun a m => k a (List.mem_cons_of_mem _ m))
theorem OwnD.rep (e : Same F F') : ∀ {kvs : List (Key × V)} {es : List (Key × List (Key × D))} {A : List Addr}, OwnD K F H kvs es A → (∀ a ∈ A, ∀ o, H a = some o → F' a = some o) → RepK K F' kvs (ddD es)
  | _, _, _, .nil, _ => .nil
  | _, _, _, .cons h r t, k => .cons (.dk (k _ List.mem_cons_self _ h) (KvOk.repK e r)) (OwnD.rep e t fun a m => k a (List.mem_cons_of_mem _ m))
mutual
/-- an owned tree stands while its own cells stand and the frozen part grows -/
theorem Own.stay (e : Same F F') : ∀ {v : V} {t : T} {A : List Addr}, Own K F H v t A → (∀ a ∈ A, ∀ o, H a = some o → H' a = some o) → Own K F' H' v t A
  | _, .leaf d, _, h, k => by
    cases h with
    | leaf r => exact .leaf (r.mono e)
  | _, .fl ds, _, h, k => by
    cases h with
    | fl h z r => exact .fl (k _ (List.mem_singleton.mpr rfl) _ h) z (r.mono e)
  | _, .ls ts, _, h, k => by
    cases h with
    | ls h z r => exact .ls (k _ List.mem_cons_self _ h) z (OwnL.stay e r fun a m => k a (List.mem_cons_of_mem _ m))
  | _, .tup ts, _, h, k => by
    cases h with
    | tup h z r => exact .tup (sameT e h) z (OwnL.stay e r k)
  | _, .dk es, _, h, k => by
    cases h with
    | dk h r => exact .dk (k _ (List.mem_singleton.mpr rfl) _ h) (r.mono e)
  | _, .dn es, _, h, k => by
    cases h with
    | dn h r => exact .dn (k _ (List.mem_singleton.mpr rfl) _ h) (r.mono e)
  | _, .dd es, _, h, k => by
    cases h with
    | dd h r => exact .dd (k _ List.mem_cons_self _ h) (r.stay e fun a m => k a (List.mem_cons_of_mem _ m))
  | _, .lk es, _, h, k => by
    cases h with
    | lk h r => exact .lk (e _ _ h) (r.mono e)
  | _, .scr ds, _, h, k => by
    cases h with
    | scr h z r => exact .scr (e.seq h) z (r.mono e)
  | _, .ob cn ns ts, _, h, k => by
    cases h with
    | ob hc h z r => exact .ob hc (k _ List.mem_cons_self _ h) z (OwnL.stay e r fun a m => k a (List.mem_cons_of_mem _ m))
  | _, .hole, _, h, k => by
    cases h
    exact .hole
theorem OwnL.stay (e : Same F F') : ∀ {v : List V} {t : List T} {A : List Addr}, OwnL K F H v t A → (∀ a ∈ A, ∀ o, H a = some o → H' a = some o) → OwnL K F' H' v t A
  | _, [], _, h, k => by
    cases h
    exact .nil
  | _, t :: ts, _, h, k => by
    cases h with
    | cons h1 h2 => exact .cons (Own.stay e h1 fun a m => k a (List.mem_append_left _ m)) (OwnL.stay e h2 fun a m => k a (List.mem_append_right _ m))
end
mutual
/-- .. read as plain data, once its cells are frozen -/
theorem Own.rep (e : Same F F') : ∀ {v : V} {t : T} {A : List Addr} {d : D}, Own K F H v t A → (∀ a ∈ A, ∀ o, H a = some o → F' a = some o) → t.fz = some d → Rep K F' v d
  | _, .leaf d, _, _, h, k, w => by
    cases h with
    | leaf r =>
      cases w
      exact r.mono e
  | _, .fl ds, _, _, h, k, w => by
    cases h with
    | fl h z r =>
      cases w
      exact .lst (k _ (List.mem_singleton.mpr rfl) _ h) z (r.mono e)
  | _, .ls ts, _, _, h, k, w => by
    cases h with
    | ls h z r =>
      have w' : (T.fzL ts).map PyData.list = some _ := w
      obtain ⟨ds, e1, e2⟩ := Option.map_eq_some_iff.mp w'
      subst e2
      exact .lst (k _ List.mem_cons_self _ h) z (OwnL.rep e r (fun a m => k a (List.mem_cons_of_mem _ m)) e1)
  | _, .tup ts, _, _, h, k, w => by
    cases h with
    | tup h z r =>
      have w' : (T.fzL ts).map PyData.tuple = some _ := w
      obtain ⟨ds, e1, e2⟩ := Option.map_eq_some_iff.mp w'
      subst e2
      exact .tup (sameT e h) z (OwnL.rep e r k e1)
  | _, .dk es, _, _, h, k, w => by
    cases h with
    | dk h r =>
      cases w
      exact .dk (k _ (List.mem_singleton.mpr rfl) _ h) (KvOk.repK e r)
  | _, .dn es, _, _, h, k, w => by
    cases h with
    | dn h r =>
      cases w
      exact .dn (k _ (List.mem_singleton.mpr rfl) _ h) (r.repN e)
  | _, .dd es, _, _, h, k, w => by
    cases h with
    | dd h r =>
      cases w
      exact .dk (k _ List.mem_cons_self _ h) (r.rep e fun a m => k a (List.mem_cons_of_mem _ m))
  | _, .lk es, _, _, h, k, w => by cases w
  | _, .scr ds, _, _, h, k, w => by cases w
  | _, .ob _ _ _, _, _, h, k, w => by cases w
  | _, .hole, _, _, h, k, w => by cases w
theorem OwnL.rep (e : Same F F') : ∀ {v : List V} {t : List T} {A : List Addr} {d : List D}, OwnL K F H v t A → (∀ a ∈ A, ∀ o, H a = some o → F' a = some o) → T.fzL t = some d → RepL K F' v d
  | _, [], _, _, h, k, w => by
    cases h
    cases w
    exact .nil
  | _, t :: ts, _, _, h, k, w => by
    cases h with
    | cons h1 h2 =>
      have w' : (T.fz t).bind (fun d => (T.fzL ts).bind fun ds => some (d :: ds)) = some _ := w
      obtain ⟨d, e1, w2⟩ := Option.bind_eq_some_iff.mp w'
      obtain ⟨ds, e2, w3⟩ := Option.bind_eq_some_iff.mp w2
      cases w3
      exact .cons (Own.rep e h1 (fun a m => k a (List.mem_append_left _ m)) e1) (OwnL.rep e h2 (fun a m => k a (List.mem_append_right _ m)) e2)
end

structure Cn (F B H : Hp) (A : List Addr) : Prop where
  fh : Same F H
  bh : Same B H
  nd : A.Nodup
  fa : ∀ a ∈ A, F a = none
  ba : ∀ a ∈ A, B a = none
  ha : ∀ a ∈ A, H a ≠ none
structure Go (F H : Hp) (A : List Addr) (F' H' : Hp) (A' : List Addr) : Prop where
  ff : Same F F'
  keep : ∀ b o, b ∉ A → H b = some o → H' b = some o
  fresh : ∀ b, b ∉ A → H b ≠ none → F' b = F b
  sub : ∀ b ∈ A', b ∈ A ∨ H b = none
theorem some_ne {α : Type} {o : Option α} (h : o ≠ none) : ∃ x, o = some x := by
  cases o with
  | none => exact absurd rfl h
  | some x => exact ⟨x, rfl⟩
variable {B : Hp} {A A' A1 A2 C : List Addr} {F1 H1 F2 H2 : Hp}
theorem Cn.perm (c : Cn F B H A) (p : A.Perm A') : Cn F B H A' :=
  ⟨c.fh, c.bh, p.nodup c.nd, fun a m => c.fa a (p.mem_iff.mpr m), fun a m => c.ba a (p.mem_iff.mpr m), fun a m => c.ha a (p.mem_iff.mpr m)⟩
theorem Cn.sub (c : Cn F B H A) (n : A'.Nodup) (s : ∀ a ∈ A', a ∈ A) : Cn F B H A' :=
  ⟨c.fh, c.bh, n, fun a m => c.fa a (s a m), fun a m => c.ba a (s a m), fun a m => c.ha a (s a m)⟩
theorem Cn.right (c : Cn F B H (A1 ++ A2)) : Cn F B H A2 := c.sub (List.nodup_append.mp c.nd).2.1 fun a m => List.mem_append_right _ m
theorem Cn.left (c : Cn F B H (A1 ++ A2)) : Cn F B H A1 := c.sub (List.nodup_append.mp c.nd).1 fun a m => List.mem_append_left _ m
theorem Cn.apart (c : Cn F B H (A1 ++ A2)) : ∀ a ∈ A1, a ∉ A2 := fun a m m2 => (List.nodup_append.mp c.nd).2.2 a m a m2 rfl
theorem Go.refl : Go F H A F H A := ⟨Same.refl F, fun _ _ _ h => h, fun _ _ _ => rfl, fun _ m => .inl m⟩
theorem Go.less (s : ∀ a ∈ A', a ∈ A) : Go F H A F H A' := ⟨Same.refl F, fun _ _ _ h => h, fun _ _ _ => rfl, fun a m => .inl (s a m)⟩
theorem Go.perm (g : Go F H A F' H' A') {C C' : List Addr} (p : A.Perm C) (q : A'.Perm C') : Go F H C F' H' C' :=
  ⟨g.ff, fun b o n => g.keep b o fun m => n (p.mem_iff.mp m), fun b n => g.fresh b fun m => n (p.mem_iff.mp m), fun b m => (g.sub b (q.mem_iff.mpr m)).imp (fun z => p.mem_iff.mp z) id⟩
theorem Go.trans (g : Go F H A F1 H1 A1) (k : Go F1 H1 A1 F2 H2 A2) : Go F H A F2 H2 A2 := by
  have out : ∀ b, b ∉ A → H b ≠ none → b ∉ A1 := fun b n h m => (g.sub b m).elim n h
  refine ⟨g.ff.trans k.ff, fun b o n h => ?_, fun b n h => ?_, fun b m => ?_⟩
  · exact k.keep b o (out b n (by rw [h]; exact fun z => nomatch z)) (g.keep b o n h)
  · obtain ⟨o, e⟩ := some_ne h
    rw [k.fresh b (out b n h) (by rw [g.keep b o n e]; exact fun z => nomatch z)]
    exact g.fresh b n h
  · rcases k.sub b m with z | z
    · exact g.sub b z
    · by_cases hb : b ∈ A
      · exact .inl hb
      · refine .inr ?_
        cases e : H b with
        | none => rfl
        | some o =>
          rw [g.keep b o hb e] at z
          cases z
/-- what is owned beside stands -/
theorem Go.framed (c : Cn F B H (A1 ++ A2)) (g : Go F H A2 F' H' C) (d : Cn F' B H' C) : Go F H (A1 ++ A2) F' H' (A1 ++ C) ∧ Cn F' B H' (A1 ++ C) := by
  have ap := c.apart
  refine ⟨⟨g.ff, fun b o n => g.keep b o fun m => n (List.mem_append_right _ m), fun b n => g.fresh b fun m => n (List.mem_append_right _ m), fun b m => ?_⟩,
    ⟨d.fh, d.bh, ?_, fun b m => ?_, fun b m => ?_, fun b m => ?_⟩⟩
  · rcases List.mem_append.mp m with z | z
    · exact .inl (List.mem_append_left _ z)
    · exact (g.sub b z).imp (fun q => List.mem_append_right _ q) id
  · refine List.nodup_append.mpr ⟨(List.nodup_append.mp c.nd).1, d.nd, fun a m b m2 e => ?_⟩
    subst e
    rcases g.sub a m2 with z | z
    · exact ap a m z
    · exact c.ha a (List.mem_append_left _ m) z
  · rcases List.mem_append.mp m with z | z
    · rw [g.fresh b (ap b z) (c.ha b (List.mem_append_left _ z))]
      exact c.fa b (List.mem_append_left _ z)
    · exact d.fa b z
  · rcases List.mem_append.mp m with z | z
    · exact c.ba b (List.mem_append_left _ z)
    · exact d.ba b z
  · rcases List.mem_append.mp m with z | z
    · obtain ⟨o, e⟩ := some_ne (c.ha b (List.mem_append_left _ z))
      rw [g.keep b o (ap b z) e]
      exact fun q => nomatch q
    · exact d.ha b z
theorem Go.beside (c : Cn F B H (A1 ++ A2)) (g : Go F H A2 F' H' C) {v : V} {t : T} (o : Own K F H v t A1) : Own K F' H' v t A1 :=
  o.stay g.ff fun a m u e => g.keep a u (c.apart a m) e
/-- the frame's right -/
theorem Go.framedR (c : Cn F B H (A1 ++ A2)) (g : Go F H A1 F' H' C) (d : Cn F' B H' C) : Go F H (A1 ++ A2) F' H' (C ++ A2) ∧ Cn F' B H' (C ++ A2) := by
  obtain ⟨g2, d2⟩ := Go.framed (c.perm List.perm_append_comm) g d
  exact ⟨g2.perm List.perm_append_comm List.perm_append_comm, d2.perm List.perm_append_comm⟩
/-- cells frozen -/
def joinH (F H : Hp) (A : List Addr) : Hp := fun b => if b ∈ A then H b else F b
theorem Cn.freeze (c : Cn F B H (A1 ++ A2)) : Go F H (A1 ++ A2) (joinH F H A1) H A2 ∧ Cn (joinH F H A1) B H A2 ∧ Same F (joinH F H A1) ∧ ∀ a ∈ A1, ∀ o, H a = some o → joinH F H A1 a = some o := by
  have s : Same F (joinH F H A1) := fun b o e => by
    unfold joinH
    by_cases m : b ∈ A1
    · rw [c.fa b (List.mem_append_left _ m)] at e
      cases e
    · rw [if_neg m]
      exact e
  refine ⟨⟨s, fun _ _ _ h => h, fun b n _ => ?_, fun b m => .inl (List.mem_append_right _ m)⟩, ⟨fun b o e => ?_, c.bh, c.right.nd, fun b m => ?_, c.right.ba, c.right.ha⟩, s, fun a m o e => ?_⟩
  · unfold joinH
    rw [if_neg fun m => n (List.mem_append_left _ m)]
  · unfold joinH at e
    by_cases m : b ∈ A1
    · rw [if_pos m] at e
      exact e
    · rw [if_neg m] at e
      exact c.fh b o e
  · unfold joinH
    rw [if_neg fun z => c.apart b z m]
    exact c.right.fa b m
  · unfold joinH
    rw [if_pos m]
    exact e
/-- a new cell, frozen at once -/
theorem Cn.newF (c : Cn F B H A) {p : Addr} {o : HO} (h : H p = none) : Go F H A (upd F p o) (upd H p o) A ∧ Cn (upd F p o) B (upd H p o) A := by
  have fp : F p = none := Same.free c.fh h
  have s : Same F (upd F p o) := fun b u e => by
    rw [upd_ne (ne_of_none e fp)]
    exact e
  have sh : Same H (upd H p o) := fun b u e => by
    rw [upd_ne (ne_of_none e h)]
    exact e
  refine ⟨⟨s, fun b u _ e => sh b u e, fun b _ e => ?_, fun b m => .inl m⟩, ⟨fun b u e => ?_, c.bh.trans sh, c.nd, fun b m => ?_, c.ba, fun b m => ?_⟩⟩
  · obtain ⟨u, e'⟩ := some_ne e
    rw [upd_ne (ne_of_none e' h)]
  · by_cases q : b = p
    · subst q
      rw [upd_same] at e ⊢
      exact e
    · rw [upd_ne q] at e ⊢
      exact c.fh b u e
  · obtain ⟨u, e'⟩ := some_ne (c.ha b m)
    rw [upd_ne (ne_of_none e' h)]
    exact c.fa b m
  · obtain ⟨u, e'⟩ := some_ne (c.ha b m)
    rw [sh b u e']
    exact fun z => nomatch z
/-- a new cell, owned -/
theorem Cn.newO (c : Cn F B H A) {p : Addr} {o : HO} (h : H p = none) : Go F H A F (upd H p o) (p :: A) ∧ Cn F B (upd H p o) (p :: A) := by
  have sh : Same H (upd H p o) := fun b u e => by
    rw [upd_ne (ne_of_none e h)]
    exact e
  refine ⟨⟨Same.refl F, fun b u _ e => sh b u e, fun b _ _ => rfl, fun b m => ?_⟩, ⟨c.fh.trans sh, c.bh.trans sh, List.nodup_cons.mpr ⟨fun m => c.ha p m h, c.nd⟩, fun b m => ?_, fun b m => ?_, fun b m => ?_⟩⟩
  · rcases List.mem_cons.mp m with z | z
    · exact .inr (by rw [z]; exact h)
    · exact .inl z
  · rcases List.mem_cons.mp m with z | z
    · rw [z]
      exact Same.free c.fh h
    · exact c.fa b z
  · rcases List.mem_cons.mp m with z | z
    · rw [z]
      exact Same.free c.bh h
    · exact c.ba b z
  · rcases List.mem_cons.mp m with z | z
    · rw [z, upd_same]
      exact fun q => nomatch q
    · obtain ⟨u, e'⟩ := some_ne (c.ha b z)
      rw [sh b u e']
      exact fun q => nomatch q
/-- an owned cell written -/
theorem Cn.write (c : Cn F B H A) {p : Addr} {o : HO} (h : p ∈ A) : Go F H A F (upd H p o) A ∧ Cn F B (upd H p o) A := by
  have sh : ∀ b u, b ≠ p → H b = some u → upd H p o b = some u := fun b u n e => by
    rw [upd_ne n]
    exact e
  refine ⟨⟨Same.refl F, fun b u n e => sh b u (fun z => n (z ▸ h)) e, fun b _ _ => rfl, fun b m => .inl m⟩, ⟨fun b u e => sh b u ?_ (c.fh b u e), fun b u e => sh b u ?_ (c.bh b u e), c.nd, c.fa, c.ba, fun b m => ?_⟩⟩
  · intro z
    subst z
    rw [c.fa _ h] at e
    cases e
  · intro z
    subst z
    rw [c.ba _ h] at e
    cases e
  · by_cases q : b = p
    · rw [q, upd_same]
      exact fun z => nomatch z
    · rw [upd_ne q]
      exact c.ha b m
end
end Tl

namespace Tl
open PySem PySem.Spec PyProof.Rows L2

inductive R where
  | val (t : T)
  | vw (t : T)
def R.er : R → Option D
  | .val t => t.fz
  | .vw t => t.fz
/-- as a thing that is kept -/
def R.st : R → Option D
  | .val t => t.fz
  | .vw (.leaf d) => some d
  | .vw _ => none
def erL : List R → Option (List D)
  | [] => some []
  | r :: rs => r.er.bind fun d => (erL rs).bind fun ds => some (d :: ds)
def stL : List R → Option (List D)
  | [] => some []
  | r :: rs => r.st.bind fun d => (stL rs).bind fun ds => some (d :: ds)
/-- plain results -/
abbrev rd (d : D) : R := .val (.leaf d)
abbrev rInt (i : Int) : R := rd (.int i)
abbrev rBool (b : Bool) : R := rd (.bool b)
section
variable (K : PySem.W.Frag) (F B H : Hp)
def ROk : R → V → List Addr → Prop
  | .val t, v, A => Own K F H v t A
  | .vw t, v, A => A = [] ∧ ∃ A', Own K F B v t A'
inductive RsOk : List R → List V → List Addr → Prop
  | nil : RsOk [] [] []
  | cons {r : R} {rs : List R} {v : V} {vs : List V} {A A' : List Addr} : ROk K F B H r v A → RsOk rs vs A' → RsOk (r :: rs) (v :: vs) (A ++ A')
end
section
variable {K : PySem.W.Frag} {F F' B H H' : Hp} {A A1 A2 A3 : List Addr}
theorem ROk.rep {r : R} {v : V} {d : D} (o : ROk K F B H r v A) (f : Same F F') (b : Same B F') (h : ∀ a ∈ A, ∀ o, H a = some o → F' a = some o) (e : r.er = some d) : Rep K F' v d := by
  cases r with
  | val t => exact Own.rep f o h e
  | vw t =>
    obtain ⟨_, A', o⟩ := o
    exact Own.rep f o (fun a _ o q => b a o q) e
theorem RsOk.rep : ∀ {rs : List R} {vs : List V} {A : List Addr} {ds : List D}, RsOk K F B H rs vs A → Same F F' → Same B F' → (∀ a ∈ A, ∀ o, H a = some o → F' a = some o) → erL rs = some ds → RepL K F' vs ds
  | _, _, _, _, .nil, _, _, _, e => by
    cases e
    exact .nil
  | r :: rs, _, _, _, .cons o t, f, b, h, e => by
    have e' : r.er.bind (fun d => (erL rs).bind fun ds => some (d :: ds)) = some _ := e
    obtain ⟨d, e1, w2⟩ := Option.bind_eq_some_iff.mp e'
    obtain ⟨ds, e2, w3⟩ := Option.bind_eq_some_iff.mp w2
    cases w3
    exact .cons (o.rep f b (fun a m => h a (List.mem_append_left _ m)) e1) (RsOk.rep t f b (fun a m => h a (List.mem_append_right _ m)) e2)
theorem ROk.keep {r : R} {v : V} {d : D} (o : ROk K F B H r v A) (f : Same F F') (h : ∀ a ∈ A, ∀ o, H a = some o → F' a = some o) (e : r.st = some d) : Rep K F' v d := by
  cases r with
  | val t => exact Own.rep f o h e
  | vw t =>
    obtain ⟨_, A', o⟩ := o
    cases t with
    | leaf d =>
      cases e
      cases o with
      | leaf r => exact r.mono f
    | _ => cases e
theorem RsOk.keep : ∀ {rs : List R} {vs : List V} {A : List Addr} {ds : List D}, RsOk K F B H rs vs A → Same F F' → (∀ a ∈ A, ∀ o, H a = some o → F' a = some o) → stL rs = some ds → RepL K F' vs ds
  | _, _, _, _, .nil, _, _, e => by
    cases e
    exact .nil
  | r :: rs, _, _, _, .cons o t, f, h, e => by
    have e' : r.st.bind (fun d => (stL rs).bind fun ds => some (d :: ds)) = some _ := e
    obtain ⟨d, e1, w2⟩ := Option.bind_eq_some_iff.mp e'
    obtain ⟨ds, e2, w3⟩ := Option.bind_eq_some_iff.mp w2
    cases w3
    exact .cons (o.keep f (fun a m => h a (List.mem_append_left _ m)) e1) (RsOk.keep t f (fun a m => h a (List.mem_append_right _ m)) e2)
theorem RsOk.length : ∀ {rs : List R} {vs : List V} {A : List Addr}, RsOk K F B H rs vs A → vs.length = rs.length
  | _, _, _, .nil => rfl
  | _, _, _, .cons _ t => congrArg (· + 1) (RsOk.length t)
theorem ROk.stay {r : R} {v : V} (o : ROk K F B H r v A) (f : Same F F') (h : ∀ a ∈ A, ∀ o, H a = some o → H' a = some o) : ROk K F' B H' r v A := by
  cases r with
  | val t => exact Own.stay f o h
  | vw t =>
    obtain ⟨e, A', o⟩ := o
    exact ⟨e, A', Own.stay f o fun _ _ _ q => q⟩
theorem RsOk.stay : ∀ {rs : List R} {vs : List V} {A : List Addr}, RsOk K F B H rs vs A → Same F F' → (∀ a ∈ A, ∀ o, H a = some o → H' a = some o) → RsOk K F' B H' rs vs A
  | _, _, _, .nil, _, _ => .nil
  | _, _, _, .cons o t, f, h => .cons (o.stay f fun a m => h a (List.mem_append_left _ m)) (RsOk.stay t f fun a m => h a (List.mem_append_right _ m))
/-- a result frozen -/
theorem ROk.freeze {r : R} {v : V} {d : D} (c : Cn F B H (A1 ++ A2)) (o : ROk K F B H r v A1) (e : r.st = some d) : ∃ F', Go F H (A1 ++ A2) F' H A2 ∧ Cn F' B H A2 ∧ Same F F' ∧ Rep K F' v d := by
  obtain ⟨g, c', s, h⟩ := c.freeze
  exact ⟨_, g, c', s, o.keep s h e⟩
theorem RsOk.freeze {rs : List R} {vs : List V} {ds : List D} (c : Cn F B H (A1 ++ A2)) (o : RsOk K F B H rs vs A1) (e : stL rs = some ds) : ∃ F', Go F H (A1 ++ A2) F' H A2 ∧ Cn F' B H A2 ∧ Same F F' ∧ RepL K F' vs ds := by
  obtain ⟨g, c', s, h⟩ := c.freeze
  exact ⟨_, g, c', s, o.keep s h e⟩
end

abbrev Tau := List (Nat × T)
def tget : Tau → Nat → Option T
  | [], _ => none
  | (j, t) :: r, i => if j = i then some t else tget r i
def tdel : Tau → Nat → Tau
  | [], _ => []
  | (j, t) :: r, i => if j = i then tdel r i else (j, t) :: tdel r i
/-- put in place -/
def tset : Tau → Nat → T → Tau
  | [], i, t => [(i, t)]
  | (j, u) :: r, i, t => if j = i then (i, t) :: r else (j, u) :: tset r i t
abbrev Fz := List (Option D)
def fget : Fz → Nat → Option D
  | [], _ => none
  | x :: _, 0 => x
  | _ :: r, n + 1 => fget r n
def fset : Fz → Nat → Option D → Fz
  | [], _, _ => []
  | _ :: r, 0, d => d :: r
  | x :: r, n + 1, d => x :: fset r n d
theorem fset_length : ∀ (f : Fz) (i : Nat) (d : Option D), (fset f i d).length = f.length
  | [], _, _ => rfl
  | _ :: _, 0, _ => rfl
  | _ :: r, n + 1, d => congrArg (· + 1) (fset_length r n d)
theorem fget_set_same : ∀ {f : Fz} {i : Nat} {d : Option D} {e : D}, fget (fset f i d) i = some e → d = some e
  | _ :: _, 0, _, _, h => h
  | _ :: r, n + 1, d, e, h => fget_set_same (f := r) (i := n) h
theorem fget_set_ne : ∀ {f : Fz} {i j : Nat} {d : Option D}, j ≠ i → fget (fset f i d) j = fget f j
  | [], _, _, _, _ => rfl
  | _ :: _, 0, 0, _, h => absurd rfl h
  | _ :: _, 0, j + 1, _, _ => rfl
  | _ :: _, i + 1, 0, _, _ => rfl
  | _ :: r, i + 1, j + 1, d, h => fget_set_ne (f := r) fun e => h (congrArg (· + 1) e)
theorem fget_lt : ∀ {f : Fz} {i : Nat} {d : D}, fget f i = some d → i < f.length
  | _ :: _, 0, _, _ => Nat.succ_pos _
  | _ :: r, n + 1, d, h => Nat.succ_lt_succ (fget_lt (f := r) h)
structure Ro where
  fz : Fz
  vw : Tau
section
variable (K : PySem.W.Frag)
def FzOk (F : Hp) (σ : L2.St) (f : Fz) : Prop := f.length = σ.length ∧ ∀ i d, fget f i = some d → ∃ v, σ[i]? = some (some v) ∧ Rep K F v d
def VwOk (F B : Hp) (σ : L2.St) (τ : Tau) : Prop := ∀ p ∈ τ, ∃ v A, σ[p.1]? = some (some v) ∧ Own K F B v p.2 A
structure RoOk (F B : Hp) (σ : L2.St) (ro : Ro) : Prop where
  fz : FzOk K F σ ro.fz
  vw : VwOk K F B σ ro.vw
inductive TauOk (F H : Hp) (σ : L2.St) : Tau → List Addr → Prop
  | nil : TauOk F H σ [] []
  | cons {i : Nat} {t : T} {τ : Tau} {v : V} {A A' : List Addr} : σ[i]? = some (some v) → Own K F H v t A → TauOk F H σ τ A' → TauOk F H σ ((i, t) :: τ) (A ++ A')
structure At (F B H : Hp) (σ : L2.St) (ro : Ro) (τ : Tau) (A : List Addr) : Prop where
  cn : Cn F B H A
  ro : RoOk K F B σ ro
  tau : TauOk K F H σ τ A
end
section
variable {K : PySem.W.Frag} {F F' B H H' : Hp} {σ : L2.St} {A A1 A2 A3 C : List Addr}
theorem FzOk.mono {f : Fz} (o : FzOk K F σ f) (s : Same F F') : FzOk K F' σ f := ⟨o.1, fun i d e => let ⟨v, h, r⟩ := o.2 i d e; ⟨v, h, r.mono s⟩⟩
theorem VwOk.mono {f : Tau} (o : VwOk K F B σ f) (s : Same F F') : VwOk K F' B σ f := fun p m => let ⟨v, A, h, r⟩ := o p m; ⟨v, A, h, r.stay s fun _ _ _ q => q⟩
theorem RoOk.mono {ro : Ro} (o : RoOk K F B σ ro) (s : Same F F') : RoOk K F' B σ ro := ⟨o.fz.mono s, o.vw.mono s⟩
theorem TauOk.stay (s : Same F F') : ∀ {τ : Tau} {A : List Addr}, TauOk K F H σ τ A → (∀ a ∈ A, ∀ o, H a = some o → H' a = some o) → TauOk K F' H' σ τ A
  | _, _, .nil, _ => .nil
  | _, _, .cons h o t, k => .cons h (o.stay s fun a m => k a (List.mem_append_left _ m)) (TauOk.stay s t fun a m => k a (List.mem_append_right _ m))
theorem tget_mem : ∀ {τ : Tau} {i : Nat} {t : T}, tget τ i = some t → (i, t) ∈ τ
  | (j, u) :: r, i, t, h => by
    have h' : (if j = i then some u else tget r i) = some t := h
    by_cases q : j = i
    · rw [if_pos q] at h'
      cases h'
      rw [q]
      exact List.mem_cons_self
    · rw [if_neg q] at h'
      exact List.mem_cons_of_mem _ (tget_mem h')
theorem tdel_sub : ∀ {τ : Tau} {i : Nat} {p : Nat × T}, p ∈ tdel τ i → p ∈ τ ∧ p.1 ≠ i
  | (j, u) :: r, i, p, h => by
    have h' : p ∈ (if j = i then tdel r i else (j, u) :: tdel r i) := h
    by_cases q : j = i
    · rw [if_pos q] at h'
      have z := tdel_sub h'
      exact ⟨List.mem_cons_of_mem _ z.1, z.2⟩
    · rw [if_neg q] at h'
      rcases List.mem_cons.mp h' with e | m
      · rw [e]
        exact ⟨List.mem_cons_self, q⟩
      · have z := tdel_sub m
        exact ⟨List.mem_cons_of_mem _ z.1, z.2⟩
/-- the slot i dropped -/
theorem TauOk.del : ∀ {τ : Tau} {A : List Addr} (i : Nat), TauOk K F H σ τ A → A.Nodup → ∃ A', TauOk K F H σ (tdel τ i) A' ∧ A'.Nodup ∧ ∀ a ∈ A', a ∈ A
  | _, _, _, .nil, n => ⟨[], .nil, n, fun _ m => m⟩
  | (j, u) :: r, _, i, .cons (A := A) (A' := A0) h o t, n => by
    obtain ⟨A', t', n', s'⟩ := TauOk.del i t (List.nodup_append.mp n).2.1
    by_cases q : j = i
    · refine ⟨A', ?_, n', fun a m => List.mem_append_right _ (s' a m)⟩
      show TauOk K F H σ (if j = i then tdel r i else (j, u) :: tdel r i) A'
      rw [if_pos q]
      exact t'
    · refine ⟨A ++ A', ?_, List.nodup_append.mpr ⟨(List.nodup_append.mp n).1, n', fun a m b m2 => (List.nodup_append.mp n).2.2 a m b (s' b m2)⟩, fun a m => ?_⟩
      · show TauOk K F H σ (if j = i then tdel r i else (j, u) :: tdel r i) (A ++ A')
        rw [if_neg q]
        exact .cons h o t'
      · rcases List.mem_append.mp m with z | z
        · exact List.mem_append_left _ z
        · exact List.mem_append_right _ (s' a z)
/-- the slot i taken out -/
theorem TauOk.take : ∀ {τ : Tau} {A : List Addr} {i : Nat} {t : T}, TauOk K F H σ τ A → A.Nodup → tget τ i = some t →
    ∃ v A1 A2, σ[i]? = some (some v) ∧ Own K F H v t A1 ∧ TauOk K F H σ (tset τ i .hole) A2 ∧ (A1 ++ A2).Nodup ∧ ∀ a ∈ A1 ++ A2, a ∈ A
  | (j, u) :: r, _, i, t, .cons (v := v) (A := A) (A' := A0) h o tt, n, e => by
    have e' : (if j = i then some u else tget r i) = some t := e
    obtain ⟨n1, n2, n3⟩ := List.nodup_append.mp n
    by_cases q : j = i
    · rw [if_pos q] at e'
      cases e'
      refine ⟨v, A, [] ++ A0, q ▸ h, o, ?_, n, fun a m => m⟩
      show TauOk K F H σ (if j = i then (i, T.hole) :: r else (j, u) :: tset r i .hole) ([] ++ A0)
      rw [if_pos q]
      exact .cons (q ▸ h) .hole tt
    · rw [if_neg q] at e'
      obtain ⟨w, A1, A2, hw, ow, tw, nw, sw⟩ := TauOk.take tt n2 e'
      obtain ⟨m1, m2, m3⟩ := List.nodup_append.mp nw
      have in1 : ∀ a ∈ A1, a ∈ A0 := fun a m => sw a (List.mem_append_left _ m)
      have in2 : ∀ a ∈ A2, a ∈ A0 := fun a m => sw a (List.mem_append_right _ m)
      refine ⟨w, A1, A ++ A2, hw, ow, ?_, List.nodup_append.mpr ⟨m1, List.nodup_append.mpr ⟨n1, m2, fun a m b m' => n3 a m b (in2 b m')⟩, fun a m b m' => ?_⟩, fun a m => ?_⟩
      · show TauOk K F H σ (if j = i then (i, T.hole) :: r else (j, u) :: tset r i .hole) (A ++ A2)
        rw [if_neg q]
        exact .cons h o tw
      · rcases List.mem_append.mp m' with z | z
        · exact fun e => n3 b z a (in1 a m) e.symm
        · exact m3 a m b z
      · rcases List.mem_append.mp m with z | z
        · exact List.mem_append_right _ (in1 a z)
        · rcases List.mem_append.mp z with z | z
          · exact List.mem_append_left _ z
          · exact List.mem_append_right _ (in2 a z)
/-- the slot i put -/
theorem TauOk.put : ∀ {τ : Tau} {A2 : List Addr} {i : Nat} {t : T} {v : V} {A1 : List Addr}, TauOk K F H σ τ A2 → σ[i]? = some (some v) → Own K F H v t A1 → (A1 ++ A2).Nodup →
    ∃ A', TauOk K F H σ (tset τ i t) A' ∧ A'.Nodup ∧ ∀ a ∈ A', a ∈ A1 ++ A2
  | [], _, i, t, v, A1, .nil, hv, o, n => ⟨A1 ++ [], .cons hv o .nil, n, fun a m => m⟩
  | (j, u) :: r, _, i, t, v, A1, .cons (A := A) (A' := A0) h o' tt, hv, o, n => by
    obtain ⟨n1, n2, n3⟩ := List.nodup_append.mp n
    obtain ⟨m1, m2, m3⟩ := List.nodup_append.mp n2
    by_cases q : j = i
    · refine ⟨A1 ++ A0, ?_, List.nodup_append.mpr ⟨n1, m2, fun a m b m' => n3 a m b (List.mem_append_right _ m')⟩, fun a m => ?_⟩
      · show TauOk K F H σ (if j = i then (i, t) :: r else (j, u) :: tset r i t) (A1 ++ A0)
        rw [if_pos q]
        exact .cons hv o tt
      · rcases List.mem_append.mp m with z | z
        · exact List.mem_append_left _ z
        · exact List.mem_append_right _ (List.mem_append_right _ z)
    · have nn : (A1 ++ A0).Nodup := List.nodup_append.mpr ⟨n1, m2, fun a m b m' => n3 a m b (List.mem_append_right _ m')⟩
      obtain ⟨A', t', n', s'⟩ := TauOk.put tt hv o nn
      refine ⟨A ++ A', ?_, List.nodup_append.mpr ⟨m1, n', fun a m b m' => ?_⟩, fun a m => ?_⟩
      · show TauOk K F H σ (if j = i then (i, t) :: r else (j, u) :: tset r i t) (A ++ A')
        rw [if_neg q]
        exact .cons h o' t'
      · rcases List.mem_append.mp (s' b m') with z | z
        · exact fun e => n3 b z a (List.mem_append_left _ m) e.symm
        · exact m3 a m b z
      · rcases List.mem_append.mp m with z | z
        · exact List.mem_append_right _ (List.mem_append_left _ z)
        · rcases List.mem_append.mp (s' a z) with z | z
          · exact List.mem_append_left _ z
          · exact List.mem_append_right _ (List.mem_append_right _ z)
theorem Go.ros (c : Cn F B H (A1 ++ A2)) (g : Go F H A2 F' H' C) {r : R} {v : V} (o : ROk K F B H r v A1) : ROk K F' B H' r v A1 :=
  o.stay g.ff fun a m u e => g.keep a u (c.apart a m) e
end

section
variable (X : Cx)
def wpE (e : Expr) : TE := fun σ H Q => ∀ (pins : List (Addr × Obj)) (s : Shared), Inv X pins σ H s → wpAny (model X.prog X.w) X.A (eval e X.env) (EP X pins σ Q) X.xe s
def wpT (e : Expr) : TT := fun σ H Q => ∀ (pins : List (Addr × Obj)) (s : Shared), Inv X pins σ H s → wpAny (model X.prog X.w) X.A (isTrue e X.env (eval e X.env)) (TP X pins σ Q) X.xe s
def wpW (e : Expr) : TT := fun σ H Q => ∀ (whole : Sem Value) (pins : List (Addr × Obj)) (s : Shared), Inv X pins σ H s → wpAny (model X.prog X.w) X.A (isTrue e X.env whole) (TP X pins σ Q) X.xe s
def wpA (es : List Expr) : TA := fun σ H Q => ∀ (pos : Pos) (pins : List (Addr × Obj)) (s : Shared), Inv X pins σ H s → wpAny (model X.prog X.w) X.A (spliced (backTo pos (starEach es X.env))) (AP X pins σ Q) X.xe s
def wpS (st : Stmt) : TS := fun D σ H => ∀ (pins : List (Addr × Obj)) (s : Shared), Inv X pins σ H s → wpAny (model X.prog X.w) X.A (exec st X.env) (SP X pins D) X.xe s
def wpB (st : List Stmt) : TS := fun D σ H => ∀ (pins : List (Addr × Obj)) (s : Shared), Inv X pins σ H s → wpAny (model X.prog X.w) X.A (execs st X.env) (SP X pins D) X.xe s
def wpG (tg : Expr) : TG := fun v σ H Q => ∀ (pins : List (Addr × Obj)) (s : Shared) (u : Value), Inv X pins σ H s → RelV v u →
  wpAny (model X.prog X.w) X.A (assign tg X.env u) (fun _ s' => ∃ σ' H', Inv X pins σ' H' s' ∧ Q σ' H') X.xe s
def wpI (tg iter : Expr) : TI := fun σ H R => ∀ (pins : List (Addr × Obj)) (s : Shared), Inv X pins σ H s →
  wpAny (model X.prog X.w) X.A (eval iter X.env) (fun v s1 => wpAny (model X.prog X.w) X.A (pyIter v) (PIE X pins σ tg R) X.xe s1) X.xe s
end
section
variable {X : Cx} {e : Expr} {es : List Expr} {st : Stmt} {sts : List Stmt} {tg : Expr} {σ : L2.St} {H : Hp}
theorem peW : PE X e (wpE X e) := ⟨fun pins s σ H Q I h => h pins s I⟩
theorem ptW : PT X e (wpT X e) := ⟨fun pins s σ H Q I h => h pins s I⟩
theorem pwW : PW X e (wpW X e) := ⟨fun wh pins s σ H Q I h => h wh pins s I⟩
theorem paW : PA X es (wpA X es) := ⟨fun pos pins s σ H Q I h => h pos pins s I⟩
theorem psW : PS X st (wpS X st) := ⟨fun pins s σ H D I h => h pins s I⟩
theorem pssW : PSs X sts (wpB X sts) := ⟨fun pins s σ H D I h => h pins s I⟩
theorem pgW : PG X tg (wpG X tg) := ⟨fun pins s σ H v u Q I r h => h pins s u I r⟩
theorem piW : PI X tg e (wpI X tg e) := ⟨fun pins s σ H R I h => h pins s I⟩
theorem wE {t : TE} {Q : VK} (p : PE X e t) (h : t σ H Q) : wpE X e σ H Q := fun pins s I => p.run pins s σ H Q I h
theorem wT {t : TT} {Q : Bool → Hp → Prop} (p : PT X e t) (h : t σ H Q) : wpT X e σ H Q := fun pins s I => p.run pins s σ H Q I h
theorem wW {t : TT} {Q : Bool → Hp → Prop} (p : PW X e t) (h : t σ H Q) : wpW X e σ H Q := fun wh pins s I => p.run wh pins s σ H Q I h
theorem wA {t : TA} {Q : List V → Hp → Prop} (p : PA X es t) (h : t σ H Q) : wpA X es σ H Q := fun pos pins s I => p.run pos pins s σ H Q I h
theorem wS {t : TS} {D : Ends} (p : PS X st t) (h : t D σ H) : wpS X st D σ H := fun pins s I => p.run pins s σ H D I h
theorem wB {t : TS} {D : Ends} (p : PSs X sts t) (h : t D σ H) : wpB X sts D σ H := fun pins s I => p.run pins s σ H D I h
theorem wG {t : TG} {v : V} {Q : L2.St → Hp → Prop} (p : PG X tg t) (h : t v σ H Q) : wpG X tg v σ H Q := fun pins s u I r => p.run pins s σ H v u Q I r h
theorem wI {t : TI} {R : It → Hp → Prop} (p : PI X tg e t) (h : t σ H R) : wpI X tg e σ H R := fun pins s I => p.run pins s σ H R I h
end

abbrev MV := Ro → Tau → Option (R × Tau)
abbrev MB := Ro → Tau → Option (Bool × Tau)
abbrev ML := Ro → Tau → Option (List R × Tau)
section
variable (K : PySem.W.Frag)
structure EV (t : TE) (m : MV) : Prop where
  run : ∀ (ro : Ro) (τ : Tau) (r : R) (τ' : Tau), m ro τ = some (r, τ') → ∀ (F B H : Hp) (σ : L2.St) (A : List Addr) (Q : VK), At K F B H σ ro τ A →
    (∀ (F' H' : Hp) (v : V) (A1 A2 : List Addr), Go F H A F' H' (A1 ++ A2) → Cn F' B H' (A1 ++ A2) → ROk K F' B H' r v A1 → TauOk K F' H' σ τ' A2 → Q v H') → t σ H Q
structure TV (t : TT) (m : MB) : Prop where
  run : ∀ (ro : Ro) (τ : Tau) (r : Bool) (τ' : Tau), m ro τ = some (r, τ') → ∀ (F B H : Hp) (σ : L2.St) (A : List Addr) (Q : Bool → Hp → Prop), At K F B H σ ro τ A →
    (∀ (F' H' : Hp) (A2 : List Addr), Go F H A F' H' A2 → Cn F' B H' A2 → TauOk K F' H' σ τ' A2 → Q r H') → t σ H Q
end
abbrev ER (X : Cx) (e : Expr) (m : MV) : Prop := EV X.K (wpE X e) m
abbrev TR (X : Cx) (e : Expr) (m : MB) : Prop := TV X.K (wpT X e) m
abbrev TW (X : Cx) (e : Expr) (m : MB) : Prop := TV X.K (wpW X e) m
section
variable (X : Cx)
/-- several results, by whatever is run -/
structure AQ (K : PySem.W.Frag) (wp : L2.St → Hp → (List V → Hp → Prop) → Prop) (n : Nat) (m : ML) : Prop where
  len : ∀ (ro : Ro) (τ : Tau) (r : List R) (τ' : Tau), m ro τ = some (r, τ') → r.length = n
  run : ∀ (ro : Ro) (τ : Tau) (r : List R) (τ' : Tau), m ro τ = some (r, τ') → ∀ (F B H : Hp) (σ : L2.St) (A : List Addr) (Q : List V → Hp → Prop), At K F B H σ ro τ A →
    (∀ (F' H' : Hp) (v : List V) (A1 A2 : List Addr), Go F H A F' H' (A1 ++ A2) → Cn F' B H' (A1 ++ A2) → RsOk K F' B H' r v A1 → TauOk K F' H' σ τ' A2 → Q v H') → wp σ H Q
abbrev AR (es : List Expr) (m : ML) : Prop := AQ X.K (wpA X es) es.length m
end
section
variable {X : Cx} {K : PySem.W.Frag} {F F' B H H' : Hp} {σ : L2.St} {A A1 A2 A3 : List Addr} {ro : Ro} {τ τ' : Tau}
/-- the state for what comes behind -/
theorem At.next (a : At K F B H σ ro τ A) (g : Go F H A F' H' (A1 ++ A2)) (c : Cn F' B H' (A1 ++ A2)) (t : TauOk K F' H' σ τ' A2) : At K F' B H' σ ro τ' A2 := ⟨c.right, a.ro.mono g.ff, t⟩
theorem At.next0 (a : At K F B H σ ro τ A) (g : Go F H A F' H' A2) (c : Cn F' B H' A2) (t : TauOk K F' H' σ τ' A2) : At K F' B H' σ ro τ' A2 := ⟨c, a.ro.mono g.ff, t⟩

def VR (K : PySem.W.Frag) (run : List V → Hp → VK → Prop) (g : List R → Option R) : Prop :=
  ∀ (rs : List R) (z : R), g rs = some z → ∀ (F B H : Hp) (vs : List V) (A : List Addr) (Q : VK), Cn F B H A → RsOk K F B H rs vs A →
    (∀ (F' H' : Hp) (u : V) (A' : List Addr), Go F H A F' H' A' → Cn F' B H' A' → ROk K F' B H' z u A' → Q u H') → run vs H Q
/-- plain data in, a plain scalar out -/
def gp (p : List D → Option D) : List R → Option R := fun rs => (erL rs).bind fun ds => (p ds).map rd
theorem VR.plain {run : List V → Hp → VK → Prop} {p : List D → Option D}
    (h : ∀ (ds : List D) (d : D), p ds = some d → ∀ (H : Hp) (vs : List V) (Q : VK), RepL K H vs ds → (∀ v, (∀ F : Hp, Rep K F v d) → Q v H) → run vs H Q) : VR K run (gp p) := by
  intro rs z e F B H vs A Q c o k
  obtain ⟨ds, e1, e2⟩ := Option.bind_eq_some_iff.mp e
  obtain ⟨d, e3, e4⟩ := Option.map_eq_some_iff.mp e2
  subst e4
  refine h ds d e3 H vs Q (o.rep c.fh c.bh (fun _ _ _ q => q) e1) fun v r => ?_
  exact k F H v [] (Go.less fun _ m => nomatch m) (c.sub .nil fun _ m => nomatch m) (.leaf (r F))
/-- plain data in, frozen; a plain thing out -/
def gk (p : List D → Option D) : List R → Option R := fun rs => (stL rs).bind fun ds => (p ds).map rd
theorem VR.kept {run : List V → Hp → VK → Prop} {p : List D → Option D}
    (h : ∀ (ds : List D) (d : D), p ds = some d → ∀ (F H : Hp) (vs : List V) (Q : VK), Same F H → RepL K F vs ds →
      (∀ (F' H' : Hp) (v : V), (∀ B : Hp, Same B H → ∀ A : List Addr, Cn F B H A → Go F H A F' H' A ∧ Cn F' B H' A) → Rep K F' v d → Q v H') → run vs H Q) : VR K run (gk p) := by
  intro rs z e F B H vs A Q c o k
  obtain ⟨ds, e1, e2⟩ := Option.bind_eq_some_iff.mp e
  obtain ⟨d, e3, e4⟩ := Option.map_eq_some_iff.mp e2
  subst e4
  obtain ⟨F1, g, c1, s, r⟩ := RsOk.freeze (A2 := []) (by rw [List.append_nil]; exact c) o e1
  rw [List.append_nil] at g
  refine h ds d e3 F1 H vs Q c1.fh r fun F' H' v w r' => ?_
  obtain ⟨g2, c2⟩ := w B c1.bh [] c1
  exact k F' H' v [] (g.trans g2) c2 (.leaf r')

def mVar (i : Nat) : MV := fun ro τ => (fget ro.fz i).map fun d => (rd d, τ)
def mVw (i : Nat) : MV := fun ro τ => (tget ro.vw i).map fun t => (.vw t, τ)
def mTake (i : Nat) : MV := fun _ τ => (tget τ i).map fun t => (.val t, tset τ i .hole)
def mC (d : D) : MV := fun _ τ => some (rd d, τ)
variable {e a b : Expr} {pos : Pos} {i : Nat} {x : Str}
theorem er_var (h : PE X e (tVar i)) : ER X e (mVar i) := ⟨fun ro τ r τ' em F B H σ A Q a k => by
  obtain ⟨d, e1, e2⟩ := Option.map_eq_some_iff.mp em
  cases e2
  obtain ⟨v, hv, rv⟩ := a.ro.fz.2 i d e1
  exact wE h ⟨v, hv, k F H v [] A Go.refl a.cn (.leaf rv) a.tau⟩⟩
theorem er_vw (h : PE X e (tVar i)) : ER X e (mVw i) := ⟨fun ro τ r τ' em F B H σ A Q a k => by
  obtain ⟨t, e1, e2⟩ := Option.map_eq_some_iff.mp em
  cases e2
  obtain ⟨v, A', hv, rv⟩ := a.ro.vw _ (tget_mem e1)
  exact wE h ⟨v, hv, k F H v [] A Go.refl a.cn ⟨rfl, A', rv⟩ a.tau⟩⟩
theorem er_take (h : PE X e (tVar i)) : ER X e (mTake i) := ⟨fun ro τ r τ' em F B H σ A Q a k => by
  obtain ⟨t, e1, e2⟩ := Option.map_eq_some_iff.mp em
  cases e2
  obtain ⟨v, A1, A2, hv, o, t', n, s⟩ := a.tau.take a.cn.nd e1
  exact wE h ⟨v, hv, k F H v A1 A2 (Go.less s) (a.cn.sub n s) o t'⟩⟩
theorem er_c {v : V} {d : D} (h : PE X e (tC v)) (r : ∀ F : Hp, Rep X.K F v d) : ER X e (mC d) := ⟨fun ro τ r' τ' em F B H σ A Q a k => by
  cases em
  exact wE h (k F H v [] A Go.refl a.cn (.leaf (r F)) a.tau)⟩
theorem er_int {n : Int} {j : Nat} : ER X (.Constant (.int n) j pos) (mC (.int n)) := er_c pe_int fun _ => .int n
theorem er_bl {n : Bool} {j : Nat} : ER X (.Constant (.bool n) j pos) (mC (.bool n)) := er_c pe_bl fun _ => .bl n
theorem er_non {j : Nat} : ER X (.Constant .none j pos) (mC .none) := er_c pe_non fun _ => .non
theorem er_str {n : Str} {j : Nat} : ER X (.Constant (.str n) j pos) (mC (.str n)) := er_c pe_str fun _ => .str n

/-- an owned name read through a glass: nothing of it is kept -/
def mBor (i : Nat) (m : MV) : MV := fun ro τ => (tget τ i).bind fun t => (m ⟨ro.fz, (i, t) :: ro.vw⟩ (tset τ i .hole)).bind fun p => match p.1 with
  | .val x => some (.val x, tset p.2 i t)
  | .vw (.leaf d) => some (rd d, tset p.2 i t)
  | .vw _ => none
theorem ROk.solid {r : R} {v : V} {A : List Addr} (o : ROk K F B H r v A) {x : T} (h : r = .val x ∨ ∃ d, r = .vw (.leaf d) ∧ x = .leaf d) : Own K F H v x A := by
  rcases h with rfl | ⟨d, rfl, rfl⟩
  · exact o
  · obtain ⟨rfl, A', o⟩ := o
    cases o with
    | leaf r => exact .leaf r
theorem ev_bor {t : TE} {m : MV} (h : EV K t m) : EV K t (mBor i m) := ⟨fun ro τ r τ' em F B H σ A Q a k => by
  obtain ⟨u, e1, em⟩ := Option.bind_eq_some_iff.mp em
  obtain ⟨⟨z, τ1⟩, e2, em⟩ := Option.bind_eq_some_iff.mp em
  obtain ⟨x, ex, er, et⟩ : ∃ x, (z = .val x ∨ ∃ d, z = .vw (.leaf d) ∧ x = .leaf d) ∧ r = .val x ∧ τ' = tset τ1 i u := by
    cases z with
    | val x =>
      cases em
      exact ⟨x, .inl rfl, rfl, rfl⟩
    | vw x =>
      cases x with
      | leaf d =>
        cases em
        exact ⟨_, .inr ⟨d, rfl, rfl⟩, rfl, rfl⟩
      | _ => cases em
  subst er
  subst et
  obtain ⟨v, A1, A2, hv, o, t', n, s⟩ := a.tau.take a.cn.nd e1
  have c := a.cn.sub n s
  -- the cells of the slot, seen beside B
  let B' : Hp := fun b => if b ∈ A1 then H b else B b
  have bs : Same B B' := fun b w e => by
    have nb : b ∉ A1 := fun z => by
      rw [c.ba b (List.mem_append_left _ z)] at e
      cases e
    show (if b ∈ A1 then H b else B b) = some w
    rw [if_neg nb]
    exact e
  have hb : ∀ b ∈ A1, ∀ w, H b = some w → B' b = some w := fun b m w e => by
    show (if b ∈ A1 then H b else B b) = some w
    rw [if_pos m]
    exact e
  have c2 : Cn F B' H A2 := ⟨c.fh, fun b w e => (by
      have e' : (if b ∈ A1 then H b else B b) = some w := e
      by_cases q : b ∈ A1
      · rw [if_pos q] at e'
        exact e'
      · rw [if_neg q] at e'
        exact c.bh b w e'), c.right.nd, c.right.fa, fun b m => (by
      show (if b ∈ A1 then H b else B b) = none
      rw [if_neg fun z => c.apart b z m]
      exact c.right.ba b m), c.right.ha⟩
  have vw' : VwOk K F B' σ ((i, u) :: ro.vw) := fun p m => by
    rcases List.mem_cons.mp m with e | m
    · subst e
      exact ⟨v, A1, hv, o.stay (Same.refl F) hb⟩
    · obtain ⟨w, A', hw, ow⟩ := a.ro.vw p m
      exact ⟨w, A', hw, ow.stay (Same.refl F) fun b m w e => bs b w e⟩
  refine h.run _ _ z τ1 e2 F B' H σ A2 Q ⟨c2, ⟨a.ro.fz, vw'⟩, t'⟩ fun F' H' w R1 R2 g' c' o' tt => ?_
  have c'' : Cn F' B H' (R1 ++ R2) := ⟨c'.fh, fun b w e => c'.bh b w (bs b w e), c'.nd, c'.fa, fun b m => (by
      cases e : B b with
      | none => rfl
      | some w =>
        have := c'.ba b m
        rw [bs b w e] at this
        cases this), c'.ha⟩
  obtain ⟨g3, c3⟩ := Go.framed c g' c''
  have ou : Own K F' H' v u A1 := Go.beside c g' o
  have n3 : (A1 ++ R2).Nodup := c3.nd.sublist (List.Sublist.append (List.Sublist.refl A1) (List.sublist_append_right R1 R2))
  obtain ⟨A3, t3, nd3, s3⟩ := tt.put hv ou n3
  have sub : ∀ b ∈ R1 ++ A3, b ∈ A1 ++ (R1 ++ R2) := fun b m => by
    rcases List.mem_append.mp m with q | q
    · exact List.mem_append_right _ (List.mem_append_left _ q)
    · rcases List.mem_append.mp (s3 b q) with q | q
      · exact List.mem_append_left _ q
      · exact List.mem_append_right _ (List.mem_append_right _ q)
  have nd4 : (R1 ++ A3).Nodup := by
    obtain ⟨q1, q2, q3⟩ := List.nodup_append.mp c3.nd
    obtain ⟨q4, q5, q6⟩ := List.nodup_append.mp q2
    refine List.nodup_append.mpr ⟨q4, nd3, fun b m b' m' => ?_⟩
    rcases List.mem_append.mp (s3 b' m') with q | q
    · exact fun e => q3 b' q b (List.mem_append_left _ m) e.symm
    · exact q6 b m b' q
  exact k F' H' w R1 A3 (((Go.less s).trans g3).trans (Go.less sub)) (c3.sub nd4 sub) (o'.solid ex) t3⟩

def mNil : ML := fun _ τ => some ([], τ)
def mCons (m : MV) (l : ML) : ML := fun ro τ => (m ro τ).bind fun p => (l ro p.2).bind fun q => some (p.1 :: q.1, q.2)
theorem ar_nil : AR X [] mNil := ⟨fun ro τ r τ' em => by cases em; rfl, fun ro τ r τ' em F B H σ A Q a k => by
  cases em
  exact wA pa_nil (k F H [] [] A Go.refl a.cn .nil a.tau)⟩
theorem ar_cons {es : List Expr} {m : MV} {l : ML} (h : ER X e m) (t : AR X es l) (hs : starEach (e :: es) X.env = (false, eval e X.env) :: starEach es X.env := by rfl) : AR X (e :: es) (mCons m l) := by
  have split : ∀ {ro : Ro} {τ : Tau} {r : List R} {τ' : Tau}, mCons m l ro τ = some (r, τ') → ∃ r1 τ1 rs, m ro τ = some (r1, τ1) ∧ l ro τ1 = some (rs, τ') ∧ r = r1 :: rs := fun {ro τ r τ'} em => by
    obtain ⟨⟨r1, τ1⟩, e1, e2⟩ := Option.bind_eq_some_iff.mp em
    obtain ⟨⟨rs, τ2⟩, e3, e4⟩ := Option.bind_eq_some_iff.mp e2
    cases e4
    exact ⟨r1, τ1, rs, e1, e3, rfl⟩
  refine ⟨fun ro τ r τ' em => ?_, fun ro τ r τ' em F B H σ A Q a k => ?_⟩
  · obtain ⟨r1, τ1, rs, e1, e2, rfl⟩ := split em
    show rs.length + 1 = es.length + 1
    rw [t.len _ _ _ _ e2]
  · obtain ⟨r1, τ1, rs, e1, e2, rfl⟩ := split em
    refine wA (pa_cons peW paW hs) (h.run ro τ r1 τ1 e1 F B H σ A _ a fun F1 H1 v A1 A2 g1 c1 o1 t1 => ?_)
    refine t.run ro τ1 rs τ' e2 F1 B H1 σ A2 _ (a.next g1 c1 t1) fun F2 H2 vs A3 A4 g2 c2 o2 t2 => ?_
    obtain ⟨g3, c3⟩ := Go.framed c1 g2 c2
    have q := Go.ros c1 g2 o1
    rw [← List.append_assoc] at g3 c3
    exact k F2 H2 (v :: vs) (A1 ++ A3) A4 (g1.trans g3) c3 (.cons q o2) t2

/-- one, two, three expressions in a row -/
def wp1 (X : Cx) (a : Expr) : L2.St → Hp → (List V → Hp → Prop) → Prop := fun σ H Q => wpE X a σ H fun x H1 => Q [x] H1
def wp2 (X : Cx) (a b : Expr) : L2.St → Hp → (List V → Hp → Prop) → Prop := fun σ H Q => wpE X a σ H fun x H1 => wpE X b σ H1 fun y H2 => Q [x, y] H2
theorem mCons_split {m : MV} {l : ML} {r : List R} (em : mCons m l ro τ = some (r, τ')) : ∃ r1 τ1 rs, m ro τ = some (r1, τ1) ∧ l ro τ1 = some (rs, τ') ∧ r = r1 :: rs := by
  obtain ⟨⟨r1, τ1⟩, e1, e2⟩ := Option.bind_eq_some_iff.mp em
  obtain ⟨⟨rs, τ2⟩, e3, e4⟩ := Option.bind_eq_some_iff.mp e2
  cases e4
  exact ⟨r1, τ1, rs, e1, e3, rfl⟩
theorem aq1 {m : MV} (h : ER X a m) : AQ X.K (wp1 X a) 1 (mCons m mNil) := by
  refine ⟨fun ro τ r τ' em => ?_, fun ro τ r τ' em F B H σ A Q a k => ?_⟩
  · obtain ⟨r1, τ1, rs, e1, e2, rfl⟩ := mCons_split em
    cases e2
    rfl
  · obtain ⟨r1, τ1, rs, e1, e2, rfl⟩ := mCons_split em
    cases e2
    refine h.run ro τ r1 _ e1 F B H σ A _ a fun F1 H1 v A1 A2 g1 c1 o1 t1 => ?_
    exact k F1 H1 [v] A1 A2 g1 c1 (by
      have q : RsOk X.K F1 B H1 [r1] [v] (A1 ++ []) := .cons o1 .nil
      rw [List.append_nil] at q
      exact q) t1
theorem aq2 {m n : MV} (h : ER X a m) (h' : ER X b n) : AQ X.K (wp2 X a b) 2 (mCons m (mCons n mNil)) := by
  refine ⟨fun ro τ r τ' em => ?_, fun ro τ r τ' em F B H σ A Q a k => ?_⟩
  · obtain ⟨r1, τ1, rs, e1, e2, rfl⟩ := mCons_split em
    obtain ⟨r2, τ2, rs2, e3, e4, rfl⟩ := mCons_split e2
    cases e4
    rfl
  · obtain ⟨r1, τ1, rs, e1, e2, rfl⟩ := mCons_split em
    refine h.run ro τ r1 _ e1 F B H σ A _ a fun F1 H1 v A1 A2 g1 c1 o1 t1 => ?_
    obtain ⟨r2, τ2, rs2, e3, e4, rfl⟩ := mCons_split e2
    cases e4
    refine h'.run ro τ1 r2 _ e3 F1 B H1 σ A2 _ (a.next g1 c1 t1) fun F2 H2 w A3 A4 g2 c2 o2 t2 => ?_
    obtain ⟨g3, c3⟩ := Go.framed c1 g2 c2
    have q := Go.ros c1 g2 o1
    rw [← List.append_assoc] at g3 c3
    exact k F2 H2 _ (A1 ++ A3) A4 (g1.trans g3) c3 (by
      have q2 : RsOk X.K F2 B H2 [r1, r2] [v, w] (A1 ++ (A3 ++ [])) := .cons q (.cons o2 .nil)
      rw [List.append_nil] at q2
      exact q2) t2

/-- an operation on values behind a list of expressions -/
def mOp (g : List R → Option R) (l : ML) : MV := fun ro τ => (l ro τ).bind fun p => (g p.1).map fun r => (r, p.2)
theorem er_op' {wp : L2.St → Hp → (List V → Hp → Prop) → Prop} {n : Nat} {run : List V → Hp → VK → Prop} {g : List R → Option R} {l : ML} (hp : ∀ (σ : L2.St) (H : Hp) (Q : VK), wp σ H (fun vs H1 => run vs H1 Q) → wpE X e σ H Q)
    (vr : VR X.K run g) (ha : AQ X.K wp n l) : ER X e (mOp g l) := ⟨fun ro τ r τ' em F B H σ A Q a k => by
  obtain ⟨⟨rs, τ1⟩, e1, e2⟩ := Option.bind_eq_some_iff.mp em
  obtain ⟨z, e3, e4⟩ := Option.map_eq_some_iff.mp e2
  cases e4
  refine hp σ H Q (ha.run ro τ rs τ1 e1 F B H σ A _ a fun F1 H1 vs A1 A2 g1 c1 o1 t1 => ?_)
  refine vr rs _ e3 F1 B H1 vs A1 Q c1.left o1 fun F2 H2 u A' g2 c2 o2 => ?_
  obtain ⟨g3, c3⟩ := Go.framedR c1 g2 c2
  refine k F2 H2 u A' A2 (g1.trans g3) c3 o2 (t1.stay g2.ff fun a m w q => g2.keep a w (fun z => c1.apart a z m) q)⟩
/-- .. a test -/
def mOpB (g : List R → Option R) (l : ML) : MB := fun ro τ => (l ro τ).bind fun p => (g p.1).bind fun r => match r with
  | .val (.leaf (.bool b)) => some (b, p.2)
  | _ => none
theorem tr_op' {wp : L2.St → Hp → (List V → Hp → Prop) → Prop} {n : Nat} {run : List V → Hp → VK → Prop} {g : List R → Option R} {l : ML} (hp : ∀ (σ : L2.St) (H : Hp) (Q : Bool → Hp → Prop), wp σ H (fun vs H1 => run vs H1 fun x H2 => ∃ k, x = .bl k ∧ Q k H2) → wpT X e σ H Q)
    (vr : VR X.K run g) (ha : AQ X.K wp n l) : TR X e (mOpB g l) := ⟨fun ro τ r τ' em F B H σ A Q a k => by
  obtain ⟨⟨rs, τ1⟩, e1, e2⟩ := Option.bind_eq_some_iff.mp em
  obtain ⟨z, e3, e4⟩ := Option.bind_eq_some_iff.mp e2
  refine hp σ H Q (ha.run ro τ rs τ1 e1 F B H σ A _ a fun F1 H1 vs A1 A2 g1 c1 o1 t1 => ?_)
  refine vr rs z e3 F1 B H1 vs A1 _ c1.left o1 fun F2 H2 u A' g2 c2 o2 => ?_
  have t2 := t1.stay g2.ff fun a m w q => g2.keep a w (fun z => c1.apart a z m) q
  obtain ⟨g3, c3⟩ := Go.framedR c1 g2 c2
  cases z with
  | vw t => cases e4
  | val t =>
    cases t with
    | leaf d =>
      cases d with
      | bool q =>
        cases e4
        cases o2 with
        | leaf rr =>
          cases rr
          exact ⟨_, rfl, k F2 H2 A2 ((g1.trans g3).trans (Go.less fun _ m => List.mem_append_right _ m)) c3.right t2⟩
      | _ => cases e4
    | _ => cases e4⟩
def two (r : R2) : List V → Hp → VK → Prop := fun vs H Q => ∃ x y, vs = [x, y] ∧ r x y H Q
def one (r : V → Hp → VK → Prop) : List V → Hp → VK → Prop := fun vs H Q => ∃ x, vs = [x] ∧ r x H Q
theorem wpE_mono {Q Q' : VK} (h : ∀ v H, Q v H → Q' v H) (w : wpE X e σ H Q) : wpE X e σ H Q' := fun pins s I => thn (w pins s I) fun u s' ⟨v, H', I', r, q⟩ => ⟨v, H', I', r, h v H' q⟩
variable {r : R2} {g : List R → Option R} {ma mb : MV}
/-- a op b -/
abbrev mBin (g : List R → Option R) (ma mb : MV) : MV := mOp g (mCons ma (mCons mb mNil))
theorem er_op {op : Operator} (ho : OpR X (binaryOp op) r) (vr : VR X.K (two r) g) (ha : ER X a ma) (hb : ER X b mb) : ER X (.BinOp a op b pos) (mBin g ma mb) :=
  er_op' (wp := wp2 X a b) (run := two r) (fun σ H Q w => wE (pe_op ho peW peW) (wpE_mono (fun x H1 w => wpE_mono (fun y H2 ⟨_, _, e, q⟩ => by cases e; exact q) w) w)) vr (aq2 ha hb)
theorem er_cmp {op : CmpOp} (ho : OpR X (compareOp op) r) (vr : VR X.K (two r) g) (ha : ER X a ma) (hb : ER X b mb) (hm : behindInMarks op b = false) : ER X (.Compare a [op] [b] pos) (mBin g ma mb) :=
  er_op' (wp := wp2 X a b) (run := two r) (fun σ H Q w => wE (pe_cmpR ho peW peW hm) (wpE_mono (fun x H1 w => wpE_mono (fun y H2 ⟨_, _, e, q⟩ => by cases e; exact q) w) w)) vr (aq2 ha hb)
abbrev mBinB (g : List R → Option R) (ma mb : MV) : MB := mOpB g (mCons ma (mCons mb mNil))
theorem tr_cmp {op : CmpOp} (ho : OpR X (compareOp op) r) (vr : VR X.K (two r) g) (ha : ER X a ma) (hb : ER X b mb) (hm : behindInMarks op b = false) : TR X (.Compare a [op] [b] pos) (mBinB g ma mb) :=
  tr_op' (wp := wp2 X a b) (run := two r) (fun σ H Q w => wT (pt_cmpR ho peW peW hm) (wpE_mono (fun x H1 w => wpE_mono (fun y H2 ⟨_, _, e, q⟩ => by cases e; exact q) w) w)) vr (aq2 ha hb)
abbrev mUn (g : List R → Option R) (ma : MV) : MV := mOp g (mCons ma mNil)
theorem er_un {op : UnaryOp} {r : V → Hp → VK → Prop} (ho : UnR X (unaryOp op) r) (vr : VR X.K (one r) g) (ha : ER X a ma) : ER X (.UnaryOp op a pos) (mUn g ma) :=
  er_op' (wp := wp1 X a) (run := one r) (fun σ H Q w => wE (pe_un ho peW) (wpE_mono (fun x H1 ⟨_, e, q⟩ => by cases e; exact q) w)) vr (aq1 ha)
theorem er_ix (ho : IxR X r) (vr : VR X.K (two r) g) (ha : ER X a ma) (hb : ER X b mb) (hs : PlainIx b) : ER X (.Subscript a b pos) (mBin g ma mb) :=
  er_op' (wp := wp2 X a b) (run := two r) (fun σ H Q w => wE (pe_ix ho peW peW hs) (wpE_mono (fun x H1 w => wpE_mono (fun y H2 ⟨_, _, e, q⟩ => by cases e; exact q) w) w)) vr (aq2 ha hb)
variable {p : Pos} {es : List Expr} {id Ty : String} {rc : List V → Hp → VK → Prop} {l : ML}
theorem er_callB (hc : CallR X (.builtin id) rc) (vr : VR X.K rc g) (hg : Gl X x) (hm : X.mg x = none) (hv : bootBuiltins x = some (.builtin id)) (ha : AR X (e :: es) l) (hn : x ≠ "__name__" := by decide) (hdb : (x == ("__debug__" : Str)) = false := by decide)
    (he : starEach (e :: es) X.env = (false, eval e X.env) :: starEach es X.env := by rfl) (hpl : (backTo pos (starEach es X.env)).any (·.1) = false := by rfl) : ER X (.Call (.Name x p) (e :: es) [] pos) (mOp g l) :=
  er_op' (wp := wpA X (e :: es)) (run := rc) (fun σ H Q w => wE (pe_callB hc hg hm hv paW hn hdb he hpl) w) vr ha
theorem er_callTy (hc : CallR X (.type Ty) rc) (vr : VR X.K rc g) (hg : Gl X x) (hm : X.mg x = none) (hv : bootBuiltins x = some (.type Ty)) (ha : AR X (e :: es) l) (hn : x ≠ "__name__" := by decide) (hdb : (x == ("__debug__" : Str)) = false := by decide)
    (he : starEach (e :: es) X.env = (false, eval e X.env) :: starEach es X.env := by rfl) (hpl : (backTo pos (starEach es X.env)).any (·.1) = false := by rfl) : ER X (.Call (.Name x p) (e :: es) [] pos) (mOp g l) :=
  er_op' (wp := wpA X (e :: es)) (run := rc) (fun σ H Q w => wE (pe_callTy hc hg hm hv paW hn hdb he hpl) w) vr ha

def gTupD : List R → Option R := fun rs => (stL rs).map fun ds => rd (.tuple ds)
def gLstD : List R → Option R := fun rs => (stL rs).map fun ds => .val (.fl ds)
theorem er_tup {es : List Expr} {l : ML} {x1 : Nat} (ha : AR X es l) (hl : es.length ≤ 1000 := by decide) : ER X (.Tuple es x1 pos) (mOp gTupD l) := ⟨fun ro τ r τ' em F B H σ A Q a k => by
  obtain ⟨⟨rs, τ1⟩, e1, e2⟩ := Option.bind_eq_some_iff.mp em
  obtain ⟨z, e3, e4⟩ := Option.map_eq_some_iff.mp e2
  obtain ⟨ds, e5, e6⟩ := Option.map_eq_some_iff.mp e3
  cases e4
  subst e6
  have hlen := ha.len _ _ _ _ e1
  refine wE (pe_tup paW) (ha.run ro τ rs τ1 e1 F B H σ A _ a fun F1 H1 vs A1 A2 g1 c1 o1 t1 => ⟨?_, fun p hp => ?_⟩)
  · rw [o1.length, hlen]
    exact Nat.le_of_lt (small1000 hl)
  · obtain ⟨F2, g2, c2, s2, rl⟩ := o1.freeze c1 e5
    have t2 : TauOk X.K F2 H1 σ τ1 A2 := t1.stay s2 fun _ _ _ q => q
    obtain ⟨g3, c3⟩ := c2.newF (o := .tup vs) hp
    refine k _ _ (.ref p) [] A2 ((g1.trans g2).trans g3) c3 (.leaf (.tup (.inl (.inl upd_same)) (by rw [o1.length, hlen]; exact Nat.le_of_lt (small1000 hl)) (rl.mono g3.ff))) (t2.stay g3.ff fun a m w q => ?_)
    rw [upd_ne (ne_of_none q hp)]
    exact q⟩
theorem er_lst {es : List Expr} {l : ML} (ha : AR X es l) (hl : es.length ≤ 1000 := by decide) : ER X (.List es pos) (mOp gLstD l) := ⟨fun ro τ r τ' em F B H σ A Q a k => by
  obtain ⟨⟨rs, τ1⟩, e1, e2⟩ := Option.bind_eq_some_iff.mp em
  obtain ⟨z, e3, e4⟩ := Option.map_eq_some_iff.mp e2
  obtain ⟨ds, e5, e6⟩ := Option.map_eq_some_iff.mp e3
  cases e4
  subst e6
  have hlen := ha.len _ _ _ _ e1
  refine wE (pe_lst paW) (ha.run ro τ rs τ1 e1 F B H σ A _ a fun F1 H1 vs A1 A2 g1 c1 o1 t1 => ⟨?_, fun p hp => ?_⟩)
  · rw [o1.length, hlen]
    exact Nat.le_of_lt (small1000 hl)
  · obtain ⟨F2, g2, c2, s2, rl⟩ := o1.freeze c1 e5
    have t2 : TauOk X.K F2 H1 σ τ1 A2 := t1.stay s2 fun _ _ _ q => q
    obtain ⟨g3, c3⟩ := c2.newO (o := .lst vs) hp
    refine k _ _ (.ref p) [p] A2 ((g1.trans g2).trans g3) c3 (.fl upd_same (by rw [o1.length, hlen]; exact Nat.le_of_lt (small1000 hl)) rl) (t2.stay g3.ff fun a m w q => ?_)
    rw [upd_ne (ne_of_none q hp)]
    exact q⟩

def asB : R → Option Bool
  | .val (.leaf (.bool b)) => some b
  | _ => none
theorem asB_of {r : R} {b : Bool} {v : V} (h : asB r = some b) (o : ROk K F B H r v A) : v = .bl b := by
  cases r with
  | vw t => cases h
  | val t =>
    cases t with
    | leaf d =>
      cases d with
      | bool c =>
        cases h
        cases o with
        | leaf r =>
          cases r
          rfl
      | _ => cases h
    | _ => cases h
/-- a value that is True or False, as a test -/
def mTst (m : MV) : MB := fun ro τ => (m ro τ).bind fun p => (asB p.1).map fun b => (b, p.2)
def mNotB (m : MB) : MB := fun ro τ => (m ro τ).map fun p => (!p.1, p.2)
theorem tr_not {m : MB} (h : TR X a m) : TR X (.UnaryOp .Not a pos) (mNotB m) := ⟨fun ro τ r τ' em F B H σ A Q a k => by
  obtain ⟨⟨z, τ1⟩, e1, e2⟩ := Option.map_eq_some_iff.mp em
  cases e2
  exact wT (pt_not ptW) (h.run ro τ z τ1 e1 F B H σ A _ a k)⟩
def mAndB (m n : MB) : MB := fun ro τ => (m ro τ).bind fun p => if p.1 = true then n ro p.2 else some (false, p.2)
def mOrB (m n : MB) : MB := fun ro τ => (m ro τ).bind fun p => if p.1 = true then some (true, p.2) else n ro p.2
theorem tr_w {m : MB} (h : TW X e m) : TR X e m := ⟨fun ro τ r τ' em F B H σ A Q a k pins s I => h.run ro τ r τ' em F B H σ A Q a k _ pins s I⟩
theorem tw_and1 {m : MB} (h : TR X a m) : TW X (.BoolOp .And [a] pos) m := ⟨fun ro τ r τ' em F B H σ A Q a k => wW (pw_and1 ptW) (h.run ro τ r τ' em F B H σ A Q a k)⟩
theorem tw_or1 {m : MB} (h : TR X a m) : TW X (.BoolOp .Or [a] pos) m := ⟨fun ro τ r τ' em F B H σ A Q a k => wW (pw_or1 ptW) (h.run ro τ r τ' em F B H σ A Q a k)⟩
theorem tw_and {m n : MB} {rest : List Expr} (h : TR X a m) (h' : TW X (.BoolOp .And (b :: rest) pos) n) : TW X (.BoolOp .And (a :: b :: rest) pos) (mAndB m n) := ⟨fun ro τ r τ' em F B H σ A Q a k => by
  obtain ⟨⟨z, τ1⟩, e1, e2⟩ := Option.bind_eq_some_iff.mp em
  refine wW (pw_and ptW pwW) (h.run ro τ z τ1 e1 F B H σ A _ a fun F1 H1 A2 g1 c1 t1 => ?_)
  cases z with
  | true =>
    rw [if_pos rfl] at e2 ⊢
    exact h'.run ro τ1 r τ' e2 F1 B H1 σ A2 Q (a.next0 g1 c1 t1) fun F2 H2 A3 g2 c2 t2 => k F2 H2 A3 (g1.trans g2) c2 t2
  | false =>
    rw [if_neg Bool.false_ne_true] at e2 ⊢
    cases e2
    exact k F1 H1 A2 g1 c1 t1⟩
theorem tw_or {m n : MB} {rest : List Expr} (h : TR X a m) (h' : TW X (.BoolOp .Or (b :: rest) pos) n) : TW X (.BoolOp .Or (a :: b :: rest) pos) (mOrB m n) := ⟨fun ro τ r τ' em F B H σ A Q a k => by
  obtain ⟨⟨z, τ1⟩, e1, e2⟩ := Option.bind_eq_some_iff.mp em
  refine wW (pw_or ptW pwW) (h.run ro τ z τ1 e1 F B H σ A _ a fun F1 H1 A2 g1 c1 t1 => ?_)
  cases z with
  | true =>
    rw [if_pos rfl] at e2 ⊢
    cases e2
    exact k F1 H1 A2 g1 c1 t1
  | false =>
    rw [if_neg Bool.false_ne_true] at e2 ⊢
    exact h'.run ro τ1 r τ' e2 F1 B H1 σ A2 Q (a.next0 g1 c1 t1) fun F2 H2 A3 g2 c2 t2 => k F2 H2 A3 (g1.trans g2) c2 t2⟩
/-- and, or, not as values -/
def mAnd (m n : MV) : MV := fun ro τ => (m ro τ).bind fun p => (asB p.1).bind fun c => if c = true then n ro p.2 else some (rBool false, p.2)
def mOr (m n : MV) : MV := fun ro τ => (m ro τ).bind fun p => (asB p.1).bind fun c => if c = true then some (rBool true, p.2) else n ro p.2
def mNot (m : MV) : MV := fun ro τ => (m ro τ).bind fun p => (asB p.1).map fun c => (rBool !c, p.2)
theorem er_one {op : BoolOp} {m : MV} (h : ER X a m) : ER X (.BoolOp op [a] pos) m := ⟨fun ro τ r τ' em F B H σ A Q a k => wE (pe_one peW) (h.run ro τ r τ' em F B H σ A Q a k)⟩
theorem er_and {m n : MV} {rest : List Expr} (h : ER X a m) (h' : ER X (.BoolOp .And (b :: rest) pos) n) : ER X (.BoolOp .And (a :: b :: rest) pos) (mAnd m n) := ⟨fun ro τ r τ' em F B H σ A Q a k => by
  obtain ⟨⟨z, τ1⟩, e1, e2⟩ := Option.bind_eq_some_iff.mp em
  obtain ⟨c, e3, e4⟩ := Option.bind_eq_some_iff.mp e2
  refine wE (pe_and peW peW) (h.run ro τ z τ1 e1 F B H σ A _ a fun F1 H1 v A1 A2 g1 c1 o1 t1 => ⟨c, asB_of e3 o1, ?_⟩)
  have g1' := g1.trans (Go.less fun _ m => List.mem_append_right A1 m)
  cases c with
  | true =>
    rw [if_pos rfl] at e4 ⊢
    exact h'.run ro τ1 r τ' e4 F1 B H1 σ A2 Q (a.next g1 c1 t1) fun F2 H2 v A3 A4 g2 c2 o2 t2 => k F2 H2 v A3 A4 (g1'.trans g2) c2 o2 t2
  | false =>
    rw [if_neg Bool.false_ne_true] at e4 ⊢
    cases e4
    exact k F1 H1 _ [] A2 g1' c1.right (.leaf (.bl _)) t1⟩
theorem er_not {m : MV} (h : ER X a m) : ER X (.UnaryOp .Not a pos) (mNot m) := ⟨fun ro τ r τ' em F B H σ A Q a k => by
  obtain ⟨⟨z, τ1⟩, e1, e2⟩ := Option.bind_eq_some_iff.mp em
  obtain ⟨c, e3, e4⟩ := Option.map_eq_some_iff.mp e2
  cases e4
  refine wE (pe_not peW) (h.run ro τ z τ1 e1 F B H σ A _ a fun F1 H1 v A1 A2 g1 c1 o1 t1 => ⟨c, asB_of e3 o1, ?_⟩)
  exact k F1 H1 _ [] A2 (g1.trans (Go.less fun _ m => List.mem_append_right A1 m)) c1.right (.leaf (.bl _)) t1⟩
def mIf (c : MB) (m n : MV) : MV := fun ro τ => (c ro τ).bind fun p => if p.1 = true then m ro p.2 else n ro p.2
theorem er_if {c : Expr} {mc : MB} {m n : MV} (hc : TR X c mc) (h : ER X a m) (h' : ER X b n) : ER X (.IfExp c a b pos) (mIf mc m n) := ⟨fun ro τ r τ' em F B H σ A Q a k => by
  obtain ⟨⟨z, τ1⟩, e1, e2⟩ := Option.bind_eq_some_iff.mp em
  refine wE (pe_ifExp ptW peW peW) (hc.run ro τ z τ1 e1 F B H σ A _ a fun F1 H1 A2 g1 c1 t1 => ?_)
  cases z with
  | true =>
    rw [if_pos rfl] at e2 ⊢
    exact h.run ro τ1 r τ' e2 F1 B H1 σ A2 Q (a.next0 g1 c1 t1) fun F2 H2 v A3 A4 g2 c2 o2 t2 => k F2 H2 v A3 A4 (g1.trans g2) c2 o2 t2
  | false =>
    rw [if_neg Bool.false_ne_true] at e2 ⊢
    exact h'.run ro τ1 r τ' e2 F1 B H1 σ A2 Q (a.next0 g1 c1 t1) fun F2 H2 v A3 A4 g2 c2 o2 t2 => k F2 H2 v A3 A4 (g1.trans g2) c2 o2 t2⟩
/-- the truth of any value -/
def truD : D → Option Bool
  | .none => some false
  | .bool b => some b
  | .int i => some (i != 0)
  | .str x => if x.length ≤ 16777216 then some ((x.length : Int) != 0) else none
  | .list ds => some (!ds.isEmpty)
  | .tuple ds => some (!ds.isEmpty)
  | .dict _ => none
def mTru (m : MV) : MB := fun ro τ => (m ro τ).bind fun p => p.1.er.bind fun d => (truD d).map fun b => (b, p.2)
theorem RepL.isEmpty {vs : List V} {ds : List D} (h : RepL K F vs ds) : vs.isEmpty = ds.isEmpty := by
  cases h <;> rfl
theorem truV_of {v : V} {d : D} {b : Bool} (r : Rep K H v d) (h : truD d = some b) : TruV K v H b := by
  cases r with
  | non => cases h; rfl
  | bl c => cases h; rfl
  | int i => cases h; rfl
  | str x =>
    have h' : (if x.length ≤ 16777216 then some ((x.length : Int) != 0) else none) = some b := h
    by_cases q : x.length ≤ 16777216
    · rw [if_pos q] at h'
      cases h'
      exact ⟨by rw [sizeLine_eq]; exact q, rfl⟩
    · rw [if_neg q] at h'
      cases h'
  | lst h1 _ h2 =>
    cases h
    exact .inl ⟨_, SqL.of h1, by rw [h2.isEmpty]⟩
  | tup h1 _ h2 =>
    cases h
    exact .inr (.inl ⟨_, h1, by rw [h2.isEmpty]⟩)
  | dk => cases h
  | dn => cases h
  | dl => cases h
  | xc => cases h
  | xf => cases h
theorem tr_tru {m : MV} (h : ER X e m) (he : ∀ whole, isTrue e X.env whole = (do let v ← whole; standAt e.pos; holding [v] (truthy v)) := by intro _; rfl) : TR X e (mTru m) := ⟨fun ro τ r τ' em F B H σ A Q a k => by
  obtain ⟨⟨z, τ1⟩, e1, e2⟩ := Option.bind_eq_some_iff.mp em
  obtain ⟨d, e3, e4⟩ := Option.bind_eq_some_iff.mp e2
  obtain ⟨c, e5, e6⟩ := Option.map_eq_some_iff.mp e4
  cases e6
  refine wT (pt_truth peW he) (h.run ro τ z _ e1 F B H σ A _ a fun F1 H1 v A1 A2 g1 c1 o1 t1 => ?_)
  exact ⟨r, truV_of (o1.rep c1.fh c1.bh (fun _ _ _ q => q) e3) e5, k F1 H1 A2 (g1.trans (Go.less fun _ m => List.mem_append_right _ m)) c1.right t1⟩⟩
end
end Tl

namespace Tl
open PySem PySem.Spec PyProof.Rows L2

structure RmG (n : Nat) (Ar : Around) : Prop where
  rm : Room n Ar
  gd : Ar.guards = some []
theorem RmG.mono {m n : Nat} {Ar : Around} (h : RmG n Ar) (l : m ≤ n) : RmG m Ar := ⟨h.rm.mono l, h.gd⟩
structure FnG (P : Program) (w : World) (K : PySem.W.Frag) (mg : Str → Option Value) (base : Heap) (cx : CXT) (n : Nat) (f : Addr) (fd : FuncData) (ps : List Str) (sp : Sp) : Prop where
  len : ∀ vs H Q E, sp vs H Q E → vs.length = ps.length
  go : ∀ (Ar : Around) (up : List Env) (s : Shared) (H : Hp) (args : Args) (us : List Value) (vs : List V) (Q : VK) (E : XK), RmG n Ar → Env0 P w K mg base Ar up s H → BindsTo s fd args (ps.zip us) →
    Vals vs us → sp vs H Q E → codeAny (model P w) Ar (.call (.ref f) args) (CR cx up P w H s Q E) s
theorem FnG.mono {P : Program} {w : World} {K : PySem.W.Frag} {mg : Str → Option Value} {base : Heap} {cx : CXT} {m n : Nat} {f : Addr} {fd : FuncData} {ps : List Str} {sp : Sp} (F : FnG P w K mg base cx m f fd ps sp) (l : m ≤ n) : FnG P w K mg base cx n f fd ps sp :=
  ⟨F.len, fun Ar up s H args us vs Q E hr => F.go Ar up s H args us vs Q E (hr.mono l)⟩
section
variable {X : Cx} {cx : CXT} {n : Nat} {f : Addr} {fd : FuncData} {ps : List Str} {sp : Sp} {E : XK}
theorem callG {pins : List (Addr × Obj)} {σ : L2.St} {H : Hp} {s : Shared} {Q : VK} {us : List Value} {vs : List V} (F : FnG X.prog X.w X.K X.mg X.base cx n f fd ps sp) (hr : RmG n X.A) (hb : Binds X.K fd ps []) (hx : Passes cx X E)
    (I : Inv X pins σ H s) (r : Vals vs us) (h : sp vs H Q E) : wpAny (model X.prog X.w) X.A (call (.ref f) us) (EP X pins σ Q) X.xe s := by
  have hl : us.length = ps.length := r.length.symm.trans (F.len _ _ _ _ h)
  have hb' := hb s us I.kIn (by rw [List.append_nil]; exact hl)
  rw [List.append_nil] at hb'
  have run := F.go X.A X.stack s H ⟨us, []⟩ us vs Q E hr I.env0 hb' r h
  refine wpAny_call (codeAny_mono run fun res s' hq => ?_)
  match res, hq with
  | .error e, hq => exact hx pins σ H s e s' I hq
  | .ok (.ret u), hq => exact I.after hq
  | .ok .next, hq => exact hq.elim
  | .ok .brk, hq => exact hq.elim
  | .ok .cont, hq => exact hq.elim
variable {x : Str} {p pos : Pos} {e : Expr} {es : List Expr} {t : TA}
theorem peCallG (F : FnG X.prog X.w X.K X.mg X.base cx n f fd ps sp) (hr : RmG n X.A) (hg : Gl X x) (hm : X.mg x = some (.ref f)) (hk : PySem.W.keepIn X.K (.ref f) = true) (hb : Binds X.K fd ps []) (hx : Passes cx X E) (ha : PA X (e :: es) t)
    (hdb : (x == ("__debug__" : Str)) = false) (he : starEach (e :: es) X.env = (false, eval e X.env) :: starEach es X.env) (hpl : (backTo pos (starEach es X.env)).any (·.1) = false) :
    PE X (.Call (.Name x p) (e :: es) [] pos) fun σ H Q => t σ H fun vs H1 => sp vs H1 Q E :=
  ⟨fun pins s σ H Q I h => wpAny_Call_Name_kw (ld_glob I hg hm (PySem.W.callWith_K (h₀ := X.base) I.ok.mod.kin hk (thn (ha.run pos pins s σ H _ I h) fun us s1 ⟨vs, H1, I1, r, q⟩ => ⟨I1.kIn, callG F hr hb hx I1 r q⟩) he hpl) hdb)⟩
end

section
variable {P : Program} {w : World} {K : PySem.W.Frag} {mg : Str → Option Value} {base : Heap} {cx : CXT}
/-- a def by its body -/
theorem defG {x qual : Str} {st : Stmt} {f : Addr} {fd : FuncData} {N ps : List Str} {n : Nat} {sp : Sp} (F : Fun K x qual st f fd) (S : FnScope N ps (defScope st)) (len : ∀ vs H Q E, sp vs H Q E → vs.length = ps.length)
    (body : ∀ (cdv : Value) (Ar : Around) (up : List Env) (s : Shared) (H : Hp) (vs : List V) (Q : VK) (E : XK), RmG n (Ar.deeper (envOfC qual (defScope st) s.heap.objs.size f cdv)) → sp vs H Q E →
      wpB (cxOf cx P w K mg base N qual (defScope st) f cdv Ar up s H E) (defBody st) { nx := fun _ H' => Q .non H', rt := Q } (start N vs) H) : FnG P w K mg base cx (n + 1) f fd ps sp := by
  obtain ⟨oc, od, kV, doc, pm, an, cdv, ct, osl, rfl, lk, hcd⟩ := F.ex
  refine ⟨len, fun Ar up s H args us vs Q E hr e0 hb r hsp => ?_⟩
  have hl := len _ _ _ _ hsp
  have inn : K.In s.heap := e0.mod.kin.keeps fun b o z => (e0.bs b o z).1
  have lim : s.heap.NoLimit := e0.mod.nolimit.keeps fun b o z => (e0.bs b o z).1
  refine codeAny_call_function hr.rm.depth (inn _ _ lk) rfl S.co S.gen rfl (PySem.W.codeRec_of inn hcd) (hb _ _ _ _ ?_)
  refine wpAny_newFunctionEnv_cells S.kind (fun ⟨nm, v⟩ hy => (S.par nm (List.of_mem_zip hy).1).imp id fun q => ⟨q, PySem.W.cellsFrom_some _ _ _ (.inl q)⟩) fun env he s1 z => ?_
  subst he
  refine ⟨lim.keeps z.toInCall.keep, codeAny_func ?_⟩
  have I : Inv (cxOf cx P w K mg base N qual (defScope st) f cdv Ar up s H E) [] (start N vs) H s1 := inv_start S hr.rm.hd e0 hl r z
  have q := body cdv Ar up s H vs Q E ⟨hr.rm.deeper _, hr.gd⟩ hsp [] s1 I
  have fin : ∀ {σ' : L2.St} {H' : Hp} {v : V} {u : Value} {s' : Shared}, Inv (cxOf cx P w K mg base N qual (defScope st) f cdv Ar up s H E) [] σ' H' s' → RelV v u → Q v H' → CE up P w H s Q u s' :=
    fun {σ' H' v u s'} J rv z => ⟨v, H', J.os, J.bare, J.base, J.hok, rv, z⟩
  refine wpAny_mono q (fun fl s' hs => ?_) fun _ _ hs => hs
  match fl, hs with
  | .ret u, ⟨v, σ', H', J, rv, z⟩ => exact fin J rv z
  | .next, ⟨σ', H', J, z⟩ => exact fin (v := V.non) (u := Value.none) J rfl z
  | .brk, ⟨_, _, _, z⟩ => exact False.elim z
  | .cont, ⟨_, _, _, z⟩ => exact False.elim z
end

abbrev noH : Hp := fun _ => none
theorem same_noH {H : Hp} : Same noH H := fun _ _ e => nomatch e
end Tl

namespace Tl
open PySem PySem.Spec PyProof.Rows L2 RZ

structure Src (K : PySem.W.Frag) (F B : Hp) (J : It) (ds : List D) : Prop where
  small : ds.length ≤ sizeLine
  go : ∀ F1 H1 : Hp, Same F F1 → Same F1 H1 → Same B H1 → ∀ i d, ds[i]? = some d → J.go i H1
  yld : ∀ F1 H1 : Hp, Same F F1 → Same F1 H1 → Same B H1 → ∀ i d, ds[i]? = some d → ∀ x H2, J.yld i H1 x H2 →
    ∃ F2, (∀ (B' : Hp) (A : List Addr), Cn F1 B' H1 A → Go F1 H1 A F2 H2 A ∧ Cn F2 B' H2 A) ∧ Rep K F2 x d
  stop : ∀ F1 H1 : Hp, Same F F1 → Same F1 H1 → Same B H1 → ∀ i, ds.length ≤ i → J.stop i H1
abbrev MI := Ro → Tau → Option (List D × Tau)
structure IV (K : PySem.W.Frag) (t : TI) (m : MI) : Prop where
  run : ∀ (ro : Ro) (τ : Tau) (ds : List D) (τ' : Tau), m ro τ = some (ds, τ') → ∀ (F B H : Hp) (σ : L2.St) (A : List Addr) (Rr : It → Hp → Prop), At K F B H σ ro τ A →
    (∀ (F' H' : Hp) (A2 : List Addr) (J : It), Go F H A F' H' A2 → Cn F' B H' A2 → TauOk K F' H' σ τ' A2 → Src K F' B J ds → Rr J H') → t σ H Rr
abbrev IR (X : Cx) (tg iter : Expr) (m : MI) : Prop := IV X.K (wpI X tg iter) m

/-- the items of a list or tuple -/
def R.its : R → Option (Bool × List D)
  | .val t => match t.fz with
    | some (.list ds) => some (true, ds)
    | some (.tuple ds) => some (false, ds)
    | _ => none
  | .vw (.leaf (.list ds)) => some (true, ds)
  | .vw (.leaf (.tuple ds)) => some (false, ds)
  | .vw (.fl ds) => some (true, ds)
  | .vw (.scr ds) => some (true, ds)
  | .vw _ => none
section
variable {K : PySem.W.Frag} {F F' B H H' : Hp} {A A1 A2 : List Addr}
def SqAt (K : PySem.W.Frag) (H : Hp) (isL : Bool) (a : Addr) (xs : List V) : Prop := if isL = true then SqL K H a xs else SqT K H a xs
theorem its_of {r : R} {v : V} {isL : Bool} {ds : List D} (c : Cn F B H (A1 ++ A2)) (o : ROk K F B H r v A1) (e : r.its = some (isL, ds)) :
    ∃ F1 a xs, Go F H (A1 ++ A2) F1 H A2 ∧ Cn F1 B H A2 ∧ Same F F1 ∧ v = .ref a ∧ xs.length ≤ sizeLine ∧ RepL K F1 xs ds ∧ ∀ H1 : Hp, Same F1 H1 → Same B H1 → SqAt K H1 isL a xs := by
  cases r with
  | val t =>
    have e' : (match t.fz with
    | some (.list ds) => some (true, ds)
    | some (.tuple ds) => some (false, ds)
    | _ => none) = some (isL, ds) := e
    cases q : t.fz with
    | none =>
      rw [q] at e'
      cases e'
    | some d =>
      rw [q] at e'
      obtain ⟨F1, g, c1, s, rr⟩ := ROk.freeze c o q
      cases d with
      | list es =>
        cases e'
        cases rr with
        | lst h1 h2 h3 => exact ⟨F1, _, _, g, c1, s, rfl, h2, h3, fun H1 s1 _ => SqL.of (s1 _ _ h1)⟩
      | tuple es =>
        cases e'
        cases rr with
        | tup h1 h2 h3 => exact ⟨F1, _, _, g, c1, s, rfl, h2, h3, fun H1 s1 _ => sameT s1 h1⟩
      | _ => cases e'
  | vw t =>
    obtain ⟨e0, A', o⟩ := o
    subst e0
    have g : Go F H A2 F H A2 := Go.refl
    cases t with
    | leaf d =>
      cases o with
      | leaf rr =>
        cases d with
        | list es =>
          cases e
          cases rr with
          | lst h1 h2 h3 => exact ⟨F, _, _, g, c, Same.refl F, rfl, h2, h3, fun H1 s1 _ => SqL.of (s1 _ _ h1)⟩
        | tuple es =>
          cases e
          cases rr with
          | tup h1 h2 h3 => exact ⟨F, _, _, g, c, Same.refl F, rfl, h2, h3, fun H1 s1 _ => sameT s1 h1⟩
        | _ => cases e
    | fl es =>
      cases e
      cases o with
      | fl h1 h2 h3 => exact ⟨F, _, _, g, c, Same.refl F, rfl, h2, h3, fun H1 _ s2 => SqL.of (s2 _ _ h1)⟩
    | scr es =>
      cases e
      cases o with
      | scr h1 h2 h3 => exact ⟨F, _, _, g, c, Same.refl F, rfl, h2, h3, fun H1 s1 _ => s1.seq h1⟩
    | _ => cases e
theorem rep_at {xs : List V} {ds : List D} {i : Nat} {x : V} {d : D} (r : RepL K F xs ds) (e : ds[i]? = some d) (h : xs[i]? = some x) : Rep K F x d := by
  obtain ⟨v, e1, e2⟩ := r.get e
  rw [h] at e1
  cases e1
  exact e2
theorem src_list {a : Addr} {xs : List V} {ds : List D} (hz : xs.length ≤ sizeLine) (r : RepL K F xs ds) (h : ∀ H1 : Hp, Same F H1 → Same B H1 → SqL K H1 a xs) : Src K F B (Itl K a) ds where
  small := r.length ▸ hz
  go := fun F1 H1 s1 s2 s3 i d e => by
    obtain ⟨v, e1, e2⟩ := r.get e
    exact ⟨xs, v, h H1 (s1.trans s2) s3, e1⟩
  yld := fun F1 H1 s1 s2 s3 i d e x H2 y => by
    obtain ⟨e1, e2⟩ := y
    subst e1
    exact ⟨F1, fun B' A c => ⟨Go.refl, c⟩, (rep_at r e (e2 xs (h _ (s1.trans s2) s3))).mono s1⟩
  stop := fun F1 H1 s1 s2 s3 i l => ⟨xs, h H1 (s1.trans s2) s3, by rw [r.length]; exact l⟩
theorem src_tup {a : Addr} {xs : List V} {ds : List D} (hz : xs.length ≤ sizeLine) (r : RepL K F xs ds) (h : ∀ H1 : Hp, Same F H1 → Same B H1 → SqT K H1 a xs) : Src K F B (Itt K a) ds where
  small := r.length ▸ hz
  go := fun F1 H1 s1 s2 s3 i d e => by
    obtain ⟨v, e1, e2⟩ := r.get e
    exact ⟨xs, v, h H1 (s1.trans s2) s3, e1⟩
  yld := fun F1 H1 s1 s2 s3 i d e x H2 y => by
    obtain ⟨e1, e2⟩ := y
    subst e1
    exact ⟨F1, fun B' A c => ⟨Go.refl, c⟩, (rep_at r e (e2 xs (h _ (s1.trans s2) s3))).mono s1⟩
  stop := fun F1 H1 s1 s2 s3 i l => ⟨xs, h H1 (s1.trans s2) s3, by rw [r.length]; exact l⟩
/-- a pair made at each turn -/
theorem pair_new {F1 H1 : Hp} {p : Addr} {x y : V} {d e : D} (h : H1 p = none) (r : Rep K F1 x d) (r' : Rep K F1 y e) :
    ∃ F2, (∀ (B' : Hp) (A : List Addr), Cn F1 B' H1 A → Go F1 H1 A F2 (upd H1 p (.tup [x, y])) A ∧ Cn F2 B' (upd H1 p (.tup [x, y])) A) ∧ (Same F1 H1 → Rep K F2 (.ref p) (.tuple [d, e])) := by
  refine ⟨upd F1 p (.tup [x, y]), fun B' A c => c.newF h, fun s => ?_⟩
  have sm : Same F1 (upd F1 p (.tup [x, y])) := fun b u z => by
    rw [upd_ne (ne_of_none (s b u z) h)]
    exact z
  exact .tup (.inl (.inl upd_same)) (show 2 ≤ sizeLine by rw [sizeLine_eq]; decide) (.cons (r.mono sm) (.cons (r'.mono sm) .nil))
def enumFrom : Nat → List D → List D
  | _, [] => []
  | n, d :: ds => .tuple [.int (n : Nat), d] :: enumFrom (n + 1) ds
theorem enum_len : ∀ (n : Nat) (ds : List D), (enumFrom n ds).length = ds.length
  | _, [] => rfl
  | n, _ :: ds => congrArg (· + 1) (enum_len (n + 1) ds)
theorem enum_get : ∀ (ds : List D) (n i : Nat), (enumFrom n ds)[i]? = (ds[i]?).map fun d => .tuple [.int ((n + i : Nat) : Int), d]
  | [], _, _ => by simp [enumFrom]
  | d :: ds, n, 0 => by simp [enumFrom]
  | d :: ds, n, i + 1 => by
    have q := enum_get ds (n + 1) i
    simp only [enumFrom, List.getElem?_cons_succ, q]
    rw [show n + 1 + i = n + (i + 1) by omega]
theorem src_enum {a : Addr} {xs : List V} {ds : List D} (hz : xs.length ≤ sizeLine) (r : RepL K F xs ds) (h : ∀ H1 : Hp, Same F H1 → Same B H1 → SqL K H1 a xs) : Src K F B (Ite K a) (enumFrom 0 ds) where
  small := by rw [enum_len]; exact r.length ▸ hz
  go := fun F1 H1 s1 s2 s3 i d e => by
    rw [enum_get] at e
    obtain ⟨d', e1, e2⟩ := Option.map_eq_some_iff.mp e
    obtain ⟨v, e3, e4⟩ := r.get e1
    exact ⟨xs, v, h H1 (s1.trans s2) s3, e3⟩
  yld := fun F1 H1 s1 s2 s3 i d e x H2 y => by
    rw [enum_get] at e
    obtain ⟨d', e1, e2⟩ := Option.map_eq_some_iff.mp e
    subst e2
    obtain ⟨p, z, rfl, np, rfl, q⟩ := y
    have rz := (rep_at r e1 (q xs (h _ (s1.trans s2) s3))).mono s1
    obtain ⟨F2, w1, w2⟩ := pair_new np (Rep.int (K := K) (F := F1) ((i : Nat) : Int)) rz
    rw [Nat.zero_add]
    exact ⟨F2, w1, w2 s2⟩
  stop := fun F1 H1 s1 s2 s3 i l => ⟨xs, h H1 (s1.trans s2) s3, by rw [enum_len] at l; rw [r.length]; exact l⟩
def zipD : List D → List D → List D
  | d :: ds, e :: es => .tuple [d, e] :: zipD ds es
  | _, _ => []
theorem zipD_len : ∀ (ds es : List D), (zipD ds es).length = min ds.length es.length
  | [], _ => by simp [zipD]
  | _ :: _, [] => by simp [zipD]
  | d :: ds, e :: es => by simp only [zipD, zipD_len ds es, List.length_cons]; omega
theorem zipD_get : ∀ (ds es : List D) (i : Nat) (p : D), (zipD ds es)[i]? = some p → ∃ d e, ds[i]? = some d ∧ es[i]? = some e ∧ p = .tuple [d, e]
  | [], _, _, _, h => by simp [zipD] at h
  | _ :: _, [], _, _, h => by simp [zipD] at h
  | d :: ds, e :: es, 0, p, h => by
    simp [zipD] at h
    exact ⟨d, e, rfl, rfl, h.symm⟩
  | d :: ds, e :: es, i + 1, p, h => by
    simp only [zipD, List.getElem?_cons_succ] at h ⊢
    exact zipD_get ds es i p h
theorem src_zipL {a b : Addr} {xs ys : List V} {ds es : List D} (hz : xs.length ≤ sizeLine) (r : RepL K F xs ds) (r' : RepL K F ys es) (h : ∀ H1 : Hp, Same F H1 → Same B H1 → SqL K H1 a xs)
    (h' : ∀ H1 : Hp, Same F H1 → Same B H1 → SqL K H1 b ys) : Src K F B (Itz K a b) (zipD ds es) where
  small := by
    have := r.length
    rw [zipD_len]
    omega
  go := fun F1 H1 s1 s2 s3 i d e => by
    obtain ⟨d', e', e1, e2, e3⟩ := zipD_get _ _ _ _ e
    obtain ⟨v, f1, f2⟩ := r.get e1
    obtain ⟨v', f3, f4⟩ := r'.get e2
    exact ⟨xs, ys, v, v', h H1 (s1.trans s2) s3, h' H1 (s1.trans s2) s3, f1, f3⟩
  yld := fun F1 H1 s1 s2 s3 i d e x H2 y => by
    obtain ⟨d', e', e1, e2, rfl⟩ := zipD_get _ _ _ _ e
    obtain ⟨p, z, z', rfl, np, rfl, q, q'⟩ := y
    have rz := (rep_at r e1 (q xs (h _ (s1.trans s2) s3))).mono s1
    have rz' := (rep_at r' e2 (q' ys (h' _ (s1.trans s2) s3))).mono s1
    obtain ⟨F2, w1, w2⟩ := pair_new np rz rz'
    exact ⟨F2, w1, w2 s2⟩
  stop := fun F1 H1 s1 s2 s3 i l => ⟨xs, ys, h H1 (s1.trans s2) s3, h' H1 (s1.trans s2) s3, by
    have e1 := r.length
    have e2 := r'.length
    rw [zipD_len] at l
    omega⟩
theorem src_zipT {a b : Addr} {xs ys : List V} {ds es : List D} (hz : xs.length ≤ sizeLine) (r : RepL K F xs ds) (r' : RepL K F ys es) (h : ∀ H1 : Hp, Same F H1 → Same B H1 → SqT K H1 a xs)
    (h' : ∀ H1 : Hp, Same F H1 → Same B H1 → SqT K H1 b ys) : Src K F B (ItzT K a b) (zipD ds es) where
  small := by
    have := r.length
    rw [zipD_len]
    omega
  go := fun F1 H1 s1 s2 s3 i d e => by
    obtain ⟨d', e', e1, e2, e3⟩ := zipD_get _ _ _ _ e
    obtain ⟨v, f1, f2⟩ := r.get e1
    obtain ⟨v', f3, f4⟩ := r'.get e2
    exact ⟨xs, ys, v, v', h H1 (s1.trans s2) s3, h' H1 (s1.trans s2) s3, f1, f3⟩
  yld := fun F1 H1 s1 s2 s3 i d e x H2 y => by
    obtain ⟨d', e', e1, e2, rfl⟩ := zipD_get _ _ _ _ e
    obtain ⟨p, z, z', rfl, np, rfl, q, q'⟩ := y
    have rz := (rep_at r e1 (q xs (h _ (s1.trans s2) s3))).mono s1
    have rz' := (rep_at r' e2 (q' ys (h' _ (s1.trans s2) s3))).mono s1
    obtain ⟨F2, w1, w2⟩ := pair_new np rz rz'
    exact ⟨F2, w1, w2 s2⟩
  stop := fun F1 H1 s1 s2 s3 i l => ⟨xs, ys, h H1 (s1.trans s2) s3, h' H1 (s1.trans s2) s3, by
    have e1 := r.length
    have e2 := r'.length
    rw [zipD_len] at l
    omega⟩
/-- lo, lo + c, .. -/
def rangeD (lo c : Int) (n : Nat) : List D := (List.range n).map fun i => .int (lo + (i : Nat) * c)
theorem rangeD_get {lo c : Int} {n i : Nat} {d : D} (e : (rangeD lo c n)[i]? = some d) : i < n ∧ d = .int (lo + (i : Nat) * c) := by
  unfold rangeD at e
  rw [List.getElem?_map] at e
  obtain ⟨j, e1, e2⟩ := Option.map_eq_some_iff.mp e
  obtain ⟨h1, h2⟩ := List.getElem?_eq_some_iff.mp e1
  rw [List.getElem_range] at h2
  rw [List.length_range] at h1
  subst h2
  exact ⟨h1, e2.symm⟩
theorem rangeD_len (lo c : Int) (n : Nat) : (rangeD lo c n).length = n := by
  unfold rangeD
  rw [List.length_map, List.length_range]
theorem src_range {lo : Int} {n : Nat} (hz : n ≤ sizeLine) : Src K F B (Itr lo n) (rangeD lo 1 n) where
  small := by rw [rangeD_len]; exact hz
  go := fun F1 H1 s1 s2 s3 i d e => (rangeD_get e).1
  yld := fun F1 H1 s1 s2 s3 i d e x H2 y => by
    obtain ⟨_, rfl⟩ := rangeD_get e
    obtain ⟨rfl, rfl⟩ := y
    refine ⟨F1, fun B' A c => ⟨Go.refl, c⟩, ?_⟩
    rw [Int.mul_one]
    exact .int _
  stop := fun F1 H1 s1 s2 s3 i l => by
    rw [rangeD_len] at l
    exact l
end

section
variable {X : Cx} {tg e e2 : Expr}
/-- a list or a tuple -/
def iSeq (m : MV) : MI := fun ro τ => (m ro τ).bind fun p => p.1.its.map fun q => (q.2, p.2)
theorem ir_seq {m : MV} (h : ER X e m) : IR X tg e (iSeq m) := ⟨fun ro τ ds τ' em F B H σ A Rr a k => by
  obtain ⟨⟨r, τ1⟩, e1, e2⟩ := Option.bind_eq_some_iff.mp em
  obtain ⟨⟨isL, es⟩, e3, e4⟩ := Option.map_eq_some_iff.mp e2
  cases e4
  cases isL with
  | true =>
    refine wI (pi_list peW) (h.run ro τ r _ e1 F B H σ A _ a fun F1 H1 v A1 A2 g1 c1 o1 t1 => ?_)
    obtain ⟨F2, p, xs, g2, c2, s2, rfl, hz, rl, sq⟩ := its_of c1 o1 e3
    have sq' : ∀ H1 : Hp, Same F2 H1 → Same B H1 → SqL X.K H1 p xs := fun H1 a b => sq H1 a b
    exact ⟨p, rfl, ⟨xs, sq' H1 c2.fh c2.bh⟩, k F2 H1 A2 _ (g1.trans g2) c2 (t1.stay s2 fun _ _ _ q => q) (src_list hz rl sq')⟩
  | false =>
    refine wI (pi_tup peW) (h.run ro τ r _ e1 F B H σ A _ a fun F1 H1 v A1 A2 g1 c1 o1 t1 => ?_)
    obtain ⟨F2, p, xs, g2, c2, s2, rfl, hz, rl, sq⟩ := its_of c1 o1 e3
    have sq' : ∀ H1 : Hp, Same F2 H1 → Same B H1 → SqT X.K H1 p xs := fun H1 a b => sq H1 a b
    exact ⟨p, rfl, ⟨xs, sq' H1 c2.fh c2.bh⟩, k F2 H1 A2 _ (g1.trans g2) c2 (t1.stay s2 fun _ _ _ q => q) (src_tup hz rl sq')⟩⟩
theorem wpA1 {Q : List V → Hp → Prop} {m : MV} (h : ER X e m) (hs : starEach [e] X.env = (false, eval e X.env) :: starEach [] X.env) {ro : Ro} {τ τ' : Tau} {r : R} (em : m ro τ = some (r, τ')) {F B H : Hp} {σ : L2.St} {A : List Addr} (a : At X.K F B H σ ro τ A)
    (k : ∀ (F' H' : Hp) (v : V) (A1 A2 : List Addr), Go F H A F' H' (A1 ++ A2) → Cn F' B H' (A1 ++ A2) → ROk X.K F' B H' r v A1 → TauOk X.K F' H' σ τ' A2 → Q [v] H') : wpA X [e] σ H Q :=
  wA (pa_cons peW pa_nil hs) (h.run ro τ r τ' em F B H σ A _ a k)
variable {p pos tpos : Pos} {elts : List Expr} {kk : Nat}
def iEnumM (m : MV) : MI := fun ro τ => (m ro τ).bind fun p => p.1.its.bind fun q => if q.1 = true then some (enumFrom 0 q.2, p.2) else none
theorem ir_enum {m : MV} (h : ER X e m) (hg : Gl X "enumerate") (hm : X.mg "enumerate" = none) (hs : starEach [e] X.env = (false, eval e X.env) :: starEach [] X.env := by rfl) (hs' : starEach [e] X.env = [(false, eval e X.env)] := by rfl) :
    IR X (.Tuple elts kk tpos) (.Call (.Name "enumerate" p) [e] [] pos) (iEnumM m) := ⟨fun ro τ ds τ' em F B H σ A Rr a k => by
  obtain ⟨⟨r, τ1⟩, e1, e2⟩ := Option.bind_eq_some_iff.mp em
  obtain ⟨⟨isL, es⟩, e3, e4⟩ := Option.bind_eq_some_iff.mp e2
  cases isL with
  | false => cases e4
  | true =>
    cases e4
    refine wI (pi_enum hg hm paW hs') (wpA1 h hs e1 a fun F1 H1 v A1 A2 g1 c1 o1 t1 => ?_)
    obtain ⟨F2, b, xs, g2, c2, s2, rfl, hz, rl, sq⟩ := its_of c1 o1 e3
    have sq' : ∀ H1 : Hp, Same F2 H1 → Same B H1 → SqL X.K H1 b xs := fun H1 a b => sq H1 a b
    exact ⟨b, xs, rfl, sq' H1 c2.fh c2.bh, k F2 H1 A2 _ (g1.trans g2) c2 (t1.stay s2 fun _ _ _ q => q) (src_enum hz rl sq')⟩⟩
def iRevM (m : MV) : MI := fun ro τ => (m ro τ).bind fun p => p.1.its.bind fun q => if q.1 = true then some (q.2.reverse, p.2) else none
/-- zip of two lists, of two tuples -/
def iZipM (m n : MV) : MI := fun ro τ => (m ro τ).bind fun p => p.1.its.bind fun q => (n ro p.2).bind fun p' => p'.1.its.bind fun q' => if q.1 = q'.1 then some (zipD q.2 q'.2, p'.2) else none
theorem ir_zip {m n : MV} (h : ER X e m) (h' : ER X e2 n) (hg : Gl X "zip") (hm : X.mg "zip" = none)
    (hs : starEach [e, e2] X.env = (false, eval e X.env) :: starEach [e2] X.env := by rfl) (hs2 : starEach [e2] X.env = (false, eval e2 X.env) :: starEach [] X.env := by rfl) (hpl : (backTo pos (starEach [e2] X.env)).any (·.1) = false := by rfl) :
    IR X (.Tuple elts kk tpos) (.Call (.Name "zip" p) [e, e2] [] pos) (iZipM m n) := ⟨fun ro τ ds τ' em F B H σ A Rr a k => by
  obtain ⟨⟨r, τ1⟩, e1, em⟩ := Option.bind_eq_some_iff.mp em
  obtain ⟨⟨isL, es⟩, e3, em⟩ := Option.bind_eq_some_iff.mp em
  obtain ⟨⟨r', τ2⟩, e1', em⟩ := Option.bind_eq_some_iff.mp em
  obtain ⟨⟨isL', es'⟩, e3', em⟩ := Option.bind_eq_some_iff.mp em
  have em' : (if isL = isL' then some (zipD es es', τ2) else none) = some (ds, τ') := em
  by_cases q : isL = isL'
  · rw [if_pos q] at em'
    subst q
    cases em'
    refine wI (pi_zipA hg hm paW hs hpl) (wA (pa_cons peW (pa_cons peW pa_nil hs2) hs) (h.run ro τ r τ1 e1 F B H σ A _ a fun F1 H1 v A1 A2 g1 c1 o1 t1 => ?_))
    refine h'.run ro τ1 r' _ e1' F1 B H1 σ A2 _ (a.next g1 c1 t1) fun F2 H2 v' A3 A4 g2 c2 o2 t2 => ?_
    obtain ⟨g3, c3⟩ := Go.framed c1 g2 c2
    have o1' := Go.ros c1 g2 o1
    obtain ⟨F3, b, xs, g4, c4, s4, rfl, hz, rl, sq⟩ := its_of c3 o1' e3
    obtain ⟨F4, b', xs', g5, c5, s5, rfl, hz', rl', sq'⟩ := its_of c4 (o2.stay s4 fun _ _ _ q => q) e3'
    have t3 := t2.stay (s4.trans s5) fun _ _ _ q => q
    have gg := ((g1.trans g3).trans g4).trans g5
    cases isL with
    | true => exact ⟨b, b', xs, xs', rfl, .inl ⟨sq _ (s5.trans c5.fh) c5.bh, sq' _ c5.fh c5.bh, k F4 _ A4 _ gg c5 t3 (src_zipL hz (rl.mono s5) rl' (fun H1 a c => sq H1 (s5.trans a) c) fun H1 a c => sq' H1 a c)⟩⟩
    | false => exact ⟨b, b', xs, xs', rfl, .inr ⟨sq _ (s5.trans c5.fh) c5.bh, sq' _ c5.fh c5.bh, k F4 _ A4 _ gg c5 t3 (src_zipT hz (rl.mono s5) rl' (fun H1 a c => sq H1 (s5.trans a) c) fun H1 a c => sq' H1 a c)⟩⟩
  · rw [if_neg q] at em'
    cases em'⟩
/-- range -/
def asInts : List R → Option (List Int)
  | [] => some []
  | .val (.leaf (.int i)) :: rs => (asInts rs).map (i :: ·)
  | _ => none
theorem asInts_of {K : PySem.W.Frag} {F B H : Hp} : ∀ {rs : List R} {vs : List V} {A : List Addr} {ns : List Int}, RsOk K F B H rs vs A → asInts rs = some ns → vs = ns.map V.int
  | _, _, _, _, .nil, e => by
    cases e
    rfl
  | .val (.leaf (.int i)) :: rs, _, _, _, .cons o t, e => by
    have e' : (asInts rs).map (i :: ·) = some _ := e
    obtain ⟨ns, e1, e2⟩ := Option.map_eq_some_iff.mp e'
    subst e2
    rw [asInts_of t e1]
    cases o with
    | leaf r =>
      cases r
      rfl
  | .vw _ :: _, _, _, _, .cons _ _, e => by cases e
  | .val (.leaf .none) :: _, _, _, _, .cons _ _, e => by cases e
  | .val (.leaf (.bool _)) :: _, _, _, _, .cons _ _, e => by cases e
  | .val (.leaf (.str _)) :: _, _, _, _, .cons _ _, e => by cases e
  | .val (.leaf (.list _)) :: _, _, _, _, .cons _ _, e => by cases e
  | .val (.leaf (.tuple _)) :: _, _, _, _, .cons _ _, e => by cases e
  | .val (.leaf (.dict _)) :: _, _, _, _, .cons _ _, e => by cases e
  | .val (.fl _) :: _, _, _, _, .cons _ _, e => by cases e
  | .val (.ls _) :: _, _, _, _, .cons _ _, e => by cases e
  | .val (.tup _) :: _, _, _, _, .cons _ _, e => by cases e
  | .val (.dk _) :: _, _, _, _, .cons _ _, e => by cases e
  | .val (.dn _) :: _, _, _, _, .cons _ _, e => by cases e
  | .val (.scr _) :: _, _, _, _, .cons _ _, e => by cases e
  | .val (.ob _ _ _) :: _, _, _, _, .cons _ _, e => by cases e
def rngOf : List Int → Option (List D)
  | [j] => if -8000000 ≤ j ∧ j ≤ 8000000 then some (rangeD 0 1 j.toNat) else none
  | [i, j] => if (-8000000 ≤ i ∧ i ≤ 8000000) ∧ -8000000 ≤ j ∧ j ≤ 8000000 then some (rangeD i 1 (j - i).toNat) else none
  | [i, j, c] => if c = -1 ∧ (-8000000 ≤ i ∧ i ≤ 8000000) ∧ -8000000 ≤ j ∧ j ≤ 8000000 then some (rangeD i c (i - j).toNat) else none
  | _ => none
def iRng (l : ML) : MI := fun ro τ => (l ro τ).bind fun p => (asInts p.1).bind fun ns => (rngOf ns).map fun ds => (ds, p.2)
theorem small8 {n : Nat} (h : n ≤ 16000000) : n ≤ sizeLine := by
  rw [sizeLine_eq]
  omega
theorem ir_range1 {a : Expr} {l : ML} (ha : AR X [a] l) (hg : Gl X "range") (hm : X.mg "range" = none) (hs : starEach [a] X.env = [(false, eval a X.env)] := by rfl) : IR X tg (.Call (.Name "range" p) [a] [] pos) (iRng l) := ⟨fun ro τ ds τ' em F B H σ A Rr at_ k => by
  obtain ⟨⟨rs, τ1⟩, e1, em⟩ := Option.bind_eq_some_iff.mp em
  obtain ⟨ns, e2, em⟩ := Option.bind_eq_some_iff.mp em
  obtain ⟨es, e3, em⟩ := Option.map_eq_some_iff.mp em
  cases em
  refine wI (pi_range1 hg hm paW hs) (ha.run ro τ rs _ e1 F B H σ A _ at_ fun F1 H1 vs A1 A2 g1 c1 o1 t1 => ?_)
  have ev := asInts_of o1 e2
  have hl := ha.len _ _ _ _ e1
  match ns, e3 with
  | [j], e3 =>
    have e3' : (if -8000000 ≤ j ∧ j ≤ 8000000 then some (rangeD 0 1 j.toNat) else none) = some ds := e3
    by_cases q : -8000000 ≤ j ∧ j ≤ 8000000
    · rw [if_pos q] at e3'
      cases e3'
      obtain ⟨q1, q2⟩ := q
      exact ⟨j, ev, by omega, by omega, k F1 H1 A2 _ (g1.trans (Go.less fun _ m => List.mem_append_right _ m)) c1.right t1 (src_range (small8 (by omega)))⟩
    · rw [if_neg q] at e3'
      cases e3'
  | [i, j], e3 =>
    have := o1.length
    rw [ev] at this
    simp at this hl
    omega
  | [i, j, c], e3 =>
    have := o1.length
    rw [ev] at this
    simp at this hl
    omega⟩
theorem ir_range2 {a b : Expr} {l : ML} (ha : AR X [a, b] l) (hg : Gl X "range") (hm : X.mg "range" = none) (hs : starEach [a, b] X.env = [(false, eval a X.env), (false, eval b X.env)] := by rfl)
    (hs2 : starEach [b] X.env = [(false, eval b X.env)] := by rfl) : IR X tg (.Call (.Name "range" p) [a, b] [] pos) (iRng l) := ⟨fun ro τ ds τ' em F B H σ A Rr at_ k => by
  obtain ⟨⟨rs, τ1⟩, e1, em⟩ := Option.bind_eq_some_iff.mp em
  obtain ⟨ns, e2, em⟩ := Option.bind_eq_some_iff.mp em
  obtain ⟨es, e3, em⟩ := Option.map_eq_some_iff.mp em
  cases em
  refine wI (pi_range2 hg hm paW hs hs2) (ha.run ro τ rs _ e1 F B H σ A _ at_ fun F1 H1 vs A1 A2 g1 c1 o1 t1 => ?_)
  have ev := asInts_of o1 e2
  have hl := ha.len _ _ _ _ e1
  match ns, e3 with
  | [i, j], e3 =>
    have e3' : (if (-8000000 ≤ i ∧ i ≤ 8000000) ∧ -8000000 ≤ j ∧ j ≤ 8000000 then some (rangeD i 1 (j - i).toNat) else none) = some ds := e3
    by_cases q : (-8000000 ≤ i ∧ i ≤ 8000000) ∧ -8000000 ≤ j ∧ j ≤ 8000000
    · rw [if_pos q] at e3'
      cases e3'
      obtain ⟨⟨q1, q2⟩, q3, q4⟩ := q
      exact ⟨i, j, ev, ⟨by omega, by omega, by omega, by omega⟩, k F1 H1 A2 _ (g1.trans (Go.less fun _ m => List.mem_append_right _ m)) c1.right t1 (src_range (small8 (by omega)))⟩
    · rw [if_neg q] at e3'
      cases e3'
  | [j], e3 =>
    have := o1.length
    rw [ev] at this
    simp at this hl
    omega
  | [i, j, c], e3 =>
    have := o1.length
    rw [ev] at this
    simp at this hl
    omega⟩
end
end Tl

namespace Tl
open PySem PySem.Spec PyProof.Rows L2

abbrev MG := D → Fz → Option Fz
abbrev MGs := List D → Fz → Option Fz
section
variable (K : PySem.W.Frag)
structure GV (t : TG) (ws : List Nat) (m : MG) : Prop where
  run : ∀ (d : D) (fz fz' : Fz), m d fz = some fz' → ∀ (F H : Hp) (σ : L2.St) (v : V) (Q : L2.St → Hp → Prop), Rep K F v d → Same F H → FzOk K F σ fz →
    (∀ σ' : L2.St, FzOk K F σ' fz' → σ'.length = σ.length → (∀ j, j ∉ ws → σ'[j]? = σ[j]?) → Q σ' H) → t v σ H Q
structure GVs (n : Nat) (t : TGs) (ws : List Nat) (m : MGs) : Prop where
  len : ∀ (ds : List D) (fz fz' : Fz), m ds fz = some fz' → ds.length = n
  run : ∀ (ds : List D) (fz fz' : Fz), m ds fz = some fz' → ∀ (F H : Hp) (σ : L2.St) (vs : List V) (Q : L2.St → Hp → Prop), RepL K F vs ds → Same F H → FzOk K F σ fz →
    (∀ σ' : L2.St, FzOk K F σ' fz' → σ'.length = σ.length → (∀ j, j ∉ ws → σ'[j]? = σ[j]?) → Q σ' H) → t vs σ H Q
end
def wpGs (X : Cx) (ts : List Expr) : TGs := fun vs σ H Q => ∀ (pins : List (Addr × Obj)) (s : Shared) (us : List Value), Inv X pins σ H s → Vals vs us →
  wpAny (model X.prog X.w) X.A (assignInOrder ((assignEach ts X.env).map (·.2)) us) (fun _ s' => ∃ σ' H', Inv X pins σ' H' s' ∧ Q σ' H') X.xe s
abbrev GR (X : Cx) (tg : Expr) (ws : List Nat) (m : MG) : Prop := GV X.K (wpG X tg) ws m
abbrev GRs (X : Cx) (ts : List Expr) (ws : List Nat) (m : MGs) : Prop := GVs X.K ts.length (wpGs X ts) ws m
section
variable {X : Cx} {tg e : Expr} {es : List Expr} {i : Nat} {pos : Pos} {K : PySem.W.Frag} {F H : Hp}
theorem pgsW : PGs X es (wpGs X es) := ⟨fun pins s σ H vs us Q I r h => h pins s us I r⟩
theorem wGs {t : TGs} {vs : List V} {σ : L2.St} {Q : L2.St → Hp → Prop} (p : PGs X es t) (h : t vs σ H Q) : wpGs X es vs σ H Q := fun pins s us I r => p.run pins s σ H vs us Q I r h
theorem FzOk.set {σ : L2.St} {fz : Fz} {v : V} {d : D} (o : FzOk K F σ fz) (r : Rep K F v d) (i : Nat) : FzOk K F (σ.set i (some v)) (fset fz i (some d)) := by
  refine ⟨by rw [fset_length, List.length_set]; exact o.1, fun j e h => ?_⟩
  by_cases q : j = i
  · subst q
    cases fget_set_same h
    have l := fget_lt h
    rw [fset_length, o.1] at l
    exact ⟨v, by rw [List.getElem?_set_self l], r⟩
  · rw [fget_set_ne q] at h
    obtain ⟨u, h1, h2⟩ := o.2 j e h
    exact ⟨u, by rw [List.getElem?_set_ne (fun z => q z.symm)]; exact h1, h2⟩
def gtN (i : Nat) : MG := fun d fz => some (fset fz i (some d))
theorem gr_name (h : PG X tg (gName i)) : GR X tg [i] (gtN i) := ⟨fun d fz fz' em F H σ v Q r s o k => by
  cases em
  refine wG h (k _ (o.set r i) List.length_set fun j n => ?_)
  rw [List.getElem?_set_ne fun z => n (by rw [z]; exact List.mem_singleton.mpr rfl)]⟩
def gtNil : MGs := fun ds fz => match ds with
  | [] => some fz
  | _ => none
def gtCons (m : MG) (l : MGs) : MGs := fun ds fz => match ds with
  | d :: r => (m d fz).bind fun fz1 => l r fz1
  | [] => none
theorem grs_nil : GRs X [] [] gtNil := by
  refine ⟨fun ds fz fz' em => ?_, fun ds fz fz' em F H σ vs Q r s o k => ?_⟩
  · cases ds with
    | nil => rfl
    | cons d ds => cases em
  · cases ds with
    | cons d ds => cases em
    | nil =>
      cases em
      cases r
      exact wGs pgs_nil ⟨rfl, k σ o rfl fun _ _ => rfl⟩
theorem grs_cons {ws ws' : List Nat} {m : MG} {l : MGs} (h : GR X e ws m) (t : GRs X es ws' l) (hs : (assignEach (e :: es) X.env).map (·.2) = assign e X.env :: (assignEach es X.env).map (·.2) := by rfl) : GRs X (e :: es) (ws ++ ws') (gtCons m l) := by
  refine ⟨fun ds fz fz' em => ?_, fun ds fz fz' em F H σ vs Q r s o k => ?_⟩
  · cases ds with
    | nil => cases em
    | cons d ds =>
      obtain ⟨fz1, e1, e2⟩ := Option.bind_eq_some_iff.mp em
      show ds.length + 1 = es.length + 1
      rw [t.len _ _ _ e2]
  · cases ds with
    | nil => cases em
    | cons d ds =>
      obtain ⟨fz1, e1, e2⟩ := Option.bind_eq_some_iff.mp em
      cases r with
      | cons r1 r2 =>
        refine wGs (pgs_cons pgW pgsW hs) ⟨_, _, rfl, h.run d fz fz1 e1 F H σ _ _ r1 s o fun σ1 o1 l1 k1 => ?_⟩
        refine t.run ds fz1 fz' e2 F H σ1 _ Q r2 s o1 fun σ2 o2 l2 k2 => ?_
        exact k σ2 o2 (l2.trans l1) fun j n => (k2 j fun z => n (List.mem_append_right _ z)).trans (k1 j fun z => n (List.mem_append_left _ z))
def gtT (l : MGs) : MG := fun d fz => match d with
  | .tuple ds => l ds fz
  | .list ds => l ds fz
  | _ => none
theorem gr_tup {ws : List Nat} {l : MGs} {k : Nat} (hc : X.calm = true) (t : GRs X es ws l) (hn : (assignEach es X.env).length = es.length := by rfl) (hst : (assignEach es X.env).findIdx? (·.1) = none := by rfl) : GR X (.Tuple es k pos) ws (gtT l) :=
  ⟨fun d fz fz' em F H σ v Q r s o kk => by
  cases d with
  | tuple ds =>
    cases r with
    | tup h1 h2 h3 =>
      refine wG (pg_tup hc pgsW hn hst) ⟨_, _, rfl, sameT s h1, ?_, t.run ds fz fz' em F H σ _ Q h3 s o kk⟩
      rw [h3.length]
      exact t.len _ _ _ em
  | list ds =>
    cases r with
    | lst h1 h2 h3 =>
      refine wG (pg_unl hc pgsW hn hst) ⟨_, _, rfl, SqL.of (s _ _ h1), ?_, t.run ds fz fz' em F H σ _ Q h3 s o kk⟩
      rw [h3.length]
      exact t.len _ _ _ em
  | _ => cases em⟩
end

def inN : List Nat → Nat → Bool
  | [], _ => false
  | j :: r, i => if j = i then true else inN r i
def tout (ns : List Nat) : Tau → Tau
  | [] => []
  | (i, t) :: r => if inN ns i = true then tout ns r else (i, t) :: tout ns r
def fwipe (f : Fz) : List Nat → Fz
  | [] => f
  | v :: vs => fset (fwipe f vs) v none
theorem mem_inN : ∀ {ns : List Nat} {i : Nat}, i ∈ ns → inN ns i = true
  | j :: r, i, h => by
    show (if j = i then true else inN r i) = true
    by_cases q : j = i
    · rw [if_pos q]
    · rw [if_neg q]
      exact mem_inN ((List.mem_cons.mp h).resolve_left fun z => q z.symm)
theorem tout_sub : ∀ {ns : List Nat} {τ : Tau} {p : Nat × T}, p ∈ tout ns τ → p ∈ τ ∧ p.1 ∉ ns
  | ns, (i, t) :: r, p, h => by
    have h' : p ∈ (if inN ns i = true then tout ns r else (i, t) :: tout ns r) := h
    by_cases q : inN ns i = true
    · rw [if_pos q] at h'
      have z := tout_sub h'
      exact ⟨List.mem_cons_of_mem _ z.1, z.2⟩
    · rw [if_neg q] at h'
      rcases List.mem_cons.mp h' with e | m
      · rw [e]
        exact ⟨List.mem_cons_self, fun z => q (mem_inN z)⟩
      · have z := tout_sub m
        exact ⟨List.mem_cons_of_mem _ z.1, z.2⟩
section
variable {K : PySem.W.Frag} {F F' B H H' : Hp} {σ σ' : L2.St} {A A1 A2 : List Addr}
theorem fget_wipe : ∀ {vs : List Nat} {f : Fz} {i : Nat} {d : D}, fget (fwipe f vs) i = some d → fget f i = some d ∧ i ∉ vs
  | [], f, i, d, h => ⟨h, fun z => nomatch z⟩
  | v :: vs, f, i, d, h => by
    have h' : fget (fset (fwipe f vs) v none) i = some d := h
    by_cases q : i = v
    · subst q
      cases fget_set_same h'
    · rw [fget_set_ne q] at h'
      obtain ⟨h1, h2⟩ := fget_wipe h'
      exact ⟨h1, fun z => (List.mem_cons.mp z).elim q h2⟩
theorem fwipe_length (f : Fz) : ∀ vs : List Nat, (fwipe f vs).length = f.length
  | [] => rfl
  | v :: vs => by
    show (fset (fwipe f vs) v none).length = f.length
    rw [fset_length, fwipe_length f vs]
theorem FzOk.wipe {f : Fz} (o : FzOk K F σ f) (vs : List Nat) : FzOk K F (wipe σ vs) (fwipe f vs) := by
  refine ⟨by rw [fwipe_length, wipe_length]; exact o.1, fun i d h => ?_⟩
  obtain ⟨h1, h2⟩ := fget_wipe h
  obtain ⟨v, e1, e2⟩ := o.2 i d h1
  exact ⟨v, by rw [wipe_out h2]; exact e1, e2⟩
theorem VwOk.move {τ : Tau} (o : VwOk K F B σ τ) (h : ∀ p ∈ τ, σ'[p.1]? = σ[p.1]?) : VwOk K F B σ' τ := fun p m => by
  obtain ⟨v, A, e, r⟩ := o p m
  exact ⟨v, A, (h p m).trans e, r⟩
theorem TauOk.move : ∀ {τ : Tau} {A : List Addr}, TauOk K F H σ τ A → (∀ p ∈ τ, σ'[p.1]? = σ[p.1]?) → TauOk K F H σ' τ A
  | _, _, .nil, _ => .nil
  | _, _, .cons h o t, k => .cons ((k _ List.mem_cons_self).trans h) o (TauOk.move t fun p m => k p (List.mem_cons_of_mem _ m))
theorem TauOk.out : ∀ {τ : Tau} {A : List Addr} (ns : List Nat), TauOk K F H σ τ A → A.Nodup → ∃ A', TauOk K F H σ (tout ns τ) A' ∧ A'.Nodup ∧ ∀ a ∈ A', a ∈ A
  | _, _, _, .nil, n => ⟨[], .nil, n, fun _ m => m⟩
  | (j, u) :: r, _, ns, .cons (A := A) (A' := A0) h o t, n => by
    obtain ⟨n1, n2, n3⟩ := List.nodup_append.mp n
    obtain ⟨A', t', n', s'⟩ := TauOk.out ns t n2
    by_cases q : inN ns j = true
    · refine ⟨A', ?_, n', fun a m => List.mem_append_right _ (s' a m)⟩
      show TauOk K F H σ (if inN ns j = true then tout ns r else (j, u) :: tout ns r) A'
      rw [if_pos q]
      exact t'
    · refine ⟨A ++ A', ?_, List.nodup_append.mpr ⟨n1, n', fun a m b m2 => n3 a m b (s' b m2)⟩, fun a m => ?_⟩
      · show TauOk K F H σ (if inN ns j = true then tout ns r else (j, u) :: tout ns r) (A ++ A')
        rw [if_neg q]
        exact .cons h o t'
      · rcases List.mem_append.mp m with z | z
        · exact List.mem_append_left _ z
        · exact List.mem_append_right _ (s' a z)
/-- wiped again -/
theorem wipe_eq {vs : List Nat} {σ σ2 : L2.St} (hl : σ2.length = σ.length) (h : ∀ j, j ∉ vs → σ2[j]? = (wipe σ vs)[j]?) : wipe σ2 vs = wipe σ vs := by
  refine List.ext_getElem? fun j => ?_
  by_cases q : j ∈ vs
  · have none_at : ∀ τ : L2.St, j < τ.length → (wipe τ vs)[j]? = some none := fun τ hj => by
      have hj' : j < (wipe τ vs).length := by rw [wipe_length]; exact hj
      cases e : (wipe τ vs)[j]? with
      | none =>
        rw [List.getElem?_eq_none_iff] at e
        omega
      | some o =>
        cases o with
        | none => rfl
        | some x => exact absurd q (wipe_some e).2
    by_cases hj : j < σ.length
    · rw [none_at σ hj, none_at σ2 (hl ▸ hj)]
    · rw [List.getElem?_eq_none (by rw [wipe_length]; omega), List.getElem?_eq_none (by rw [wipe_length]; omega)]
  · rw [wipe_out q, h j q]
end
/-- the turns: the items to come, the items made -/
def lcLoop (vs : List Nat) (mt : MG) (mc : MB) (me : MV) (fw : Fz) (vw : Tau) : List D → List D → Tau → Option (List D × Tau)
  | [], acc, τ => some (acc, τ)
  | d :: ds, acc, τ => (mt d fw).bind fun fz => (mc ⟨fz, vw⟩ τ).bind fun p =>
      if p.1 = true then (me ⟨fz, vw⟩ p.2).bind fun q => q.1.st.bind fun y => lcLoop vs mt mc me fw vw ds (acc ++ [y]) (tout vs q.2) else lcLoop vs mt mc me fw vw ds acc (tout vs p.2)
def mLc (vs : List Nat) (mi : MI) (mt : MG) (mc : MB) (me : MV) : MV := fun ro τ => (mi ro τ).bind fun p => (lcLoop vs mt mc me (fwipe ro.fz vs) (tout vs ro.vw) p.1 [] (tout vs p.2)).map fun q => (.val (.fl q.1), q.2)
def mYes : MB := fun _ τ => some (true, τ)
section
variable {K : PySem.W.Frag}
/-- what holds at a turn -/
structure LcAt (K : PySem.W.Frag) (F1 B H1 : Hp) (A1 : List Addr) (σ : L2.St) (vs : List Nat) (p : Addr) (τ : Tau) (acc : List D) (i : Nat) (Fc Hc : Hp) (Ac : List Addr) (xs : List V) : Prop where
  go : Go F1 H1 A1 Fc Hc (p :: Ac)
  cn : Cn Fc B Hc (p :: Ac)
  at_ : Hc p = some (.lst xs)
  rl : RepL K Fc xs acc
  tau : TauOk K Fc Hc σ τ Ac
  out : ∀ q ∈ τ, q.1 ∉ vs
  len : xs.length ≤ i
theorem lc_ev {wi : TI} {g : TG} {tt : TT} {te : TE} {vs ws : List Nat} {mi : MI} {mt : MG} {mc : MB} {me : MV} (hi : IV K wi mi) (hg : GV K g ws mt) (hw : ∀ j ∈ ws, j ∈ vs) (ht : TV K tt mc) (he : EV K te me) :
    EV K (tLc wi g tt te vs) (mLc vs mi mt mc me) := ⟨fun ro τ r τ' em F B H σ A Q a k => by
  obtain ⟨⟨ds, τ1⟩, e1, em⟩ := Option.bind_eq_some_iff.mp em
  obtain ⟨⟨out, τ2⟩, e2, em⟩ := Option.map_eq_some_iff.mp em
  cases em
  refine hi.run ro τ ds τ1 e1 F B H σ A _ a fun F1 H1 A1 J g1 c1 t1 src => ?_
  intro p hp
  have ro1 := a.ro.mono g1.ff
  refine ⟨fun i m Hc => m = ds.length - i ∧ i ≤ ds.length ∧ ∃ (Fc : Hp) (τc : Tau) (acc : List D) (xs : List V) (Ac : List Addr), lcLoop vs mt mc me (fwipe ro.fz vs) (tout vs ro.vw) (ds.drop i) acc τc = some (out, τ2) ∧
      LcAt K F1 B H1 A1 σ vs p τc acc i Fc Hc Ac xs, ⟨ds.length, ?_⟩, ?_⟩
  · obtain ⟨A0, t0, n0, s0⟩ := t1.out vs c1.nd
    have g0 : Go F1 H1 A1 F1 H1 A0 := Go.less s0
    obtain ⟨g2, c2⟩ := (c1.sub n0 s0).newO (o := .lst []) hp
    refine ⟨by omega, Nat.zero_le _, F1, _, [], [], A0, e2, ⟨g0.trans g2, c2, upd_same, .nil, t0.stay g2.ff fun b m o q => ?_, fun q m => (tout_sub m).2, Nat.le_refl _⟩⟩
    rw [upd_ne (ne_of_none q hp)]
    exact q
  · rintro i m Hc ⟨rfl, hi', Fc, τc, acc, xs, Ac, el, L⟩
    have s1c : Same F1 Fc := L.go.ff
    have cc := L.cn
    by_cases hlt : i < ds.length
    · refine .inr ?_
      have ei : ds[i]? = some ds[i] := List.getElem?_eq_getElem hlt
      refine ⟨src.go Fc Hc s1c cc.fh cc.bh i _ ei, fun H' => ∃ (Fc : Hp) (τc : Tau) (acc : List D) (xs : List V) (Ac : List Addr), lcLoop vs mt mc me (fwipe ro.fz vs) (tout vs ro.vw) (ds.drop (i + 1)) acc τc = some (out, τ2) ∧
        LcAt K F1 B H1 A1 σ vs p τc acc (i + 1) Fc H' Ac xs, fun H' q => ⟨ds.length - (i + 1), by omega, rfl, hlt, q⟩, fun x H2 y => ?_⟩
      obtain ⟨F2, w1, rx⟩ := src.yld Fc Hc s1c cc.fh cc.bh i _ ei x H2 y
      obtain ⟨g2, c2⟩ := w1 B (p :: Ac) cc
      rw [List.drop_eq_getElem_cons hlt] at el
      obtain ⟨fz, f1, el⟩ := Option.bind_eq_some_iff.mp el
      obtain ⟨⟨b, τ3⟩, f2, el⟩ := Option.bind_eq_some_iff.mp el
      have stand : ∀ (b : Addr) (u : HO), Hc b = some u → H2 b = some u := fun b u q => (w1 noH [] ⟨cc.fh, same_noH, .nil, (fun _ z => nomatch z), (fun _ z => nomatch z), (fun _ z => nomatch z)⟩).1.keep b u (fun z => nomatch z) q
      have hp2 := stand _ _ L.at_
      have rl2 := L.rl.mono g2.ff
      have tc2 := L.tau.stay g2.ff fun b _ u q => stand b u q
      have ro2 := ro1.mono (s1c.trans g2.ff)
      refine hg.run _ _ fz f1 F2 H2 (wipe σ vs) x _ rx c2.fh (ro2.fz.wipe vs) fun σ2 o2 l2 k2 => ⟨?_, ?_⟩
      · exact wipe_eq (l2.trans (wipe_length _ _)) fun j n => k2 j fun z => n (hw j z)
      · have offslot : ∀ j, j ∉ vs → σ2[j]? = σ[j]? := fun j n => (k2 j fun z => n (hw j z)).trans (wipe_out n)
        have to2 : TauOk K F2 H2 σ2 τc Ac := tc2.move fun q m => offslot q.1 (L.out q m)
        have vw2 : VwOk K F2 B σ2 (tout vs ro.vw) := VwOk.move (fun q m => ro2.vw q (tout_sub m).1) fun q m => offslot q.1 (tout_sub m).2
        have back : ∀ {τ : Tau} {F' H' : Hp} {A : List Addr}, TauOk K F' H' σ2 τ A → A.Nodup → ∃ A', TauOk K F' H' σ (tout vs τ) A' ∧ A'.Nodup ∧ ∀ a ∈ A', a ∈ A := fun t n => by
          obtain ⟨A', t', n', s'⟩ := t.out vs n
          exact ⟨A', t'.move fun q m => (offslot q.1 (tout_sub m).2).symm, n', s'⟩
        refine ht.run ⟨fz, tout vs ro.vw⟩ τc b τ3 f2 F2 B H2 σ2 Ac _ ⟨Cn.right (A1 := [p]) c2, ⟨o2, vw2⟩, to2⟩ fun F3 H3 A3 g3 c3 t3 => ?_
        obtain ⟨g3', c3'⟩ := Go.framed (A1 := [p]) c2 g3 c3
        have pn2 : p ∉ Ac := Cn.apart (A1 := [p]) c2 p (List.mem_singleton.mpr rfl)
        have hp3 : H3 p = some (.lst xs) := g3.keep p _ pn2 hp2
        have g13 := (L.go.trans g2).trans g3'
        have keepin : ∀ {A A' : List Addr} {F H : Hp}, Cn F B H ([p] ++ A) → A'.Nodup → (∀ a ∈ A', a ∈ A) → Go F H ([p] ++ A) F H (p :: A') ∧ Cn F B H (p :: A') := fun {A A' F H} c n s => by
          have sub : ∀ b ∈ p :: A', b ∈ [p] ++ A := fun b m => (List.mem_cons.mp m).elim (fun z => z ▸ List.mem_cons_self) fun z => List.mem_cons_of_mem _ (s b z)
          exact ⟨Go.less sub, c.sub (List.nodup_cons.mpr ⟨fun z => (List.nodup_cons.mp c.nd).1 (s p z), n⟩) sub⟩
        cases b with
        | false =>
          rw [if_neg Bool.false_ne_true] at el ⊢
          obtain ⟨A', t', n', s'⟩ := back t3 c3.nd
          obtain ⟨g4, c4⟩ := keepin c3' n' s'
          exact ⟨F3, tout vs τ3, acc, xs, A', el, ⟨g13.trans g4, c4, hp3, rl2.mono g3.ff, t', fun q m => (tout_sub m).2, Nat.le_succ_of_le L.len⟩⟩
        | true =>
          rw [if_pos rfl] at el ⊢
          obtain ⟨⟨z, τ4⟩, f3, el⟩ := Option.bind_eq_some_iff.mp el
          obtain ⟨yd, f4, el⟩ := Option.bind_eq_some_iff.mp el
          have ro3 : RoOk K F3 B σ2 ⟨fz, tout vs ro.vw⟩ := ⟨o2.mono g3.ff, vw2.mono g3.ff⟩
          refine he.run ⟨fz, tout vs ro.vw⟩ τ3 z τ4 f3 F3 B H3 σ2 A3 _ ⟨c3, ro3, t3⟩ fun F4 H4 u A4 A5 g4 c4 o4 t4 => ?_
          obtain ⟨g4', c4'⟩ := Go.framed (A1 := [p]) c3' g4 c4
          have pn3 : p ∉ A3 := Cn.apart (A1 := [p]) c3' p (List.mem_singleton.mpr rfl)
          have hp4 : H4 p = some (.lst xs) := g4.keep p _ pn3 hp3
          obtain ⟨F5, g5, c5, s5, ry⟩ := o4.freeze c4 f4
          obtain ⟨g5', c5'⟩ := Go.framed (A1 := [p]) c4' g5 c5
          have t5 := t4.stay s5 fun _ _ _ q => q
          obtain ⟨A', t', n', s'⟩ := back t5 c5.nd
          obtain ⟨g6, c6⟩ := keepin c5' n' s'
          obtain ⟨g7, c7⟩ := c6.write (o := .lst (xs ++ [u])) (p := p) List.mem_cons_self
          refine ⟨xs, hp4, Nat.lt_of_le_of_lt L.len (Nat.lt_of_lt_of_le hlt src.small), F5, tout vs τ4, acc ++ [yd], xs ++ [u], A', el, ⟨((((g13.trans g4').trans g5').trans g6).trans g7), c7, upd_same, ?_, t'.stay g7.ff fun b m o q => ?_, fun q m => (tout_sub m).2, ?_⟩⟩
          · exact (((rl2.mono g3.ff).mono g4.ff).mono s5).append (.cons ry .nil)
          · have nb : b ≠ p := fun z => (List.nodup_cons.mp c6.nd).1 (by rw [← z]; exact m)
            rw [upd_ne nb]
            exact q
          · rw [List.length_append]
            exact Nat.succ_le_succ L.len
    · have e : i = ds.length := by omega
      subst e
      rw [List.drop_length] at el
      cases el
      refine .inl ⟨src.stop Fc Hc s1c cc.fh cc.bh _ (Nat.le_refl _), ?_⟩
      exact k Fc Hc (.ref p) [p] Ac (g1.trans L.go) cc (.fl L.at_ (Nat.le_trans L.len src.small) L.rl) L.tau⟩
theorem tv_yes : TV K tYes mYes := ⟨fun ro τ r τ' em F B H σ A Q a k => by
  cases em
  exact k F H A Go.refl a.cn a.tau⟩
end
section
variable (X : Cx) (scope : Scope)
def bE (e : Expr) : TE := fun σ H Q => ∀ (s : Shared) (H0 : Hp) (C : Addr) (cl : List (Str × Addr)) (fp : List Addr), wpE (X.blk s H0 scope (compEnvC scope cl C X.env) fp) e σ H Q
def bG (e : Expr) : TG := fun v σ H Q => ∀ (s : Shared) (H0 : Hp) (C : Addr) (cl : List (Str × Addr)) (fp : List Addr), wpG (X.blk s H0 scope (compEnvC scope cl C X.env) fp) e v σ H Q
end
section
variable {X : Cx} {scope : Scope} {elt tg iter c : Expr} {own : List (Str × Nat)} {pos : Pos} {ws : List Nat} {mi : MI} {mt : MG} {mc : MB} {me : MV}
theorem bE_of (h : ∀ (s : Shared) (H0 : Hp) (C : Addr) (cl : List (Str × Addr)) (fp : List Addr), ER (X.blk s H0 scope (compEnvC scope cl C X.env) fp) elt me) : EV X.K (bE X scope elt) me :=
  ⟨fun ro τ r τ' em F B H σ A Q a k s H0 C cl fp => (h s H0 C cl fp).run ro τ r τ' em F B H σ A Q a k⟩
theorem bG_of (h : ∀ (s : Shared) (H0 : Hp) (C : Addr) (cl : List (Str × Addr)) (fp : List Addr), GR (X.blk s H0 scope (compEnvC scope cl C X.env) fp) tg ws mt) : GV X.K (bG X scope tg) ws mt :=
  ⟨fun d fz fz' em F H σ v Q r s o k s H0 C cl fp => (h s H0 C cl fp).run d fz fz' em F H σ v Q r ‹_› o k⟩
theorem bE_pe (s : Shared) (H0 : Hp) (C : Addr) (cl : List (Str × Addr)) (fp : List Addr) : PE (X.blk s H0 scope (compEnvC scope cl C X.env) fp) elt (bE X scope elt) := ⟨fun pins s' σ H Q I h => h s H0 C cl fp pins s' I⟩
theorem bG_pg (s : Shared) (H0 : Hp) (C : Addr) (cl : List (Str × Addr)) (fp : List Addr) : PG (X.blk s H0 scope (compEnvC scope cl C X.env) fp) tg (bG X scope tg) := ⟨fun pins s' σ H v u Q I r h => h s H0 C cl fp pins s' u I r⟩
/-- its reading, with no test, with one -/
abbrev tLc0 (X : Cx) (scope : Scope) (tg iter elt : Expr) (vs : List Nat) : TE := tLc (wpI X tg iter) (bG X scope tg) tYes (bE X scope elt) vs
theorem ev_lc0 (hi : IR X tg iter mi) (hg : ∀ (s : Shared) (H0 : Hp) (C : Addr) (cl : List (Str × Addr)) (fp : List Addr), GR (X.blk s H0 scope (compEnvC scope cl C X.env) fp) tg ws mt) (hw : ∀ j ∈ ws, j ∈ own.map (·.2))
    (he : ∀ (s : Shared) (H0 : Hp) (C : Addr) (cl : List (Str × Addr)) (fp : List Addr), ER (X.blk s H0 scope (compEnvC scope cl C X.env) fp) elt me) : EV X.K (tLc0 X scope tg iter elt (own.map (·.2))) (mLc (own.map (·.2)) mi mt mYes me) :=
  lc_ev hi (bG_of hg) hw tv_yes (bE_of he)
theorem pe_lc0 (hc : X.calm = true) (hN : X.N.Nodup) (ok : BlkOk X.N X.env.scope scope own) (hs : ∀ x, foldedSetIterable iter X.env x = pure x := by intro _; rfl) : PE X (.ListComp elt [⟨tg, iter, [], 0⟩] scope pos) (tLc0 X scope tg iter elt (own.map (·.2))) :=
  pe_lc hc hN piW ok bG_pg (fun _ _ _ _ _ => pts_nil) bE_pe hs
theorem ev_er {e : Expr} {t : TE} {m : MV} (p : PE X e t) (h : EV X.K t m) : ER X e m := ⟨fun ro τ r τ' em F B H σ A Q a k => wE p (h.run ro τ r τ' em F B H σ A Q a k)⟩
end
end Tl

namespace Tl
open PySem PySem.Spec PyProof.Rows L2

structure SS where
  fz : Fz
  ow : Tau
inductive Out where
  | nx (s : SS)
  | rt (t : T) (s : SS)
  | bk (s : SS)
  | ct (s : SS)
abbrev MS := SS → Option Out
abbrev MX := SS → Option (T × SS)
abbrev MXB := SS → Option (Bool × SS)
abbrev MXI := SS → Option (List D × SS)
structure SAt (K : PySem.W.Frag) (F H : Hp) (σ : L2.St) (s : SS) (A : List Addr) : Prop where
  cn : Cn F noH H A
  fz : FzOk K F σ s.fz
  ow : TauOk K F H σ s.ow A
/-- the kept slots (a def's parameters that are handed back) -/
def Agree (Pr : List Nat) (σ σ' : L2.St) : Prop := ∀ i ∈ Pr, σ'[i]? = σ[i]?
/-- what is wanted where a piece ends so -/
def OutOk (K : PySem.W.Frag) (Pr : List Nat) (F H : Hp) (σ : L2.St) (A : List Addr) (D : Ends) : Out → Prop
  | .nx s => ∀ (F' H' : Hp) (σ' : L2.St) (A' : List Addr), Go F H A F' H' A' → SAt K F' H' σ' s A' → Agree Pr σ σ' → D.nx σ' H'
  | .bk s => ∀ (F' H' : Hp) (σ' : L2.St) (A' : List Addr), Go F H A F' H' A' → SAt K F' H' σ' s A' → Agree Pr σ σ' → D.bk σ' H'
  | .ct s => ∀ (F' H' : Hp) (σ' : L2.St) (A' : List Addr), Go F H A F' H' A' → SAt K F' H' σ' s A' → Agree Pr σ σ' → D.ct σ' H'
  | .rt t s => ∀ (F' H' : Hp) (σ' : L2.St) (v : V) (A1 A2 : List Addr), Go F H A F' H' (A1 ++ A2) → Cn F' noH H' (A1 ++ A2) → Own K F' H' v t A1 → FzOk K F' σ' s.fz → TauOk K F' H' σ' s.ow A2 → Agree Pr σ σ' → D.rt v H'
section
variable (K : PySem.W.Frag)
structure SV (Pr : List Nat) (t : TS) (m : MS) : Prop where
  run : ∀ (s : SS) (o : Out), m s = some o → ∀ (F H : Hp) (σ : L2.St) (A : List Addr) (D : Ends), SAt K F H σ s A → OutOk K Pr F H σ A D o → t D σ H
structure XV (t : TE) (m : MX) : Prop where
  run : ∀ (s : SS) (x : T) (s' : SS), m s = some (x, s') → ∀ (F H : Hp) (σ : L2.St) (A : List Addr) (Q : VK), SAt K F H σ s A →
    (∀ (F' H' : Hp) (v : V) (A1 A2 : List Addr), Go F H A F' H' (A1 ++ A2) → Cn F' noH H' (A1 ++ A2) → Own K F' H' v x A1 → FzOk K F' σ s'.fz → TauOk K F' H' σ s'.ow A2 → Q v H') → t σ H Q
structure XB (t : TT) (m : MXB) : Prop where
  run : ∀ (s : SS) (b : Bool) (s' : SS), m s = some (b, s') → ∀ (F H : Hp) (σ : L2.St) (A : List Addr) (Q : Bool → Hp → Prop), SAt K F H σ s A →
    (∀ (F' H' : Hp) (A' : List Addr), Go F H A F' H' A' → SAt K F' H' σ s' A' → Q b H') → t σ H Q
structure XI (t : TI) (m : MXI) : Prop where
  run : ∀ (s : SS) (ds : List D) (s' : SS), m s = some (ds, s') → ∀ (F H : Hp) (σ : L2.St) (A : List Addr) (Rr : It → Hp → Prop), SAt K F H σ s A →
    (∀ (F' H' : Hp) (A' : List Addr) (J : It), Go F H A F' H' A' → SAt K F' H' σ s' A' → Src K F' noH J ds → Rr J H') → t σ H Rr
end
abbrev SR (X : Cx) (Pr : List Nat) (st : Stmt) (m : MS) : Prop := SV X.K Pr (wpS X st) m
abbrev SRs (X : Cx) (Pr : List Nat) (st : List Stmt) (m : MS) : Prop := SV X.K Pr (wpB X st) m
section
variable {K : PySem.W.Frag} {Pr : List Nat} {F F' H H' F1 H1 : Hp} {σ σ1 : L2.St} {A A' A1 A2 : List Addr}
theorem SAt.at_ {s : SS} (a : SAt K F H σ s A) : At K F noH H σ ⟨s.fz, []⟩ s.ow A := ⟨a.cn, ⟨a.fz, fun _ m => nomatch m⟩, a.ow⟩
theorem OutOk.behind {D : Ends} {o : Out} (k : OutOk K Pr F H σ A D o) (g : Go F H A F1 H1 A1) (e : Agree Pr σ σ1) : OutOk K Pr F1 H1 σ1 A1 D o := by
  cases o with
  | nx s => exact fun F' H' σ' A' g' a e' => k F' H' σ' A' (g.trans g') a fun i m => (e' i m).trans (e i m)
  | bk s => exact fun F' H' σ' A' g' a e' => k F' H' σ' A' (g.trans g') a fun i m => (e' i m).trans (e i m)
  | ct s => exact fun F' H' σ' A' g' a e' => k F' H' σ' A' (g.trans g') a fun i m => (e' i m).trans (e i m)
  | rt t s => exact fun F' H' σ' v A1 A2 g' c o f t e' => k F' H' σ' v A1 A2 (g.trans g') c o f t fun i m => (e' i m).trans (e i m)
theorem Agree.refl : Agree Pr σ σ := fun _ _ => rfl

def mX (m : MV) : MX := fun s => (m ⟨s.fz, []⟩ s.ow).bind fun p => match p.1 with
  | .val x => some (x, ⟨s.fz, p.2⟩)
  | .vw (.leaf d) => some (.leaf d, ⟨s.fz, p.2⟩)
  | .vw _ => none
theorem xv {t : TE} {m : MV} (h : EV K t m) : XV K t (mX m) := ⟨fun s x s' em F H σ A Q a k => by
  obtain ⟨⟨z, τ1⟩, e1, em⟩ := Option.bind_eq_some_iff.mp em
  obtain ⟨ex, es⟩ : (z = .val x ∨ ∃ d, z = .vw (.leaf d) ∧ x = .leaf d) ∧ s' = ⟨s.fz, τ1⟩ := by
    cases z with
    | val y =>
      cases em
      exact ⟨.inl rfl, rfl⟩
    | vw y =>
      cases y with
      | leaf d =>
        cases em
        exact ⟨.inr ⟨d, rfl, rfl⟩, rfl⟩
      | _ => cases em
  subst es
  exact h.run _ _ z τ1 e1 F noH H σ A Q a.at_ fun F' H' v A1 A2 g c o t => k F' H' v A1 A2 g c (o.solid ex) (a.fz.mono g.ff) t⟩
def mXB (m : MB) : MXB := fun s => (m ⟨s.fz, []⟩ s.ow).map fun p => (p.1, ⟨s.fz, p.2⟩)
theorem xb {t : TT} {m : MB} (h : TV K t m) : XB K t (mXB m) := ⟨fun s b s' em F H σ A Q a k => by
  obtain ⟨⟨z, τ1⟩, e1, em⟩ := Option.map_eq_some_iff.mp em
  cases em
  exact h.run _ _ _ τ1 e1 F noH H σ A Q a.at_ fun F' H' A2 g c t => k F' H' A2 g ⟨c, a.fz.mono g.ff, t⟩⟩
def mXI (m : MI) : MXI := fun s => (m ⟨s.fz, []⟩ s.ow).map fun p => (p.1, ⟨s.fz, p.2⟩)
theorem xi {t : TI} {m : MI} (h : IV K t m) : XI K t (mXI m) := ⟨fun s b s' em F H σ A Q a k => by
  obtain ⟨⟨z, τ1⟩, e1, em⟩ := Option.map_eq_some_iff.mp em
  cases em
  exact h.run _ _ _ τ1 e1 F noH H σ A _ a.at_ fun F' H' A2 J g c t src => k F' H' A2 J g ⟨c, a.fz.mono g.ff, t⟩ src⟩

variable {X : Cx} {st : Stmt} {sts : List Stmt} {e : Expr} {pos : Pos} {i : Nat}
def mSeq (m n : MS) : MS := fun s => (m s).bind fun o => match o with
  | .nx s' => n s'
  | .rt t s' => some (.rt t s')
  | .bk s' => some (.bk s')
  | .ct s' => some (.ct s')
def mNx : MS := fun s => some (.nx s)
theorem sr_nil : SRs X Pr [] mNx := ⟨fun s o em F H σ A D a k => by
  cases em
  exact wB pss_nil (k F H σ A Go.refl a Agree.refl)⟩
theorem sr_cons {m n : MS} (h : SR X Pr st m) (t : SRs X Pr sts n) : SRs X Pr (st :: sts) (mSeq m n) := ⟨fun s o em F H σ A D a k => by
  obtain ⟨o1, e1, em⟩ := Option.bind_eq_some_iff.mp em
  refine wB (pss_cons psW pssW) (h.run s o1 e1 F H σ A _ a ?_)
  cases o1 with
  | nx s1 => exact fun F' H' σ' A' g' a' e' => t.run s1 o em F' H' σ' A' D a' (k.behind g' e')
  | rt t s1 =>
    cases em
    exact k
  | bk s1 =>
    cases em
    exact k
  | ct s1 =>
    cases em
    exact k⟩
def mBrk : MS := fun s => some (.bk s)
def mCnt : MS := fun s => some (.ct s)
def mIfS (c : MXB) (m n : MS) : MS := fun s => (c s).bind fun p => if p.1 = true then m p.2 else n p.2
theorem sr_if {c : Expr} {as bs : List Stmt} {mc : MB} {m n : MS} (hc : TR X c mc) (h : SRs X Pr as m) (h' : SRs X Pr bs n) : SR X Pr (.If c as bs pos) (mIfS (mXB mc) m n) := ⟨fun s o em F H σ A D a k => by
  obtain ⟨⟨b, s1⟩, e1, em⟩ := Option.bind_eq_some_iff.mp em
  refine wS (ps_if ptW pssW pssW) ((xb hc).run s b s1 e1 F H σ A _ a fun F1 H1 A1 g1 a1 => ?_)
  cases b with
  | true =>
    rw [if_pos rfl] at em ⊢
    exact h.run s1 o em F1 H1 σ A1 D a1 (k.behind g1 Agree.refl)
  | false =>
    rw [if_neg Bool.false_ne_true] at em ⊢
    exact h'.run s1 o em F1 H1 σ A1 D a1 (k.behind g1 Agree.refl)⟩
def mRet (m : MX) : MS := fun s => (m s).map fun p => .rt p.1 p.2
theorem sr_ret {m : MV} (h : ER X e m) : SR X Pr (.Return (some e) pos) (mRet (mX m)) := ⟨fun s o em F H σ A D a k => by
  obtain ⟨⟨x, s1⟩, e1, em⟩ := Option.map_eq_some_iff.mp em
  cases em
  exact wS (ps_ret peW) ((xv h).run s x s1 e1 F H σ A _ a fun F' H' v A1 A2 g c o f t => k F' H' σ v A1 A2 g c o f t Agree.refl)⟩
def mRetN : MS := fun s => some (.rt (.leaf .none) s)
/-- an expression for what it does -/
def mDo (m : MX) : MS := fun s => (m s).map fun p => .nx p.2
theorem sr_do {m : MV} (h : ER X e m) (hs : swapsWith e none pos.line X.env = pure false := by rfl) : SR X Pr (.Expr e pos) (mDo (mX m)) := ⟨fun s o em F H σ A D a k => by
  obtain ⟨⟨x, s1⟩, e1, em⟩ := Option.map_eq_some_iff.mp em
  cases em
  exact wS (ps_expr peW hs) ((xv h).run s x s1 e1 F H σ A _ a fun F' H' v A1 A2 g c o f t => k F' H' σ A2 (g.trans (Go.less fun _ m => List.mem_append_right _ m)) ⟨c.right, f, t⟩ Agree.refl)⟩
/-- x = e, kept as plain data -/
def mSet (i : Nat) (m : MX) : MS := fun s => (m s).bind fun p => p.1.fz.map fun d => .nx ⟨fset p.2.fz i (some d), tdel p.2.ow i⟩
theorem agree_set {v : V} (hi : i ∉ Pr) : Agree Pr σ (σ.set i (some v)) := fun j m => by
  have nb : i ≠ j := fun z => hi (by rw [z]; exact m)
  rw [List.getElem?_set_ne nb]
theorem TauOk.setD {τ : Tau} {A : List Addr} (t : TauOk K F H σ τ A) (n : A.Nodup) (i : Nat) (v : V) : ∃ A', TauOk K F H (σ.set i (some v)) (tdel τ i) A' ∧ A'.Nodup ∧ ∀ a ∈ A', a ∈ A := by
  obtain ⟨A', t', n', s'⟩ := t.del i n
  exact ⟨A', t'.move fun p m => by rw [List.getElem?_set_ne fun z => (tdel_sub m).2 z.symm], n', s'⟩
theorem sv_set {t : TE} {m : MV} (h : EV K t m) (hi : i ∉ Pr) : SV K Pr (tAsg t (gName i)) (mSet i (mX m)) := ⟨fun s o em F H σ A D a k => by
  obtain ⟨⟨x, s1⟩, e1, em⟩ := Option.bind_eq_some_iff.mp em
  obtain ⟨d, e2, em⟩ := Option.map_eq_some_iff.mp em
  cases em
  refine (xv h).run s x s1 e1 F H σ A _ a fun F1 H1 v A1 A2 g1 c1 o1 f1 t1 => ?_
  obtain ⟨g2, c2, s2, h2⟩ := c1.freeze
  obtain ⟨A3, t3, n3, s3⟩ := (t1.stay s2 fun _ _ _ q => q).setD c2.nd i v
  exact k _ H1 _ A3 ((g1.trans g2).trans (Go.less s3)) ⟨c2.sub n3 s3, (f1.mono s2).set (Own.rep s2 o1 h2 e2) i, t3⟩ (agree_set hi)⟩
theorem sr_set {t : TE} {m : MV} (p : PS X st (tAsg t (gName i))) (h : EV X.K t m) (hi : i ∉ Pr := by decide) : SR X Pr st (mSet i (mX m)) := ⟨fun s o em F H σ A D a k => wS p ((sv_set h hi).run s o em F H σ A D a k)⟩
theorem FzOk.drop {fz : Fz} (o : FzOk K F σ fz) (i : Nat) (v : V) : FzOk K F (σ.set i (some v)) (fset fz i none) := by
  refine ⟨by rw [fset_length, List.length_set]; exact o.1, fun j e h => ?_⟩
  by_cases q : j = i
  · subst q
    cases fget_set_same h
  · rw [fget_set_ne q] at h
    obtain ⟨u, h1, h2⟩ := o.2 j e h
    exact ⟨u, by rw [List.getElem?_set_ne (fun z => q z.symm)]; exact h1, h2⟩
theorem tset_eq : ∀ (τ : Tau) (i : Nat) (t : T), tset τ i t = tset (tset τ i .hole) i t
  | [], i, t => by
    show [(i, t)] = (if i = i then (i, t) :: [] else _)
    rw [if_pos rfl]
  | (j, u) :: r, i, t => by
    show (if j = i then (i, t) :: r else (j, u) :: tset r i t) = tset (if j = i then (i, T.hole) :: r else (j, u) :: tset r i .hole) i t
    by_cases q : j = i
    · rw [if_pos q, if_pos q]
      show _ = (if i = i then (i, t) :: r else _)
      rw [if_pos rfl]
    · rw [if_neg q, if_neg q]
      show _ = (if j = i then (i, t) :: tset r i .hole else (j, u) :: tset (tset r i .hole) i t)
      rw [if_neg q, tset_eq r i t]
/-- a slot overwritten by an owned thing; other entries of the slot must not be (the list holds each slot once) -/
def once : Tau → Bool
  | [] => true
  | (j, _) :: r => (tget r j).isNone && once r
theorem tget_none : ∀ {τ : Tau} {i : Nat}, tget τ i = none → ∀ p ∈ τ, p.1 ≠ i
  | (j, u) :: r, i, h, p, m => by
    have h' : (if j = i then some u else tget r i) = none := h
    by_cases q : j = i
    · rw [if_pos q] at h'
      cases h'
    · rw [if_neg q] at h'
      rcases List.mem_cons.mp m with e | m
      · rw [e]
        exact q
      · exact tget_none h' p m
theorem TauOk.setO : ∀ {τ : Tau} {A2 : List Addr} {i : Nat} {t : T} {v : V} {A1 : List Addr}, once τ = true → TauOk K F H σ τ A2 → i < σ.length → Own K F H v t A1 → (A1 ++ A2).Nodup →
    ∃ A', TauOk K F H (σ.set i (some v)) (tset τ i t) A' ∧ A'.Nodup ∧ ∀ a ∈ A', a ∈ A1 ++ A2
  | [], _, i, t, v, A1, _, .nil, hv, o, n => ⟨A1 ++ [], .cons (by rw [List.getElem?_set_self hv]) o .nil, n, fun a m => m⟩
  | (j, u) :: r, _, i, t, v, A1, w, .cons (A := A) (A' := A0) h o' tt, hv, o, n => by
    obtain ⟨n1, n2, n3⟩ := List.nodup_append.mp n
    obtain ⟨m1, m2, m3⟩ := List.nodup_append.mp n2
    have w' : ((tget r j).isNone && once r) = true := w
    rw [Bool.and_eq_true, Option.isNone_iff_eq_none] at w'
    by_cases q : j = i
    · refine ⟨A1 ++ A0, ?_, List.nodup_append.mpr ⟨n1, m2, fun a m b m' => n3 a m b (List.mem_append_right _ m')⟩, fun a m => ?_⟩
      · show TauOk K F H (σ.set i (some v)) (if j = i then (i, t) :: r else (j, u) :: tset r i t) (A1 ++ A0)
        rw [if_pos q]
        exact .cons (by rw [List.getElem?_set_self hv]) o (tt.move fun p m => by rw [List.getElem?_set_ne fun z => tget_none w'.1 p m (z.symm.trans q.symm)])
      · rcases List.mem_append.mp m with z | z
        · exact List.mem_append_left _ z
        · exact List.mem_append_right _ (List.mem_append_right _ z)
    · have nn : (A1 ++ A0).Nodup := List.nodup_append.mpr ⟨n1, m2, fun a m b m' => n3 a m b (List.mem_append_right _ m')⟩
      obtain ⟨A', t', n', s'⟩ := TauOk.setO w'.2 tt hv o nn
      refine ⟨A ++ A', ?_, List.nodup_append.mpr ⟨m1, n', fun a m b m' => ?_⟩, fun a m => ?_⟩
      · show TauOk K F H (σ.set i (some v)) (if j = i then (i, t) :: r else (j, u) :: tset r i t) (A ++ A')
        rw [if_neg q]
        exact .cons (by rw [List.getElem?_set_ne fun z => q z.symm]; exact h) o' t'
      · rcases List.mem_append.mp (s' b m') with z | z
        · exact fun e => n3 b z a (List.mem_append_left _ m) e.symm
        · exact m3 a m b z
      · rcases List.mem_append.mp m with z | z
        · exact List.mem_append_right _ (List.mem_append_left _ z)
        · rcases List.mem_append.mp (s' a z) with z | z
          · exact List.mem_append_left _ z
          · exact List.mem_append_right _ (List.mem_append_right _ z)
def mSetO (i : Nat) (m : MX) : MS := fun s => (m s).bind fun p => if once p.2.ow = true ∧ i < p.2.fz.length then some (.nx ⟨fset p.2.fz i none, tset p.2.ow i p.1⟩) else none
theorem sv_setO {t : TE} {m : MV} (h : EV K t m) (hi : i ∉ Pr) : SV K Pr (tAsg t (gName i)) (mSetO i (mX m)) := ⟨fun s o em F H σ A D a k => by
  obtain ⟨⟨x, s1⟩, e1, em⟩ := Option.bind_eq_some_iff.mp em
  by_cases q : once s1.ow = true ∧ i < s1.fz.length
  · rw [if_pos q] at em
    cases em
    refine (xv h).run s x s1 e1 F H σ A _ a fun F1 H1 v A1 A2 g1 c1 o1 f1 t1 => ?_
    obtain ⟨A3, t3, n3, s3⟩ := t1.setO q.1 (by rw [← f1.1]; exact q.2) o1 c1.nd
    exact k F1 H1 _ A3 (g1.trans (Go.less s3)) ⟨c1.sub n3 s3, f1.drop i v, t3⟩ (agree_set hi)
  · rw [if_neg q] at em
    cases em⟩
theorem sr_setO {t : TE} {m : MV} (p : PS X st (tAsg t (gName i))) (h : EV X.K t m) (hi : i ∉ Pr := by decide) : SR X Pr st (mSetO i (mX m)) := ⟨fun s o em F H σ A D a k => wS p ((sv_setO h hi).run s o em F H σ A D a k)⟩
/-- target = e -/
def mAsg (ws : List Nat) (mt : MG) (m : MX) : MS := fun s => (m s).bind fun p => p.1.fz.bind fun d => (mt d p.2.fz).map fun fz => .nx ⟨fz, tout ws p.2.ow⟩
theorem TauOk.offs {τ : Tau} {A : List Addr} {σ' : L2.St} (t : TauOk K F H σ τ A) (n : A.Nodup) (ws : List Nat) (h : ∀ j, j ∉ ws → σ'[j]? = σ[j]?) : ∃ A', TauOk K F H σ' (tout ws τ) A' ∧ A'.Nodup ∧ ∀ a ∈ A', a ∈ A := by
  obtain ⟨A', t', n', s'⟩ := t.out ws n
  exact ⟨A', t'.move fun p m => h p.1 (tout_sub m).2, n', s'⟩
theorem sr_asg {ws : List Nat} {tg : Expr} {m : MV} {mt : MG} (p : PS X st (tAsg (wpE X e) (wpG X tg))) (h : ER X e m) (hg : GR X tg ws mt) (hi : ∀ j ∈ ws, j ∉ Pr := by decide) : SR X Pr st (mAsg ws mt (mX m)) := ⟨fun s o em F H σ A D a k => by
  obtain ⟨⟨x, s1⟩, e1, em⟩ := Option.bind_eq_some_iff.mp em
  obtain ⟨d, e2, em⟩ := Option.bind_eq_some_iff.mp em
  obtain ⟨fz, e3, em⟩ := Option.map_eq_some_iff.mp em
  cases em
  refine wS p ((xv h).run s x s1 e1 F H σ A _ a fun F1 H1 v A1 A2 g1 c1 o1 f1 t1 => ?_)
  obtain ⟨g2, c2, s2, h2⟩ := c1.freeze
  refine hg.run d _ fz e3 _ H1 σ v _ (Own.rep s2 o1 h2 e2) c2.fh (f1.mono s2) fun σ' f' l' k' => ?_
  obtain ⟨A3, t3, n3, s3⟩ := (t1.stay s2 fun _ _ _ q => q).offs c2.nd ws k'
  exact k _ H1 _ A3 ((g1.trans g2).trans (Go.less s3)) ⟨c2.sub n3 s3, f', t3⟩ fun j m => k' j fun z => hi j z m⟩
/-- x, y = e, e' -/
def mPar (i j : Nat) (l : ML) : MS := fun s => (l ⟨s.fz, []⟩ s.ow).bind fun p => (stL p.1).bind fun ds => match ds with
  | [d, e] => some (.nx ⟨fset (fset s.fz i (some d)) j (some e), tdel (tdel p.2 i) j⟩)
  | _ => none
theorem sr_par {a b : Expr} {j : Nat} {l : ML} (p : PS X st (tPar i j (wpA X [a, b]))) (h : AR X [a, b] l) (hi : i ∉ Pr := by decide) (hj : j ∉ Pr := by decide) : SR X Pr st (mPar i j l) := ⟨fun s o em F H σ A D at_ k => by
  obtain ⟨⟨rs, τ1⟩, e1, em⟩ := Option.bind_eq_some_iff.mp em
  obtain ⟨ds, e2, em⟩ := Option.bind_eq_some_iff.mp em
  refine wS p (h.run _ _ rs τ1 e1 F noH H σ A _ at_.at_ fun F1 H1 vs A1 A2 g1 c1 o1 t1 => ?_)
  obtain ⟨F2, g2, c2, s2, rl⟩ := o1.freeze c1 e2
  have t2 := t1.stay s2 fun _ _ _ q => q
  have f2 := (at_.fz.mono g1.ff).mono s2
  match ds, em with
  | [d, e], em =>
    cases em
    cases rl with
    | cons r1 r2 =>
      cases r2 with
      | cons r2 r3 =>
        cases r3
        obtain ⟨A3, t3, n3, s3⟩ := t2.setD c2.nd i _
        obtain ⟨A4, t4, n4, s4⟩ := t3.setD n3 j _
        refine ⟨_, _, rfl, k F2 H1 _ A4 ((g1.trans g2).trans (Go.less fun a m => s3 a (s4 a m))) ⟨c2.sub n4 fun a m => s3 a (s4 a m), (f2.set r1 i).set r2 j, t4⟩ fun q m => ?_⟩
        rw [agree_set hj q m, agree_set hi q m]⟩
/-- x op= e -/
def mAug (i : Nat) (g : List R → Option R) (m : MV) : MS := fun s => (fget s.fz i).bind fun d => (m ⟨s.fz, []⟩ s.ow).bind fun p => (g [rd d, p.1]).bind fun r => r.st.map fun z => .nx ⟨fset s.fz i (some z), tdel p.2 i⟩
/-- a slot's thing frozen, by the proof alone -/
def mFrz (i : Nat) : SS → Option SS := fun s => (tget s.ow i).bind fun t => t.fz.map fun d => ⟨fset s.fz i (some d), tdel s.ow i⟩
def mPre (f : SS → Option SS) (m : MS) : MS := fun s => (f s).bind m
theorem sr_frz {m : MS} (h : SR X Pr st m) (i : Nat) : SR X Pr st (mPre (mFrz i) m) := ⟨fun s o em F H σ A D a k => by
  obtain ⟨s1, e1, em⟩ := Option.bind_eq_some_iff.mp em
  obtain ⟨t, e2, e3⟩ := Option.bind_eq_some_iff.mp e1
  obtain ⟨d, e4, e5⟩ := Option.map_eq_some_iff.mp e3
  subst e5
  obtain ⟨v, A1, A2, hv, ov, t', n, sb⟩ := a.ow.take a.cn.nd e2
  have c := a.cn.sub n sb
  obtain ⟨g2, c2, s2, h2⟩ := c.freeze
  have same : σ.set i (some v) = σ := by
    refine List.ext_getElem? fun j => ?_
    by_cases q : j = i
    · subst q
      obtain ⟨hl, _⟩ := List.getElem?_eq_some_iff.mp hv
      rw [List.getElem?_set_self hl, hv]
    · rw [List.getElem?_set_ne fun z => q z.symm]
  have rv := Own.rep s2 ov h2 e4
  obtain ⟨A3, t3, n3, s3⟩ := (t'.stay s2 fun _ _ _ q => q).del i c2.nd
  have td : ∀ (τ : Tau), tdel (tset τ i .hole) i = tdel τ i := fun τ => by
    induction τ with
    | nil =>
      show (if i = i then ([] : Tau) else _) = []
      rw [if_pos rfl]
    | cons p r ih =>
      obtain ⟨j, u⟩ := p
      show tdel (if j = i then (i, T.hole) :: r else (j, u) :: tset r i .hole) i = (if j = i then tdel r i else (j, u) :: tdel r i)
      by_cases q : j = i
      · rw [if_pos q, if_pos q]
        show (if i = i then tdel r i else _) = tdel r i
        rw [if_pos rfl]
      · rw [if_neg q, if_neg q]
        show (if j = i then tdel (tset r i .hole) i else (j, u) :: tdel (tset r i .hole) i) = _
        rw [if_neg q, ih]
  rw [td] at t3
  have f2 := (a.fz.mono s2).set rv i
  rw [same] at f2
  exact h.run _ o em _ H σ A3 D ⟨c2.sub n3 s3, f2, t3⟩ (k.behind (((Go.less sb).trans g2).trans (Go.less s3)) Agree.refl)⟩

def forL (ws : List Nat) (mt : MG) (body : MS) : List D → SS → Option Out
  | [], s => some (.nx s)
  | d :: ds, s => (mt d s.fz).bind fun fz => (body ⟨fz, tout ws s.ow⟩).bind fun o => match o with
    | .nx s1 => forL ws mt body ds s1
    | .ct s1 => forL ws mt body ds s1
    | .bk s1 => some (.nx s1)
    | .rt t s1 => some (.rt t s1)
def mFor (ws : List Nat) (mi : MXI) (mt : MG) (body : MS) : MS := fun s => (mi s).bind fun p => forL ws mt body p.1 p.2
theorem sr_for {ws : List Nat} {tg iter : Expr} {body : List Stmt} {mi : MI} {mt : MG} {mb : MS} (hp : PassesOwn (model X.prog X.w) X.A X.env X.xe) (hc : X.calm = true) (hi : IR X tg iter mi) (hg : GR X tg ws mt) (hb : SRs X Pr body mb)
    (hw : ∀ j ∈ ws, j ∉ Pr := by decide) (hs : ∀ x, foldedSetIterable iter X.env x = pure x := by intro _; rfl) : SR X Pr (.For tg iter body [] pos) (mFor ws (mXI mi) mt mb) := ⟨fun s o em F H σ A D a k => by
  obtain ⟨⟨ds, s1⟩, e1, em⟩ := Option.bind_eq_some_iff.mp em
  refine wS (ps_for hp hc piW pgW pssW hs) ((xi hi).run s ds s1 e1 F H σ A _ a fun F1 H1 A1 J g1 a1 src => ?_)
  have k1 := k.behind g1 (Agree.refl (σ := σ))
  refine ⟨fun i m σi Hi => m = ds.length - i ∧ i ≤ ds.length ∧ ∃ (Fi : Hp) (si : SS) (Ai : List Addr), forL ws mt mb (ds.drop i) si = some o ∧ Go F1 H1 A1 Fi Hi Ai ∧ SAt X.K Fi Hi σi si Ai ∧ Agree Pr σ σi,
    ⟨ds.length, by omega, Nat.zero_le _, F1, s1, A1, em, Go.refl, a1, Agree.refl⟩, ?_⟩
  rintro i m σi Hi ⟨rfl, hi', Fi, si, Ai, el, gi, ai, ag⟩
  have ki := k1.behind gi ag
  by_cases hlt : i < ds.length
  · refine .inr ?_
    have ei : ds[i]? = some ds[i] := List.getElem?_eq_getElem hlt
    refine ⟨src.go Fi Hi gi.ff ai.cn.fh same_noH i _ ei, fun σ' H' => ∃ (Fi : Hp) (si : SS) (Ai : List Addr), forL ws mt mb (ds.drop (i + 1)) si = some o ∧ Go F1 H1 A1 Fi H' Ai ∧ SAt X.K Fi H' σ' si Ai ∧ Agree Pr σ σ',
      fun σ' H' q => ⟨ds.length - (i + 1), by omega, rfl, hlt, q⟩, fun x H2 y => ?_⟩
    obtain ⟨F2, w1, rx⟩ := src.yld Fi Hi gi.ff ai.cn.fh same_noH i _ ei x H2 y
    obtain ⟨g2, c2⟩ := w1 noH Ai ai.cn
    have stand : ∀ (b : Addr) (u : HO), Hi b = some u → H2 b = some u := fun b u q => (w1 noH [] ⟨ai.cn.fh, same_noH, .nil, (fun _ z => nomatch z), (fun _ z => nomatch z), (fun _ z => nomatch z)⟩).1.keep b u (fun z => nomatch z) q
    have t2 := ai.ow.stay g2.ff fun b _ u q => stand b u q
    rw [List.drop_eq_getElem_cons hlt] at el
    obtain ⟨fz, f1, el⟩ := Option.bind_eq_some_iff.mp el
    obtain ⟨ob, f2, el⟩ := Option.bind_eq_some_iff.mp el
    refine hg.run _ _ fz f1 F2 H2 σi x _ rx c2.fh (ai.fz.mono g2.ff) fun σ2 o2 l2 k2 => ?_
    obtain ⟨A3, t3, n3, s3⟩ := t2.offs c2.nd ws k2
    have ag2 : Agree Pr σi σ2 := fun j m => k2 j fun z => hw j z m
    have g3 : Go Fi Hi Ai F2 H2 A3 := g2.trans (Go.less s3)
    refine hb.run _ ob f2 F2 H2 σ2 A3 _ ⟨c2.sub n3 s3, o2, t3⟩ ?_
    have k2' := ki.behind g3 ag2
    cases ob with
    | nx s4 => exact fun F' H' σ' A' g' a' e' => ⟨F', s4, A', el, (gi.trans g3).trans g', a', fun j m => ((e' j m).trans (ag2 j m)).trans (ag j m)⟩
    | ct s4 => exact fun F' H' σ' A' g' a' e' => ⟨F', s4, A', el, (gi.trans g3).trans g', a', fun j m => ((e' j m).trans (ag2 j m)).trans (ag j m)⟩
    | bk s4 =>
      cases el
      exact fun F' H' σ' A' g' a' e' => k2' F' H' σ' A' g' a' e'
    | rt t s4 =>
      cases el
      exact fun F' H' σ' v A1 A2 g' c o f t e' => k2' F' H' σ' v A1 A2 g' c o f t e'
  · have e : i = ds.length := by omega
    subst e
    rw [List.drop_length] at el
    cases el
    exact .inl ⟨src.stop Fi Hi gi.ff ai.cn.fh same_noH _ (Nat.le_refl _), ki Fi Hi σi Ai Go.refl ai Agree.refl⟩⟩
/-- while, so many turns at most -/
def whL (mc : MXB) (body : MS) : Nat → SS → Option Out
  | 0, _ => none
  | n + 1, s => (mc s).bind fun p => if p.1 = true then (body p.2).bind fun o => match o with
      | .nx s1 => whL mc body n s1
      | .ct s1 => whL mc body n s1
      | .bk s1 => some (.nx s1)
      | .rt t s1 => some (.rt t s1)
    else some (.nx p.2)
def mWhile (n : Nat) (mc : MXB) (body : MS) : MS := fun s => whL mc body n s
end
end Tl

namespace Tl
open PySem PySem.Spec PyProof.Rows L2

/-- a def's mirror: its arguments, the result and the arguments as they are behind -/
abbrev MF := List T → Option (T × List T)
def spM (K : PySem.W.Frag) (n : Nat) (m : MF) : Sp := fun vs H Q _ => vs.length = n ∧ ∃ (F : Hp) (A : List Addr) (ts : List T) (r : T) (ts' : List T), Cn F noH H A ∧ OwnL K F H vs ts A ∧ m ts = some (r, ts') ∧
  ∀ (F' H' : Hp) (v : V) (A1 A2 : List Addr), Go F H A F' H' (A1 ++ A2) → Cn F' noH H' (A1 ++ A2) → Own K F' H' v r A1 → OwnL K F' H' vs ts' A2 → Q v H'
def inFz : List Bool → List T → Option Fz
  | [], [] => some []
  | true :: ks, _ :: ts => (inFz ks ts).map (none :: ·)
  | false :: ks, .leaf d :: ts => (inFz ks ts).map (some d :: ·)
  | _, _ => none
def inTau : Nat → List Bool → List T → Tau
  | i, true :: ks, t :: ts => (i, t) :: inTau (i + 1) ks ts
  | i, false :: ks, _ :: ts => inTau (i + 1) ks ts
  | _, _, _ => []
def outT : Nat → List Bool → List T → Tau → Option (List T)
  | _, [], [], _ => some []
  | i, true :: ks, _ :: ts, τ => (tget τ i).bind fun t => (outT (i + 1) ks ts (tset τ i .hole)).map (t :: ·)
  | i, false :: ks, t :: ts, τ => (outT (i + 1) ks ts τ).map (t :: ·)
  | _, _, _, _ => none
def outP : Nat → List Bool → List Nat
  | _, [] => []
  | i, true :: ks => i :: outP (i + 1) ks
  | i, false :: ks => outP (i + 1) ks
def mFn (ks : List Bool) (n : Nat) (body : MS) : MF := fun ts => (inFz ks ts).bind fun fz => (body ⟨fz ++ List.replicate (n - ks.length) none, inTau 0 ks ts⟩).bind fun o => match o with
  | .rt t s => (outT 0 ks ts s.ow).map fun ts' => (t, ts')
  | .nx s => (outT 0 ks ts s.ow).map fun ts' => (.leaf .none, ts')
  | _ => none
section
variable {K : PySem.W.Frag} {F F' H H' : Hp} {σ : L2.St}
theorem inFz_ok : ∀ {ks : List Bool} {vs : List V} {ts : List T} {A : List Addr} {fz : Fz}, OwnL K F H vs ts A → inFz ks ts = some fz → fz.length = vs.length ∧ ks.length = vs.length ∧ ∀ i d, fget fz i = some d → ∃ v, vs[i]? = some v ∧ Rep K F v d
  | [], _, _, _, _, .nil, e => by
    cases e
    exact ⟨rfl, rfl, fun i d h => nomatch h⟩
  | [], _, _, _, _, .cons _ _, e => nomatch e
  | true :: _, _, _, _, _, .nil, e => nomatch e
  | false :: _, _, _, _, _, .nil, e => nomatch e
  | true :: ks, _, t :: ts, _, _, .cons o tt, e => by
    have e' : (inFz ks ts).map (none :: ·) = some _ := e
    obtain ⟨f, e1, e2⟩ := Option.map_eq_some_iff.mp e'
    subst e2
    obtain ⟨h1, h2, h3⟩ := inFz_ok tt e1
    refine ⟨congrArg (· + 1) h1, congrArg (· + 1) h2, fun i d h => ?_⟩
    cases i with
    | zero => cases h
    | succ i => exact h3 i d h
  | false :: ks, _, t :: ts, _, _, .cons o tt, e => by
    cases t with
    | leaf d0 =>
      have e' : (inFz ks ts).map (some d0 :: ·) = some _ := e
      obtain ⟨f, e1, e2⟩ := Option.map_eq_some_iff.mp e'
      subst e2
      obtain ⟨h1, h2, h3⟩ := inFz_ok tt e1
      refine ⟨congrArg (· + 1) h1, congrArg (· + 1) h2, fun i d h => ?_⟩
      cases i with
      | zero =>
        cases h
        cases o with
        | leaf r => exact ⟨_, rfl, r⟩
      | succ i => exact h3 i d h
    | _ => cases e
theorem inTau_ok : ∀ {ks : List Bool} {vs : List V} {ts : List T} {A : List Addr} {fz : Fz} (j : Nat), OwnL K F H vs ts A → inFz ks ts = some fz → (∀ i v, vs[i]? = some v → σ[j + i]? = some (some v)) → TauOk K F H σ (inTau j ks ts) A
  | [], _, _, _, _, j, .nil, e, h => .nil
  | [], _, _, _, _, j, .cons _ _, e, h => nomatch e
  | true :: _, _, _, _, _, j, .nil, e, h => nomatch e
  | false :: _, _, _, _, _, j, .nil, e, h => nomatch e
  | true :: ks, v :: vs, t :: ts, _, _, j, .cons o tt, e, h => by
    have e' : (inFz ks ts).map (none :: ·) = some _ := e
    obtain ⟨f, e1, e2⟩ := Option.map_eq_some_iff.mp e'
    exact .cons (h 0 v rfl) o (inTau_ok (j + 1) tt e1 fun i w q => by
      rw [show j + 1 + i = j + (i + 1) by omega]
      exact h (i + 1) w q)
  | false :: ks, v :: vs, t :: ts, _, _, j, .cons o tt, e, h => by
    cases t with
    | leaf d0 =>
      have e' : (inFz ks ts).map (some d0 :: ·) = some _ := e
      obtain ⟨f, e1, e2⟩ := Option.map_eq_some_iff.mp e'
      cases o with
      | leaf r =>
        exact inTau_ok (j + 1) tt e1 fun i w q => by
          rw [show j + 1 + i = j + (i + 1) by omega]
          exact h (i + 1) w q
    | _ => cases e
theorem outT_ok : ∀ {ks : List Bool} {vs : List V} {ts ts' : List T} {A A0 : List Addr} {F0 H0 : Hp} {fz : Fz} {τ : Tau} (j : Nat), OwnL K F0 H0 vs ts A0 → Same F0 F → inFz ks ts = some fz → TauOk K F H σ τ A → A.Nodup →
    (∀ i v, vs[i]? = some v → j + i ∈ outP j ks → σ[j + i]? = some (some v)) → outT j ks ts τ = some ts' → ∃ A', OwnL K F H vs ts' A' ∧ A'.Nodup ∧ ∀ a ∈ A', a ∈ A
  | [], _, _, _, _, _, _, _, _, _, j, .nil, s, e, t, n, h, w => by
    cases w
    exact ⟨[], .nil, .nil, fun _ m => nomatch m⟩
  | [], _, _, _, _, _, _, _, _, _, j, .cons _ _, s, e, t, n, h, w => nomatch e
  | true :: _, _, _, _, _, _, _, _, _, _, j, .nil, s, e, t, n, h, w => nomatch e
  | false :: _, _, _, _, _, _, _, _, _, _, j, .nil, s, e, t, n, h, w => nomatch e
  | true :: ks, v :: vs, t0 :: ts, _, _, _, _, _, _, τ, j, .cons o tt, s, e, t, n, h, w => by
    have e' : (inFz ks ts).map (none :: ·) = some _ := e
    obtain ⟨f, e1, e2⟩ := Option.map_eq_some_iff.mp e'
    have w' : (tget τ j).bind (fun t => (outT (j + 1) ks ts (tset τ j .hole)).map (t :: ·)) = some _ := w
    obtain ⟨t1, e3, w'⟩ := Option.bind_eq_some_iff.mp w'
    obtain ⟨ts1, e4, e5⟩ := Option.map_eq_some_iff.mp w'
    subst e5
    obtain ⟨u, A1, A2, hu, ou, t2, n2, s2⟩ := t.take n e3
    have hv : σ[j]? = some (some v) := h 0 v rfl (by show j ∈ j :: outP (j + 1) ks; exact List.mem_cons_self)
    rw [hu] at hv
    cases hv
    obtain ⟨A3, o3, n3, s3⟩ := outT_ok (j + 1) tt s e1 t2 (List.nodup_append.mp n2).2.1 (fun i x q m => by
      have := h (i + 1) x q (by
        show j + (i + 1) ∈ j :: outP (j + 1) ks
        rw [show j + (i + 1) = j + 1 + i by omega]
        exact List.mem_cons_of_mem _ m)
      rw [show j + 1 + i = j + (i + 1) by omega]
      exact this) e4
    refine ⟨A1 ++ A3, .cons ou o3, List.nodup_append.mpr ⟨(List.nodup_append.mp n2).1, n3, fun a m b m' => (List.nodup_append.mp n2).2.2 a m b (s3 b m')⟩, fun a m => ?_⟩
    rcases List.mem_append.mp m with z | z
    · exact s2 a (List.mem_append_left _ z)
    · exact s2 a (List.mem_append_right _ (s3 a z))
  | false :: ks, v :: vs, t0 :: ts, _, _, _, _, _, _, τ, j, .cons o tt, s, e, t, n, h, w => by
    cases t0 with
    | leaf d0 =>
      have e' : (inFz ks ts).map (some d0 :: ·) = some _ := e
      obtain ⟨f, e1, e2⟩ := Option.map_eq_some_iff.mp e'
      have w' : (outT (j + 1) ks ts τ).map (T.leaf d0 :: ·) = some _ := w
      obtain ⟨ts1, e4, e5⟩ := Option.map_eq_some_iff.mp w'
      subst e5
      obtain ⟨A3, o3, n3, s3⟩ := outT_ok (j + 1) tt s e1 t n (fun i x q m => by
        have := h (i + 1) x q (by
          show j + (i + 1) ∈ outP (j + 1) ks
          rw [show j + (i + 1) = j + 1 + i by omega]
          exact m)
        rw [show j + 1 + i = j + (i + 1) by omega]
        exact this) e4
      cases o with
      | leaf r => exact ⟨[] ++ A3, .cons (.leaf (r.mono s)) o3, n3, s3⟩
    | _ => cases e
end
/-- a def that is called by its name -/
structure Fm (P : Program) (w : World) (K : PySem.W.Frag) (mg : Str → Option Value) (base : Heap) (k : Nat) (x : Str) (n : Nat) (m : MF) : Prop where
  ex : ∃ (f : Addr) (fd : FuncData) (ps : List Str), FnG P w K mg base CX0 k f fd ps (spM K n m) ∧ mg x = some (.ref f) ∧ PySem.W.keepIn K (.ref f) = true ∧ Binds K fd ps []
theorem fget_rep : ∀ {k i : Nat} {d : D}, fget (List.replicate k none) i = some d → False
  | 0, i, d, h => nomatch h
  | k + 1, 0, d, h => nomatch (show (none : Option D) = some d from h)
  | k + 1, i + 1, d, h => fget_rep (k := k) (i := i) h
theorem fgetA : ∀ {f : Fz} {k i : Nat} {d : D}, fget (f ++ List.replicate k none) i = some d → fget f i = some d
  | [], k, i, d, h => (fget_rep (k := k) (i := i) h).elim
  | x :: r, k, 0, d, h => h
  | x :: r, k, i + 1, d, h => fgetA (f := r) (k := k) (i := i) h
section
variable {P : Program} {w : World} {K : PySem.W.Frag} {mg : Str → Option Value} {base : Heap}
theorem wpB_nox {X : Cx} {sts : List Stmt} {D : Ends} {σ : L2.St} {H : Hp} (h : wpB X.nox sts D σ H) : wpB X sts D σ H := wB (PSs.nox pssW) h
theorem fm_of {x : Str} {st : Stmt} {f : Addr} {fd : FuncData} {N ps : List Str} {k : Nat} (F : Fun K x x st f fd) (S : FnScope N ps (defScope st)) (hb : Binds K fd ps []) (hm : mg x = some (.ref f)) (ks : List Bool) (hk : ks.length = ps.length)
    {mb : MS} (body : ∀ (cdv : Value) (Ar : Around) (up : List Env) (s : Shared) (H : Hp) (E : XK), RmG k (Ar.deeper (envOfC x (defScope st) s.heap.objs.size f cdv)) →
      SRs (cxOf CX0 P w K mg base N x (defScope st) f cdv Ar up s H E).nox (outP 0 ks) (defBody st) mb) : Fm P w K mg base (k + 1) x ps.length (mFn ks N.length mb) := by
  refine ⟨f, fd, ps, defG F S (fun vs H Q E h => h.1) fun cdv Ar up s H vs Q E hr h => ?_, hm, F.kp, hb⟩
  obtain ⟨hl, Fz0, A, ts, r, ts', c, o, em, kk⟩ := h
  obtain ⟨fz, e1, em⟩ := Option.bind_eq_some_iff.mp em
  obtain ⟨out, e2, em⟩ := Option.bind_eq_some_iff.mp em
  obtain ⟨l1, l2, l3⟩ := inFz_ok o e1
  have hN : ps.length ≤ N.length := by
    have := congrArg List.length S.pre
    rw [List.length_take] at this
    omega
  have slen : (L2.start N vs).length = N.length := by
    unfold L2.start
    rw [List.length_append, List.length_map, List.length_replicate]
    omega
  have sat : ∀ i v, vs[i]? = some v → (L2.start N vs)[i]? = some (some v) := fun i v q => by
    have hi : i < vs.length := (List.getElem?_eq_some_iff.mp q).1
    unfold L2.start
    rw [List.getElem?_append_left (by rw [List.length_map]; exact hi), List.getElem?_map, q]
    rfl
  have fok : FzOk K Fz0 (L2.start N vs) (fz ++ List.replicate (N.length - ks.length) none) := by
    refine ⟨by rw [List.length_append, List.length_replicate, slen]; omega, fun i d q => ?_⟩
    obtain ⟨v, q1, q2⟩ := l3 i d (fgetA q)
    exact ⟨v, sat i v q1, q2⟩
  have tok : TauOk K Fz0 H (L2.start N vs) (inTau 0 ks ts) A := inTau_ok 0 o e1 fun i v q => by
    rw [Nat.zero_add]
    exact sat i v q
  have back : ∀ {F' H' : Hp} {σ' : L2.St} {τ : Tau} {A1 A2 : List Addr} {v : V} {r0 : T}, Go Fz0 H A F' H' (A1 ++ A2) → Cn F' noH H' (A1 ++ A2) → Own K F' H' v r0 A1 → TauOk K F' H' σ' τ A2 → Agree (outP 0 ks) (L2.start N vs) σ' →
      r = r0 → outT 0 ks ts τ = some ts' → Q v H' := fun {F' H' σ' τ A1 A2 v r0} g c' ov t ag er eo => by
    subst er
    obtain ⟨A3, o3, n3, s3⟩ := outT_ok 0 o g.ff e1 t c'.right.nd (fun i u q m => by
      rw [Nat.zero_add] at m ⊢
      rw [ag i m]
      exact sat i u q) eo
    have sub : ∀ a ∈ A1 ++ A3, a ∈ A1 ++ A2 := fun a m => (List.mem_append.mp m).elim (fun z => List.mem_append_left _ z) fun z => List.mem_append_right _ (s3 a z)
    have nd : (A1 ++ A3).Nodup := List.nodup_append.mpr ⟨c'.left.nd, n3, fun a m b m' e => c'.apart a m (e ▸ s3 b m')⟩
    exact kk F' H' v A1 A3 (g.trans (Go.less sub)) (c'.sub nd sub) ov o3
  refine wpB_nox ((body cdv Ar up s H E hr).run _ out e2 Fz0 H (L2.start N vs) A _ ⟨c, fok, tok⟩ ?_)
  cases out with
  | nx s1 =>
    obtain ⟨t1, e3, e4⟩ := Option.map_eq_some_iff.mp em
    cases e4
    exact fun F' H' σ' A' g a' ag => back (A1 := []) (A2 := A') g a'.cn (.leaf .non) a'.ow ag rfl e3
  | rt t s1 =>
    obtain ⟨t1, e3, e4⟩ := Option.map_eq_some_iff.mp em
    cases e4
    exact fun F' H' σ' v A1 A2 g c' ov f' t' ag => back g c' ov t' ag rfl e3
  | bk s1 => cases em
  | ct s1 => cases em
end

inductive CArg where
  | d (d : D)
  | io (j : Nat)
  | ow (t : T)
abbrev MCA := Ro → Tau → Option (List CArg × Tau)
section
variable (K : PySem.W.Frag)
/-- G: where what is handed frozen lies -/
inductive CsOk (G F H : Hp) (σ : L2.St) : List CArg → List V → List Addr → Prop
  | nil : CsOk G F H σ [] [] []
  | d {v : V} {d : D} {cs : List CArg} {vs : List V} {A : List Addr} : Rep K G v d → CsOk G F H σ cs vs A → CsOk G F H σ (.d d :: cs) (v :: vs) A
  | io {v : V} {j : Nat} {cs : List CArg} {vs : List V} {A : List Addr} : σ[j]? = some (some v) → CsOk G F H σ cs vs A → CsOk G F H σ (.io j :: cs) (v :: vs) A
  | ow {v : V} {t : T} {cs : List CArg} {vs : List V} {A A' : List Addr} : Own K F H v t A' → CsOk G F H σ cs vs A → CsOk G F H σ (.ow t :: cs) (v :: vs) (A' ++ A)
structure CAV (bor : Bool) (wp : L2.St → Hp → (List V → Hp → Prop) → Prop) (n : Nat) (m : MCA) : Prop where
  len : ∀ (ro : Ro) (τ : Tau) (r : List CArg) (τ' : Tau), m ro τ = some (r, τ') → r.length = n
  run : ∀ (ro : Ro) (τ : Tau) (r : List CArg) (τ' : Tau), m ro τ = some (r, τ') → ∀ (F B H : Hp) (σ : L2.St) (A : List Addr) (Q : List V → Hp → Prop), At K F B H σ ro τ A →
    (∀ (F' H' : Hp) (v : List V) (A1 A2 : List Addr), Go F H A F' H' (A1 ++ A2) → Cn F' B H' (A1 ++ A2) → CsOk K (if bor = true then H' else F') F' H' σ r v A1 → TauOk K F' H' σ τ' A2 → Q v H') → wp σ H Q
end
theorem CsOk.stay {K : PySem.W.Frag} {G G' F F' H H' : Hp} {σ : L2.St} (g : Same G G') (s : Same F F') : ∀ {cs : List CArg} {vs : List V} {A : List Addr}, CsOk K G F H σ cs vs A → (∀ a ∈ A, ∀ o, H a = some o → H' a = some o) → CsOk K G' F' H' σ cs vs A
  | _, _, _, .nil, _ => .nil
  | _, _, _, .d r t, k => .d (r.mono g) (CsOk.stay g s t k)
  | _, _, _, .io r t, k => .io r (CsOk.stay g s t k)
  | _, _, _, .ow o t, k => .ow (o.stay s fun a m => k a (List.mem_append_left _ m)) (CsOk.stay g s t fun a m => k a (List.mem_append_right _ m))
theorem CsOk.length {K : PySem.W.Frag} {G F H : Hp} {σ : L2.St} : ∀ {cs : List CArg} {vs : List V} {A : List Addr}, CsOk K G F H σ cs vs A → vs.length = cs.length
  | _, _, _, .nil => rfl
  | _, _, _, .d r t => congrArg (· + 1) (CsOk.length t)
  | _, _, _, .io r t => congrArg (· + 1) (CsOk.length t)
  | _, _, _, .ow r t => congrArg (· + 1) (CsOk.length t)
abbrev CA (X : Cx) (bor : Bool) (es : List Expr) (m : MCA) : Prop := CAV X.K bor (wpA X es) es.length m
section
variable {X : Cx} {e : Expr} {es : List Expr} {bor : Bool}
def cNil : MCA := fun _ τ => some ([], τ)
def cCons (m : MV) (l : MCA) : MCA := fun ro τ => (m ro τ).bind fun p => p.1.st.bind fun d => (l ro p.2).map fun q => (.d d :: q.1, q.2)
/-- .. seen through a glass -/
def cSee (m : MV) (l : MCA) : MCA := fun ro τ => (m ro τ).bind fun p => p.1.er.bind fun d => (l ro p.2).map fun q => (.d d :: q.1, q.2)
def cIo (j : Nat) (l : MCA) : MCA := fun ro τ => (tget τ j).bind fun _ => (l ro τ).map fun q => (.io j :: q.1, q.2)
/-- a new thing, handed over -/
def cOw (m : MV) (l : MCA) : MCA := fun ro τ => (m ro τ).bind fun p => match p.1 with
  | .val t => (l ro p.2).map fun q => (.ow t :: q.1, q.2)
  | .vw _ => none
theorem ca_nil : CA X bor [] cNil := ⟨fun ro τ r τ' em => by cases em; rfl, fun ro τ r τ' em F B H σ A Q a k => by
  cases em
  exact wA pa_nil (k F H [] [] A Go.refl a.cn .nil a.tau)⟩
theorem ca_cons {m : MV} {l : MCA} (h : ER X e m) (t : CA X bor es l) (hs : starEach (e :: es) X.env = (false, eval e X.env) :: starEach es X.env := by rfl) : CA X bor (e :: es) (cCons m l) := by
  refine ⟨fun ro τ r τ' em => ?_, fun ro τ r τ' em F B H σ A Q a k => ?_⟩
  · obtain ⟨⟨z, τ1⟩, e1, em⟩ := Option.bind_eq_some_iff.mp em
    obtain ⟨d, e2, em⟩ := Option.bind_eq_some_iff.mp em
    obtain ⟨⟨cs, τ2⟩, e3, em⟩ := Option.map_eq_some_iff.mp em
    cases em
    show cs.length + 1 = es.length + 1
    rw [t.len _ _ _ _ e3]
  · obtain ⟨⟨z, τ1⟩, e1, em⟩ := Option.bind_eq_some_iff.mp em
    obtain ⟨d, e2, em⟩ := Option.bind_eq_some_iff.mp em
    obtain ⟨⟨cs, τ2⟩, e3, em⟩ := Option.map_eq_some_iff.mp em
    cases em
    refine wA (pa_cons peW paW hs) (h.run ro τ z τ1 e1 F B H σ A _ a fun F1 H1 v A1 A2 g1 c1 o1 t1 => ?_)
    obtain ⟨F2, g2, c2, s2, rv⟩ := o1.freeze c1 e2
    refine t.run ro τ1 cs _ e3 F2 B H1 σ A2 _ (a.next0 (g1.trans g2) c2 (t1.stay s2 fun _ _ _ q => q)) fun F3 H3 vs A3 A4 g3 c3 o3 t3 => ?_
    refine k F3 H3 (v :: vs) A3 A4 ((g1.trans g2).trans g3) c3 (.d ?_ o3) t3
    cases bor with
    | true => exact (rv.mono g3.ff).mono c3.fh
    | false => exact rv.mono g3.ff
/-- what is not owned stands -/
theorem same_of {F B H H' F' : Hp} {A A2 : List Addr} (g : Go F H A F' H' A2) {G : Hp} (s : Same G H) (n : ∀ a ∈ A, G a = none) : Same G H' := fun b o q => g.keep b o (fun m => by rw [n b m] at q; cases q) (s b o q)
theorem ca_see {m : MV} {l : MCA} (h : ER X e m) (t : CA X true es l) (hs : starEach (e :: es) X.env = (false, eval e X.env) :: starEach es X.env := by rfl) : CA X true (e :: es) (cSee m l) := by
  refine ⟨fun ro τ r τ' em => ?_, fun ro τ r τ' em F B H σ A Q a k => ?_⟩
  · obtain ⟨⟨z, τ1⟩, e1, em⟩ := Option.bind_eq_some_iff.mp em
    obtain ⟨d, e2, em⟩ := Option.bind_eq_some_iff.mp em
    obtain ⟨⟨cs, τ2⟩, e3, em⟩ := Option.map_eq_some_iff.mp em
    cases em
    show cs.length + 1 = es.length + 1
    rw [t.len _ _ _ _ e3]
  · obtain ⟨⟨z, τ1⟩, e1, em⟩ := Option.bind_eq_some_iff.mp em
    obtain ⟨d, e2, em⟩ := Option.bind_eq_some_iff.mp em
    obtain ⟨⟨cs, τ2⟩, e3, em⟩ := Option.map_eq_some_iff.mp em
    cases em
    refine wA (pa_cons peW paW hs) (h.run ro τ z τ1 e1 F B H σ A _ a fun F1 H1 v A1 A2 g1 c1 o1 t1 => ?_)
    -- what is read lies in G: all that A2 does not own
    let G : Hp := fun b => if b ∈ A2 then none else H1 b
    have inG : ∀ b o, b ∉ A2 → H1 b = some o → G b = some o := fun b o n q => by
      show (if b ∈ A2 then none else H1 b) = some o
      rw [if_neg n]
      exact q
    have gH : Same G H1 := fun b o q => by
      have q' : (if b ∈ A2 then none else H1 b) = some o := q
      by_cases n : b ∈ A2
      · rw [if_pos n] at q'
        cases q'
      · rw [if_neg n] at q'
        exact q'
    have nG : ∀ b ∈ A2, G b = none := fun b m => by
      show (if b ∈ A2 then none else H1 b) = none
      rw [if_pos m]
    have rv : Rep X.K G v d := o1.rep (fun b o q => inG b o (fun m => by rw [c1.fa b (List.mem_append_right _ m)] at q; cases q) (c1.fh b o q))
      (fun b o q => inG b o (fun m => by rw [c1.ba b (List.mem_append_right _ m)] at q; cases q) (c1.bh b o q)) (fun b m o q => inG b o (c1.apart b m) q) e2
    refine t.run ro τ1 cs _ e3 F1 B H1 σ A2 _ (a.next g1 c1 t1) fun F3 H3 vs A3 A4 g3 c3 o3 t3 => ?_
    exact k F3 H3 (v :: vs) A3 A4 ((g1.trans (Go.less fun _ m => List.mem_append_right _ m)).trans g3) c3 (.d (rv.mono (same_of (B := B) g3 gH nG)) o3) t3
theorem ca_io {j : Nat} {l : MCA} (h : PE X e (tVar j)) (t : CA X false es l) (hs : starEach (e :: es) X.env = (false, eval e X.env) :: starEach es X.env := by rfl) : CA X false (e :: es) (cIo j l) := by
  refine ⟨fun ro τ r τ' em => ?_, fun ro τ r τ' em F B H σ A Q a k => ?_⟩
  · obtain ⟨u, e0, em⟩ := Option.bind_eq_some_iff.mp em
    obtain ⟨⟨cs, τ2⟩, e3, em⟩ := Option.map_eq_some_iff.mp em
    cases em
    show cs.length + 1 = es.length + 1
    rw [t.len _ _ _ _ e3]
  · obtain ⟨u, e0, em⟩ := Option.bind_eq_some_iff.mp em
    obtain ⟨⟨cs, τ2⟩, e3, em⟩ := Option.map_eq_some_iff.mp em
    cases em
    obtain ⟨v, A1, A2, hv, _⟩ := a.tau.take a.cn.nd e0
    refine wA (pa_cons h paW hs) ⟨v, hv, t.run ro τ cs _ e3 F B H σ A _ a fun F3 H3 vs A3 A4 g3 c3 o3 t3 => ?_⟩
    exact k F3 H3 (v :: vs) A3 A4 g3 c3 (.io hv o3) t3
def buildT : List CArg → Tau → Option (List T × Tau)
  | [], τ => some ([], τ)
  | .d d :: cs, τ => (buildT cs τ).map fun p => (.leaf d :: p.1, p.2)
  | .ow t :: cs, τ => (buildT cs τ).map fun p => (t :: p.1, p.2)
  | .io j :: cs, τ => (tget τ j).bind fun t => (buildT cs (tset τ j .hole)).map fun p => (t :: p.1, p.2)
def backT : List CArg → List T → Tau → Option Tau
  | [], [], τ => some τ
  | .d _ :: cs, _ :: ts, τ => backT cs ts τ
  | .ow _ :: cs, _ :: ts, τ => backT cs ts τ
  | .io j :: cs, t :: ts, τ => (backT cs ts τ).map fun τ' => tset τ' j t
  | _, _, _ => none
variable {K : PySem.W.Frag} {F H : Hp} {σ : L2.St}
theorem buildT_ok : ∀ {cs : List CArg} {vs : List V} {τ τ1 : Tau} {ts : List T} {A0 A : List Addr}, CsOk K F F H σ cs vs A0 → TauOk K F H σ τ A → (A0 ++ A).Nodup → buildT cs τ = some (ts, τ1) →
    ∃ A1 A2, OwnL K F H vs ts A1 ∧ TauOk K F H σ τ1 A2 ∧ (A1 ++ A2).Nodup ∧ ∀ a ∈ A1 ++ A2, a ∈ A0 ++ A
  | _, _, τ, _, _, _, A, .nil, t, n, e => by
    cases e
    exact ⟨[], A, .nil, t, n, fun _ m => m⟩
  | .d d :: cs, _, τ, _, _, _, A, .d r c, t, n, e => by
    obtain ⟨⟨ts, τ2⟩, e1, e2⟩ := Option.map_eq_some_iff.mp (show (buildT cs τ).map _ = some _ from e)
    cases e2
    obtain ⟨A1, A2, o, t', n', s'⟩ := buildT_ok c t n e1
    exact ⟨[] ++ A1, A2, .cons (.leaf r) o, t', n', s'⟩
  | .ow u :: cs, _, τ, _, _, _, A, .ow (A := Ab) (A' := Aa) r c, t, n, e => by
    obtain ⟨⟨ts, τ2⟩, e1, e2⟩ := Option.map_eq_some_iff.mp (show (buildT cs τ).map _ = some _ from e)
    cases e2
    rw [List.append_assoc] at n
    obtain ⟨n1, n2, n3⟩ := List.nodup_append.mp n
    obtain ⟨A1, A2, o, t', n', s'⟩ := buildT_ok c t n2 e1
    refine ⟨Aa ++ A1, A2, .cons r o, t', ?_, fun a m => ?_⟩
    · rw [List.append_assoc]
      exact List.nodup_append.mpr ⟨n1, n', fun a m b m' => n3 a m b (s' b m')⟩
    · rw [List.append_assoc] at m ⊢
      rcases List.mem_append.mp m with z | z
      · exact List.mem_append_left _ z
      · exact List.mem_append_right _ (s' a z)
  | .io j :: cs, v :: vs, τ, _, _, A0, A, .io hv c, t, n, e => by
    obtain ⟨u, e0, e⟩ := Option.bind_eq_some_iff.mp (show (tget τ j).bind _ = some _ from e)
    obtain ⟨⟨ts, τ2⟩, e1, e2⟩ := Option.map_eq_some_iff.mp e
    cases e2
    obtain ⟨m1, m2, m3⟩ := List.nodup_append.mp n
    obtain ⟨w, A1, A2, hw, o, t2, n2, s2⟩ := t.take m2 e0
    rw [hv] at hw
    cases hw
    obtain ⟨n3, n4, n5⟩ := List.nodup_append.mp n2
    obtain ⟨A3, A4, o4, t4, n6, s4⟩ := buildT_ok c t2 (List.nodup_append.mpr ⟨m1, n4, fun a m b m' => m3 a m b (s2 b (List.mem_append_right _ m'))⟩) e1
    have in1 : ∀ a ∈ A1, a ∈ A := fun a m => s2 a (List.mem_append_left _ m)
    refine ⟨A1 ++ A3, A4, .cons o o4, t4, ?_, fun a m => ?_⟩
    · rw [List.append_assoc]
      refine List.nodup_append.mpr ⟨n3, n6, fun a m b m' => ?_⟩
      rcases List.mem_append.mp (s4 b m') with z | z
      · exact fun q => m3 b z a (in1 a m) q.symm
      · exact n5 a m b z
    · rw [List.append_assoc] at m
      rcases List.mem_append.mp m with z | z
      · exact List.mem_append_right _ (in1 a z)
      · rcases List.mem_append.mp (s4 a z) with z | z
        · exact List.mem_append_left _ z
        · exact List.mem_append_right _ (s2 a (List.mem_append_right _ z))
theorem backT_ok : ∀ {cs : List CArg} {G0 F0 H0 : Hp} {vs : List V} {τ τ' : Tau} {ts : List T} {A0 A1 A2 : List Addr}, CsOk K G0 F0 H0 σ cs vs A0 → OwnL K F H vs ts A1 → TauOk K F H σ τ A2 → (A1 ++ A2).Nodup → backT cs ts τ = some τ' → ∃ A', TauOk K F H σ τ' A' ∧ A'.Nodup ∧ ∀ a ∈ A', a ∈ A1 ++ A2
  | _, _, _, _, _, τ, _, _, _, _, A2, .nil, .nil, t, n, e => by
    cases e
    exact ⟨A2, t, n, fun _ m => m⟩
  | .d d :: cs, _, _, _, _, τ, _, t0 :: ts, _, _, A2, .d r c, .cons (A := Aa) (B := Ab) o os, t, n, e => by
    rw [List.append_assoc] at n
    obtain ⟨A', t', n', s'⟩ := backT_ok c os t (List.nodup_append.mp n).2.1 (show backT cs ts τ = some _ from e)
    refine ⟨A', t', n', fun a m => ?_⟩
    rw [List.append_assoc]
    exact List.mem_append_right _ (s' a m)
  | .ow d :: cs, _, _, _, _, τ, _, t0 :: ts, _, _, A2, .ow r c, .cons (A := Aa) (B := Ab) o os, t, n, e => by
    rw [List.append_assoc] at n
    obtain ⟨A', t', n', s'⟩ := backT_ok c os t (List.nodup_append.mp n).2.1 (show backT cs ts τ = some _ from e)
    refine ⟨A', t', n', fun a m => ?_⟩
    rw [List.append_assoc]
    exact List.mem_append_right _ (s' a m)
  | .io j :: cs, _, _, _, _, τ, _, t0 :: ts, _, _, A2, .io hv c, .cons (A := Aa) (B := Ab) o os, t, n, e => by
    obtain ⟨τ2, e1, e2⟩ := Option.map_eq_some_iff.mp (show (backT cs ts τ).map _ = some _ from e)
    subst e2
    rw [List.append_assoc] at n
    obtain ⟨n1, n2, n3⟩ := List.nodup_append.mp n
    obtain ⟨A', t', n', s'⟩ := backT_ok c os t n2 e1
    obtain ⟨A3, t3, n4, s3⟩ := t'.put hv o (List.nodup_append.mpr ⟨n1, n', fun a m b m' => n3 a m b (s' b m')⟩)
    refine ⟨A3, t3, n4, fun a m => ?_⟩
    rw [List.append_assoc]
    rcases List.mem_append.mp (s3 a m) with z | z
    · exact List.mem_append_left _ z
    · exact List.mem_append_right _ (s' a z)
/-- f(..), f a def of the text -/
def mCall (m : MF) (l : MCA) : MV := fun ro τ => (l ro τ).bind fun p => (buildT p.1 p.2).bind fun q => (m q.1).bind fun r => (backT p.1 r.2 q.2).map fun τ' => (.val r.1, τ')
def isScal : T → Bool
  | .leaf .none => true
  | .leaf (.bool _) => true
  | .leaf (.int _) => true
  | .leaf (.str _) => true
  | _ => false
def leafs : List CArg → Option (List T)
  | [] => some []
  | .d d :: cs => (leafs cs).map (.leaf d :: ·)
  | .io _ :: _ => none
  | .ow _ :: _ => none
/-- .. that only looks at its arguments and tells a scalar -/
def mLook (m : MF) (l : MCA) : MV := fun ro τ => (l ro τ).bind fun p => (leafs p.1).bind fun ts => (m ts).bind fun r => if isScal r.1 = true then some (.val r.1, p.2) else none
theorem scal_rep {v : V} {t : T} {A : List Addr} (h : isScal t = true) (o : Own K F H v t A) : A = [] ∧ ∀ F' H' : Hp, Own K F' H' v t [] := by
  cases o with
  | leaf r =>
    cases r with
    | non => exact ⟨rfl, fun _ _ => .leaf .non⟩
    | bl b => exact ⟨rfl, fun _ _ => .leaf (.bl b)⟩
    | int i => exact ⟨rfl, fun _ _ => .leaf (.int i)⟩
    | str x => exact ⟨rfl, fun _ _ => .leaf (.str x)⟩
    | _ => cases h
  | _ => cases h
variable {x : Str} {p pos : Pos} {k n : Nat} {m : MF} {l : MCA}
theorem er_call (c : Fm X.prog X.w X.K X.mg X.base k x n m) {j : Nat} (hr : RmG j X.A) (ha : CA X false (e :: es) l) (hkj : k ≤ j := by decide) (hn : (e :: es).length = n := by rfl) (hg : Gl X x := by rfl) (hdb : (x == ("__debug__" : Str)) = false := by decide)
    (he : starEach (e :: es) X.env = (false, eval e X.env) :: starEach es X.env := by rfl) (hpl : (backTo pos (starEach es X.env)).any (·.1) = false := by rfl) : ER X (.Call (.Name x p) (e :: es) [] pos) (mCall m l) := ⟨fun ro τ r τ' em F B H σ A Q a kk => by
  obtain ⟨f, fd, ps, G, hm, hk, hb⟩ := c.ex
  obtain ⟨⟨cs, τ1⟩, e1, em⟩ := Option.bind_eq_some_iff.mp em
  obtain ⟨⟨ts, τ2⟩, e2, em⟩ := Option.bind_eq_some_iff.mp em
  obtain ⟨⟨z, ts'⟩, e3, em⟩ := Option.bind_eq_some_iff.mp em
  obtain ⟨τ3, e4, em⟩ := Option.map_eq_some_iff.mp em
  cases em
  refine wE (peCallG (E := E0) G (hr.mono hkj) hg hm hk hb pass0 paW hdb he hpl) (ha.run ro τ cs τ1 e1 F B H σ A _ a fun F1 H1 vs A0 A1 g1 c1 o1 t1 => ?_)
  have hl : vs.length = n := o1.length.trans ((ha.len _ _ _ _ e1).trans hn)
  obtain ⟨A2, A3, o2, t2, n2, s2⟩ := buildT_ok o1 t1 c1.nd e2
  have c2 := c1.sub n2 s2
  refine ⟨hl, F1, A2, ts, z, ts', ⟨c2.fh, same_noH, c2.left.nd, c2.left.fa, fun _ _ => rfl, c2.left.ha⟩, o2, e3, fun F4 H4 v A4 A5 g4 c4 o4 os4 => ?_⟩
  have c4' : Cn F4 B H4 (A4 ++ A5) := by
    refine ⟨c4.fh, same_of (B := B) g4 c2.bh c2.left.ba, c4.nd, c4.fa, fun b m => ?_, c4.ha⟩
    cases q : B b with
    | none => rfl
    | some o =>
      rcases g4.sub b m with z | z
      · rw [c2.left.ba b z] at q
        cases q
      · rw [c2.bh b o q] at z
        cases z
  obtain ⟨g5, c5⟩ := Go.framedR c2 g4 c4'
  have t3 := t2.stay g4.ff fun b m w q => g4.keep b w (fun z => c2.apart b z m) q
  rw [List.append_assoc] at g5 c5
  obtain ⟨A6, t6, n6, s6⟩ := backT_ok o1 os4 t3 c5.right.nd e4
  have sub : ∀ b ∈ A4 ++ A6, b ∈ A4 ++ (A5 ++ A3) := fun b m => (List.mem_append.mp m).elim (fun z => List.mem_append_left _ z) fun z => List.mem_append_right _ (s6 b z)
  have nd : (A4 ++ A6).Nodup := List.nodup_append.mpr ⟨c5.left.nd, n6, fun b m b' m' q => c5.apart b m (q ▸ s6 b' m')⟩
  exact kk F4 H4 v A4 A6 (((g1.trans (Go.less s2)).trans g5).trans (Go.less sub)) (c5.sub nd sub) o4 t6⟩
theorem leafs_ok {G F H : Hp} : ∀ {cs : List CArg} {vs : List V} {ts : List T} {A : List Addr}, CsOk K G F H σ cs vs A → leafs cs = some ts → OwnL K G G vs ts []
  | _, _, _, _, .nil, e => by
    cases e
    exact .nil
  | .d d :: cs, _, _, _, .d r c, e => by
    obtain ⟨ts, e1, e2⟩ := Option.map_eq_some_iff.mp (show (leafs cs).map _ = some _ from e)
    subst e2
    exact .cons (A := []) (.leaf r) (leafs_ok c e1)
  | .io _ :: _, _, _, _, .io _ _, e => nomatch e
  | .ow _ :: _, _, _, _, .ow _ _, e => nomatch e
theorem er_look (c : Fm X.prog X.w X.K X.mg X.base k x n m) {j : Nat} (hr : RmG j X.A) (ha : CA X true (e :: es) l) (hkj : k ≤ j := by decide) (hn : (e :: es).length = n := by rfl) (hg : Gl X x := by rfl) (hdb : (x == ("__debug__" : Str)) = false := by decide)
    (he : starEach (e :: es) X.env = (false, eval e X.env) :: starEach es X.env := by rfl) (hpl : (backTo pos (starEach es X.env)).any (·.1) = false := by rfl) : ER X (.Call (.Name x p) (e :: es) [] pos) (mLook m l) := ⟨fun ro τ r τ' em F B H σ A Q a kk => by
  obtain ⟨f, fd, ps, G, hm, hk, hb⟩ := c.ex
  obtain ⟨⟨cs, τ1⟩, e1, em⟩ := Option.bind_eq_some_iff.mp em
  obtain ⟨ts, e2, em⟩ := Option.bind_eq_some_iff.mp em
  obtain ⟨⟨z, ts'⟩, e3, em⟩ := Option.bind_eq_some_iff.mp em
  have em' : (if isScal z = true then some (R.val z, τ1) else none) = some (r, τ') := em
  by_cases q : isScal z = true
  · rw [if_pos q] at em'
    cases em'
    refine wE (peCallG (E := E0) G (hr.mono hkj) hg hm hk hb pass0 paW hdb he hpl) (ha.run ro τ cs _ e1 F B H σ A _ a fun F1 H1 vs A0 A1 g1' c1' o1 t1 => ?_)
    have hl : vs.length = n := o1.length.trans ((ha.len _ _ _ _ e1).trans hn)
    have g1 : Go F H A F1 H1 A1 := g1'.trans (Go.less fun _ m => List.mem_append_right _ m)
    have c1 : Cn F1 B H1 A1 := c1'.right
    -- all that stands and is not owned is frozen for the callee
    refine ⟨hl, H1, [], ts, z, ts', ⟨Same.refl H1, same_noH, .nil, (fun _ m => nomatch m), (fun _ _ => rfl), (fun _ m => nomatch m)⟩, leafs_ok o1 e2, e3, fun F4 H4 v A4 A5 g4 c4 o4 os4 => ?_⟩
    obtain ⟨_, sc⟩ := scal_rep q o4
    have sm : Same H1 H4 := fun b o z => g4.keep b o (fun m => nomatch m) z
    refine kk F1 H4 v [] A1 (g1.trans ⟨Same.refl F1, fun b o _ z => sm b o z, fun _ _ _ => rfl, fun b m => .inl m⟩) ⟨c1.fh.trans sm, c1.bh.trans sm, c1.nd, c1.fa, c1.ba, fun b m => ?_⟩ (sc F1 H4) (t1.stay (Same.refl F1) fun b _ o z => sm b o z)
    obtain ⟨o, z⟩ := some_ne (c1.ha b m)
    rw [sm b o z]
    exact fun z => nomatch z
  · rw [if_neg q] at em'
    cases em'⟩
end
end Tl

namespace Tl
open PySem PySem.Spec PyProof.Rows L2

section
variable {K : PySem.W.Frag} {F F1 B H : Hp} {A : List Addr} {X : Cx}
theorem RepL.two {vs : List V} {a b : D} (r : RepL K F vs [a, b]) : ∃ v w, vs = [v, w] ∧ Rep K F v a ∧ Rep K F w b := by
  cases r with
  | cons r1 r2 =>
    cases r2 with
    | cons r2 r3 =>
      cases r3
      exact ⟨_, _, rfl, r1, r2⟩
theorem RepL.one {vs : List V} {a : D} (r : RepL K F vs [a]) : ∃ v, vs = [v] ∧ Rep K F v a := by
  cases r with
  | cons r1 r2 =>
    cases r2
    exact ⟨_, rfl, r1⟩
theorem Rep.toInt {v : V} {i : Int} (r : Rep K F v (.int i)) : v = .int i := by
  cases r
  rfl
theorem Rep.toStr {v : V} {i : Str} (r : Rep K F v (.str i)) : v = .str i := by
  cases r
  rfl
theorem Rep.toBl {v : V} {i : Bool} (r : Rep K F v (.bool i)) : v = .bl i := by
  cases r
  rfl
theorem Rep.toNon {v : V} (r : Rep K F v .none) : v = .non := by
  cases r
  rfl

def pI2 (ok : Int → Int → Bool) (f : Int → Int → Int) : List D → Option D
  | [.int a, .int b] => if ok a b = true then some (.int (f a b)) else none
  | _ => none
theorem vr_i2 {C : Int → Int → Prop} {ok : Int → Int → Bool} {f : Int → Int → Int} (h : ∀ a b, ok a b = true → C a b) : VR K (two (rI C fun i j => .int (f i j))) (gp (pI2 ok f)) :=
  VR.plain fun ds d e H vs Q r k => by
  match ds, e with
  | [.int a, .int b], e =>
    have e' : (if ok a b = true then some (PyData.int (f a b)) else none) = some d := e
    by_cases q : ok a b = true
    · rw [if_pos q] at e'
      cases e'
      obtain ⟨v, w, rfl, r1, r2⟩ := r.two
      exact ⟨v, w, rfl, a, b, r1.toInt, r2.toInt, h a b q, k _ fun F => .int _⟩
    · rw [if_neg q] at e'
      cases e'
def pC2 (f : Int → Int → Bool) : List D → Option D
  | [.int a, .int b] => some (.bool (f a b))
  | _ => none
theorem vr_c2 {f : Int → Int → Bool} : VR K (two (rI0 fun i j => .bl (f i j))) (gp (pC2 f)) :=
  VR.plain fun ds d e H vs Q r k => by
  match ds, e with
  | [.int a, .int b], e =>
    cases e
    obtain ⟨v, w, rfl, r1, r2⟩ := r.two
    exact ⟨v, w, rfl, a, b, r1.toInt, r2.toInt, k _ fun F => .bl _⟩
def okMul (a b : Int) : Bool := decide ((-(2 ^ 64) < a ∧ a < 2 ^ 64) ∨ (-(2 ^ 64) < b ∧ b < 2 ^ 64))
def okPow (a b : Int) : Bool := decide (0 ≤ b ∧ b ≤ 1000000 ∧ a.natAbs < 2 ^ 64)
abbrev gSub : List R → Option R := gp (pI2 (fun _ _ => true) fun a b => a - b)
abbrev gMod : List R → Option R := gp (pI2 (fun _ b => decide (0 < b)) fun a b => a % b)
abbrev gDiv : List R → Option R := gp (pI2 (fun _ b => decide (0 < b ∧ b < 1073741824)) fun a b => a / b)
abbrev gPow : List R → Option R := gp (pI2 okPow fun a b => a ^ b.toNat)
abbrev gLt : List R → Option R := gp (pC2 fun a b => decide (a < b))
abbrev gGt : List R → Option R := gp (pC2 fun a b => decide (b < a))
abbrev gGe : List R → Option R := gp (pC2 fun a b => decide (b ≤ a))
theorem op_sub' : OpR X (binaryOp .Sub) (rI (fun _ _ => True) fun i j => .int (i - j)) := opI fun _ _ _ _ _ _ _ _ q => sub_int q
theorem vr_sub : VR K (two (rI (fun _ _ => True) fun i j => .int (i - j))) gSub := vr_i2 fun _ _ _ => True.intro
theorem vr_mod : VR K (two (rI (fun _ j => 0 < j) fun i j => .int (i % j))) gMod := vr_i2 fun _ _ h => of_decide_eq_true h
theorem vr_div : VR K (two (rI CDiv fun i j => .int (i / j))) gDiv := vr_i2 fun a b h => by
  have h' : 0 < b ∧ b < 1073741824 := of_decide_eq_true h
  exact h'
theorem vr_pow : VR K (two (rI CPow fun i j => .int (i ^ j.toNat))) gPow := vr_i2 fun a b h => by
  have h' : 0 ≤ b ∧ b ≤ 1000000 ∧ a.natAbs < 2 ^ 64 := of_decide_eq_true h
  exact h'
def pNeg : List D → Option D
  | [.int a] => some (.int (-a))
  | _ => none
theorem vr_neg : VR K (one (rU fun i => .int (-i))) (gp pNeg) := VR.plain fun ds d e H vs Q r k => by
  match ds, e with
  | [.int a], e =>
    cases e
    obtain ⟨v, rfl, r1⟩ := r.one
    exact ⟨v, rfl, a, r1.toInt, k _ fun F => .int _⟩

def R.lst? : R → Option (List D)
  | .val t => match t.fz with
    | some (.list ds) => some ds
    | _ => none
  | .vw (.leaf (.list ds)) => some ds
  | .vw (.fl ds) => some ds
  | .vw _ => none
theorem lst_of {r : R} {v : V} {ds : List D} (o : ROk K F B H r v A) (e : r.lst? = some ds) (h : ∀ a ∈ A, ∀ o, H a = some o → F1 a = some o) (s : Same F F1) (f : Same F1 H) (b : Same B H) :
    ∃ a xs, v = .ref a ∧ H a = some (.lst xs) ∧ xs.length ≤ sizeLine ∧ RepL K F1 xs ds := by
  cases r with
  | val t =>
    have e' : (match t.fz with
    | some (.list ds) => some ds
    | _ => none) = some ds := e
    cases q : t.fz with
    | none =>
      rw [q] at e'
      cases e'
    | some d =>
      rw [q] at e'
      have rr := Own.rep s o h q
      cases d with
      | list es =>
        cases e'
        cases rr with
        | lst h1 h2 h3 => exact ⟨_, _, rfl, f _ _ h1, h2, h3⟩
      | _ => cases e'
  | vw t =>
    obtain ⟨e0, A', o⟩ := o
    cases t with
    | leaf d =>
      cases o with
      | leaf rr =>
        cases d with
        | list es =>
          cases e
          cases rr with
          | lst h1 h2 h3 => exact ⟨_, _, rfl, f _ _ (s _ _ h1), h2, h3.mono s⟩
        | _ => cases e
    | fl es =>
      cases e
      cases o with
      | fl h1 h2 h3 => exact ⟨_, _, rfl, b _ _ h1, h2, h3.mono s⟩
    | _ => cases e
theorem seq_of {r : R} {v : V} {isL : Bool} {ds : List D} (o : ROk K F B H r v A) (e : r.its = some (isL, ds)) (h : ∀ a ∈ A, ∀ o, H a = some o → F1 a = some o) (s : Same F F1) (f : Same F1 H) (b : Same B H) :
    ∃ a xs, v = .ref a ∧ SqAt K H isL a xs ∧ xs.length ≤ sizeLine ∧ RepL K F1 xs ds := by
  cases r with
  | val t =>
    have e' : (match t.fz with
    | some (.list ds) => some (true, ds)
    | some (.tuple ds) => some (false, ds)
    | _ => none) = some (isL, ds) := e
    cases q : t.fz with
    | none =>
      rw [q] at e'
      cases e'
    | some d =>
      rw [q] at e'
      have rr := Own.rep s o h q
      cases d with
      | list es =>
        cases e'
        cases rr with
        | lst h1 h2 h3 => exact ⟨_, _, rfl, SqL.of (f _ _ h1), h2, h3⟩
      | tuple es =>
        cases e'
        cases rr with
        | tup h1 h2 h3 => exact ⟨_, _, rfl, sameT f h1, h2, h3⟩
      | _ => cases e'
  | vw t =>
    obtain ⟨e0, A', o⟩ := o
    cases t with
    | leaf d =>
      cases o with
      | leaf rr =>
        cases d with
        | list es =>
          cases e
          cases rr with
          | lst h1 h2 h3 => exact ⟨_, _, rfl, SqL.of (f _ _ (s _ _ h1)), h2, h3.mono s⟩
        | tuple es =>
          cases e
          cases rr with
          | tup h1 h2 h3 => exact ⟨_, _, rfl, sameT f (sameT s h1), h2, h3.mono s⟩
        | _ => cases e
    | fl es =>
      cases e
      cases o with
      | fl h1 h2 h3 => exact ⟨_, _, rfl, SqL.of (b _ _ h1), h2, h3.mono s⟩
    | scr es =>
      cases e
      cases o with
      | scr h1 h2 h3 => exact ⟨_, _, rfl, f.seq (s.seq h1), h2, h3.mono s⟩
    | _ => cases e
/-- one and two arguments, all that they own frozen -/
theorem rs_two {x y : R} {vs : List V} (c : Cn F B H A) (o : RsOk K F B H [x, y] vs A) : ∃ v w A1 A2, vs = [v, w] ∧ ROk K F B H x v A1 ∧ ROk K F B H y w A2 ∧ Go F H A (joinH F H A) H [] ∧ Cn (joinH F H A) B H [] ∧ Same F (joinH F H A) ∧
    (∀ a ∈ A1, ∀ o, H a = some o → joinH F H A a = some o) ∧ (∀ a ∈ A2, ∀ o, H a = some o → joinH F H A a = some o) := by
  have c' : Cn F B H (A ++ []) := by
    rw [List.append_nil]
    exact c
  obtain ⟨g, c1, s, h⟩ := c'.freeze
  rw [List.append_nil] at g
  cases o with
  | cons o1 o2 =>
    cases o2 with
    | cons o2 o3 =>
      cases o3
      exact ⟨_, _, _, _, rfl, o1, o2, g, c1, s, fun a m => h a (List.mem_append_left _ m), fun a m => h a (List.mem_append_right _ (List.mem_append_left _ m))⟩
theorem rs_one {x : R} {vs : List V} (c : Cn F B H A) (o : RsOk K F B H [x] vs A) : ∃ v A1, vs = [v] ∧ ROk K F B H x v A1 ∧ Go F H A (joinH F H A) H [] ∧ Cn (joinH F H A) B H [] ∧ Same F (joinH F H A) ∧
    (∀ a ∈ A1, ∀ o, H a = some o → joinH F H A a = some o) := by
  have c' : Cn F B H (A ++ []) := by
    rw [List.append_nil]
    exact c
  obtain ⟨g, c1, s, h⟩ := c'.freeze
  rw [List.append_nil] at g
  cases o with
  | cons o1 o2 =>
    cases o2
    exact ⟨_, _, rfl, o1, g, c1, s, fun a m => h a (List.mem_append_left _ m)⟩
theorem small16 {n : Nat} (h : n ≤ 16000000) : n ≤ sizeLine := by
  rw [sizeLine_eq]
  omega
/-- a new list at the end -/
theorem new_list {Q : VK} {xs : List V} {ds : List D} (g : Go F H A F1 H []) (c : Cn F1 B H []) (hz : xs.length ≤ sizeLine) (r : RepL K F1 xs ds)
    (k : ∀ (F' H' : Hp) (u : V) (A' : List Addr), Go F H A F' H' A' → Cn F' B H' A' → ROk K F' B H' (.val (.fl ds)) u A' → Q u H') : ∀ p, H p = none → Q (.ref p) (upd H p (.lst xs)) := fun p hp => by
  obtain ⟨g2, c2⟩ := c.newO (o := .lst xs) hp
  exact k _ _ (.ref p) [p] (g.trans g2) c2 (.fl upd_same hz r)
/-- a new tuple at the end -/
theorem new_tup {Q : VK} {xs : List V} {ds : List D} (g : Go F H A F1 H []) (c : Cn F1 B H []) (hz : xs.length ≤ sizeLine) (r : RepL K F1 xs ds)
    (k : ∀ (F' H' : Hp) (u : V) (A' : List Addr), Go F H A F' H' A' → Cn F' B H' A' → ROk K F' B H' (rd (.tuple ds)) u A' → Q u H') : ∀ p, H p = none → Q (.ref p) (upd H p (.tup xs)) := fun p hp => by
  obtain ⟨g2, c2⟩ := c.newF (o := .tup xs) hp
  exact k _ _ (.ref p) [] (g.trans g2) c2 (.leaf (.tup (.inl (.inl upd_same)) hz (r.mono g2.ff)))

def gAdd : List R → Option R
  | [x, y] => match x.er, y.er with
    | some (.int a), some (.int b) => some (rInt (a + b))
    | some (.str a), some (.str b) => if a.length + b.length ≤ 16000000 then some (rd (.str (a ++ b))) else none
    | _, _ => match x.st, y.st with
      | some (.tuple ds), some (.tuple es) => if ds.length + es.length ≤ 16000000 then some (rd (.tuple (ds ++ es))) else none
      | _, _ => x.lst?.bind fun ds => y.lst?.bind fun es => if ds.length + es.length ≤ 16000000 then some (.val (.fl (ds ++ es))) else none
  | _ => none
def rAddS : R2 := fun x y H Q => ∃ i j, x = .str i ∧ y = .str j ∧ i.length + j.length ≤ sizeLine ∧ Q (.str (i ++ j)) H
def rAddAll : R2 := fun x y H Q => (rI0 fun i j => .int (i + j)) x y H Q ∨ rAddS x y H Q ∨ rCat x y H Q
def rAddAllT (K : PySem.W.Frag) : R2 := fun x y H Q => rAddAll x y H Q ∨ rCatA K x y H Q
theorem op_addAll : OpR X (binaryOp .Add) (rAddAllT X.K) := OpR.or (r := rAddAll) (OpR.or op_add (OpR.or (r := rAddS) op_add_str op_cat)) op_catA
theorem add_lists {x y z : R} {vs : List V} {Q : VK} (e : (x.lst?.bind fun ds => y.lst?.bind fun es => if ds.length + es.length ≤ 16000000 then some (R.val (.fl (ds ++ es))) else none) = some z) (c : Cn F B H A) (o : RsOk K F B H [x, y] vs A)
    (k : ∀ (F' H' : Hp) (u : V) (A' : List Addr), Go F H A F' H' A' → Cn F' B H' A' → ROk K F' B H' z u A' → Q u H') : two rAddAll vs H Q := by
  obtain ⟨ds, e1, e⟩ := Option.bind_eq_some_iff.mp e
  obtain ⟨es, e2, e⟩ := Option.bind_eq_some_iff.mp e
  by_cases q : ds.length + es.length ≤ 16000000
  · rw [if_pos q] at e
    cases e
    obtain ⟨v, w, A1, A2, rfl, o1, o2, g, c1, s, h1, h2⟩ := rs_two c o
    obtain ⟨a, xs, rfl, ha, za, ra⟩ := lst_of o1 e1 h1 s c1.fh c1.bh
    obtain ⟨b, ys, rfl, hb, zb, rb⟩ := lst_of o2 e2 h2 s c1.fh c1.bh
    have hz : xs.length + ys.length ≤ sizeLine := by
      rw [ra.length, rb.length]
      exact small16 q
    exact ⟨_, _, rfl, .inr (.inr ⟨a, b, xs, ys, rfl, rfl, ha, hb, hz, new_list g c1 (by rw [List.length_append]; exact hz) (ra.append rb) k⟩)⟩
  · rw [if_neg q] at e
    cases e
theorem plain_two {x y : R} {vs : List V} {a b : D} (c : Cn F B H A) (o : RsOk K F B H [x, y] vs A) (e1 : x.er = some a) (e2 : y.er = some b) : ∃ v w, vs = [v, w] ∧ Rep K H v a ∧ Rep K H w b := by
  have e : erL [x, y] = some [a, b] := by
    show x.er.bind (fun d => (y.er.bind fun d => (some []).bind fun ds => some (d :: ds)).bind fun ds => some (d :: ds)) = _
    rw [e1, e2]
    rfl
  exact (o.rep c.fh c.bh (fun _ _ _ q => q) e).two
/-- a scalar at the end -/
theorem end_scal {Q : VK} {z : D} {u : V} (c : Cn F B H A) (k : ∀ (F' H' : Hp) (u : V) (A' : List Addr), Go F H A F' H' A' → Cn F' B H' A' → ROk K F' B H' (rd z) u A' → Q u H') (r : ∀ F : Hp, Rep K F u z) : Q u H :=
  k F H u [] (Go.less fun _ m => nomatch m) (c.sub .nil fun _ m => nomatch m) (.leaf (r F))
theorem two_l {vs : List V} {Q : VK} (h : two rAddAll vs H Q) : two (rAddAllT K) vs H Q := by
  obtain ⟨v, w, e, q⟩ := h
  exact ⟨v, w, e, .inl q⟩
theorem add_tups {x y : R} {vs : List V} {ds es : List D} {Q : VK} (e1 : x.st = some (.tuple ds)) (e2 : y.st = some (.tuple es)) (hz : ds.length + es.length ≤ 16000000) (c : Cn F B H A) (o : RsOk K F B H [x, y] vs A)
    (k : ∀ (F' H' : Hp) (u : V) (A' : List Addr), Go F H A F' H' A' → Cn F' B H' A' → ROk K F' B H' (rd (.tuple (ds ++ es))) u A' → Q u H') : two (rAddAllT K) vs H Q := by
  have e : stL [x, y] = some [.tuple ds, .tuple es] := by
    show x.st.bind (fun d => (y.st.bind fun d => (some []).bind fun ds => some (d :: ds)).bind fun ds => some (d :: ds)) = _
    rw [e1, e2]
    rfl
  have c' : Cn F B H (A ++ []) := by
    rw [List.append_nil]
    exact c
  obtain ⟨F1, g, c1, s, rl⟩ := o.freeze c' e
  rw [List.append_nil] at g
  obtain ⟨v, w, rfl, r1, r2⟩ := rl.two
  cases r1 with
  | tup h1 h2 h3 =>
    cases r2 with
    | tup h4 h5 h6 =>
      rename_i a xs b ys
      have hl : xs.length + ys.length ≤ sizeLine := by
        rw [h3.length, h6.length]
        exact small16 hz
      refine ⟨_, _, rfl, .inr ⟨a, b, xs, ys, rfl, rfl, sameT c1.fh h1, sameT c1.fh h4, hl, fun z => ?_, fun _ z => ?_, fun _ _ => new_tup g c1 (by rw [List.length_append]; exact hl) (h3.append h6) k⟩⟩
      · subst z
        cases h3
        exact k F1 H (.ref b) [] g c1 (.leaf (.tup h4 h5 h6))
      · subst z
        cases h6
        rw [List.append_nil] at k
        exact k F1 H (.ref a) [] g c1 (.leaf (.tup h1 h2 h3))
theorem vr_add : VR K (two (rAddAllT K)) gAdd := by
  intro rs z e F B H vs A Q c o k
  match rs, e with
  | [x, y], e =>
    have e' : (match x.er, y.er with
    | some (.int a), some (.int b) => some (rInt (a + b))
    | some (.str a), some (.str b) => if a.length + b.length ≤ 16000000 then some (rd (.str (a ++ b))) else none
    | _, _ => match x.st, y.st with
      | some (.tuple ds), some (.tuple es) => if ds.length + es.length ≤ 16000000 then some (rd (.tuple (ds ++ es))) else none
      | _, _ => x.lst?.bind fun ds => y.lst?.bind fun es => if ds.length + es.length ≤ 16000000 then some (.val (.fl (ds ++ es))) else none) = some z := e
    split at e'
    · rename_i a b e1 e2
      cases e'
      obtain ⟨v, w, rfl, r1, r2⟩ := plain_two c o e1 e2
      exact two_l ⟨v, w, rfl, .inl ⟨a, b, r1.toInt, r2.toInt, end_scal c k fun F => .int _⟩⟩
    · rename_i a b e1 e2
      by_cases q : a.length + b.length ≤ 16000000
      · rw [if_pos q] at e'
        cases e'
        obtain ⟨v, w, rfl, r1, r2⟩ := plain_two c o e1 e2
        exact two_l ⟨v, w, rfl, .inr (.inl ⟨a, b, r1.toStr, r2.toStr, small16 q, end_scal c k fun F => .str _⟩)⟩
      · rw [if_neg q] at e'
        cases e'
    · split at e'
      · rename_i ds es e1 e2
        by_cases q : ds.length + es.length ≤ 16000000
        · rw [if_pos q] at e'
          cases e'
          exact add_tups e1 e2 q c o k
        · rw [if_neg q] at e'
          cases e'
      · exact two_l (add_lists e' c o k)
def repD (ds : List D) (n : Nat) : List D := (List.replicate n ds).flatten
def gMul : List R → Option R
  | [x, y] => match x.er, y.er with
    | some (.int a), some (.int b) => if okMul a b = true then some (rInt (a * b)) else none
    | _, some (.int k) => x.lst?.bind fun ds => if (-4000000 ≤ k ∧ k ≤ 4000000) ∧ ds.length * k.toNat ≤ 16000000 then some (.val (.fl (repD ds k.toNat))) else none
    | _, _ => none
  | _ => none
def rMulAll : R2 := fun x y H Q => (rI CMul fun i j => .int (i * j)) x y H Q ∨ rRep x y H Q
theorem op_mulAll : OpR X (binaryOp .Mult) rMulAll := OpR.or op_mul op_rep
theorem RepL.repn {xs : List V} {ds : List D} (r : RepL K F xs ds) : ∀ n : Nat, RepL K F (List.replicate n xs).flatten (List.replicate n ds).flatten
  | 0 => .nil
  | n + 1 => by
    rw [List.replicate_succ, List.replicate_succ, List.flatten_cons, List.flatten_cons]
    exact r.append (RepL.repn r n)
theorem vr_mul : VR K (two rMulAll) gMul := by
  intro rs z e F B H vs A Q c o k
  match rs, e with
  | [x, y], e =>
    have e' : (match x.er, y.er with
    | some (.int a), some (.int b) => if okMul a b = true then some (rInt (a * b)) else none
    | _, some (.int k) => x.lst?.bind fun ds => if (-4000000 ≤ k ∧ k ≤ 4000000) ∧ ds.length * k.toNat ≤ 16000000 then some (.val (.fl (repD ds k.toNat))) else none
    | _, _ => none) = some z := e
    split at e'
    · rename_i a b e1 e2
      by_cases q : okMul a b = true
      · rw [if_pos q] at e'
        cases e'
        obtain ⟨v, w, rfl, r1, r2⟩ := plain_two c o e1 e2
        have q' : (-(2 ^ 64) < a ∧ a < 2 ^ 64) ∨ (-(2 ^ 64) < b ∧ b < 2 ^ 64) := of_decide_eq_true q
        exact ⟨v, w, rfl, .inl ⟨a, b, r1.toInt, r2.toInt, q', end_scal c k fun F => .int _⟩⟩
      · rw [if_neg q] at e'
        cases e'
    · rename_i n e2 _
      obtain ⟨ds, e1, e'⟩ := Option.bind_eq_some_iff.mp e'
      by_cases q : (-4000000 ≤ n ∧ n ≤ 4000000) ∧ ds.length * n.toNat ≤ 16000000
      · rw [if_pos q] at e'
        cases e'
        obtain ⟨v, w, A1, A2, rfl, o1, o2, g, c1, s, h1, h2⟩ := rs_two c o
        obtain ⟨a, xs, rfl, ha, za, ra⟩ := lst_of o1 e1 h1 s c1.fh c1.bh
        have rw' : Rep K H w (.int n) := o2.rep c.fh c.bh (fun _ _ _ q => q) e2
        have hz : xs.length * n.toNat ≤ sizeLine := by
          rw [ra.length]
          exact small16 q.2
        have hz' : ((List.replicate n.toNat xs).flatten).length ≤ sizeLine := by
          rw [List.length_flatten, List.map_replicate, List.sum_replicate_nat, Nat.mul_comm]
          exact hz
        exact ⟨_, _, rfl, .inr ⟨a, n, xs, rfl, rw'.toInt, ha, by omega, by omega, hz, new_list g c1 hz' (ra.repn _) k⟩⟩
      · rw [if_neg q] at e'
        cases e'
    · cases e'

mutual
theorem Rep.dp : ∀ (d : D) {v : V}, d.canLay0 = true → Rep K H v d → Dp K H v d
  | .none, _, _, r => by
    cases r
    exact .non
  | .bool b, _, _, r => by
    cases r
    exact .bl b
  | .int i, _, _, r => by
    cases r
    exact .int i
  | .str x, _, _, r => by
    cases r
    exact .str x
  | .list ds, _, e, r => by
    cases r with
    | lst h1 h2 h3 => exact .lst (SqL.of h1) (RepL.dp ds (by simpa only [PyData.canLay0] using e) h3)
  | .tuple ds, _, e, r => by
    cases r with
    | tup h1 h2 h3 => exact .tup h1 (RepL.dp ds (by simpa only [PyData.canLay0] using e) h3)
  | .dict es, _, e, r => by simp only [PyData.canLay0] at e; cases e
theorem RepL.dp : ∀ (ds : List D) {vs : List V}, PyData.canLayAll0 ds = true → RepL K H vs ds → DpAll K H vs ds
  | [], _, _, r => by
    cases r
    exact .nil
  | d :: ds, _, e, r => by
    cases r with
    | cons r1 r2 =>
      have e' : (d.canLay0 && PyData.canLayAll0 ds) = true := by simpa only [PyData.canLayAll0] using e
      rw [Bool.and_eq_true] at e'
      exact .cons (Rep.dp d e'.1 r1) (RepL.dp ds e'.2 r2)
end
theorem shaped_lay {d : D} (h : SeqAt.shaped d = true) : d.canLay0 = true := by
  have h' : (d.canLay0 && decide (d.depth ≤ 64)) = true := h
  rw [Bool.and_eq_true] at h'
  exact h'.1
def pEq : List D → Option D
  | [a, b] => if SeqAt.shaped a = true ∧ SeqAt.shaped b = true then some (.bool (PyData.eqv a b)) else none
  | _ => none
def pNe : List D → Option D
  | [a, b] => if SeqAt.shaped a = true ∧ SeqAt.shaped b = true then some (.bool (!PyData.eqv a b)) else none
  | _ => none
theorem vr_eq : VR K (two (rEqD K)) (gp pEq) := VR.plain fun ds d e H vs Q r k => by
  match ds, e with
  | [a, b], e =>
    have e' : (if SeqAt.shaped a = true ∧ SeqAt.shaped b = true then some (PyData.bool (PyData.eqv a b)) else none) = some d := e
    by_cases q : SeqAt.shaped a = true ∧ SeqAt.shaped b = true
    · rw [if_pos q] at e'
      cases e'
      obtain ⟨v, w, rfl, r1, r2⟩ := r.two
      exact ⟨v, w, rfl, a, b, r1.dp a (shaped_lay q.1), r2.dp b (shaped_lay q.2), q.1, q.2, k _ fun F => .bl _⟩
    · rw [if_neg q] at e'
      cases e'
theorem vr_ne : VR K (two (rNeD K)) (gp pNe) := VR.plain fun ds d e H vs Q r k => by
  match ds, e with
  | [a, b], e =>
    have e' : (if SeqAt.shaped a = true ∧ SeqAt.shaped b = true then some (PyData.bool (!PyData.eqv a b)) else none) = some d := e
    by_cases q : SeqAt.shaped a = true ∧ SeqAt.shaped b = true
    · rw [if_pos q] at e'
      cases e'
      obtain ⟨v, w, rfl, r1, r2⟩ := r.two
      exact ⟨v, w, rfl, a, b, r1.dp a (shaped_lay q.1), r2.dp b (shaped_lay q.2), q.1, q.2, k _ fun F => .bl _⟩
    · rw [if_neg q] at e'
      cases e'
def isNone : D → Bool
  | .none => true
  | _ => false
def pIsN : List D → Option D
  | [a, .none] => some (.bool (isNone a))
  | _ => none
def pNotN : List D → Option D
  | [a, .none] => some (.bool (!isNone a))
  | _ => none
theorem isNone_of {v : V} {a : D} (r : Rep K H v a) : decide (v = V.non) = isNone a := by
  cases r <;> simp [isNone]
theorem vr_isN : VR K (two fun x y H Q => y = .non ∧ Q (.bl (decide (x = .non))) H) (gp pIsN) := VR.plain fun ds d e H vs Q r k => by
  match ds, e with
  | [a, .none], e =>
    cases e
    obtain ⟨v, w, rfl, r1, r2⟩ := r.two
    refine ⟨v, w, rfl, r2.toNon, ?_⟩
    rw [isNone_of r1]
    exact k _ fun F => .bl _
theorem vr_notN : VR K (two fun x y H Q => y = .non ∧ Q (.bl (!decide (x = .non))) H) (gp pNotN) := VR.plain fun ds d e H vs Q r k => by
  match ds, e with
  | [a, .none], e =>
    cases e
    obtain ⟨v, w, rfl, r1, r2⟩ := r.two
    refine ⟨v, w, rfl, r2.toNon, ?_⟩
    rw [isNone_of r1]
    exact k _ fun F => .bl _

theorem RepL.atI {xs : List V} {ds : List D} {i : Int} {d : D} (r : RepL K F xs ds) (e : atI ds i = some d) : ∃ v, L2.atI xs i = some v ∧ Rep K F v d := by
  obtain ⟨j, e1, e2⟩ := Option.bind_eq_some_iff.mp (show (ixN ds.length i).bind (fun j => ds[j]?) = some d from e)
  obtain ⟨v, e3, e4⟩ := r.get e2
  refine ⟨v, ?_, e4⟩
  show (ixN xs.length i).bind (fun j => xs[j]?) = some v
  rw [r.length, e1]
  exact e3
theorem OwnL.get : ∀ {vs : List V} {ts : List T} {A : List Addr} {i : Nat} {t : T}, OwnL K F H vs ts A → ts[i]? = some t → ∃ v A', vs[i]? = some v ∧ Own K F H v t A'
  | _, _, _, i, _, .nil, e => by simp at e
  | _, _, _, 0, _, .cons o _, e => by
    simp at e
    subst e
    exact ⟨_, _, rfl, o⟩
  | _, _, _, i + 1, t, .cons _ os, e => by
    obtain ⟨v, A', h1, h2⟩ := OwnL.get (i := i) (t := t) os (by simpa using e)
    exact ⟨v, A', by simpa using h1, h2⟩
theorem OwnL.length : ∀ {vs : List V} {ts : List T} {A : List Addr}, OwnL K F H vs ts A → vs.length = ts.length
  | _, _, _, .nil => rfl
  | _, _, _, .cons _ os => congrArg (· + 1) (OwnL.length os)
theorem OwnL.atI {xs : List V} {ts : List T} {i : Int} {t : T} (r : OwnL K F H xs ts A) (e : L2.atI ts i = some t) : ∃ v A', L2.atI xs i = some v ∧ Own K F H v t A' := by
  obtain ⟨j, e1, e2⟩ := Option.bind_eq_some_iff.mp (show (ixN ts.length i).bind (fun j => ts[j]?) = some t from e)
  obtain ⟨v, A', e3, e4⟩ := r.get e2
  refine ⟨v, A', ?_, e4⟩
  show (ixN xs.length i).bind (fun j => xs[j]?) = some v
  rw [r.length, e1]
  exact e3
/-- the pieces of a thing seen through a glass -/
def R.parts : R → Option (Bool × List T)
  | .vw (.ls ts) => some (true, ts)
  | .vw (.tup ts) => some (false, ts)
  | _ => none
def gIx : List R → Option R
  | [x, y] => match y.er with
    | some (.int i) => match x.its with
      | some (_, ds) => (atI ds i).map rd
      | none => match x.parts with
        | some (_, ts) => (atI ts i).map .vw
        | none => match x.er with
          | some (.str z) => if z.length ≤ 16000000 then (atI z.cps.toList i).map fun c => rd (.str ⟨#[c]⟩) else none
          | _ => none
    | _ => none
  | _ => none
theorem vr_ix : VR K (two (rIx K)) gIx := by
  intro rs z e F B H vs A Q c o k
  match rs, e with
  | [x, y], e =>
    have e' : (match y.er with
    | some (.int i) => match x.its with
      | some (_, ds) => (atI ds i).map rd
      | none => match x.parts with
        | some (_, ts) => (atI ts i).map .vw
        | none => match x.er with
          | some (.str z) => if z.length ≤ 16000000 then (atI z.cps.toList i).map fun c => rd (.str ⟨#[c]⟩) else none
          | _ => none
    | _ => none) = some z := e
    obtain ⟨v, w, A1, A2, rfl, o1, o2, g, c1, s, h1, h2⟩ := rs_two c o
    split at e'
    · rename_i i ey
      have rw' : Rep K H w (.int i) := o2.rep c.fh c.bh (fun _ _ _ q => q) ey
      split at e'
      · rename_i isL ds ex
        obtain ⟨d, e1, e2⟩ := Option.map_eq_some_iff.mp e'
        subst e2
        obtain ⟨a, xs, rfl, ha, za, ra⟩ := seq_of o1 ex h1 s c1.fh c1.bh
        obtain ⟨u, e3, e4⟩ := ra.atI e1
        have q : Q u H := k _ H u [] g c1 (.leaf e4)
        refine ⟨_, _, rfl, ?_⟩
        cases isL with
        | true => exact .inl ⟨a, xs, i, u, rfl, rw'.toInt, ha, e3, q⟩
        | false => exact .inr (.inl ⟨a, xs, i, u, rfl, rw'.toInt, ha, e3, q⟩)
      · split at e'
        · rename_i isL ts ex
          obtain ⟨t, e1, e2⟩ := Option.map_eq_some_iff.mp e'
          subst e2
          cases x with
          | val t => cases ex
          | vw t0 =>
            obtain ⟨e0, A', ow⟩ := o1
            cases t0 with
            | ls ts0 =>
              cases ex
              cases ow with
              | ls h3 h4 h5 =>
                obtain ⟨u, A3, e3, e4⟩ := h5.atI e1
                exact ⟨_, _, rfl, .inl ⟨_, _, i, u, rfl, rw'.toInt, SqL.of (c.bh _ _ h3), e3, k F H u [] (Go.less fun _ m => nomatch m) (c.sub .nil fun _ m => nomatch m) ⟨rfl, A3, e4⟩⟩⟩
            | tup ts0 =>
              cases ex
              cases ow with
              | tup h3 h4 h5 =>
                obtain ⟨u, A3, e3, e4⟩ := h5.atI e1
                exact ⟨_, _, rfl, .inr (.inl ⟨_, _, i, u, rfl, rw'.toInt, sameT c.fh h3, e3, k F H u [] (Go.less fun _ m => nomatch m) (c.sub .nil fun _ m => nomatch m) ⟨rfl, A3, e4⟩⟩)⟩
            | _ => cases ex
        · split at e'
          · rename_i y ex
            by_cases q : y.length ≤ 16000000
            · rw [if_pos q] at e'
              obtain ⟨ch, e1, e2⟩ := Option.map_eq_some_iff.mp e'
              subst e2
              have rv : Rep K H v (.str y) := o1.rep c.fh c.bh (fun _ _ _ q => q) ex
              exact ⟨_, _, rfl, .inr (.inr ⟨y, i, ch, rv.toStr, rw'.toInt, small16 q, e1, end_scal c k fun F => .str _⟩)⟩
            · rw [if_neg q] at e'
              cases e'
          · cases e'
    · cases e'

def gLen : List R → Option R
  | [x] => match x.its with
    | some (_, ds) => some (rInt ds.length)
    | none => match x.parts with
      | some (_, ts) => some (rInt ts.length)
      | none => match x.er with
        | some (.str z) => if z.length ≤ 16000000 then some (rInt z.length) else none
        | _ => none
  | _ => none
theorem vr_len : VR K (fun xs H Q => ∃ x n, xs = [x] ∧ LenV K x H n ∧ Q (.int (n : Nat)) H) gLen := by
  intro rs z e F B H vs A Q c o k
  match rs, e with
  | [x], e =>
    have e' : (match x.its with
    | some (_, ds) => some (rInt ds.length)
    | none => match x.parts with
      | some (_, ts) => some (rInt ts.length)
      | none => match x.er with
        | some (.str z) => if z.length ≤ 16000000 then some (rInt z.length) else none
        | _ => none) = some z := e
    obtain ⟨v, A1, rfl, o1, g, c1, s, h1⟩ := rs_one c o
    split at e'
    · rename_i isL ds ex
      cases e'
      obtain ⟨a, xs, rfl, ha, za, ra⟩ := seq_of o1 ex h1 s c1.fh c1.bh
      rw [← ra.length] at k
      refine ⟨_, xs.length, rfl, ?_, end_scal c k fun F => .int _⟩
      cases isL with
      | true => exact .inl ⟨xs, ha, rfl⟩
      | false => exact .inr ⟨xs, ha, rfl⟩
    · split at e'
      · rename_i isL ts ex
        cases e'
        cases x with
        | val t => cases ex
        | vw t0 =>
          obtain ⟨e0, A', ow⟩ := o1
          cases t0 with
          | ls ts0 =>
            cases ex
            cases ow with
            | ls h3 h4 h5 =>
              rw [← h5.length] at k
              exact ⟨_, _, rfl, .inl ⟨_, SqL.of (c.bh _ _ h3), rfl⟩, end_scal c k fun F => .int _⟩
          | tup ts0 =>
            cases ex
            cases ow with
            | tup h3 h4 h5 =>
              rw [← h5.length] at k
              exact ⟨_, _, rfl, .inr ⟨_, sameT c.fh h3, rfl⟩, end_scal c k fun F => .int _⟩
          | _ => cases ex
      · split at e'
        · rename_i y ex
          by_cases q : y.length ≤ 16000000
          · rw [if_pos q] at e'
            cases e'
            have rv : Rep K H v (.str y) := o1.rep c.fh c.bh (fun _ _ _ q => q) ex
            cases rv.toStr
            exact ⟨_, y.length, rfl, ⟨small16 q, rfl⟩, end_scal c k fun F => .int _⟩
          · rw [if_neg q] at e'
            cases e'
        · cases e'
def pAbs : List D → Option D
  | [.int a] => some (.int (if a < 0 then -a else a))
  | _ => none
theorem vr_abs : VR K (fun xs H Q => ∃ i, xs = [.int i] ∧ Q (.int (if i < 0 then -i else i)) H) (gp pAbs) := VR.plain fun ds d e H vs Q r k => by
  match ds, e with
  | [.int a], e =>
    cases e
    obtain ⟨v, rfl, r1⟩ := r.one
    cases r1.toInt
    exact ⟨a, rfl, k _ fun F => .int _⟩
def pMin2 : List D → Option D
  | [.int a, .int b] => some (.int (if b < a then b else a))
  | _ => none
def pMax2 : List D → Option D
  | [.int a, .int b] => some (.int (if b > a then b else a))
  | _ => none
theorem vr_min2 : VR K (fun xs H Q => ∃ i j, xs = [.int i, .int j] ∧ Q (.int (if j < i then j else i)) H) (gp pMin2) := VR.plain fun ds d e H vs Q r k => by
  match ds, e with
  | [.int a, .int b], e =>
    cases e
    obtain ⟨v, w, rfl, r1, r2⟩ := r.two
    cases r1.toInt
    cases r2.toInt
    exact ⟨a, b, rfl, k _ fun F => .int _⟩
def pInt : List D → Option D
  | [.int a] => some (.int a)
  | [.bool b] => some (.int (if b = true then 1 else 0))
  | _ => none
theorem vr_int : VR K (fun xs H Q => (∃ i, xs = [.int i] ∧ Q (.int i) H) ∨ ∃ k, xs = [.bl k] ∧ Q (.int (if k then 1 else 0)) H) (gp pInt) := VR.plain fun ds d e H vs Q r k => by
  match ds, e with
  | [.int a], e =>
    cases e
    obtain ⟨v, rfl, r1⟩ := r.one
    cases r1.toInt
    exact .inl ⟨a, rfl, k _ fun F => .int _⟩
  | [.bool a], e =>
    cases e
    obtain ⟨v, rfl, r1⟩ := r.one
    cases r1.toBl
    exact .inr ⟨a, rfl, k _ fun F => .int _⟩
/-- list(..) of a list, a tuple -/
def gList : List R → Option R
  | [x] => x.its.map fun p => .val (.fl p.2)
  | _ => none
/-- tuple(..) -/
def gTuple : List R → Option R
  | [x] => x.its.map fun p => rd (.tuple p.2)
  | _ => none
theorem vr_tuple : VR K (fun xs H Q => ∃ p ys, xs = [.ref p] ∧ ((SqL K H p ys ∧ ∀ l, H l = none → Q (.ref l) (upd H l (.tup ys))) ∨ (SqT K H p ys ∧ Q (.ref p) H))) gTuple := by
  intro rs z e F B H vs A Q c o k
  match rs, e with
  | [x], e =>
    obtain ⟨⟨isL, ds⟩, e1, e2⟩ := Option.map_eq_some_iff.mp (show x.its.map _ = some z from e)
    subst e2
    obtain ⟨v, A1, rfl, o1, g, c1, s, h1⟩ := rs_one c o
    obtain ⟨a, xs, rfl, ha, za, ra⟩ := seq_of o1 e1 h1 s c1.fh c1.bh
    refine ⟨a, xs, rfl, ?_⟩
    cases isL with
    | true => exact .inl ⟨ha, new_tup g c1 za ra k⟩
    | false =>
      refine .inr ⟨ha, ?_⟩
      have rr : Rep K (joinH F H A) (.ref a) (.tuple ds) := by
        cases x with
        | val t =>
          cases q : t.fz with
          | none =>
            have e' := e1
            simp only [R.its, q] at e'
            cases e'
          | some d =>
            have e' := e1
            simp only [R.its, q] at e'
            have rr := Own.rep s o1 h1 q
            cases d with
            | tuple es =>
              cases e'
              exact rr
            | _ => cases e'
        | vw t =>
          obtain ⟨e0, A', ow⟩ := o1
          cases t with
          | leaf d =>
            cases ow with
            | leaf rr =>
              cases d with
              | tuple es =>
                cases e1
                exact rr.mono s
              | _ => cases e1
          | _ => cases e1
      exact k _ H _ [] g c1 (.leaf rr)
/-- all, any of a list of truths -/
def boolsD : List D → Option (List Bool)
  | [] => some []
  | .bool b :: r => (boolsD r).map (b :: ·)
  | _ => none
theorem boolsD_map : ∀ {ds : List D} {bs : List Bool}, boolsD ds = some bs → ds = bs.map PyData.bool
  | [], _, e => by
    cases e
    rfl
  | .bool b :: r, _, e => by
    obtain ⟨bs, e1, e2⟩ := Option.map_eq_some_iff.mp (show (boolsD r).map (b :: ·) = some _ from e)
    subst e2
    rw [boolsD_map e1]
    rfl
def gAll : List R → Option R
  | [x] => x.its.bind fun p => if p.1 = true then (boolsD p.2).map fun bs => rBool (bs.all id) else none
  | _ => none
def gAny : List R → Option R
  | [x] => x.its.bind fun p => if p.1 = true then (boolsD p.2).map fun bs => rBool (bs.any id) else none
  | _ => none
end
end Tl

namespace Tl
open PySem PySem.Spec PyProof.Rows L2

section
variable {K : PySem.W.Frag} {F F1 B H : Hp} {A : List Addr} {X : Cx}
theorem RepL.boolsOf : ∀ {vs : List V} {ds : List D} {bs : List Bool}, RepL K F vs ds → boolsD ds = some bs → vs = bs.map V.bl := fun r e => by
  rw [boolsD_map e] at r
  exact r.bools
theorem vr_all : VR K (rAll K) gAll := by
  intro rs z e F B H vs A Q c o k
  match rs, e with
  | [x], e =>
    obtain ⟨⟨isL, ds⟩, e1, e⟩ := Option.bind_eq_some_iff.mp (show x.its.bind _ = some z from e)
    obtain ⟨v, A1, rfl, o1, g, c1, s, h1⟩ := rs_one c o
    obtain ⟨a, xs, rfl, ha, za, ra⟩ := seq_of o1 e1 h1 s c1.fh c1.bh
    cases isL with
    | false => cases e
    | true =>
      obtain ⟨bs, e2, e3⟩ := Option.map_eq_some_iff.mp (show (boolsD ds).map _ = some z from e)
      subst e3
      have ev := ra.boolsOf e2
      subst ev
      exact ⟨a, bs, rfl, ha, end_scal c k fun F => .bl _⟩
theorem vr_any : VR K (rAny K) gAny := by
  intro rs z e F B H vs A Q c o k
  match rs, e with
  | [x], e =>
    obtain ⟨⟨isL, ds⟩, e1, e⟩ := Option.bind_eq_some_iff.mp (show x.its.bind _ = some z from e)
    obtain ⟨v, A1, rfl, o1, g, c1, s, h1⟩ := rs_one c o
    obtain ⟨a, xs, rfl, ha, za, ra⟩ := seq_of o1 e1 h1 s c1.fh c1.bh
    cases isL with
    | false => cases e
    | true =>
      obtain ⟨bs, e2, e3⟩ := Option.map_eq_some_iff.mp (show (boolsD ds).map _ = some z from e)
      subst e3
      have ev := ra.boolsOf e2
      subst ev
      exact ⟨a, bs, rfl, ha, end_scal c k fun F => .bl _⟩
/-- lists of whole numbers -/
def intsD : List D → Option (List Int)
  | [] => some []
  | .int b :: r => (intsD r).map (b :: ·)
  | _ => none
theorem intsD_map : ∀ {ds : List D} {bs : List Int}, intsD ds = some bs → ds = bs.map PyData.int
  | [], _, e => by
    cases e
    rfl
  | .int b :: r, _, e => by
    obtain ⟨bs, e1, e2⟩ := Option.map_eq_some_iff.mp (show (intsD r).map (b :: ·) = some _ from e)
    subst e2
    rw [intsD_map e1]
    rfl
/-- the greatest, the least of a list -/
def gMax : List R → Option R
  | [x] => x.its.bind fun p => if p.1 = true then (intsD p.2).bind fun ns => ns.max?.map rInt else none
  | _ => none
def gMin : List R → Option R
  | [x] => x.its.bind fun p => if p.1 = true then (intsD p.2).bind fun ns => ns.min?.map rInt else none
  | _ => none
theorem vr_max : VR K (rMax K) gMax := by
  intro rs z e F B H vs A Q c o k
  match rs, e with
  | [x], e =>
    obtain ⟨⟨isL, ds⟩, e1, e⟩ := Option.bind_eq_some_iff.mp (show x.its.bind _ = some z from e)
    obtain ⟨v, A1, rfl, o1, g, c1, s, h1⟩ := rs_one c o
    obtain ⟨a, xs, rfl, ha, za, ra⟩ := seq_of o1 e1 h1 s c1.fh c1.bh
    cases isL with
    | false => cases e
    | true =>
      obtain ⟨bs, e2, e⟩ := Option.bind_eq_some_iff.mp (show (intsD ds).bind _ = some z from e)
      obtain ⟨m, e3, e4⟩ := Option.map_eq_some_iff.mp e
      subst e4
      rw [intsD_map e2] at ra
      have ev := ra.ints
      subst ev
      obtain ⟨hm, hle⟩ := List.max?_eq_some_iff.mp e3
      refine ⟨a, bs, rfl, ha, List.length_pos_of_mem hm, fun m' hm' hle' => ?_⟩
      have : m' = m := Int.le_antisymm (hle m' hm') (hle' m hm)
      subst this
      exact end_scal c k fun F => .int _
def cutD (xs : List D) (lo hi : Option Int) : List D := (xs.drop (HT.sIx xs.length 0 lo)).take (HT.sIx xs.length xs.length hi - HT.sIx xs.length 0 lo)
theorem RepL.cut {xs : List V} {ds : List D} (r : RepL K F xs ds) (lo hi : Option Int) : RepL K F (cutV xs lo hi) (cutD ds lo hi) := by
  unfold cutV cutD
  rw [r.length]
  exact (r.drop _).take _
/-- one end of a slice -/
abbrev MO := Ro → Tau → Option (Option Int × Tau)
structure OV (K : PySem.W.Frag) (t : TO) (m : MO) : Prop where
  run : ∀ (ro : Ro) (τ : Tau) (r : Option Int) (τ' : Tau), m ro τ = some (r, τ') → ∀ (F B H : Hp) (σ : L2.St) (A : List Addr) (Q : Option Int → Hp → Prop), At K F B H σ ro τ A →
    (∀ (F' H' : Hp) (A2 : List Addr), Go F H A F' H' A2 → Cn F' B H' A2 → TauOk K F' H' σ τ' A2 → Q r H') → t σ H Q
def oNone : MO := fun _ τ => some (none, τ)
def asI : R → Option Int
  | .val (.leaf (.int i)) => some i
  | _ => none
def oSome (m : MV) : MO := fun ro τ => (m ro τ).bind fun p => (asI p.1).map fun i => (some i, p.2)
theorem ov_none : OV K tNoPart oNone := ⟨fun ro τ r τ' em F B H σ A Q a k => by
  cases em
  exact k F H A Go.refl a.cn a.tau⟩
theorem asI_of {r : R} {i : Int} {v : V} (h : asI r = some i) (o : ROk K F B H r v A) : v = .int i := by
  cases r with
  | vw t => cases h
  | val t =>
    cases t with
    | leaf d =>
      cases d with
      | int c =>
        cases h
        cases o with
        | leaf r => exact r.toInt
      | _ => cases h
    | _ => cases h
theorem ov_some {t : TE} {m : MV} (h : EV K t m) : OV K (tPart t) (oSome m) := ⟨fun ro τ r τ' em F B H σ A Q a k => by
  obtain ⟨⟨z, τ1⟩, e1, em⟩ := Option.bind_eq_some_iff.mp em
  obtain ⟨i, e2, em⟩ := Option.map_eq_some_iff.mp em
  cases em
  exact h.run ro τ z _ e1 F B H σ A _ a fun F1 H1 v A1 A2 g1 c1 o1 t1 => ⟨i, asI_of e2 o1, k F1 H1 A2 (g1.trans (Go.less fun _ m => List.mem_append_right _ m)) c1.right t1⟩⟩
/-- x[lo:hi] of a list, a tuple, a text -/
def cutR (r : R) (lo hi : Option Int) : Option R := match r.its with
  | some (true, ds) => some (.val (.fl (cutD ds lo hi)))
  | some (false, ds) => some (rd (.tuple (cutD ds lo hi)))
  | none => match r.er with
    | some (.str z) => if z.length ≤ 16000000 then some (rd (.str (cutS z lo hi))) else none
    | _ => none
def mCut (m : MV) (l h : MO) : MV := fun ro τ => (m ro τ).bind fun p => (l ro p.2).bind fun q => (h ro q.2).bind fun w => (cutR p.1 q.1 w.1).map fun r => (r, w.2)
theorem cut_end {r z : R} {lo hi : Option Int} {v : V} {Q : VK} (e : cutR r lo hi = some z) (c : Cn F B H A) (o : ROk K F B H r v A)
    (k : ∀ (F' H' : Hp) (u : V) (A' : List Addr), Go F H A F' H' A' → Cn F' B H' A' → ROk K F' B H' z u A' → Q u H') : rSlL K v lo hi H Q ∨ rSlA K v lo hi H Q ∨ rSlS v lo hi H Q := by
  have c' : Cn F B H (A ++ []) := by
    rw [List.append_nil]
    exact c
  obtain ⟨g, c1, s, h⟩ := c'.freeze
  rw [List.append_nil] at g
  have e' : (match r.its with
  | some (true, ds) => some (.val (.fl (cutD ds lo hi)))
  | some (false, ds) => some (rd (.tuple (cutD ds lo hi)))
  | none => match r.er with
    | some (.str z) => if z.length ≤ 16000000 then some (rd (.str (cutS z lo hi))) else none
    | _ => none) = some z := e
  split at e'
  · rename_i ds ex
    cases e'
    obtain ⟨a, xs, rfl, ha, za, ra⟩ := seq_of o ex h s c1.fh c1.bh
    exact .inl ⟨a, xs, rfl, ha, new_list g c1 (Nat.le_trans (cutV_length xs lo hi) za) (ra.cut lo hi) k⟩
  · rename_i ds ex
    cases e'
    obtain ⟨a, xs, rfl, ha, za, ra⟩ := seq_of o ex h s c1.fh c1.bh
    refine .inr (.inl ⟨a, xs, rfl, ha, fun w => ?_, fun _ => new_tup g c1 (Nat.le_trans (cutV_length xs lo hi) za) (ra.cut lo hi) k⟩)
    have ev : cutD ds lo hi = ds := by
      unfold cutD
      rw [← ra.length, w.1, w.2, Nat.sub_zero, List.drop_zero, ra.length]
      exact List.take_length
    rw [ev] at k
    have rr : Rep K (joinH F H A) (.ref a) (.tuple ds) := by
      cases r with
      | val t =>
        cases q : t.fz with
        | none =>
          simp only [R.its, q] at ex
          cases ex
        | some d =>
          simp only [R.its, q] at ex
          have rr := Own.rep s o h q
          cases d with
          | tuple es =>
            cases ex
            exact rr
          | _ => cases ex
      | vw t =>
        obtain ⟨e0, A', ow⟩ := o
        cases t with
        | leaf d =>
          cases ow with
          | leaf rr =>
            cases d with
            | tuple es =>
              cases ex
              exact rr.mono s
            | _ => cases ex
        | _ => cases ex
    exact k _ H _ [] g c1 (.leaf rr)
  · split at e'
    · rename_i y ex
      by_cases q : y.length ≤ 16000000
      · rw [if_pos q] at e'
        cases e'
        have rv : Rep K H v (.str y) := o.rep c.fh c.bh (fun _ _ _ q => q) ex
        exact .inr (.inr ⟨y, rv.toStr, small16 q, end_scal c k fun F => .str _⟩)
      · rw [if_neg q] at e'
        cases e'
    · cases e'
theorem sl_all : SlR X fun x lo hi H Q => rSlL X.K x lo hi H Q ∨ rSlA X.K x lo hi H Q ∨ rSlS x lo hi H Q := sl_list.or (sl_tupA.or sl_str)
theorem er_cut {a : Expr} {lo hi : Option Expr} {m : MV} {ml mh : MO} {tl th : TO} {p2 pos : Pos} (he : ER X a m) (hl : PO X lo tl) (ol : OV X.K tl ml) (hh : PO X hi th) (oh : OV X.K th mh) : ER X (.Subscript a (.Slice lo hi none p2) pos) (mCut m ml mh) :=
  ⟨fun ro τ r τ' em F B H σ A Q at_ k => by
  obtain ⟨⟨z, τ1⟩, e1, em⟩ := Option.bind_eq_some_iff.mp em
  obtain ⟨⟨i, τ2⟩, e2, em⟩ := Option.bind_eq_some_iff.mp em
  obtain ⟨⟨j, τ3⟩, e3, em⟩ := Option.bind_eq_some_iff.mp em
  obtain ⟨r', e4, em⟩ := Option.map_eq_some_iff.mp em
  cases em
  refine wE (pe_slice sl_all peW hl hh) (he.run ro τ z τ1 e1 F B H σ A _ at_ fun F1 H1 v A1 A2 g1 c1 o1 t1 => ?_)
  refine ol.run ro τ1 i τ2 e2 F1 B H1 σ A2 _ (at_.next g1 c1 t1) fun F2 H2 A3 g2 c2 t2 => ?_
  obtain ⟨g2', c2'⟩ := Go.framed c1 g2 c2
  have o2 := Go.ros c1 g2 o1
  have at2 : At X.K F2 B H2 σ ro τ2 A3 := ⟨c2, at_.ro.mono (g1.ff.trans g2.ff), t2⟩
  refine oh.run ro τ2 j _ e3 F2 B H2 σ A3 _ at2 fun F3 H3 A4 g3 c3 t3 => ?_
  obtain ⟨g3', c3'⟩ := Go.framed c2' g3 c3
  have o3 := Go.ros c2' g3 o2
  refine cut_end e4 c3'.left o3 fun F4 H4 u A5 g4 c4 o4 => ?_
  obtain ⟨g5, c5⟩ := Go.framedR c3' g4 c4
  exact k F4 H4 u A5 A4 (((g1.trans g2').trans g3').trans g5) c5 o4 (t3.stay g4.ff fun b m w q => g4.keep b w (fun z => c3'.apart b z m) q)⟩

def okShow (d : D) : Bool := d.canLay0 && d.showable && decide (d.depth ≤ 150) && decide (d.shown.length ≤ 16000000)
def strOf : D → Str
  | .str x => x
  | d => d.shown
def pStr : List D → Option D
  | [d] => if okShow d = true then some (.str (strOf d)) else none
  | _ => none
def pRepr : List D → Option D
  | [d] => if okShow d = true then some (.str d.shown) else none
  | _ => none
def rStr (K : PySem.W.Frag) : List V → Hp → VK → Prop := fun xs H Q => ∃ x d, xs = [x] ∧ Dp K H x d ∧ okShow d = true ∧ Q (.str (strOf d)) H
theorem okShow_all {d : D} (h : okShow d = true) : d.canLay0 = true ∧ d.showable = true ∧ d.depth ≤ 150 ∧ d.shown.length ≤ sizeLine := by
  have h' : (d.canLay0 && d.showable && decide (d.depth ≤ 150) && decide (d.shown.length ≤ 16000000)) = true := h
  simp only [Bool.and_eq_true, decide_eq_true_eq] at h'
  exact ⟨h'.1.1.1, h'.1.1.2, h'.1.2, small16 h'.2⟩
theorem call_str {j : Nat} (hr : RmG j X.A) : CallR X (.type "str") (rStr X.K) := by
  intro pins s σ H xs us Q I r h
  obtain ⟨x, d, rfl, hd, ok, q⟩ := h
  obtain ⟨o1, o2, o3, o4⟩ := okShow_all ok
  obtain ⟨u, rfl, ru⟩ := vals1 r
  obtain ⟨as, rr⟩ := Dp.reads I d x u hd ru
  have un := hr.rm.un
  cases hd with
  | non =>
    cases ru
    exact PySem.P.str_of_none ⟨.str _, H, I.tok _, ⟨_, rfl⟩, q⟩
  | bl b =>
    cases ru
    exact PySem.P.str_of_bool ⟨.str _, H, I.tok _, ⟨_, rfl⟩, q⟩
  | int i =>
    obtain ⟨t, rfl⟩ := ru
    exact PySem.P.str_of_int (of_decide_eq_true (by simpa only [PyData.showable] using o2)) ⟨.str _, H, I.tok _, ⟨_, rfl⟩, q⟩
  | str y =>
    obtain ⟨t, rfl⟩ := ru
    exact PySem.P.str_of_str ⟨.str _, H, I, ⟨_, rfl⟩, q⟩
  | lst h1 h2 =>
    cases ru
    refine str_of_reads (h₀ := s.heap) rr o2 (PyData.noDict_hsm (PyData.hasDict_of_canLay _ o1)) hr.gd (by omega) (fun _ _ e => e) (fun h' u tk hk => ?_) o4
    exact ⟨.str _, H, I.kept hk, ⟨_, rfl⟩, q⟩
  | tup h1 h2 =>
    cases ru
    refine str_of_reads (h₀ := s.heap) rr o2 (PyData.noDict_hsm (PyData.hasDict_of_canLay _ o1)) hr.gd (by omega) (fun _ _ e => e) (fun h' u tk hk => ?_) o4
    exact ⟨.str _, H, I.kept hk, ⟨_, rfl⟩, q⟩
theorem vr_str : VR K (rStr K) (gp pStr) := VR.plain fun ds d e H vs Q r k => by
  match ds, e with
  | [a], e =>
    have e' : (if okShow a = true then some (PyData.str (strOf a)) else none) = some d := e
    by_cases q : okShow a = true
    · rw [if_pos q] at e'
      cases e'
      obtain ⟨v, rfl, r1⟩ := r.one
      exact ⟨v, a, rfl, r1.dp a (okShow_all q).1, q, k _ fun F => .str _⟩
    · rw [if_neg q] at e'
      cases e'
def tyD : D → String
  | .none => "NoneType"
  | .bool _ => "bool"
  | .int _ => "int"
  | .str _ => "str"
  | .list _ => "list"
  | .tuple _ => "tuple"
  | .dict _ => "dict"
/-- the type of a value; dicts with tuples as keys too -/
inductive TyZ (K : PySem.W.Frag) (H : Hp) : V → Value → Prop where
  | base {x : V} {t : Value} (h : TyX K H x t) : TyZ K H x t
  | dn {a : Addr} {kvs : List (NK × Addr × V)} (e : H a = some (dnO a kvs)) : TyZ K H (.ref a) (.type "dict")
  | dl {a : Addr} {o : Obj} {kvs : List (NK × Addr × V)} (e : H a = some (.frz o (dnO a kvs))) : TyZ K H (.ref a) (.type "dict")
  | xc {a C : Addr} (e : H a = some (xcO a C none)) (k : XcC K C) : TyZ K H (.ref a) (.ref C)
  | xf {a C dx : Addr} {fs : List (Str × V)} (e : H a = some (xcO a C (some dx))) (k : XcC K C) (g : H dx = some (.xd fs)) : TyZ K H (.ref a) (.ref C)
theorem kitz_of {X : Cx} {pins : List (Addr × Obj)} {σ : L2.St} {H : Hp} {s : Shared} {x : V} {u t : Value} (I : Inv X pins σ H s) (rx : RelV x u) (ty : TyZ X.K H x t) : ∃ P : Heap → Prop, PySem.W.KitX X.K u t P ∧ P s.heap ∧ u ≠ .builtin "__main__.__loader__#opaque" := by
  cases ty with
  | base h => exact kit_of I rx h
  | @dn a kvs ea =>
    cases (show u = Value.ref a from rx)
    obtain ⟨⟨_, _, xs, _, o, es, ep, h1, h2, _⟩, _⟩ := (show ObjOk X.prog X.w H s.heap a (dnO a kvs) from I.hok a _ ea)
    exact ⟨_, PySem.W.kitx_dict, ⟨o, h1, h2.1⟩, fun z => nomatch z⟩
  | @dl a ob kvs ea =>
    cases (show u = Value.ref a from rx)
    obtain ⟨_, ⟨_, _, xs, _, o, es, ep, h1, h2, _⟩, _⟩ := (show ObjOk X.prog X.w H s.heap a (.frz ob (dnO a kvs)) from I.hok a _ ea)
    exact ⟨_, PySem.W.kitx_dict, ⟨o, h1, h2.1⟩, fun z => nomatch z⟩
  | @xc a C ea k =>
    cases (show u = Value.ref a from rx)
    obtain ⟨⟨oe, vs, h1, h2, h3, h4⟩, _⟩ := (show ObjOk X.prog X.w H s.heap a (xcO a C none) from I.hok a _ ea)
    exact ⟨_, PySem.W.kitx_exc k.cl k.ga k.gg k.ex k.ca k.sp k.tk k.ob, (⟨h1, h2, by unfold PySem.W.notCls; rw [h4] <;> rfl, by rw [h3]; trivial⟩ : PySem.W.InstAt s.heap a oe C none), fun z => nomatch z⟩
  | @xf a C dx fs ea k eg =>
    cases (show u = Value.ref a from rx)
    obtain ⟨⟨oe, vs, h1, h2, h3, h4⟩, _⟩ := (show ObjOk X.prog X.w H s.heap a (xcO a C (some dx)) from I.hok a _ ea)
    obtain ⟨mA, ⟨od, es, ep, ho, hr⟩, _⟩ := (show ObjOk X.prog X.w H s.heap dx (.xd fs) from I.hok dx _ eg)
    exact ⟨_, PySem.W.kitx_exc k.cl k.ga k.gg k.ex k.ca k.sp k.tk k.ob, (⟨h1, h2, by unfold PySem.W.notCls; rw [h4] <;> rfl, by rw [h3]; exact ho⟩ : PySem.W.InstAt s.heap a oe C (some od)), fun z => nomatch z⟩
def rIsiZ (K : PySem.W.Frag) : List V → Hp → VK → Prop := fun xs H Q => ∃ (x c : V) (t u : Value) (b : Bool), xs = [x, c] ∧ ClsV c u ∧ TyZ K H x t ∧ PySem.W.kitOne K t u = some b ∧ Q (.bl b) H
def rIsiTZ (K : PySem.W.Frag) : List V → Hp → VK → Prop := fun xs H Q => ∃ (x : V) (tp : Addr) (cs : List V) (t : Value) (us : List Value) (b : Bool), xs = [x, .ref tp] ∧ H tp = some (.tup cs) ∧ Paired ClsV cs us ∧ TyZ K H x t ∧ PySem.W.kitAny K t us = some b ∧ Q (.bl b) H
theorem call_isiZ {X : Cx} : CallR X (.builtin "isinstance") (rIsiZ X.K) := by
  intro pins s σ H xs us Q I r h
  obtain ⟨x, c, t, u, b, rfl, k, ty, e, q⟩ := h
  obtain ⟨u1, u2, rfl, r1, r2⟩ := vals2 r
  have e2 := k.eq r2
  subst e2
  obtain ⟨P, Z, p, hx⟩ := kitz_of I r1 ty
  exact PySem.W.kia_one Z I.kIn p e hx fun tk => ⟨.bl b, H, I.tok tk, rfl, q⟩
theorem call_isiTZ {X : Cx} : CallR X (.builtin "isinstance") (rIsiTZ X.K) := by
  intro pins s σ H xs us Q I r h
  obtain ⟨x, tp, cs, t, ws, b, rfl, hT, k, ty, e, q⟩ := h
  obtain ⟨u1, u2, rfl, r1, r2⟩ := vals2 r
  cases (show u2 = Value.ref tp from r2)
  obtain ⟨P, Z, p, hx⟩ := kitz_of I r1 ty
  obtain ⟨_, its, rv, o, h1, h2, n, h3⟩ := (show ObjOk X.prog X.w H s.heap tp (.tup cs) from I.hok tp _ hT)
  have e3 := ClsV.all k rv
  subst e3
  obtain ⟨oc, od, dt, sl⟩ := o
  simp only at h2 h3
  subst h2 h3
  exact PySem.W.kia_tup Z I.kIn p h1 e hx fun tk => ⟨.bl b, H, I.tok tk, rfl, q⟩
/-- what isinstance says of data for a class -/
structure IsT (n : String) (f : D → Bool) : Prop where
  ok : ∀ d, kitB (tyD d) n = some (f d)
  mem : n ∈ btsX
  dic : ∀ es, f (.dict es) = false
theorem tyX_of {v : V} {d : D} (r : Rep K H v d) : ∃ t, TyZ K H v t ∧ ∀ (n : String) (f : D → Bool), IsT n f → PySem.W.kitOne K t (.type n) = some (f d) := by
  cases r with
  | non => exact ⟨_, .base (.base .non), fun n f t => kit_ty (t.ok .none)⟩
  | bl b => exact ⟨_, .base (.base (.bl b)), fun n f t => kit_ty (t.ok (.bool b))⟩
  | int i => exact ⟨_, .base (.base (.int i)), fun n f t => kit_ty (t.ok (.int i))⟩
  | str x => exact ⟨_, .base (.base (.str x)), fun n f t => kit_ty (t.ok (.str x))⟩
  | @lst _ _ ds h1 _ _ => exact ⟨_, .base (.base (.lst h1)), fun n f t => kit_ty (t.ok (.list ds))⟩
  | @tup _ _ ds h1 _ _ =>
    rcases h1 with (h1 | ⟨o, h1⟩) | ⟨o, its, n, h1, h2, _⟩
    · exact ⟨_, .base (.base (.tup h1)), fun n f t => kit_ty (t.ok (.tuple ds))⟩
    · exact ⟨_, .base (.fTuple h1), fun n f t => kit_ty (t.ok (.tuple ds))⟩
    · exact ⟨_, .base (.kTuple h1 h2), fun n f t => kit_ty (t.ok (.tuple ds))⟩
  | @dk _ _ es h1 _ => exact ⟨_, .base (.base (.dK h1)), fun n f t => kit_ty (t.ok (.dict es))⟩
  | @dn _ _ es h1 _ => exact ⟨_, .dn h1, fun n f t => kit_ty (t.ok (.dict ((.none, .none) :: es)))⟩
  | @dl _ _ _ es h1 _ => exact ⟨_, .dl h1, fun n f t => kit_ty (t.ok (.dict ((.none, .bool true) :: es)))⟩
  | xc h1 k _ => exact ⟨_, .xc h1 k, fun n f t => by rw [k.kb n t.mem, t.dic]⟩
  | xf h1 k _ g _ => exact ⟨_, .xf h1 k g, fun n f t => by rw [k.kb n t.mem, t.dic]⟩
def isIntD : D → Bool
  | .int _ => true
  | .bool _ => true
  | _ => false
def isBoolD : D → Bool
  | .bool _ => true
  | _ => false
def isStrD : D → Bool
  | .str _ => true
  | _ => false
def isListD : D → Bool
  | .list _ => true
  | _ => false
def isTupD : D → Bool
  | .tuple _ => true
  | _ => false
theorem isT_int : IsT "int" isIntD := ⟨fun d => match d with
  | .none => (by decide +kernel : kitB "NoneType" "int" = some false)
  | .bool _ => (by decide +kernel : kitB "bool" "int" = some true)
  | .int _ => (by decide +kernel : kitB "int" "int" = some true)
  | .str _ => (by decide +kernel : kitB "str" "int" = some false)
  | .list _ => (by decide +kernel : kitB "list" "int" = some false)
  | .tuple _ => (by decide +kernel : kitB "tuple" "int" = some false)
  | .dict _ => (by decide +kernel : kitB "dict" "int" = some false), by decide, fun _ => rfl⟩
theorem isT_bool : IsT "bool" isBoolD := ⟨fun d => match d with
  | .none => (by decide +kernel : kitB "NoneType" "bool" = some false)
  | .bool _ => (by decide +kernel : kitB "bool" "bool" = some true)
  | .int _ => (by decide +kernel : kitB "int" "bool" = some false)
  | .str _ => (by decide +kernel : kitB "str" "bool" = some false)
  | .list _ => (by decide +kernel : kitB "list" "bool" = some false)
  | .tuple _ => (by decide +kernel : kitB "tuple" "bool" = some false)
  | .dict _ => (by decide +kernel : kitB "dict" "bool" = some false), by decide, fun _ => rfl⟩
theorem isT_str : IsT "str" isStrD := ⟨fun d => match d with
  | .none => (by decide +kernel : kitB "NoneType" "str" = some false)
  | .bool _ => (by decide +kernel : kitB "bool" "str" = some false)
  | .int _ => (by decide +kernel : kitB "int" "str" = some false)
  | .str _ => (by decide +kernel : kitB "str" "str" = some true)
  | .list _ => (by decide +kernel : kitB "list" "str" = some false)
  | .tuple _ => (by decide +kernel : kitB "tuple" "str" = some false)
  | .dict _ => (by decide +kernel : kitB "dict" "str" = some false), by decide, fun _ => rfl⟩
theorem isT_list : IsT "list" isListD := ⟨fun d => match d with
  | .none => (by decide +kernel : kitB "NoneType" "list" = some false)
  | .bool _ => (by decide +kernel : kitB "bool" "list" = some false)
  | .int _ => (by decide +kernel : kitB "int" "list" = some false)
  | .str _ => (by decide +kernel : kitB "str" "list" = some false)
  | .list _ => (by decide +kernel : kitB "list" "list" = some true)
  | .tuple _ => (by decide +kernel : kitB "tuple" "list" = some false)
  | .dict _ => (by decide +kernel : kitB "dict" "list" = some false), by decide, fun _ => rfl⟩
theorem isT_tuple : IsT "tuple" isTupD := ⟨fun d => match d with
  | .none => (by decide +kernel : kitB "NoneType" "tuple" = some false)
  | .bool _ => (by decide +kernel : kitB "bool" "tuple" = some false)
  | .int _ => (by decide +kernel : kitB "int" "tuple" = some false)
  | .str _ => (by decide +kernel : kitB "str" "tuple" = some false)
  | .list _ => (by decide +kernel : kitB "list" "tuple" = some false)
  | .tuple _ => (by decide +kernel : kitB "tuple" "tuple" = some true)
  | .dict _ => (by decide +kernel : kitB "dict" "tuple" = some false), by decide, fun _ => rfl⟩
def mIsi (f : D → Bool) (m : MV) : MV := fun ro τ => (m ro τ).bind fun p => p.1.er.map fun d => (rBool (f d), p.2)
theorem er_isi {e eT : Expr} {n : String} {f : D → Bool} {m : MV} {p pos : Pos} (t : IsT n f) (h : ER X e m) (hT : PE X eT (tC (.ty n))) (hg : Gl X "isinstance" := by rfl) (hm : X.mg "isinstance" = none) (hv : bootBuiltins "isinstance" = some (.builtin "isinstance") := by decide +kernel)
    (h1 : starEach [e, eT] X.env = (false, eval e X.env) :: starEach [eT] X.env := by rfl) (h2 : starEach [eT] X.env = (false, eval eT X.env) :: starEach [] X.env := by rfl) (hpl : (backTo pos (starEach [eT] X.env)).any (·.1) = false := by rfl) :
    ER X (.Call (.Name "isinstance" p) [e, eT] [] pos) (mIsi f m) := ⟨fun ro τ r τ' em F B H σ A Q a k => by
  obtain ⟨⟨z, τ1⟩, e1, em⟩ := Option.bind_eq_some_iff.mp em
  obtain ⟨d, e2, em⟩ := Option.map_eq_some_iff.mp em
  cases em
  refine wE (pe_callB call_isiZ hg hm hv (pa_cons peW (pa_cons hT pa_nil h2) h1) (by decide) (by decide) h1 hpl) (h.run ro τ z _ e1 F B H σ A _ a fun F1 H1 v A1 A2 g1 c1 o1 t1 => ?_)
  have rv : Rep X.K H1 v d := o1.rep c1.fh c1.bh (fun _ _ _ q => q) e2
  obtain ⟨tt, ty, kk⟩ := tyX_of rv
  exact ⟨v, .ty n, tt, .type n, f d, rfl, .ty n, ty, kk n f t, k F1 H1 _ [] A2 (g1.trans (Go.less fun _ m => List.mem_append_right _ m)) c1.right (.leaf (.bl _)) t1⟩⟩
def mIsi2 (f g : D → Bool) (m : MV) : MV := fun ro τ => (m ro τ).bind fun p => p.1.er.map fun d => (rBool (f d || g d), p.2)
theorem er_isi2 {e eT eS : Expr} {n n' : String} {f f' : D → Bool} {m : MV} {p pos tp : Pos} {kk : Nat} (t : IsT n f) (t' : IsT n' f') (h : ER X e m) (hT : PE X eT (tC (.ty n))) (hS : PE X eS (tC (.ty n'))) (hg : Gl X "isinstance" := by rfl) (hm : X.mg "isinstance" = none) (hv : bootBuiltins "isinstance" = some (.builtin "isinstance") := by decide +kernel)
    (h1 : starEach [e, .Tuple [eT, eS] kk tp] X.env = (false, eval e X.env) :: starEach [.Tuple [eT, eS] kk tp] X.env := by rfl) (h2 : starEach [.Tuple [eT, eS] kk tp] X.env = (false, eval (.Tuple [eT, eS] kk tp) X.env) :: starEach [] X.env := by rfl)
    (h3 : starEach [eT, eS] X.env = (false, eval eT X.env) :: starEach [eS] X.env := by rfl) (h4 : starEach [eS] X.env = (false, eval eS X.env) :: starEach [] X.env := by rfl) (hpl : (backTo pos (starEach [.Tuple [eT, eS] kk tp] X.env)).any (·.1) = false := by rfl) :
    ER X (.Call (.Name "isinstance" p) [e, .Tuple [eT, eS] kk tp] [] pos) (mIsi2 f f' m) := ⟨fun ro τ r τ' em F B H σ A Q a k => by
  obtain ⟨⟨z, τ1⟩, e1, em⟩ := Option.bind_eq_some_iff.mp em
  obtain ⟨d, e2, em⟩ := Option.map_eq_some_iff.mp em
  cases em
  refine wE (pe_callB call_isiTZ hg hm hv (pa_cons peW (pa_cons (pe_tup (pa_cons hT (pa_cons hS pa_nil h4) h3)) pa_nil h2) h1) (by decide) (by decide) h1 hpl) (h.run ro τ z _ e1 F B H σ A _ a fun F1 H1 v A1 A2 g1 c1 o1 t1 => ?_)
  have rv : Rep X.K H1 v d := o1.rep c1.fh c1.bh (fun _ _ _ q => q) e2
  refine ⟨by rw [sizeLine_eq]; show 2 ≤ 16777216; decide, fun p hp => ?_⟩
  obtain ⟨g2, c2⟩ := c1.right.newF (o := .tup [.ty n, .ty n']) hp
  have sm : Same H1 (upd H1 p (.tup [.ty n, .ty n'])) := fun b u z => by
    rw [upd_ne (ne_of_none z hp)]
    exact z
  obtain ⟨tt, ty, kk⟩ := tyX_of (rv.mono sm)
  refine ⟨v, p, [.ty n, .ty n'], tt, [.type n, .type n'], f d || f' d, rfl, upd_same, .cons (.ty n) (.cons (.ty n') .nil), ty, ?_, ?_⟩
  · refine kitAny_cons (kk n f t) (fun hf => kitAny_cons (r := f d || f' d) (kk n' f' t') (fun hf' => ?_) fun hf' => ?_) fun hf => ?_
    · rw [hf, hf']
      rfl
    · rw [hf']
      exact Bool.or_true _
    · rw [hf]
      rfl
  · exact k _ _ _ [] A2 ((g1.trans (Go.less fun _ m => List.mem_append_right _ m)).trans g2) c2 (.leaf (.bl _)) (t1.stay g2.ff fun b m w q => sm b w q)⟩

def mLRng (m : MV) : MV := fun ro τ => (m ro τ).bind fun p => (asI p.1).bind fun n => if 0 ≤ n ∧ n ≤ 16000000 then some (.val (.fl (rangeD 0 1 n.toNat)), p.2) else none
def MU (K : PySem.W.Frag) (r : V → List V → Hp → VK → Prop) (g : T → List D → Option (D × T)) : Prop :=
  ∀ (t : T) (ds : List D) (z : D) (t' : T), g t ds = some (z, t') → ∀ (F B H : Hp) (v : V) (vs : List V) (A : List Addr) (Q : VK), Cn F B H A → Own K F H v t A → RepL K F vs ds →
    (∀ (H' : Hp) (u : V) (A' : List Addr), Go F H A F H' A' → Cn F B H' A' → Own K F H' v t' A' → Rep K F u z → Q u H') → r v vs H Q
def isLs : T → Bool
  | .fl _ => true
  | .ls _ => true
  | _ => false
def mMut (i : Nat) (g : T → List D → Option (D × T)) (l : ML) : MV := fun ro τ => (tget τ i).bind fun t0 => if isLs t0 = true then (l ro τ).bind fun p => (stL p.1).bind fun ds => (tget p.2 i).bind fun t => (g t ds).map fun q => (rd q.1, tset p.2 i q.2) else none
theorem ls_at {v : V} {t : T} {A : List Addr} (h : isLs t = true) (o : Own K F H v t A) : tyV K "list" v H := by
  cases o with
  | fl h1 _ _ => exact .inl ⟨rfl, _, .inl (.inl h1)⟩
  | ls h1 _ _ => exact .inl ⟨rfl, _, .inl (.inl h1)⟩
  | _ => cases h
theorem mut_end {σ : L2.St} {i : Nat} {g : T → List D → Option (D × T)} {r : V → List V → Hp → VK → Prop} (mu : MU K r g) {F0 H0 : Hp} {A0 A1 A2 : List Addr} {rs : List R} {vs : List V} {ds : List D} {t t' : T} {z : D} {τ : Tau} {v : V} {Q : VK}
    (g0 : Go F0 H0 A0 F H (A1 ++ A2)) (c : Cn F B H (A1 ++ A2)) (o : RsOk K F B H rs vs A1) (tk : TauOk K F H σ τ A2) (e1 : stL rs = some ds) (e2 : tget τ i = some t) (e3 : g t ds = some (z, t')) (hv : σ[i]? = some (some v))
    (k : ∀ (F' H' : Hp) (u : V) (A1 A2 : List Addr), Go F0 H0 A0 F' H' (A1 ++ A2) → Cn F' B H' (A1 ++ A2) → ROk K F' B H' (rd z) u A1 → TauOk K F' H' σ (tset τ i t') A2 → Q u H') : r v vs H Q := by
  obtain ⟨F1, g1, c1, s1, rl⟩ := o.freeze c e1
  have t1 := tk.stay s1 fun _ _ _ q => q
  obtain ⟨w, A3, A4, hw, ow, t2, n2, s2⟩ := t1.take c1.nd e2
  rw [hv] at hw
  cases hw
  have c2 := c1.sub n2 s2
  refine mu t ds z t' e3 F1 B H v vs A3 Q c2.left ow rl fun H' u A' g3 c3 o3 ru => ?_
  obtain ⟨g4, c4⟩ := Go.framedR c2 g3 c3
  have t4 := t2.stay g3.ff fun b m w q => g3.keep b w (fun z => c2.apart b z m) q
  obtain ⟨A5, t5, n5, s5⟩ := t4.put hv o3 c4.nd
  rw [← tset_eq] at t5
  exact k F1 H' u [] A5 ((((g0.trans g1).trans (Go.less s2)).trans g4).trans (Go.less s5)) (c4.sub n5 s5) (.leaf ru) t5
theorem er_mut {o e : Expr} {es : List Expr} {name : Str} {apos cpos : Pos} {id : String} {r : V → List V → Hp → VK → Prop} {g : T → List D → Option (D × T)} {l : ML} {i : Nat} (mu : MU X.K r g)
    (slot : Slot "list" name id) (hty : typeOf (.builtin id) = pure (.type "method_descriptor")) (hm : MtR X id r) (ho : PE X o (tVar i)) (ha : AR X (e :: es) l)
    (hbase : attributeBase o name X.env (eval o X.env) = eval o X.env := by rfl)
    (hfew : ((backTo cpos (starEach (e :: es) X.env)).all (fun x => !x.1) && (backToKw cpos (keywordEach [] X.env)).all (fun x => x.1.isSome)
      && decide ((e :: es).length + ([] : List Keyword).length + (if ([] : List Keyword).isEmpty then 0 else 1) < 30)) = true := by rfl)
    (hline : (apos.endLine == cpos.line) = true := by rfl) (hs : starEach (e :: es) X.env = (false, eval e X.env) :: starEach es X.env := by rfl) (hplain : (backTo cpos (starEach es X.env)).any (·.1) = false := by rfl) :
    ER X (.Call (.Attribute o name apos) (e :: es) [] cpos) (mMut i g l) := ⟨fun ro τ r' τ' em F B H σ A Q a k => by
  obtain ⟨t0, e0, em⟩ := Option.bind_eq_some_iff.mp em
  by_cases q0 : isLs t0 = true
  · rw [if_pos q0] at em
    obtain ⟨⟨rs, τ1⟩, e1, em⟩ := Option.bind_eq_some_iff.mp em
    obtain ⟨ds, e2, em⟩ := Option.bind_eq_some_iff.mp em
    obtain ⟨t, e3, em⟩ := Option.bind_eq_some_iff.mp em
    obtain ⟨⟨z, t'⟩, e4, em⟩ := Option.map_eq_some_iff.mp em
    cases em
    obtain ⟨v, A1, A2, hv, ow, _⟩ := a.tau.take a.cn.nd e0
    refine wE (pe_bm PySem.F.plainAttrs_list slot hty hm ho paW hbase hfew hline hs hplain) ⟨v, hv, ls_at q0 ow, ha.run ro τ rs τ1 e1 F B H σ A _ a fun F1 H1 vs A3 A4 g1 c1 o1 t1 => ?_⟩
    exact mut_end mu g1 c1 o1 t1 e2 e3 e4 hv k
  · rw [if_neg q0] at em
    cases em⟩
theorem fl_write {F B H : Hp} {A : List Addr} {a : Addr} {ys : List V} {ds : List D} (c : Cn F B H A) (hA : A = [a]) (hz : ys.length ≤ sizeLine) (r : RepL K F ys ds) :
    Go F H A F (upd H a (.lst ys)) A ∧ Cn F B (upd H a (.lst ys)) A ∧ Own K F (upd H a (.lst ys)) (.ref a) (.fl ds) A := by
  subst hA
  obtain ⟨g, c'⟩ := c.write (o := .lst ys) (p := a) (List.mem_singleton.mpr rfl)
  exact ⟨g, c', .fl upd_same hz r⟩
theorem lt16 {n : Nat} (h : n < 16000000) : n < sizeLine := by
  rw [sizeLine_eq]
  omega
theorem OwnL.append {F H : Hp} : ∀ {xs ys : List V} {ts us : List T} {A B : List Addr}, OwnL K F H xs ts A → OwnL K F H ys us B → OwnL K F H (xs ++ ys) (ts ++ us) (A ++ B)
  | [], _, _, _, _, _, .nil, h => h
  | _ :: _, _, _, _, _, _, .cons o t, h => by
    rw [List.append_assoc]
    exact .cons o (OwnL.append t h)
def gAppend : T → List D → Option (D × T)
  | .fl xs, [d] => if xs.length < 16000000 then some (.none, .fl (xs ++ [d])) else none
  | .ls ts, [d] => if ts.length < 16000000 then some (.none, .ls (ts ++ [.leaf d])) else none
  | _, _ => none
theorem mu_append : MU K rAppend gAppend := by
  intro t ds z t' e F B H v vs A Q c o r k
  match t, ds, e with
  | .ls ts, [d], e =>
    have e' : (if ts.length < 16000000 then some (PyData.none, T.ls (ts ++ [.leaf d])) else none) = some (z, t') := e
    by_cases q : ts.length < 16000000
    · rw [if_pos q] at e'
      cases e'
      cases o with
      | @ls a ys _ A0 h1 h2 h3 =>
        obtain ⟨u, rfl, ru⟩ := r.one
        have hl := OwnL.length h3
        obtain ⟨g, c'⟩ := c.write (o := .lst (ys ++ [u])) (p := a) List.mem_cons_self
        have hz : (ys ++ [u]).length ≤ sizeLine := by
          rw [List.length_append, List.length_singleton]
          exact lt16 (by omega)
        have np : ∀ b ∈ A0, b ≠ a := fun b m z => (List.nodup_cons.mp c.nd).1 (z ▸ m)
        have o3 : OwnL K F (upd H a (.lst (ys ++ [u]))) (ys ++ [u]) (ts ++ [.leaf d]) (A0 ++ ([] ++ [])) := ((h3.stay (Same.refl F) fun b m o q => by
          rw [upd_ne (np b m)]
          exact q)).append (.cons (.leaf ru) .nil)
        rw [List.append_nil, List.append_nil] at o3
        exact ⟨a, ys, u, rfl, rfl, h1, lt16 (by omega), k _ .non _ g c' (.ls upd_same hz o3) .non⟩
    · rw [if_neg q] at e'
      cases e'
  | .fl xs, [d], e =>
    have e' : (if xs.length < 16000000 then some (PyData.none, T.fl (xs ++ [d])) else none) = some (z, t') := e
    by_cases q : xs.length < 16000000
    · rw [if_pos q] at e'
      cases e'
      cases o with
      | fl h1 h2 h3 =>
        obtain ⟨u, rfl, ru⟩ := r.one
        have hl := h3.length
        have hz : ∀ ys : List V, ys.length < 16000000 → (ys ++ [u]).length ≤ sizeLine := fun ys hy => by
          rw [List.length_append, List.length_singleton]
          exact lt16 hy
        rename_i a ys
        obtain ⟨g, c', o'⟩ := fl_write c rfl (hz ys (by omega)) (h3.append (.cons ru .nil))
        exact ⟨a, ys, u, rfl, rfl, h1, lt16 (by omega), k _ .non _ g c' o' .non⟩
    · rw [if_neg q] at e'
      cases e'
def gExtend : T → List D → Option (D × T)
  | .fl xs, [.list es] => if xs.length + es.length ≤ 16000000 then some (.none, .fl (xs ++ es)) else none
  | _, _ => none
theorem mu_extend : MU K rExtend gExtend := by
  intro t ds z t' e F B H v vs A Q c o r k
  match t, ds, e with
  | .fl xs, [.list es], e =>
    have e' : (if xs.length + es.length ≤ 16000000 then some (PyData.none, T.fl (xs ++ es)) else none) = some (z, t') := e
    by_cases q : xs.length + es.length ≤ 16000000
    · rw [if_pos q] at e'
      cases e'
      cases o with
      | fl h1 h2 h3 =>
        obtain ⟨u, rfl, ru⟩ := r.one
        cases ru with
        | lst f1 f2 f3 =>
          rename_i a ys b zs
          have hl := h3.length
          have hl2 := f3.length
          have hz : ys.length + zs.length ≤ sizeLine := small16 (by omega)
          obtain ⟨g, c', o'⟩ := fl_write c rfl (by rw [List.length_append]; exact hz) (h3.append f3)
          exact ⟨a, b, ys, zs, rfl, rfl, h1, c.fh _ _ f1, hz, k _ .non _ g c' o' .non⟩
    · rw [if_neg q] at e'
      cases e'
def gInsert : T → List D → Option (D × T)
  | .fl xs, [.int i, d] => if xs.length < 16000000 ∧ 0 ≤ i ∧ i ≤ 16000000 then some (.none, .fl (xs.take i.toNat ++ [d] ++ xs.drop i.toNat)) else none
  | _, _ => none
theorem mu_insert : MU K (fun x vs H Q => ∃ (l : Addr) (xs : List V) (i : Int) (y : V), x = .ref l ∧ vs = [.int i, y] ∧ H l = some (.lst xs) ∧ xs.length < sizeLine ∧ 0 ≤ i ∧ i < 2 ^ 63 ∧
    Q .non (upd H l (.lst (xs.take i.toNat ++ [y] ++ xs.drop i.toNat)))) gInsert := by
  intro t ds z t' e F B H v vs A Q c o r k
  match t, ds, e with
  | .fl xs, [.int i, d], e =>
    have e' : (if xs.length < 16000000 ∧ 0 ≤ i ∧ i ≤ 16000000 then some (PyData.none, T.fl (xs.take i.toNat ++ [d] ++ xs.drop i.toNat)) else none) = some (z, t') := e
    by_cases q : xs.length < 16000000 ∧ 0 ≤ i ∧ i ≤ 16000000
    · rw [if_pos q] at e'
      cases e'
      cases o with
      | fl h1 h2 h3 =>
        obtain ⟨w, u, rfl, rw', ru⟩ := r.two
        rename_i a ys
        cases rw'.toInt
        have hl := h3.length
        obtain ⟨q1, q2, q3⟩ := q
        have hz : (ys.take i.toNat ++ [u] ++ ys.drop i.toNat).length ≤ sizeLine := by
          rw [List.length_append, List.length_append, List.length_take, List.length_drop, List.length_singleton]
          exact small16 (by omega)
        obtain ⟨g, c', o'⟩ := fl_write c rfl hz (((h3.take i.toNat).append (.cons ru .nil)).append (h3.drop i.toNat))
        exact ⟨a, ys, i, u, rfl, rfl, h1, lt16 (by omega), q2, by omega, k _ .non _ g c' o' .non⟩
    · rw [if_neg q] at e'
      cases e'
def gPop : T → List D → Option (D × T)
  | .fl xs, [] => (xs[xs.length - 1]?).map fun d => (d, .fl xs.dropLast)
  | _, _ => none
def gPopAt : T → List D → Option (D × T)
  | .fl xs, [.int i] => if -16000000 ≤ i ∧ i ≤ 16000000 then (seqIndex? i xs.length).bind fun k => (xs[k]?).map fun d => (d, .fl (xs.eraseIdx k)) else none
  | _, _ => none
theorem mu_popAt : MU K rPopAt gPopAt := by
  intro t ds z t' e F B H v vs A Q c o r k
  match t, ds, e with
  | .fl xs, [.int i], e =>
    have e' : (if -16000000 ≤ i ∧ i ≤ 16000000 then (seqIndex? i xs.length).bind fun k => (xs[k]?).map fun d => (d, T.fl (xs.eraseIdx k)) else none) = some (z, t') := e
    by_cases q : -16000000 ≤ i ∧ i ≤ 16000000
    · rw [if_pos q] at e'
      obtain ⟨j, e1, e'⟩ := Option.bind_eq_some_iff.mp e'
      obtain ⟨d, e2, e3⟩ := Option.map_eq_some_iff.mp e'
      cases e3
      cases o with
      | fl h1 h2 h3 =>
        obtain ⟨w, rfl, rw'⟩ := r.one
        cases rw'.toInt
        rename_i a ys
        obtain ⟨u, e4, ru⟩ := h3.get e2
        rw [← h3.length] at e1
        obtain ⟨g, c', o'⟩ := fl_write c rfl (Nat.le_trans (len_erase ys j) h2) (h3.eraseIdx j)
        exact ⟨a, ys, i, j, u, rfl, rfl, h1, by omega, by omega, e1, e4, k _ u _ g c' o' ru⟩
    · rw [if_neg q] at e'
      cases e'
def gReverse : T → List D → Option (D × T)
  | .fl xs, [] => some (.none, .fl xs.reverse)
  | _, _ => none
def gClear : T → List D → Option (D × T)
  | .fl xs, [] => some (.none, .fl [])
  | .ls xs, [] => some (.none, .fl [])
  | _, _ => none
def putAt : T → Int → D → Option T
  | .fl xs, i, d => (ixN xs.length i).map fun j => .fl (xs.set j d)
  | _, _, _ => none
end
end Tl

namespace Tl
open PySem PySem.Spec PyProof.Rows L2

/-- the abstract heap at the law's entry: the script alone, locked -/
def lone (a : Addr) (o : Obj) (u : HO) : Hp := fun b => if b = a then some (.frz o u) else none
section
variable {P : Program} {w : World} {K : PySem.W.Frag} {mg mb : Str → Option Value} {k : Nat} {fa a : Addr} {x : Str} {m : MF} {s : Shared} {vs : List Value} {ns : List Int}
theorem law_from {H : Hp} (KX : K.In s.heap) (hns : s.heap.Ns mainGlobals mg) (hb : s.heap.Ns builtinsNs mb) (hbb : ∀ x : Str, x ≠ "__name__" → mb x = bootBuiltins x) (hlim : s.heap.NoLimit) (hg : s.gens = #[])
    (G : ∀ base : Heap, K.In base → base.Ns mainGlobals mg → Fm P w K mg base k x 1 m) (hfa : mg x = some (.ref fa)) (hr : RmG k callerA) (hm : ∃ ts', m [.scr (ns.map PyData.int)] = some (.leaf (.bool true), ts')) (hl : ns.length ≤ 63)
    (hS : SqL K H a (ns.map V.int)) (hok : HOk P w H s.heap) (only : ∀ b u, H b = some u → ∃ o xs, u = .frz o (.lst xs)) (apart : ∀ b u, H b = some u → K.lookup b = none) :
    codeAny (model P w) callerA (.call (.ref fa) ⟨[.ref a], []⟩) (fun r s' => r = .ok (.ret (.bool true)) ∧ OldK s.heap s'.heap ∧ s'.os = s.os ∧ AllBare s'.gens) s := by
  -- what is no list stands in the hidden heap, too
  have nodict : ∀ {b : Addr} {ob : Obj} {es : Array DictEntry} {ep : Nat}, s.heap.get? b = some ob → ob.data = .dict es ep → H b = none := fun {b ob es ep} e d => by
    cases q : H b with
    | none => rfl
    | some u =>
      obtain ⟨o, xs, rfl⟩ := only b u q
      obtain ⟨e1, z, its, n, _, e2⟩ : s.heap.get? b = some o ∧ xs.length ≤ sizeLine ∧ ∃ (its : List Value) (n : Nat), Vals xs its ∧ s.heap.get? b = some { cls := .type "list", data := .seq its.toArray n } := hok b _ q
      rw [e] at e2
      cases e2
      cases d
  have nsH : ∀ {b : Addr} {f : Str → Option Value}, s.heap.Ns b f → (hidT s.heap H).Ns b f := fun {b f} ⟨ob, es, ep, e, d, r⟩ => ⟨ob, es, ep, hidT_get e (nodict e d), d, r⟩
  have kin : K.In (hidT s.heap H) := fun b ob e => hidT_get (KX b ob e) (by
    cases q : H b with
    | none => rfl
    | some u =>
      rw [apart b u q] at e
      cases e)
  have md : Mod K mg (hidT s.heap H) := ⟨kin, nsH hns, ⟨mb, nsH hb, hbb⟩, let ⟨mc, h1, h2⟩ := hlim; ⟨mc, nsH h1, h2⟩⟩
  have e0 : Env0 P w K mg (hidT s.heap H) callerA [] s H := ⟨rfl, md, fun b o e => of_hidT e, Nat.le_of_eq (hidT_size _ _), True.intro, (fun b hb => nomatch hb), hok, .of_eq hg⟩
  obtain ⟨f, fd, ps, FG, hf, kp, hb'⟩ := (G _ kin (nsH hns)).ex
  rw [hfa] at hf
  cases hf
  obtain ⟨ts', hm⟩ := hm
  have sp : spM K 1 m [.ref a] H (fun v _ => v = .bl true) E0 := by
    refine ⟨rfl, H, [], [.scr (ns.map PyData.int)], .leaf (.bool true), ts', ⟨Same.refl H, same_noH, .nil, (fun _ z => nomatch z), (fun _ _ => rfl), (fun _ z => nomatch z)⟩, ?_, hm, fun F' H' v A1 A2 g c o os => ?_⟩
    · have hz : (ns.map V.int).length ≤ sizeLine := by
        rw [List.length_map, sizeLine_eq]
        omega
      exact .cons (A := []) (.scr hS hz (RepL.ofInts ns)) .nil
    · cases o with
      | leaf r => exact r.toBl
  have hl1 := FG.len _ _ _ _ sp
  have bd := hb' s [.ref a] KX (by rw [List.append_nil]; exact hl1)
  rw [List.append_nil] at bd
  refine codeAny_mono (FG.go callerA [] s H ⟨[.ref a], []⟩ [.ref a] [.ref a] _ _ hr e0 bd (.cons rfl .nil) sp) fun r s' h => ?_
  match r, h with
  | .error e, h => exact h.elim
  | .ok .next, h => exact h.elim
  | .ok .brk, h => exact h.elim
  | .ok .cont, h => exact h.elim
  | .ok (.ret u), ⟨v, H', os, bare, un, hok', rv, q⟩ =>
    have q' : v = .bl true := q
    subst q'
    cases rv
    refine ⟨rfl, OldK.of_keep fun b ob e => ?_, os, bare⟩
    cases z : H b with
    | none => exact un.keep b ob e z (fun z => nomatch z) (fun z => nomatch z)
    | some u =>
      obtain ⟨o, xs, rfl⟩ := only b u z
      have z2 := un.frzs b o _ z
      obtain ⟨e1, _⟩ := hok b _ z
      obtain ⟨e2, _⟩ := hok' b _ z2
      rw [e] at e1
      cases e1
      exact e2
theorem law_goes (KX : K.In s.heap) (hns : s.heap.Ns mainGlobals mg) (hb : s.heap.Ns builtinsNs mb) (hbb : ∀ x : Str, x ≠ "__name__" → mb x = bootBuiltins x) (hlim : s.heap.NoLimit) (hg : s.gens = #[])
    (ha : s.heap.get? a = some { cls := .type "list", data := .seq vs.toArray }) (hi : IntsAre vs ns) (hl : ns.length ≤ 63)
    (G : ∀ base : Heap, K.In base → base.Ns mainGlobals mg → Fm P w K mg base k x 1 m) (hfa : mg x = some (.ref fa)) (hr : RmG k callerA) (hm : ∃ ts', m [.scr (ns.map PyData.int)] = some (.leaf (.bool true), ts')) :
    codeAny (model P w) callerA (.call (.ref fa) ⟨[.ref a], []⟩) (fun r s' => r = .ok (.ret (.bool true)) ∧ OldK s.heap s'.heap ∧ s'.os = s.os ∧ AllBare s'.gens) s := by
  have rv := vals_ints hi
  have lv := hi.length
  have hz : ns.length ≤ sizeLine := by
    rw [sizeLine_eq]
    omega
  cases hk : K.lookup a with
  | some o =>
    have e := KX a o hk
    rw [ha] at e
    cases e
    exact law_from (H := noH) KX hns hb hbb hlim hg G hfa hr hm hl (.inr ⟨_, vs.toArray, _, hk, rfl, rfl, rfl, by rw [List.size_toArray, lv]; exact hz, by simpa using rv⟩) (fun _ _ z => nomatch z) (fun _ _ z => nomatch z) fun _ _ z => nomatch z
  | none =>
    have at_ : lone a { cls := .type "list", data := .seq vs.toArray } (.lst (ns.map V.int)) a = some (.frz { cls := .type "list", data := .seq vs.toArray } (.lst (ns.map V.int))) := if_pos rfl
    have only1 : ∀ b u, lone a { cls := .type "list", data := .seq vs.toArray } (.lst (ns.map V.int)) b = some u → b = a ∧ u = .frz { cls := .type "list", data := .seq vs.toArray } (.lst (ns.map V.int)) := fun b u z => by
      have z' : (if b = a then some (HO.frz { cls := .type "list", data := .seq vs.toArray } (.lst (ns.map V.int))) else none) = some u := z
      by_cases q : b = a
      · rw [if_pos q] at z'
        exact ⟨q, (Option.some.inj z').symm⟩
      · rw [if_neg q] at z'
        cases z'
    refine law_from (H := lone a { cls := .type "list", data := .seq vs.toArray } (.lst (ns.map V.int))) KX hns hb hbb hlim hg G hfa hr hm hl (.inl (.inr ⟨_, at_⟩)) (fun b u z => ?_) (fun b u z => ?_) fun b u z => ?_
    · obtain ⟨rfl, rfl⟩ := only1 b u z
      exact ⟨ha, by rw [List.length_map]; exact hz, vs, _, rv, ha⟩
    · obtain ⟨rfl, rfl⟩ := only1 b u z
      exact ⟨_, _, rfl⟩
    · obtain ⟨rfl, rfl⟩ := only1 b u z
      exact hk
end
/-- the goal that the head leaves, from the mirror of the law -/
theorem law_end {l : PySem.W.OpenLaw} {k : Nat} {q : Program} {loose : List Str} {XP : (Str → Option Value) → Heap → Prop} {YP : World → Heap → Prop} {d : DefRec} {K : Params → PySem.W.Frag} {m : MF}
    (hn : l.most = some 63) (hdf : d.params.defaults = []) (hr : RmG k callerA) (hY : ∀ (w : World) (h : Heap), YP w h → (K w.params).In h)
    (G : ∀ (w : World) (mg : Str → Option Value) (h : Heap), (K w.params).In h → h.Ns mainGlobals mg → ∀ base : Heap, (K w.params).In base → base.Ns mainGlobals mg → Fm l.prog w (K w.params) mg base k d.name 1 m)
    (hm : ∀ ns : List Int, ns.length ≤ 63 → ∃ ts', m [.scr (ns.map PyData.int)] = some (.leaf (.bool true), ts')) : PySem.W.WalkO q loose XP YP l.row.toRowW d [] (fun f vs => PySem.call f vs) :=
  Att.attach_call hn hdf fun w s₀ s₁ mg mb fa o pm cd doc a vs ns Gr Y ho hd hcd hmg hobj hints hlen hg =>
    law_goes (hY w _ Y) Gr.T.g Gr.T.b Gr.T.builtins Gr.T.nolimit hg hobj hints hlen (G w mg _ (hY w _ Y) Gr.T.g) hmg hr (hm ns hlen)
theorem rm_caller {k : Nat} (h : k ≤ 200 := by decide) : RmG k callerA := ⟨Room.mono (j := k) (k := 200) ⟨rfl, by decide, by decide⟩ h, rfl⟩
end Tl

namespace Tl
open PySem PySem.Spec PyProof.Rows L2
section
variable {X : Cx} {K : PySem.W.Frag} {F F' B B' H H' F1 H1 : Hp} {σ : L2.St} {A A' A1 A2 : List Addr} {e a b : Expr} {pos p pos2 p2 : Pos} {i : Nat} {ro : Ro} {τ τ' : Tau}
def mSee (i : Nat) : MV := fun ro τ => match tget ro.vw i with
  | some t => some (.vw t, τ)
  | none => (fget ro.fz i).map fun d => (rd d, τ)
theorem er_see (h : PE X e (tVar i)) : ER X e (mSee i) := ⟨fun ro τ r τ' em F B H σ A Q a k => by
  unfold mSee at em
  cases q : tget ro.vw i with
  | some t =>
    rw [q] at em
    exact (er_vw h).run ro τ r τ' (by show (tget ro.vw i).map _ = _; rw [q]; exact em) F B H σ A Q a k
  | none =>
    rw [q] at em
    exact (er_var h).run ro τ r τ' em F B H σ A Q a k⟩
def isHole : T → Bool
  | .hole => true
  | _ => false
def mBr (i : Nat) (m : MV) : MV := fun ro τ => match tget τ i with
  | some t => if isHole t = true then m ro τ else mBor i m ro τ
  | none => m ro τ
theorem ev_br {t : TE} {m : MV} (h : EV K t m) (i : Nat) : EV K t (mBr i m) := ⟨fun ro τ r τ' em F B H σ A Q a k => by
  unfold mBr at em
  cases q : tget τ i with
  | some t =>
    rw [q] at em
    have em : (if isHole t = true then m ro τ else mBor i m ro τ) = some (r, τ') := em
    by_cases z : isHole t = true
    · rw [if_pos z] at em
      exact h.run ro τ r τ' em F B H σ A Q a k
    · rw [if_neg z] at em
      exact (ev_bor h).run ro τ r τ' em F B H σ A Q a k
  | none =>
    rw [q] at em
    exact h.run ro τ r τ' em F B H σ A Q a k⟩
/-- a test under a glass: a test is an expression that tells its truth -/
def tOf (t : TT) : TE := fun σ H Q => t σ H fun k H1 => Q (.bl k) H1
def mOfB (m : MB) : MV := fun ro τ => (m ro τ).map fun p => (rBool p.1, p.2)
theorem ev_of {t : TT} {m : MB} (h : TV K t m) : EV K (tOf t) (mOfB m) := ⟨fun ro τ r τ' em F B H σ A Q a k => by
  obtain ⟨⟨z, τ1⟩, e1, em⟩ := Option.map_eq_some_iff.mp em
  cases em
  exact h.run _ _ _ τ1 e1 F B H σ A _ a fun F' H' A2 g c t => k F' H' (.bl z) [] A2 g c (.leaf (.bl z)) t⟩
def mBrB (i : Nat) (m : MB) : MB := fun ro τ => (mBr i (mOfB m) ro τ).bind fun p => (asB p.1).map fun b => (b, p.2)
theorem wpT_mono {Q Q' : Bool → Hp → Prop} (h : ∀ v H, Q v H → Q' v H) (w : wpT X e σ H Q) : wpT X e σ H Q' := fun pins s I => thn (w pins s I) fun u s' ⟨H', I', q⟩ => ⟨H', I', h u H' q⟩
theorem tr_br {m : MB} (h : TR X e m) (i : Nat) : TR X e (mBrB i m) := ⟨fun ro τ r τ' em F B H σ A Q a k => by
  obtain ⟨⟨z, τ1⟩, e1, em⟩ := Option.bind_eq_some_iff.mp em
  obtain ⟨bb, e2, em⟩ := Option.map_eq_some_iff.mp em
  cases em
  have := (ev_br (ev_of h) i).run ro τ z τ1 e1 F B H σ A (fun v H1 => ∃ k, v = .bl k ∧ Q k H1) a fun F' H' v A1 A2 g c o t => by
    have e3 := asB_of e2 o
    subst e3
    refine ⟨r, rfl, k F' H' A2 (g.trans (Go.less fun _ m => List.mem_append_right _ m)) c.right t⟩
  exact wpT_mono (Q := fun k H1 => ∃ k', V.bl k = .bl k' ∧ Q k' H1) (fun v H1 ⟨k', e4, q⟩ => by cases e4; exact q) this⟩
def mFz (i : Nat) : SS → Option SS := fun s => match tget s.ow i with
  | some _ => mFrz i s
  | none => some s
theorem sr_fz {Pr : List Nat} {st : Stmt} {m : MS} (h : SR X Pr st m) (i : Nat) : SR X Pr st (mPre (mFz i) m) := ⟨fun s o em F H σ A D a k => by
  cases q : tget s.ow i with
  | some t => exact (sr_frz h i).run s o (by unfold mPre mFz at em; rw [q] at em; exact em) F H σ A D a k
  | none =>
    unfold mPre mFz at em
    rw [q] at em
    exact h.run s o em F H σ A D a k⟩
section
variable {scope : Scope} {own : List (Str × Nat)} {tg iter elt c : Expr} {mi : MI} {mt : MG} {mc : MB} {me : MV} {ws : List Nat} {y : Str} {py spos : Pos}
theorem ps_lc0 (hc : X.calm = true) (hN : X.N.Nodup) (hk : X.env.scope.kind = .function) (hy : X.N[i]? = some y) (hyl : X.env.scope.names.lookup y = some .local) (ok : BlkOk X.N X.env.scope scope own)
    (hl : (py.line == pos.line) = true := by rfl) (ha : (scope.names.any fun (n, k) => n == y && (k == .local || k == .cell)) = false := by decide +kernel) (hs : ∀ x, foldedSetIterable iter X.env x = pure x := by intro _; rfl) :
    PS X (.Assign [.Name y py] (.ListComp elt [⟨tg, iter, [], 0⟩] scope pos) spos) (tAsg (tLc0 X scope tg iter elt (own.map (·.2))) (gName i)) :=
  ps_setLc hc hN hy hyl (sw_true hk hyl hl ha) piW ok bG_pg (fun s H C cl fp => pts_nil) bE_pe hs
end
end
end Tl

namespace Tl
open PySem PySem.Spec PyProof.Rows L2
section
variable {X : Cx} {K : PySem.W.Frag} {F F' B B' H H' F1 H1 : Hp} {σ : L2.St} {A A' A1 A2 : List Addr} {e a b : Expr} {pos p pos2 p2 : Pos} {i : Nat} {ro : Ro} {τ τ' : Tau}
def R.t : R → Option T
  | .val x => some x
  | .vw (.leaf d) => some (.leaf d)
  | .vw _ => none
def tsR : List R → Option (List T)
  | [] => some []
  | r :: rs => r.t.bind fun d => (tsR rs).bind fun ds => some (d :: ds)
theorem ROk.own {r : R} {v : V} {t : T} (o : ROk K F B H r v A) (e : r.t = some t) : Own K F H v t A := o.solid (by
  cases r with
  | val x =>
    cases e
    exact .inl rfl
  | vw x =>
    cases x with
    | leaf d =>
      cases e
      exact .inr ⟨d, rfl, rfl⟩
    | _ => cases e)
theorem RsOk.own : ∀ {rs : List R} {vs : List V} {A : List Addr} {ts : List T}, RsOk K F B H rs vs A → tsR rs = some ts → OwnL K F H vs ts A
  | [], _, _, _, o, e => by
    cases o
    cases e
    exact .nil
  | r :: rs, _, _, _, o, e => by
    cases o with
    | cons o1 o2 =>
      obtain ⟨t, e1, e⟩ := Option.bind_eq_some_iff.mp (show r.t.bind (fun d => (tsR rs).bind fun ds => some (d :: ds)) = some _ from e)
      obtain ⟨ts, e2, e⟩ := Option.bind_eq_some_iff.mp e
      cases e
      exact .cons (o1.own e1) (RsOk.own o2 e2)
def gLstT : List R → Option R := fun rs => (tsR rs).map fun ds => .val (.ls ds)
def T.kids : T → Option (List T)
  | .ls ts => some ts
  | .tup ts => some ts
  | _ => none
def getP : T → List Int → Option T
  | t, [] => some t
  | t, i :: is => t.kids.bind fun ts => (L2.atI ts i).bind fun u => getP u is
def T.put : T → Nat → T → Option T
  | .ls ts, j, u => some (.ls (ts.set j u))
  | .tup ts, j, u => some (.tup (ts.set j u))
  | _, _, _ => none
def setP : T → List Int → T → Option T
  | _, [], u => some u
  | t, i :: is, u => t.kids.bind fun ts => (ixN ts.length i).bind fun j => (ts[j]?).bind fun w => (setP w is u).bind fun w' => t.put j w'
/-- the value at the way's end -/
def wayV (K : PySem.W.Frag) (F H : Hp) : V → List Int → V → Prop
  | v, [], w => v = w
  | v, i :: is, w => ∃ (p : Addr) (xs : List V) (y : V), v = .ref p ∧ (H p = some (.lst xs) ∨ SqT K F p xs) ∧ L2.atI xs i = some y ∧ wayV K F H y is w
theorem atI_ix {α : Type} {xs : List α} {i : Int} {x : α} (h : L2.atI xs i = some x) : ∃ j, ixN xs.length i = some j ∧ xs[j]? = some x := by
  unfold L2.atI at h
  cases q : ixN xs.length i with
  | none =>
    rw [q] at h
    cases h
  | some j =>
    rw [q] at h
    exact ⟨j, rfl, h⟩
theorem wayV.stay (s : Same F F') : ∀ {is : List Int} {v w : V}, wayV K F H v is w → Same H H' → wayV K F' H' v is w
  | [], _, _, h, _ => h
  | i :: is, _, _, ⟨p, xs, y, e, q, e2, h⟩, k => ⟨p, xs, y, e, q.imp (fun z => k _ _ z) (fun z => sameT s z), e2, wayV.stay s h k⟩
theorem wayV.app : ∀ {is : List Int} {v w : V}, wayV K F H v is w → ∀ {js : List Int} {u : V}, wayV K F H w js u → wayV K F H v (is ++ js) u
  | [], _, _, h, _, _, k => by
    have h' : _ = _ := h
    subst h'
    exact k
  | i :: is, _, _, ⟨p, xs, y, e, q, e2, h⟩, _, _, k => ⟨p, xs, y, e, q, e2, wayV.app h k⟩
/-- one of a list of trees, put for another -/
theorem OwnL.split : ∀ {vs : List V} {ts : List T} {A : List Addr} {j : Nat} {t : T}, OwnL K F H vs ts A → ts[j]? = some t → ∃ w B C, vs[j]? = some w ∧ Own K F H w t B ∧ A.Perm (B ++ C) ∧
    ∀ (F' H' : Hp) (t' : T) (B' : List Addr), Same F F' → (∀ a ∈ C, ∀ o, H a = some o → H' a = some o) → Own K F' H' w t' B' → ∃ A', OwnL K F' H' vs (ts.set j t') A' ∧ A'.Perm (B' ++ C)
  | _, [], _, j, t, o, e => by cases e
  | _, t0 :: ts, _, 0, t, o, e => by
    cases o with
    | cons o1 o2 =>
      cases e
      exact ⟨_, _, _, rfl, o1, List.Perm.refl _, fun F' H' t' B' s k o' => ⟨_, .cons o' (o2.stay s k), List.Perm.refl _⟩⟩
  | _, t0 :: ts, _, j + 1, t, o, e => by
    cases o with
    | cons o1 o2 =>
      rename_i v vs A1 A2
      obtain ⟨w, B, C, h1, h2, h3, h4⟩ := OwnL.split o2 (show ts[j]? = some t from e)
      refine ⟨w, B, A1 ++ C, h1, h2, ?_, fun F' H' t' B' s k o' => ?_⟩
      · refine (List.Perm.append_left A1 h3).trans ?_
        rw [← List.append_assoc, ← List.append_assoc]
        exact List.Perm.append_right C List.perm_append_comm
      · obtain ⟨A', o3, p3⟩ := h4 F' H' t' B' s (fun a m => k a (List.mem_append_right _ m)) o'
        refine ⟨A1 ++ A', .cons (o1.stay s fun a m => k a (List.mem_append_left _ m)) o3, ?_⟩
        refine (List.Perm.append_left A1 p3).trans ?_
        rw [← List.append_assoc, ← List.append_assoc]
        exact List.Perm.append_right C List.perm_append_comm
theorem Own.kids {v : V} {t : T} {A : List Addr} {ts : List T} (o : Own K F H v t A) (e : t.kids = some ts) : ∃ p xs, v = .ref p ∧ (H p = some (.lst xs) ∨ SqT K F p xs) ∧ ∃ A0, OwnL K F H xs ts A0 ∧ xs.length = ts.length := by
  cases o with
  | ls h z l =>
    cases e
    exact ⟨_, _, rfl, .inl h, _, l, OwnL.length l⟩
  | tup h z l =>
    cases e
    exact ⟨_, _, rfl, .inr h, _, l, OwnL.length l⟩
  | _ => cases e
/-- .. at the end of a way -/
theorem Own.at : ∀ {is : List Int} {v : V} {t : T} {A : List Addr} {u : T}, Own K F H v t A → getP t is = some u → ∃ w B C, wayV K F H v is w ∧ Own K F H w u B ∧ A.Perm (B ++ C) ∧
    ∀ (F' H' : Hp) (u' t' : T) (B' : List Addr), Same F F' → (∀ a ∈ C, ∀ o, H a = some o → H' a = some o) → Own K F' H' w u' B' → setP t is u' = some t' → ∃ A', Own K F' H' v t' A' ∧ A'.Perm (B' ++ C)
  | [], v, t, A, u, o, e => by
    cases e
    refine ⟨v, A, [], rfl, o, by rw [List.append_nil], fun F' H' u' t' B' s k o' e' => ?_⟩
    cases e'
    exact ⟨B', o', by rw [List.append_nil]⟩
  | i :: is, v, t, A, u, o, e => by
    obtain ⟨ts, e1, e⟩ := Option.bind_eq_some_iff.mp (show t.kids.bind (fun ts => (L2.atI ts i).bind fun u => getP u is) = some u from e)
    obtain ⟨u1, e2, e⟩ := Option.bind_eq_some_iff.mp e
    obtain ⟨j, ej, ej2⟩ := atI_ix e2
    have key : ∀ {xs : List V} {A0 : List Addr}, OwnL K F H xs ts A0 → ∃ w y B C, L2.atI xs i = some y ∧ wayV K F H y is w ∧ Own K F H w u B ∧ A0.Perm (B ++ C) ∧
        ∀ (F' H' : Hp) (u' t' : T) (B' : List Addr), Same F F' → (∀ a ∈ C, ∀ o, H a = some o → H' a = some o) → Own K F' H' w u' B' → setP t (i :: is) u' = some t' → ∃ ts' A', OwnL K F' H' xs ts' A' ∧ A'.Perm (B' ++ C) ∧ t.put j (ts'[j]?.getD .hole) = some t' ∧ ts' = ts.set j (ts'[j]?.getD .hole) := fun {xs A0} l => by
      obtain ⟨y, B1, C1, h1, h2, h3, h4⟩ := l.split ej2
      obtain ⟨w, B, C, w1, w2, w3, w4⟩ := Own.at h2 e
      refine ⟨w, y, B, C ++ C1, ?_, w1, w2, ?_, fun F' H' u' t' B' s k o' e' => ?_⟩
      · unfold L2.atI
        rw [OwnL.length l, ej]
        exact h1
      · rw [← List.append_assoc]
        exact h3.trans (List.Perm.append_right C1 w3)
      · obtain ⟨ts0, f1, e'⟩ := Option.bind_eq_some_iff.mp (show t.kids.bind (fun ts => (ixN ts.length i).bind fun j => (ts[j]?).bind fun w => (setP w is u').bind fun w' => t.put j w') = some t' from e')
        rw [e1] at f1
        cases f1
        rw [ej] at e'
        obtain ⟨w9, f2, e'⟩ := Option.bind_eq_some_iff.mp (show (ts[j]?).bind (fun w => (setP w is u').bind fun w' => t.put j w') = some t' from e')
        rw [ej2] at f2
        cases f2
        obtain ⟨w', f3, e'⟩ := Option.bind_eq_some_iff.mp e'
        obtain ⟨A3, o3, p3⟩ := w4 F' H' u' w' B' s (fun a m => k a (List.mem_append_left _ m)) o' f3
        obtain ⟨A4, o4, p4⟩ := h4 F' H' w' A3 s (fun a m => k a (List.mem_append_right _ m)) o3
        have hj : j < ts.length := (List.getElem?_eq_some_iff.mp ej2).1
        have q : ((ts.set j w')[j]?).getD T.hole = w' := by
          rw [List.getElem?_set_self hj]
          rfl
        refine ⟨_, A4, o4, ?_, by rw [q]; exact e', by rw [q]⟩
        rw [← List.append_assoc]
        exact p4.trans (List.Perm.append_right C1 p3)
    cases o with
    | ls h z l =>
      rename_i p xs ts0 A0
      cases e1
      obtain ⟨w, y, B, C, k1, k2, k3, k4, k5⟩ := key l
      refine ⟨w, B, p :: C, ⟨p, xs, y, rfl, .inl h, k1, k2⟩, k3, ?_, fun F' H' u' t' B' s k o' e' => ?_⟩
      · exact (List.Perm.cons p k4).trans List.perm_middle.symm
      · obtain ⟨ts', A', q1, q2, q3, q4⟩ := k5 F' H' u' t' B' s (fun a m => k a (List.mem_cons_of_mem _ m)) o' e'
        have q5 : some (T.ls (ts.set j (ts'[j]?.getD .hole))) = some t' := q3
        rw [← q4] at q5
        cases q5
        exact ⟨p :: A', .ls (k p List.mem_cons_self _ h) z q1, (List.Perm.cons p q2).trans List.perm_middle.symm⟩
    | tup h z l =>
      rename_i p xs ts0
      cases e1
      obtain ⟨w, y, B, C, k1, k2, k3, k4, k5⟩ := key l
      refine ⟨w, B, C, ⟨p, xs, y, rfl, .inr h, k1, k2⟩, k3, k4, fun F' H' u' t' B' s k o' e' => ?_⟩
      obtain ⟨ts', A', q1, q2, q3, q4⟩ := k5 F' H' u' t' B' s k o' e'
      have q5 : some (T.tup (ts.set j (ts'[j]?.getD .hole))) = some t' := q3
      rw [← q4] at q5
      cases q5
      exact ⟨A', .tup (sameT s h) z q1, q2⟩
    | _ => cases e1
theorem glass {u : T} (a : At K F B H σ ro τ A) (e1 : tget τ i = some u) : ∃ v A1 A2 B', σ[i]? = some (some v) ∧ Own K F H v u A1 ∧ TauOk K F H σ (tset τ i .hole) A2 ∧ Cn F B H (A1 ++ A2) ∧ (∀ b ∈ A1 ++ A2, b ∈ A) ∧ Same B B' ∧
    Own K F B' v u A1 ∧ At K F B' H σ ⟨ro.fz, (i, u) :: ro.vw⟩ (tset τ i .hole) A2 := by
  obtain ⟨v, A1, A2, hv, o, t', n, s⟩ := a.tau.take a.cn.nd e1
  have c := a.cn.sub n s
  let B' : Hp := fun b => if b ∈ A1 then H b else B b
  have bs : Same B B' := fun b w e => by
    have nb : b ∉ A1 := fun z => by
      rw [c.ba b (List.mem_append_left _ z)] at e
      cases e
    show (if b ∈ A1 then H b else B b) = some w
    rw [if_neg nb]
    exact e
  have hb : ∀ b ∈ A1, ∀ w, H b = some w → B' b = some w := fun b m w e => by
    show (if b ∈ A1 then H b else B b) = some w
    rw [if_pos m]
    exact e
  have c2 : Cn F B' H A2 := ⟨c.fh, fun b w e => (by
      have e' : (if b ∈ A1 then H b else B b) = some w := e
      by_cases q : b ∈ A1
      · rw [if_pos q] at e'
        exact e'
      · rw [if_neg q] at e'
        exact c.bh b w e'), c.right.nd, c.right.fa, fun b m => (by
      show (if b ∈ A1 then H b else B b) = none
      rw [if_neg fun z => c.apart b z m]
      exact c.right.ba b m), c.right.ha⟩
  have vw' : VwOk K F B' σ ((i, u) :: ro.vw) := fun p m => by
    rcases List.mem_cons.mp m with e | m
    · subst e
      exact ⟨v, A1, hv, o.stay (Same.refl F) hb⟩
    · obtain ⟨w, A', hw, ow⟩ := a.ro.vw p m
      exact ⟨w, A', hw, ow.stay (Same.refl F) fun b m w e => bs b w e⟩
  exact ⟨v, A1, A2, B', hv, o, t', c, s, bs, o.stay (Same.refl F) hb, c2, ⟨a.ro.fz, vw'⟩, t'⟩
theorem unglass (bs : Same B B') (c' : Cn F B' H A) : Cn F B H A := ⟨c'.fh, fun b w e => c'.bh b w (bs b w e), c'.nd, c'.fa, fun b m => (by
  cases e : B b with
  | none => rfl
  | some w =>
    have := c'.ba b m
    rw [bs b w e] at this
    cases this), c'.ha⟩
theorem wayV.snoc : ∀ {is : List Int} {v w : V} {j : Int}, wayV K F H v (is ++ [j]) w → ∃ x p xs, wayV K F H v is x ∧ x = .ref p ∧ (H p = some (.lst xs) ∨ SqT K F p xs) ∧ L2.atI xs j = some w
  | [], v, w, j, ⟨p, xs, y, e, q, e2, h⟩ => by
    have h' : y = w := h
    subst h'
    exact ⟨v, p, xs, rfl, e, q, e2⟩
  | i :: is, v, w, j, ⟨p, xs, y, e, q, e2, h⟩ => by
    obtain ⟨x, p', xs', h1, h2, h3, h4⟩ := wayV.snoc h
    exact ⟨x, p', xs', ⟨p, xs, y, e, q, e2, h1⟩, h2, h3, h4⟩
abbrev MP := T → Ro → Tau → Option ((List Int × T) × Tau)
structure PV (K : PySem.W.Frag) (x : Nat) (t : TE) (m : MP) : Prop where
  get : ∀ (u : T) (ro : Ro) (τ : Tau) (is : List Int) (w : T) (τ' : Tau), m u ro τ = some ((is, w), τ') → getP u is = some w
  run : ∀ (u : T) (ro : Ro) (τ : Tau) (is : List Int) (w : T) (τ' : Tau), m u ro τ = some ((is, w), τ') → ∀ (F B H : Hp) (σ : L2.St) (A : List Addr) (Q : VK) (v y : V), At K F B H σ ro τ A → σ[x]? = some (some v) → wayV K F B v is y →
    (∀ (F' H' : Hp) (A2 : List Addr), Go F H A F' H' A2 → Cn F' B H' A2 → TauOk K F' H' σ τ' A2 → Q y H') → t σ H Q
def pHere : MP := fun u _ τ => some (([], u), τ)
def pAt (mb : MP) (mi : MV) : MP := fun u ro τ => (mb u ro τ).bind fun p => (mi ro p.2).bind fun q => (asI q.1).bind fun i => p.1.2.kids.bind fun ts => (L2.atI ts i).map fun w => ((p.1.1 ++ [i], w), q.2)
theorem pv_here {o : Expr} {x : Nat} (h : PE X o (tVar x)) : PV X.K x (wpE X o) pHere := ⟨fun u ro τ is w τ' em => by
  cases em
  rfl, fun u ro τ is w τ' em F B H σ A Q v y a hv hw k => by
  cases em
  have hw' : v = y := hw
  subst hw'
  exact wE h ⟨v, hv, k F H A Go.refl a.cn a.tau⟩⟩
def mMutP (x : Nat) (mp : MP) (g : T → List D → Option (D × T)) (l : ML) : MV := fun ro τ => (tget τ x).bind fun u => (mp u ⟨ro.fz, (x, u) :: ro.vw⟩ (tset τ x .hole)).bind fun p => if isLs p.1.2 = true then
  (l ⟨ro.fz, (x, u) :: ro.vw⟩ p.2).bind fun q => (stL q.1).bind fun ds => (g p.1.2 ds).bind fun r => (setP u p.1.1 r.2).map fun u' => (rd r.1, tset q.2 x u') else none
theorem mutP_end {x : Nat} {g : T → List D → Option (D × T)} {r : V → List V → Hp → VK → Prop} (mu : MU K r g) {F0 H0 : Hp} {A0 A1 B0 C0 R1 R2 : List Addr} {rs : List R} {vs : List V} {ds : List D} {u u' w w' : T} {z : D} {v y : V} {Q : VK} {is : List Int}
    (g0 : Go F0 H0 A0 F H (A1 ++ (R1 ++ R2))) (c : Cn F B H (A1 ++ (R1 ++ R2))) (o : RsOk K F B' H rs vs R1) (bs : Same B B') (cb : Same B' H) (tk : TauOk K F H σ τ R2) (hv : σ[x]? = some (some v)) (e1 : stL rs = some ds) (e3 : g w ds = some (z, w')) (pm : A1.Perm (B0 ++ C0))
    (ow : Own K F B' y w B0) (back : ∀ (F' H' : Hp) (u' t' : T) (B1 : List Addr), Same F F' → (∀ a ∈ C0, ∀ o, B' a = some o → H' a = some o) → Own K F' H' y u' B1 → setP u is u' = some t' → ∃ A', Own K F' H' v t' A' ∧ A'.Perm (B1 ++ C0)) (e4 : setP u is w' = some u')
    (k : ∀ (F' H' : Hp) (u : V) (A1 A2 : List Addr), Go F0 H0 A0 F' H' (A1 ++ A2) → Cn F' B H' (A1 ++ A2) → ROk K F' B H' (rd z) u A1 → TauOk K F' H' σ (tset τ x u') A2 → Q u H') : r y vs H Q := by
  have pm1 : (A1 ++ (R1 ++ R2)).Perm (R1 ++ (B0 ++ (C0 ++ R2))) := by
    refine (List.Perm.append_right _ pm).trans ?_
    rw [← List.append_assoc]
    refine (List.Perm.append_right R2 List.perm_append_comm).trans ?_
    rw [List.append_assoc, List.append_assoc]
  have c0 := c.perm pm1
  -- the results are frozen
  obtain ⟨f1, f2, f3, f4⟩ := c0.freeze
  have rl : RepL K (joinH F H R1) vs ds := o.keep f3 f4 e1
  have ow2 : Own K (joinH F H R1) H y w B0 := (ow.stay f3 fun _ _ _ q => q).stay (Same.refl _) fun b m o q => cb b o q
  refine mu w ds z w' e3 _ B H y vs B0 Q f2.left ow2 rl fun H' uu A' g3 c3 o3 ru => ?_
  obtain ⟨g4, c4⟩ := Go.framedR f2 g3 c3
  have kp : ∀ b ∈ C0 ++ R2, ∀ q, H b = some q → H' b = some q := fun b m q z => g3.keep b q (fun z' => f2.apart b z' m) z
  obtain ⟨A5, o5, p5⟩ := back (joinH F H R1) H' w' u' A' f3 (fun b m q z => kp b (List.mem_append_left _ m) q (cb b q z)) o3 e4
  have t5 := (tk.stay f3 fun _ _ _ q => q).stay (Same.refl _) fun b m q z => kp b (List.mem_append_right _ m) q z
  have pm2 : (A' ++ (C0 ++ R2)).Perm (A5 ++ R2) := by
    rw [← List.append_assoc]
    exact (List.Perm.append_right R2 p5).symm
  have c6 := c4.perm pm2
  obtain ⟨A6, t6, n6, s6⟩ := t5.put hv o5 c6.nd
  have g6 : Go F0 H0 A0 (joinH F H R1) H' (A5 ++ R2) := ((g0.perm (List.Perm.refl _) pm1).trans f1).trans (g4.perm (List.Perm.refl _) pm2)
  exact k _ H' uu [] A6 (g6.trans (Go.less s6)) (c6.sub n6 s6) (.leaf ru) t6
def gPut (j : Int) : T → List D → Option (D × T)
  | w, [d] => (putAt w j d).map fun w' => (.none, w')
  | _, _ => none
theorem mu_put (j : Int) : MU K (fun o vs H Q => ∃ v, vs = [v] ∧ rSetL o (.int j) v H fun H3 => Q .non H3) (gPut j) := by
  intro t ds z t' e F B H v vs A Q c o r k
  match t, ds, e with
  | t, [d], e =>
    obtain ⟨w', e1, e2⟩ := Option.map_eq_some_iff.mp (show (putAt t j d).map (fun w' => (PyData.none, w')) = some (z, t') from e)
    cases e2
    obtain ⟨u, rfl, ru⟩ := r.one
    cases t with
    | fl xs =>
      obtain ⟨n, e3, e4⟩ := Option.map_eq_some_iff.mp (show (ixN xs.length j).map (fun j => T.fl (xs.set j d)) = some _ from e1)
      subst e4
      cases o with
      | fl h1 h2 h3 =>
        obtain ⟨g5, c5, o5⟩ := fl_write c rfl (by rw [List.length_set]; exact h2) (h3.set ru n)
        exact ⟨u, rfl, _, _, j, n, rfl, rfl, h1, by rw [h3.length]; exact e3, k _ .non _ g5 c5 o5 .non⟩
    | _ => cases e1
def mSetP (x : Nat) (mp : MP) (me mi : MV) : MS := fun s => (me ⟨s.fz, []⟩ s.ow).bind fun p => p.1.st.bind fun d => (tget p.2 x).bind fun u => (mp u ⟨s.fz, [(x, u)]⟩ (tset p.2 x .hole)).bind fun q => (mi ⟨s.fz, [(x, u)]⟩ q.2).bind fun r => (asI r.1).bind fun i =>
  (gPut i q.1.2 [d]).bind fun w => (setP u q.1.1 w.2).map fun u' => .nx ⟨s.fz, tset r.2 x u'⟩
theorem sr_setP {Pr : List Nat} {st : Stmt} {e o ix : Expr} {x : Nat} {mp : MP} {me mi : MV} (p : PS X st (tAsg (wpE X e) (L2.gSub (wpE X o) (wpE X ix) rSetL))) (he : ER X e me) (ho : PV X.K x (wpE X o) mp) (hi : ER X ix mi) : SR X Pr st (mSetP x mp me mi) := ⟨fun s out em F H σ A Dd a k => by
  obtain ⟨⟨r, τ1⟩, e1, em⟩ := Option.bind_eq_some_iff.mp em
  obtain ⟨d, e2, em⟩ := Option.bind_eq_some_iff.mp em
  obtain ⟨u, e3, em⟩ := Option.bind_eq_some_iff.mp em
  obtain ⟨⟨⟨is, w⟩, τ2⟩, e4, em⟩ := Option.bind_eq_some_iff.mp em
  obtain ⟨⟨r', τ3⟩, e5, em⟩ := Option.bind_eq_some_iff.mp em
  obtain ⟨j, e6, em⟩ := Option.bind_eq_some_iff.mp em
  obtain ⟨⟨z, w'⟩, e7, em⟩ := Option.bind_eq_some_iff.mp em
  obtain ⟨u', e8, em⟩ := Option.map_eq_some_iff.mp em
  cases em
  refine wS p (he.run _ _ r τ1 e1 F noH H σ A _ a.at_ fun F1 H1 v0 A1 A2 g1 c1 o1 t1 => ?_)
  obtain ⟨F2, g2, c2, s2, rv⟩ := o1.freeze c1 e2
  have at2 : At X.K F2 noH H1 σ ⟨s.fz, []⟩ τ1 A2 := ⟨c2, a.at_.ro.mono (g1.ff.trans s2), t1.stay s2 fun _ _ _ q => q⟩
  obtain ⟨v, A3, A4, B', hv, oH, tH, c, s', bs, oB, a2⟩ := glass at2 e3
  obtain ⟨y, B0, C0, hw, ow, pm, back⟩ := Own.at oB (ho.get _ _ _ _ _ _ e4)
  refine ho.run _ _ _ _ _ _ e4 F2 B' H1 σ A4 _ v y a2 hv hw fun F3 H3 A5 g3 c3 t3 => ?_
  refine hi.run _ _ r' τ3 e5 F3 B' H3 σ A5 _ ⟨c3, a2.ro.mono g3.ff, t3⟩ fun F4 H4 i0 A6 A7 g4 c4 o4 t4 => ?_
  have ei : i0 = .int j := asI_of e6 o4
  subst ei
  have g34 : Go F2 H1 A4 F4 H4 A7 := g3.trans (g4.trans (Go.less fun _ m => List.mem_append_right _ m))
  obtain ⟨g5, c5⟩ := Go.framed c g34 (unglass bs c4.right)
  have rv4 : RepL X.K F4 [v0] [d] := .cons (rv.mono g34.ff) .nil
  have o5 : RsOk X.K F4 B' H4 [rd d] [v0] [] := .cons (A := []) (show ROk X.K F4 B' H4 (rd d) v0 [] from .leaf (rv.mono g34.ff)) .nil
  have := mutP_end (K := X.K) (R1 := []) (Q := fun _ H3 => Dd.nx σ H3) (mu_put j) (((g1.trans g2).trans (Go.less s')).trans g5) c5 o5 bs c4.bh t4 hv (by rfl) e7 pm (ow.stay g34.ff fun _ _ _ q => q) (fun F' H' u' t' B1 s' k' o' e' => back F' H' u' t' B1 (g34.ff.trans s') k' o' e') e8 fun F' H' uu A1 A2 g c o t =>
    k F' H' σ A2 (g.trans (Go.less fun _ m => List.mem_append_right _ m)) ⟨c.right, (a.fz.mono (g.ff)), t⟩ Agree.refl
  obtain ⟨v1, q1, q2⟩ := this
  cases q1
  exact q2⟩
end
end Tl

namespace Tl
open PySem PySem.Spec PyProof.Rows L2
/-- the built-ins stand under their own names -/
structure Bt (mg : Str → Option Value) : Prop where
  len : mg "len" = none
  range : mg "range" = none
  enumerate : mg "enumerate" = none
  zip : mg "zip" = none
  reversed : mg "reversed" = none
  abs : mg "abs" = none
  min : mg "min" = none
  max : mg "max" = none
  int : mg "int" = none
  bool : mg "bool" = none
  list : mg "list" = none
  tuple : mg "tuple" = none
  set : mg "set" = none
  dict : mg "dict" = none
  sorted : mg "sorted" = none
  sum : mg "sum" = none
  all : mg "all" = none
  any : mg "any" = none
  str : mg "str" = none
  repr : mg "repr" = none
  isinstance : mg "isinstance" = none
theorem bt_len : bootBuiltins "len" = some (.builtin "len") := by decide +kernel
theorem bt_abs : bootBuiltins "abs" = some (.builtin "abs") := by decide +kernel
theorem bt_min : bootBuiltins "min" = some (.builtin "min") := by decide +kernel
theorem bt_max : bootBuiltins "max" = some (.builtin "max") := by decide +kernel
theorem bt_all : bootBuiltins "all" = some (.builtin "all") := by decide +kernel
theorem bt_any : bootBuiltins "any" = some (.builtin "any") := by decide +kernel
theorem bt_int : bootBuiltins "int" = some (.type "int") := by decide +kernel
theorem bt_bool : bootBuiltins "bool" = some (.type "bool") := by decide +kernel
theorem bt_list : bootBuiltins "list" = some (.type "list") := by decide +kernel
theorem bt_tuple : bootBuiltins "tuple" = some (.type "tuple") := by decide +kernel
theorem bt_str : bootBuiltins "str" = some (.type "str") := by decide +kernel
section
variable {X : Cx} {e : Expr} {pos : Pos} {i : Nat}
/-- the value of a slot, wherever it stands -/
def mTk (i : Nat) : MV := fun ro τ => match tget τ i with
  | some t => some (.val t, tset τ i .hole)
  | none => (fget ro.fz i).map fun d => (rd d, τ)
theorem er_tk (h : PE X e (tVar i)) : ER X e (mTk i) := ⟨fun ro τ r τ' em F B H σ A Q a k => by
  unfold mTk at em
  cases q : tget τ i with
  | some t =>
    rw [q] at em
    exact (er_take h).run ro τ r τ' (by show (tget τ i).map _ = _; rw [q]; exact em) F B H σ A Q a k
  | none =>
    rw [q] at em
    exact (er_var h).run ro τ r τ' em F B H σ A Q a k⟩
theorem hu_eq {j : Nat} (hr : RmG j X.A) : X.A.units + 64 < cLine := hr.rm.units
end
def Dn (K : PySem.W.Frag) (mg : Str → Option Value) (x : Str) (st : Stmt) (ps : List Str) : Prop := ∃ (f : Addr) (fd : FuncData), Fun K x x st f fd ∧ Binds K fd ps [] ∧ mg x = some (.ref f)
theorem dn_mk {K : PySem.W.Frag} {h : Heap} {mg : Str → Option Value} {x : Str} {st : Stmt} {ps : List Str} {f : Addr} {oc : Value} {od an : Option Addr} {osl : Array (Option Value)} {kV doc pm cdv ct : Value} (X : K.In h) (G : h.Ns mainGlobals mg)
    (a : PySem.W.nsIn K mainGlobals x = some (some (.ref f))) (l : K.lookup f = some ⟨oc, od, .func (PySem.W.fnOf x x (defArgs st) (defBody st) (defScope st) .none kV doc pm an cdv ct), osl⟩) (c : PySem.W.codeIn K cdv x = true) (k : PySem.W.keepIn K (.ref f) = true)
    (b : ∀ (kV doc pm : Value) (an : Option Addr) (cdv ct : Value) (us : List Value), us.length = ps.length → bindArgs (PySem.W.fnOf x x (defArgs st) (defBody st) (defScope st) .none kV doc pm an cdv ct) ⟨us, []⟩ = pure (ps.zip us)) : Dn K mg x st ps :=
  have F := fun_mk l c k
  ⟨f, _, F, F.binds b, PySem.W.mg_of X G a⟩
theorem fm_mk {P : Program} {w : World} {K : PySem.W.Frag} {mg : Str → Option Value} {base : Heap} {x : Str} {st : Stmt} {N ps : List Str} {k : Nat} (D : Dn K mg x st ps) (S : FnScope N ps (defScope st)) (ks : List Bool) (hk : ks.length = ps.length)
    {mb : MS} (body : ∀ (f : Addr) (cdv : Value) (Ar : Around) (up : List Env) (s : Shared) (H : Hp) (E : XK), RmG k (Ar.deeper (envOfC x (defScope st) s.heap.objs.size f cdv)) →
      SRs (cxOf CX0 P w K mg base N x (defScope st) f cdv Ar up s H E).nox (outP 0 ks) (defBody st) mb) : Fm P w K mg base (k + 1) x ps.length (mFn ks N.length mb) := by
  obtain ⟨f, fd, F, b, hm⟩ := D
  exact fm_of F S b hm ks hk (body f)
end Tl

namespace Tl
open PySem PySem.Spec PyProof.Rows L2
def bd {α β : Type} (x : Option α) (f : α → Option β) : Option β := x.bind f
@[simp] theorem bd_some {α β : Type} (a : α) (f : α → Option β) : bd (some a) f = f a := rfl
@[simp] theorem bd_none {α β : Type} (f : α → Option β) : bd none f = none := rfl
theorem bd_of {α β : Type} {x : Option α} {f g : α → Option β} (h : ∀ a, f a = g a) : x.bind f = bd x g := by
  cases x with
  | none => rfl
  | some a => exact h a
theorem bd_om {α β : Type} {x : Option α} {f : α → β} {g : α → Option β} (h : ∀ a, some (f a) = g a) : x.map f = bd x g := by
  cases x with
  | none => rfl
  | some a => exact h a
@[simp] theorem tget_nil (i : Nat) : tget [] i = none := rfl
@[simp] theorem tget_cons (j : Nat) (t : T) (r : Tau) (i : Nat) : tget ((j, t) :: r) i = if j = i then some t else tget r i := rfl
@[simp] theorem tdel_nil (i : Nat) : tdel [] i = [] := rfl
@[simp] theorem tdel_cons (j : Nat) (t : T) (r : Tau) (i : Nat) : tdel ((j, t) :: r) i = if j = i then tdel r i else (j, t) :: tdel r i := rfl
@[simp] theorem tset_nil (i : Nat) (t : T) : tset [] i t = [(i, t)] := rfl
@[simp] theorem tset_cons (j : Nat) (u : T) (r : Tau) (i : Nat) (t : T) : tset ((j, u) :: r) i t = if j = i then (i, t) :: r else (j, u) :: tset r i t := rfl
@[simp] theorem fget_z (x : Option D) (r : Fz) : fget (x :: r) 0 = x := rfl
@[simp] theorem fget_s (x : Option D) (r : Fz) (n : Nat) : fget (x :: r) (n + 1) = fget r n := rfl
@[simp] theorem fset_z (x : Option D) (r : Fz) (d : Option D) : fset (x :: r) 0 d = d :: r := rfl
@[simp] theorem fset_s (x : Option D) (r : Fz) (n : Nat) (d : Option D) : fset (x :: r) (n + 1) d = x :: fset r n d := rfl
@[simp] theorem inN_nil (i : Nat) : inN [] i = false := rfl
@[simp] theorem inN_cons (j : Nat) (r : List Nat) (i : Nat) : inN (j :: r) i = if j = i then true else inN r i := rfl
@[simp] theorem tout_nil (ns : List Nat) : tout ns [] = [] := rfl
@[simp] theorem tout_cons (ns : List Nat) (i : Nat) (t : T) (r : Tau) : tout ns ((i, t) :: r) = if inN ns i = true then tout ns r else (i, t) :: tout ns r := rfl
@[simp] theorem fwipe_nil (f : Fz) : fwipe f [] = f := rfl
@[simp] theorem fwipe_cons (f : Fz) (v : Nat) (vs : List Nat) : fwipe f (v :: vs) = fset (fwipe f vs) v none := rfl
@[simp] theorem once_nil : once [] = true := rfl
@[simp] theorem once_cons (j : Nat) (u : T) (r : Tau) : once ((j, u) :: r) = ((tget r j).isNone && once r) := rfl
@[simp] theorem fz_leaf (d : D) : T.fz (.leaf d) = some d := rfl
@[simp] theorem fz_fl (d : List D) : T.fz (.fl d) = some (.list d) := rfl
@[simp] def lsK (ds : List D) : Option D := some (.list ds)
@[simp] def tpK (ds : List D) : Option D := some (.tuple ds)
@[simp] theorem fz_ls (d : List T) : T.fz (.ls d) = bd (T.fzL d) lsK := by
  show (T.fzL d).map PyData.list = _
  exact bd_om fun a => rfl
@[simp] theorem fz_tup (d : List T) : T.fz (.tup d) = bd (T.fzL d) tpK := by
  show (T.fzL d).map PyData.tuple = _
  exact bd_om fun a => rfl
@[simp] theorem fzL_nil : T.fzL [] = some [] := rfl
@[simp] def fzK2 (d : D) (ds : List D) : Option (List D) := some (d :: ds)
@[simp] def fzK1 (ts : List T) (d : D) : Option (List D) := bd (T.fzL ts) (fzK2 d)
@[simp] theorem fzL_cons (t : T) (ts : List T) : T.fzL (t :: ts) = bd (T.fz t) (fzK1 ts) := rfl
@[simp] theorem er_val (t : T) : R.er (.val t) = t.fz := rfl
@[simp] theorem er_vw_ (t : T) : R.er (.vw t) = t.fz := rfl
@[simp] theorem st_val (t : T) : R.st (.val t) = t.fz := rfl
@[simp] theorem st_vwl (d : D) : R.st (.vw (.leaf d)) = some d := rfl
@[simp] theorem rt_val (t : T) : R.t (.val t) = some t := rfl
@[simp] theorem rt_vwl (d : D) : R.t (.vw (.leaf d)) = some (.leaf d) := rfl
@[simp] def erK1 (rs : List R) (d : D) : Option (List D) := bd (erL rs) (fzK2 d)
@[simp] theorem erL_nil : erL [] = some [] := rfl
@[simp] theorem erL_cons (r : R) (rs : List R) : erL (r :: rs) = bd r.er (erK1 rs) := rfl
@[simp] def stK1 (rs : List R) (d : D) : Option (List D) := bd (stL rs) (fzK2 d)
@[simp] theorem stL_nil : stL [] = some [] := rfl
@[simp] theorem stL_cons (r : R) (rs : List R) : stL (r :: rs) = bd r.st (stK1 rs) := rfl
@[simp] def tsK2 (d : T) (ds : List T) : Option (List T) := some (d :: ds)
@[simp] def tsK1 (rs : List R) (d : T) : Option (List T) := bd (tsR rs) (tsK2 d)
@[simp] theorem tsR_nil : tsR [] = some [] := rfl
@[simp] theorem tsR_cons (r : R) (rs : List R) : tsR (r :: rs) = bd r.t (tsK1 rs) := rfl
@[simp] theorem asB_v (b : Bool) : asB (.val (.leaf (.bool b))) = some b := rfl
@[simp] theorem asI_v (b : Int) : asI (.val (.leaf (.int b))) = some b := rfl
@[simp] def insK (i : Int) (is : List Int) : Option (List Int) := some (i :: is)
@[simp] theorem asInts_nil : asInts [] = some [] := rfl
@[simp] theorem asInts_cons (i : Int) (rs : List R) : asInts (.val (.leaf (.int i)) :: rs) = bd (asInts rs) (insK i) := by
  show (asInts rs).map (i :: ·) = _
  exact bd_om fun a => rfl
@[simp] theorem r_mC (d : D) (ro : Ro) (τ : Tau) : mC d ro τ = some (rd d, τ) := rfl
@[simp] def varK (τ : Tau) (d : D) : Option (R × Tau) := some (rd d, τ)
@[simp] theorem r_mVar (i : Nat) (fz : Fz) (vw : Tau) (τ : Tau) : mVar i ⟨fz, vw⟩ τ = bd (fget fz i) (varK τ) := bd_om fun a => rfl
@[simp] def seeK (fz : Fz) (i : Nat) (τ : Tau) : Option T → Option (R × Tau)
  | some t => some (.vw t, τ)
  | none => bd (fget fz i) (varK τ)
@[simp] theorem r_mSee (i : Nat) (fz : Fz) (vw : Tau) (τ : Tau) : mSee i ⟨fz, vw⟩ τ = seeK fz i τ (tget vw i) := by
  unfold mSee
  cases h : tget vw i with
  | some t => simp [h]
  | none =>
    simp only [h]
    exact bd_om fun a => rfl
@[simp] def tkK (fz : Fz) (i : Nat) (τ : Tau) : Option T → Option (R × Tau)
  | some t => some (.val t, tset τ i .hole)
  | none => bd (fget fz i) (varK τ)
@[simp] theorem r_mTk (i : Nat) (fz : Fz) (vw : Tau) (τ : Tau) : mTk i ⟨fz, vw⟩ τ = tkK fz i τ (tget τ i) := by
  unfold mTk
  cases h : tget τ i with
  | some t => simp
  | none => exact bd_om fun a => rfl
@[simp] def borK (i : Nat) (t : T) : R × Tau → Option (R × Tau)
  | (.val x, τ) => some (.val x, tset τ i t)
  | (.vw (.leaf d), τ) => some (rd d, tset τ i t)
  | (.vw _, _) => none
def brK2 (i : Nat) (m : MV) (fz : Fz) (vw : Tau) (τ : Tau) (t : T) : Bool → Option (R × Tau)
  | true => m ⟨fz, vw⟩ τ
  | false => bd (m ⟨fz, (i, t) :: vw⟩ (tset τ i .hole)) (borK i t)
@[simp] theorem brK2_t (i : Nat) (m : MV) (fz : Fz) (vw : Tau) (τ : Tau) (t : T) : brK2 i m fz vw τ t true = m ⟨fz, vw⟩ τ := rfl
@[simp] theorem brK2_f (i : Nat) (m : MV) (fz : Fz) (vw : Tau) (τ : Tau) (t : T) : brK2 i m fz vw τ t false = bd (m ⟨fz, (i, t) :: vw⟩ (tset τ i .hole)) (borK i t) := rfl
@[simp] def brK (i : Nat) (m : MV) (fz : Fz) (vw : Tau) (τ : Tau) : Option T → Option (R × Tau)
  | none => m ⟨fz, vw⟩ τ
  | some t => brK2 i m fz vw τ t (isHole t)
@[simp] theorem hole_t : isHole .hole = true := rfl
@[simp] theorem hole_fl (ds : List D) : isHole (.fl ds) = false := rfl
@[simp] theorem hole_ls (ds : List T) : isHole (.ls ds) = false := rfl
@[simp] theorem hole_scr (ds : List D) : isHole (.scr ds) = false := rfl
@[simp] theorem hole_leaf (ds : D) : isHole (.leaf ds) = false := rfl
@[simp] theorem hole_tup (ds : List T) : isHole (.tup ds) = false := rfl
@[simp] theorem r_mBr (i : Nat) (m : MV) (fz : Fz) (vw : Tau) (τ : Tau) : mBr i m ⟨fz, vw⟩ τ = brK i m fz vw τ (tget τ i) := by
  unfold mBr
  cases h : tget τ i with
  | none => rfl
  | some t =>
    show (if isHole t = true then m ⟨fz, vw⟩ τ else mBor i m ⟨fz, vw⟩ τ) = brK2 i m fz vw τ t (isHole t)
    cases z : isHole t with
    | true => rw [if_pos rfl]; rfl
    | false =>
      rw [if_neg Bool.false_ne_true]
      unfold mBor
      rw [h]
      show (m ⟨fz, (i, t) :: vw⟩ (tset τ i .hole)).bind _ = bd _ _
      refine bd_of fun a => ?_
      obtain ⟨r, τ'⟩ := a
      cases r with
      | val x => rfl
      | vw x => cases x <;> rfl
@[simp] def ofBK : Bool × Tau → Option (R × Tau)
  | (b, τ) => some (rBool b, τ)
@[simp] theorem r_mOfB (m : MB) (ro : Ro) (τ : Tau) : mOfB m ro τ = bd (m ro τ) ofBK := bd_om fun a => rfl
@[simp] def toBK2 (τ : Tau) (b : Bool) : Option (Bool × Tau) := some (b, τ)
@[simp] def toBK : R × Tau → Option (Bool × Tau)
  | (r, τ) => bd (asB r) (toBK2 τ)
@[simp] theorem r_mBrB (i : Nat) (m : MB) (ro : Ro) (τ : Tau) : mBrB i m ro τ = bd (mBr i (mOfB m) ro τ) toBK := bd_of fun a => bd_om fun b => rfl
@[simp] theorem r_mTst (m : MV) (ro : Ro) (τ : Tau) : mTst m ro τ = bd (m ro τ) toBK := bd_of fun a => bd_om fun b => rfl
@[simp] def truK1 (τ : Tau) (d : D) : Option (Bool × Tau) := bd (truD d) (toBK2 τ)
@[simp] def truK : R × Tau → Option (Bool × Tau)
  | (r, τ) => bd r.er (truK1 τ)
@[simp] theorem r_mTru (m : MV) (ro : Ro) (τ : Tau) : mTru m ro τ = bd (m ro τ) truK := bd_of fun a => bd_of fun b => bd_om fun c => rfl
@[simp] theorem truD_b (b : Bool) : truD (.bool b) = some b := rfl
@[simp] def ofK2 (τ : Tau) (r : R) : Option (R × Tau) := some (r, τ)
@[simp] def opK (g : List R → Option R) : List R × Tau → Option (R × Tau)
  | (rs, τ) => bd (g rs) (ofK2 τ)
@[simp] theorem r_mOp (g : List R → Option R) (l : ML) (ro : Ro) (τ : Tau) : mOp g l ro τ = bd (l ro τ) (opK g) := bd_of fun a => bd_om fun b => rfl
@[simp] def opBK (g : List R → Option R) : List R × Tau → Option (Bool × Tau)
  | (rs, τ) => bd (g rs) (opBK2 τ)
where @[simp] opBK2 (τ : Tau) : R → Option (Bool × Tau)
  | .val (.leaf (.bool b)) => some (b, τ)
  | _ => none
@[simp] theorem r_mOpB (g : List R → Option R) (l : ML) (ro : Ro) (τ : Tau) : mOpB g l ro τ = bd (l ro τ) (opBK g) := bd_of fun a => bd_of fun b => rfl
@[simp] theorem r_mNil (ro : Ro) (τ : Tau) : mNil ro τ = some ([], τ) := rfl
@[simp] def csK2 (r : R) : List R × Tau → Option (List R × Tau)
  | (rs, τ) => some (r :: rs, τ)
@[simp] def csK (l : ML) (ro : Ro) : R × Tau → Option (List R × Tau)
  | (r, τ) => bd (l ro τ) (csK2 r)
@[simp] theorem r_mCons (m : MV) (l : ML) (ro : Ro) (τ : Tau) : mCons m l ro τ = bd (m ro τ) (csK l ro) := bd_of fun a => bd_of fun b => rfl
def ifK (m n : MV) (ro : Ro) : Bool × Tau → Option (R × Tau)
  | (true, τ) => m ro τ
  | (false, τ) => n ro τ
@[simp] theorem ifK_t (m n : MV) (ro : Ro) (τ : Tau) : ifK m n ro (true, τ) = m ro τ := rfl
@[simp] theorem ifK_f (m n : MV) (ro : Ro) (τ : Tau) : ifK m n ro (false, τ) = n ro τ := rfl
@[simp] theorem r_mIf (c : MB) (m n : MV) (ro : Ro) (τ : Tau) : mIf c m n ro τ = bd (c ro τ) (ifK m n ro) := bd_of fun a => by
  obtain ⟨b, τ'⟩ := a
  cases b <;> rfl
def andBK (n : MB) (ro : Ro) : Bool × Tau → Option (Bool × Tau)
  | (true, τ) => n ro τ
  | (false, τ) => some (false, τ)
@[simp] theorem andBK_t (n : MB) (ro : Ro) (τ : Tau) : andBK n ro (true, τ) = n ro τ := rfl
@[simp] theorem andBK_f (n : MB) (ro : Ro) (τ : Tau) : andBK n ro (false, τ) = some (false, τ) := rfl
def orBK (n : MB) (ro : Ro) : Bool × Tau → Option (Bool × Tau)
  | (true, τ) => some (true, τ)
  | (false, τ) => n ro τ
@[simp] theorem orBK_t (n : MB) (ro : Ro) (τ : Tau) : orBK n ro (true, τ) = some (true, τ) := rfl
@[simp] theorem orBK_f (n : MB) (ro : Ro) (τ : Tau) : orBK n ro (false, τ) = n ro τ := rfl
@[simp] def notBK : Bool × Tau → Option (Bool × Tau)
  | (b, τ) => some (!b, τ)
@[simp] theorem r_mAndB (m n : MB) (ro : Ro) (τ : Tau) : mAndB m n ro τ = bd (m ro τ) (andBK n ro) := bd_of fun a => by
  obtain ⟨b, τ'⟩ := a
  cases b <;> rfl
@[simp] theorem r_mOrB (m n : MB) (ro : Ro) (τ : Tau) : mOrB m n ro τ = bd (m ro τ) (orBK n ro) := bd_of fun a => by
  obtain ⟨b, τ'⟩ := a
  cases b <;> rfl
@[simp] theorem r_mNotB (m : MB) (ro : Ro) (τ : Tau) : mNotB m ro τ = bd (m ro τ) notBK := bd_om fun a => rfl
def andK2 (n : MV) (ro : Ro) (τ : Tau) : Bool → Option (R × Tau)
  | true => n ro τ
  | false => some (rBool false, τ)
@[simp] theorem andK2_t (n : MV) (ro : Ro) (τ : Tau) : andK2 n ro τ true = n ro τ := rfl
@[simp] theorem andK2_f (n : MV) (ro : Ro) (τ : Tau) : andK2 n ro τ false = some (rBool false, τ) := rfl
def orK2 (n : MV) (ro : Ro) (τ : Tau) : Bool → Option (R × Tau)
  | true => some (rBool true, τ)
  | false => n ro τ
@[simp] theorem orK2_t (n : MV) (ro : Ro) (τ : Tau) : orK2 n ro τ true = some (rBool true, τ) := rfl
@[simp] theorem orK2_f (n : MV) (ro : Ro) (τ : Tau) : orK2 n ro τ false = n ro τ := rfl
@[simp] def notK2 (τ : Tau) (b : Bool) : Option (R × Tau) := some (rBool !b, τ)
@[simp] def andK (n : MV) (ro : Ro) : R × Tau → Option (R × Tau)
  | (r, τ) => bd (asB r) (andK2 n ro τ)
@[simp] def orK (n : MV) (ro : Ro) : R × Tau → Option (R × Tau)
  | (r, τ) => bd (asB r) (orK2 n ro τ)
@[simp] def notK : R × Tau → Option (R × Tau)
  | (r, τ) => bd (asB r) (notK2 τ)
@[simp] theorem r_mAnd (m n : MV) (ro : Ro) (τ : Tau) : mAnd m n ro τ = bd (m ro τ) (andK n ro) := bd_of fun a => bd_of fun b => by cases b <;> rfl
@[simp] theorem r_mOr (m n : MV) (ro : Ro) (τ : Tau) : mOr m n ro τ = bd (m ro τ) (orK n ro) := bd_of fun a => bd_of fun b => by cases b <;> rfl
@[simp] theorem r_mNot (m : MV) (ro : Ro) (τ : Tau) : mNot m ro τ = bd (m ro τ) notK := bd_of fun a => bd_om fun b => rfl
@[simp] def isiK1 (f : D → Bool) (τ : Tau) (d : D) : Option (R × Tau) := some (rBool (f d), τ)
@[simp] def isiK (f : D → Bool) : R × Tau → Option (R × Tau)
  | (r, τ) => bd r.er (isiK1 f τ)
@[simp] theorem r_mIsi (f : D → Bool) (m : MV) (ro : Ro) (τ : Tau) : mIsi f m ro τ = bd (m ro τ) (isiK f) := bd_of fun a => bd_om fun b => rfl
@[simp] def isi2K1 (f g : D → Bool) (τ : Tau) (d : D) : Option (R × Tau) := some (rBool (f d || g d), τ)
@[simp] def isi2K (f g : D → Bool) : R × Tau → Option (R × Tau)
  | (r, τ) => bd r.er (isi2K1 f g τ)
@[simp] theorem r_mIsi2 (f g : D → Bool) (m : MV) (ro : Ro) (τ : Tau) : mIsi2 f g m ro τ = bd (m ro τ) (isi2K f g) := bd_of fun a => bd_om fun b => rfl
@[simp] def lrngK2 (τ : Tau) (n : Int) : Option (R × Tau) := if 0 ≤ n ∧ n ≤ 16000000 then some (.val (.fl (rangeD 0 1 n.toNat)), τ) else none
@[simp] def lrngK : R × Tau → Option (R × Tau)
  | (r, τ) => bd (asI r) (lrngK2 τ)
@[simp] theorem r_mLRng (m : MV) (ro : Ro) (τ : Tau) : mLRng m ro τ = bd (m ro τ) lrngK := bd_of fun a => bd_of fun b => rfl
@[simp] theorem r_oNone (ro : Ro) (τ : Tau) : oNone ro τ = some (none, τ) := rfl
@[simp] def oK2 (τ : Tau) (i : Int) : Option (Option Int × Tau) := some (some i, τ)
@[simp] def oK : R × Tau → Option (Option Int × Tau)
  | (r, τ) => bd (asI r) (oK2 τ)
@[simp] theorem r_oSome (m : MV) (ro : Ro) (τ : Tau) : oSome m ro τ = bd (m ro τ) oK := bd_of fun a => bd_om fun b => rfl
@[simp] def cutK3 (r : R) (i : Option Int) : Option Int × Tau → Option (R × Tau)
  | (j, τ) => bd (cutR r i j) (ofK2 τ)
@[simp] def cutK2 (h : MO) (ro : Ro) (r : R) : Option Int × Tau → Option (R × Tau)
  | (i, τ) => bd (h ro τ) (cutK3 r i)
@[simp] def cutK (l h : MO) (ro : Ro) : R × Tau → Option (R × Tau)
  | (r, τ) => bd (l ro τ) (cutK2 h ro r)
@[simp] theorem r_mCut (m : MV) (l h : MO) (ro : Ro) (τ : Tau) : mCut m l h ro τ = bd (m ro τ) (cutK l h ro) := bd_of fun a => bd_of fun b => bd_of fun c => bd_om fun d => rfl
@[simp] theorem r_cNil (ro : Ro) (τ : Tau) : cNil ro τ = some ([], τ) := rfl
@[simp] def caK3 (c : CArg) : List CArg × Tau → Option (List CArg × Tau)
  | (cs, τ) => some (c :: cs, τ)
@[simp] def caK2 (l : MCA) (ro : Ro) (τ : Tau) (d : D) : Option (List CArg × Tau) := bd (l ro τ) (caK3 (.d d))
@[simp] def caK (l : MCA) (ro : Ro) : R × Tau → Option (List CArg × Tau)
  | (r, τ) => bd r.st (caK2 l ro τ)
@[simp] def caSK (l : MCA) (ro : Ro) : R × Tau → Option (List CArg × Tau)
  | (r, τ) => bd r.er (caK2 l ro τ)
@[simp] theorem r_cCons (m : MV) (l : MCA) (ro : Ro) (τ : Tau) : cCons m l ro τ = bd (m ro τ) (caK l ro) := bd_of fun a => bd_of fun b => bd_om fun c => rfl
@[simp] theorem r_cSee (m : MV) (l : MCA) (ro : Ro) (τ : Tau) : cSee m l ro τ = bd (m ro τ) (caSK l ro) := bd_of fun a => bd_of fun b => bd_om fun c => rfl
@[simp] def caIK (l : MCA) (ro : Ro) (τ : Tau) (j : Nat) (t : T) : Option (List CArg × Tau) := bd (l ro τ) (caK3 (.io j))
@[simp] theorem r_cIo (j : Nat) (l : MCA) (ro : Ro) (τ : Tau) : cIo j l ro τ = bd (tget τ j) (caIK l ro τ j) := bd_of fun a => bd_om fun b => rfl
@[simp] def caOK (l : MCA) (ro : Ro) : R × Tau → Option (List CArg × Tau)
  | (.val t, τ) => bd (l ro τ) (caK3 (.ow t))
  | (.vw _, _) => none
@[simp] theorem r_cOw (m : MV) (l : MCA) (ro : Ro) (τ : Tau) : cOw m l ro τ = bd (m ro τ) (caOK l ro) := bd_of fun a => by
  obtain ⟨r, τ'⟩ := a
  cases r with
  | val t => exact bd_om fun b => rfl
  | vw t => rfl
@[simp] theorem bt_nil (τ : Tau) : buildT [] τ = some ([], τ) := rfl
@[simp] def btK (t : T) : List T × Tau → Option (List T × Tau)
  | (ts, τ) => some (t :: ts, τ)
@[simp] theorem bt_d (d : D) (cs : List CArg) (τ : Tau) : buildT (.d d :: cs) τ = bd (buildT cs τ) (btK (.leaf d)) := bd_om fun a => rfl
@[simp] theorem bt_ow (d : T) (cs : List CArg) (τ : Tau) : buildT (.ow d :: cs) τ = bd (buildT cs τ) (btK d) := bd_om fun a => rfl
@[simp] def btIK (j : Nat) (cs : List CArg) (τ : Tau) (t : T) : Option (List T × Tau) := bd (buildT cs (tset τ j .hole)) (btK t)
@[simp] theorem bt_io (d : Nat) (cs : List CArg) (τ : Tau) : buildT (.io d :: cs) τ = bd (tget τ d) (btIK d cs τ) := bd_of fun a => bd_om fun b => rfl
@[simp] theorem bk_nil (τ : Tau) : backT [] [] τ = some τ := rfl
@[simp] theorem bk_d (d : D) (cs : List CArg) (t : T) (ts : List T) (τ : Tau) : backT (.d d :: cs) (t :: ts) τ = backT cs ts τ := rfl
@[simp] theorem bk_ow (d : T) (cs : List CArg) (t : T) (ts : List T) (τ : Tau) : backT (.ow d :: cs) (t :: ts) τ = backT cs ts τ := rfl
@[simp] def bkK (j : Nat) (t : T) (τ : Tau) : Option Tau := some (tset τ j t)
@[simp] theorem bk_io (j : Nat) (cs : List CArg) (t : T) (ts : List T) (τ : Tau) : backT (.io j :: cs) (t :: ts) τ = bd (backT cs ts τ) (bkK j t) := bd_om fun a => rfl
@[simp] def callK3 (r : T) (τ : Tau) : Option (R × Tau) := some (.val r, τ)
@[simp] def callK2 (cs : List CArg) (τ : Tau) : T × List T → Option (R × Tau)
  | (r, ts) => bd (backT cs ts τ) (callK3 r)
@[simp] def callK1 (f : MF) (cs : List CArg) : List T × Tau → Option (R × Tau)
  | (ts, τ) => bd (f ts) (callK2 cs τ)
@[simp] def callK (f : MF) : List CArg × Tau → Option (R × Tau)
  | (cs, τ) => bd (buildT cs τ) (callK1 f cs)
@[simp] theorem r_mCall (f : MF) (l : MCA) (ro : Ro) (τ : Tau) : mCall f l ro τ = bd (l ro τ) (callK f) := bd_of fun a => bd_of fun b => bd_of fun c => bd_om fun d => rfl
@[simp] theorem lf_nil : leafs [] = some [] := rfl
@[simp] def lfK (d : D) (ts : List T) : Option (List T) := some (.leaf d :: ts)
@[simp] theorem lf_d (d : D) (cs : List CArg) : leafs (.d d :: cs) = bd (leafs cs) (lfK d) := by
  show (leafs cs).map (T.leaf d :: ·) = _
  exact bd_om fun a => rfl
@[simp] def lookK2 (τ : Tau) : T × List T → Option (R × Tau)
  | (r, _) => if isScal r = true then some (.val r, τ) else none
@[simp] def lookK1 (f : MF) (τ : Tau) (ts : List T) : Option (R × Tau) := bd (f ts) (lookK2 τ)
@[simp] def lookK (f : MF) : List CArg × Tau → Option (R × Tau)
  | (cs, τ) => bd (leafs cs) (lookK1 f τ)
@[simp] theorem r_mLook (f : MF) (l : MCA) (ro : Ro) (τ : Tau) : mLook f l ro τ = bd (l ro τ) (lookK f) := bd_of fun a => bd_of fun b => bd_of fun c => rfl
@[simp] theorem sc_b (b : Bool) : isScal (.leaf (.bool b)) = true := rfl
@[simp] theorem sc_i (b : Int) : isScal (.leaf (.int b)) = true := rfl
@[simp] theorem sc_s (b : Str) : isScal (.leaf (.str b)) = true := rfl
@[simp] theorem sc_n : isScal (.leaf .none) = true := rfl
end Tl

namespace Tl
open PySem PySem.Spec PyProof.Rows L2
@[simp] theorem isLs_fl (ds : List D) : isLs (.fl ds) = true := rfl
@[simp] theorem isLs_ls (ds : List T) : isLs (.ls ds) = true := rfl
@[simp] def mutK4 (i : Nat) (τ : Tau) : D × T → Option (R × Tau)
  | (z, t) => some (rd z, tset τ i t)
@[simp] def mutK3 (i : Nat) (g : T → List D → Option (D × T)) (τ : Tau) (ds : List D) (t : T) : Option (R × Tau) := bd (g t ds) (mutK4 i τ)
@[simp] def mutK2 (i : Nat) (g : T → List D → Option (D × T)) (τ : Tau) (ds : List D) : Option (R × Tau) := bd (tget τ i) (mutK3 i g τ ds)
@[simp] def mutK1 (i : Nat) (g : T → List D → Option (D × T)) : List R × Tau → Option (R × Tau)
  | (rs, τ) => bd (stL rs) (mutK2 i g τ)
@[simp] def mutK0 (i : Nat) (g : T → List D → Option (D × T)) (l : ML) (ro : Ro) (τ : Tau) : Bool → Option (R × Tau)
  | true => bd (l ro τ) (mutK1 i g)
  | false => none
@[simp] def mutK (i : Nat) (g : T → List D → Option (D × T)) (l : ML) (ro : Ro) (τ : Tau) (t : T) : Option (R × Tau) := mutK0 i g l ro τ (isLs t)
@[simp] theorem r_mMut (i : Nat) (g : T → List D → Option (D × T)) (l : ML) (ro : Ro) (τ : Tau) : mMut i g l ro τ = bd (tget τ i) (mutK i g l ro τ) := bd_of fun t => by
  unfold mutK
  cases z : isLs t with
  | false => rw [if_neg Bool.false_ne_true]; rfl
  | true =>
    rw [if_pos rfl]
    exact bd_of fun a => bd_of fun b => bd_of fun c => bd_om fun d => rfl
@[simp] theorem r_pHere (u : T) (ro : Ro) (τ : Tau) : pHere u ro τ = some (([], u), τ) := rfl
@[simp] def pAtK4 (is : List Int) (i : Int) (τ : Tau) (w : T) : Option ((List Int × T) × Tau) := some ((is ++ [i], w), τ)
@[simp] def pAtK3 (is : List Int) (i : Int) (τ : Tau) (ts : List T) : Option ((List Int × T) × Tau) := bd (L2.atI ts i) (pAtK4 is i τ)
@[simp] def pAtK2 (is : List Int) (w : T) (τ : Tau) (i : Int) : Option ((List Int × T) × Tau) := bd w.kids (pAtK3 is i τ)
@[simp] def pAtK1 (is : List Int) (w : T) : R × Tau → Option ((List Int × T) × Tau)
  | (r, τ) => bd (asI r) (pAtK2 is w τ)
@[simp] def pAtK (mi : MV) (ro : Ro) : (List Int × T) × Tau → Option ((List Int × T) × Tau)
  | ((is, w), τ) => bd (mi ro τ) (pAtK1 is w)
@[simp] theorem r_pAt (mb : MP) (mi : MV) (u : T) (ro : Ro) (τ : Tau) : pAt mb mi u ro τ = bd (mb u ro τ) (pAtK mi ro) := bd_of fun a => bd_of fun b => bd_of fun c => bd_of fun d => bd_om fun e => rfl
@[simp] theorem kids_ls (ts : List T) : T.kids (.ls ts) = some ts := rfl
@[simp] theorem kids_tup (ts : List T) : T.kids (.tup ts) = some ts := rfl
@[simp] theorem put_ls (ts : List T) (j : Nat) (u : T) : T.put (.ls ts) j u = some (.ls (ts.set j u)) := rfl
@[simp] theorem put_tup (ts : List T) (j : Nat) (u : T) : T.put (.tup ts) j u = some (.tup (ts.set j u)) := rfl
@[simp] theorem setP_nil (t u : T) : setP t [] u = some u := rfl
@[simp] def setPK3 (t : T) (j : Nat) (w : T) : Option T := t.put j w
@[simp] def setPK2 (t : T) (is : List Int) (u : T) (j : Nat) (w : T) : Option T := bd (setP w is u) (setPK3 t j)
@[simp] def setPK1 (t : T) (is : List Int) (u : T) (ts : List T) (j : Nat) : Option T := bd (ts[j]?) (setPK2 t is u j)
@[simp] def setPK (t : T) (i : Int) (is : List Int) (u : T) (ts : List T) : Option T := bd (ixN ts.length i) (setPK1 t is u ts)
@[simp] theorem setP_cons (t : T) (i : Int) (is : List Int) (u : T) : setP t (i :: is) u = bd t.kids (setPK t i is u) := by
  show t.kids.bind _ = _
  exact bd_of fun ts => bd_of fun j => bd_of fun w => bd_of fun w' => rfl
@[simp] def mpK5 (x : Nat) (z : D) (τ : Tau) (u : T) : Option (R × Tau) := some (rd z, tset τ x u)
@[simp] def mpK4 (x : Nat) (u : T) (is : List Int) (τ : Tau) : D × T → Option (R × Tau)
  | (z, w) => bd (setP u is w) (mpK5 x z τ)
@[simp] def mpK3 (x : Nat) (g : T → List D → Option (D × T)) (u : T) (is : List Int) (w : T) (τ : Tau) (ds : List D) : Option (R × Tau) := bd (g w ds) (mpK4 x u is τ)
@[simp] def mpK2 (x : Nat) (g : T → List D → Option (D × T)) (u : T) (is : List Int) (w : T) : List R × Tau → Option (R × Tau)
  | (rs, τ) => bd (stL rs) (mpK3 x g u is w τ)
@[simp] def mpK1 (x : Nat) (g : T → List D → Option (D × T)) (l : ML) (fz : Fz) (vw : Tau) (u : T) (is : List Int) (w : T) (τ : Tau) : Bool → Option (R × Tau)
  | true => bd (l ⟨fz, (x, u) :: vw⟩ τ) (mpK2 x g u is w)
  | false => none
@[simp] def mpK0 (x : Nat) (g : T → List D → Option (D × T)) (l : ML) (fz : Fz) (vw : Tau) (u : T) : (List Int × T) × Tau → Option (R × Tau)
  | ((is, w), τ) => mpK1 x g l fz vw u is w τ (isLs w)
@[simp] def mpK (x : Nat) (mp : MP) (g : T → List D → Option (D × T)) (l : ML) (fz : Fz) (vw : Tau) (τ : Tau) (u : T) : Option (R × Tau) := bd (mp u ⟨fz, (x, u) :: vw⟩ (tset τ x .hole)) (mpK0 x g l fz vw u)
@[simp] theorem r_mMutP (x : Nat) (mp : MP) (g : T → List D → Option (D × T)) (l : ML) (fz : Fz) (vw : Tau) (τ : Tau) : mMutP x mp g l ⟨fz, vw⟩ τ = bd (tget τ x) (mpK x mp g l fz vw τ) := bd_of fun u => bd_of fun a => by
  obtain ⟨⟨is, w⟩, τ'⟩ := a
  show _ = mpK1 x g l fz vw u is w τ' (isLs w)
  cases z : isLs w with
  | false => rw [if_neg Bool.false_ne_true]; rfl
  | true =>
    rw [if_pos rfl]
    exact bd_of fun a => bd_of fun b => bd_of fun c => bd_om fun d => rfl
@[simp] theorem g_append (xs : List D) (d : D) : gAppend (.fl xs) [d] = if xs.length < 16000000 then some (.none, .fl (xs ++ [d])) else none := rfl
@[simp] theorem g_appendls (xs : List T) (d : D) : gAppend (.ls xs) [d] = if xs.length < 16000000 then some (.none, .ls (xs ++ [.leaf d])) else none := rfl
@[simp] theorem g_clearls (xs : List T) : gClear (.ls xs) [] = some (.none, .fl []) := rfl
@[simp] theorem g_extend (xs es : List D) : gExtend (.fl xs) [.list es] = if xs.length + es.length ≤ 16000000 then some (.none, .fl (xs ++ es)) else none := rfl
@[simp] theorem g_insert (xs : List D) (i : Int) (d : D) : gInsert (.fl xs) [.int i, d] = if xs.length < 16000000 ∧ 0 ≤ i ∧ i ≤ 16000000 then some (.none, .fl (xs.take i.toNat ++ [d] ++ xs.drop i.toNat)) else none := rfl
@[simp] def popK (xs : List D) (d : D) : Option (D × T) := some (d, .fl xs.dropLast)
@[simp] theorem g_pop (xs : List D) : gPop (.fl xs) [] = bd (xs[xs.length - 1]?) (popK xs) := bd_om fun a => rfl
@[simp] theorem g_reverse (xs : List D) : gReverse (.fl xs) [] = some (.none, .fl xs.reverse) := rfl
@[simp] theorem g_clear (xs : List D) : gClear (.fl xs) [] = some (.none, .fl []) := rfl
@[simp] def pAK2 (xs : List D) (k : Nat) (d : D) : Option (D × T) := some (d, .fl (xs.eraseIdx k))
@[simp] def pAK (xs : List D) (k : Nat) : Option (D × T) := bd (xs[k]?) (pAK2 xs k)
@[simp] theorem g_popAt (xs : List D) (i : Int) : gPopAt (.fl xs) [.int i] = if -16000000 ≤ i ∧ i ≤ 16000000 then bd (seqIndex? i xs.length) (pAK xs) else none := by
  show (if -16000000 ≤ i ∧ i ≤ 16000000 then (seqIndex? i xs.length).bind _ else none) = _
  congr 1
  exact bd_of fun k => bd_om fun d => rfl
@[simp] def putK (xs : List D) (d : D) (j : Nat) : Option (D × T) := some (.none, .fl (xs.set j d))
@[simp] theorem g_put (i : Int) (xs : List D) (d : D) : gPut i (.fl xs) [d] = bd (ixN xs.length i) (putK xs d) := by
  show ((ixN xs.length i).map fun j => T.fl (xs.set j d)).map (fun w' => (PyData.none, w')) = _
  rw [Option.map_map]
  exact bd_om fun a => rfl
@[simp] theorem its_l (ds : List D) : R.its (.val (.leaf (.list ds))) = some (true, ds) := rfl
@[simp] theorem its_t (ds : List D) : R.its (.val (.leaf (.tuple ds))) = some (false, ds) := rfl
@[simp] theorem its_f (ds : List D) : R.its (.val (.fl ds)) = some (true, ds) := rfl
@[simp] theorem its_wf (ds : List D) : R.its (.vw (.fl ds)) = some (true, ds) := rfl
@[simp] theorem its_ws (ds : List D) : R.its (.vw (.scr ds)) = some (true, ds) := rfl
@[simp] theorem its_wl (ds : List D) : R.its (.vw (.leaf (.list ds))) = some (true, ds) := rfl
@[simp] theorem its_wt (ds : List D) : R.its (.vw (.leaf (.tuple ds))) = some (false, ds) := rfl
@[simp] def sqK2 (τ : Tau) : Bool × List D → Option (List D × Tau)
  | (_, ds) => some (ds, τ)
@[simp] def sqK : R × Tau → Option (List D × Tau)
  | (r, τ) => bd r.its (sqK2 τ)
@[simp] theorem r_iSeq (m : MV) (ro : Ro) (τ : Tau) : iSeq m ro τ = bd (m ro τ) sqK := bd_of fun a => bd_om fun b => rfl
@[simp] def enK2 (τ : Tau) : Bool × List D → Option (List D × Tau)
  | (true, ds) => some (enumFrom 0 ds, τ)
  | (false, _) => none
@[simp] def enK : R × Tau → Option (List D × Tau)
  | (r, τ) => bd r.its (enK2 τ)
@[simp] theorem r_iEnumM (m : MV) (ro : Ro) (τ : Tau) : iEnumM m ro τ = bd (m ro τ) enK := bd_of fun a => bd_of fun b => by
  obtain ⟨b, ds⟩ := b
  cases b <;> rfl
@[simp] def rvK2 (τ : Tau) : Bool × List D → Option (List D × Tau)
  | (true, ds) => some (ds.reverse, τ)
  | (false, _) => none
@[simp] def rvK : R × Tau → Option (List D × Tau)
  | (r, τ) => bd r.its (rvK2 τ)
@[simp] theorem r_iRevM (m : MV) (ro : Ro) (τ : Tau) : iRevM m ro τ = bd (m ro τ) rvK := bd_of fun a => bd_of fun b => by
  obtain ⟨b, ds⟩ := b
  cases b <;> rfl
@[simp] def zpK4 (τ : Tau) (b : Bool) (ds : List D) : Bool × List D → Option (List D × Tau)
  | (c, es) => if b = c then some (zipD ds es, τ) else none
@[simp] def zpK3 (b : Bool) (ds : List D) : R × Tau → Option (List D × Tau)
  | (r, τ) => bd r.its (zpK4 τ b ds)
@[simp] def zpK2 (n : MV) (ro : Ro) (τ : Tau) : Bool × List D → Option (List D × Tau)
  | (b, ds) => bd (n ro τ) (zpK3 b ds)
@[simp] def zpK (n : MV) (ro : Ro) : R × Tau → Option (List D × Tau)
  | (r, τ) => bd r.its (zpK2 n ro τ)
@[simp] theorem r_iZipM (m n : MV) (ro : Ro) (τ : Tau) : iZipM m n ro τ = bd (m ro τ) (zpK n ro) := bd_of fun a => bd_of fun b => bd_of fun c => bd_of fun d => rfl
@[simp] def rgK3 (τ : Tau) (ds : List D) : Option (List D × Tau) := some (ds, τ)
@[simp] def rgK2 (τ : Tau) (ns : List Int) : Option (List D × Tau) := bd (rngOf ns) (rgK3 τ)
@[simp] def rgK : List R × Tau → Option (List D × Tau)
  | (rs, τ) => bd (asInts rs) (rgK2 τ)
@[simp] theorem r_iRng (l : ML) (ro : Ro) (τ : Tau) : iRng l ro τ = bd (l ro τ) rgK := bd_of fun a => bd_of fun b => bd_om fun c => rfl
@[simp] theorem rng1 (j : Int) : rngOf [j] = if -8000000 ≤ j ∧ j ≤ 8000000 then some (rangeD 0 1 j.toNat) else none := rfl
@[simp] theorem rng2 (i j : Int) : rngOf [i, j] = if (-8000000 ≤ i ∧ i ≤ 8000000) ∧ -8000000 ≤ j ∧ j ≤ 8000000 then some (rangeD i 1 (j - i).toNat) else none := rfl
@[simp] theorem rng3 (i j c : Int) : rngOf [i, j, c] = if c = -1 ∧ (-8000000 ≤ i ∧ i ≤ 8000000) ∧ -8000000 ≤ j ∧ j ≤ 8000000 then some (rangeD i c (i - j).toNat) else none := rfl
@[simp] theorem r_gtN (i : Nat) (d : D) (fz : Fz) : gtN i d fz = some (fset fz i (some d)) := rfl
@[simp] theorem r_gtNil (fz : Fz) : gtNil [] fz = some fz := rfl
@[simp] theorem r_gtCons (m : MG) (l : MGs) (d : D) (ds : List D) (fz : Fz) : gtCons m l (d :: ds) fz = bd (m d fz) (l ds) := bd_of fun a => rfl
@[simp] theorem r_gtT (l : MGs) (ds : List D) (fz : Fz) : gtT l (.tuple ds) fz = l ds fz := rfl
@[simp] theorem r_mYes (ro : Ro) (τ : Tau) : mYes ro τ = some (true, τ) := rfl
@[simp] def lcK2 : List D × Tau → Option (R × Tau)
  | (ds, τ) => some (.val (.fl ds), τ)
@[simp] def lcK (vs : List Nat) (mt : MG) (mc : MB) (me : MV) (fz : Fz) (vw : Tau) : List D × Tau → Option (R × Tau)
  | (ds, τ) => bd (lcLoop vs mt mc me (fwipe fz vs) (tout vs vw) ds [] (tout vs τ)) lcK2
@[simp] theorem r_mLc (vs : List Nat) (mi : MI) (mt : MG) (mc : MB) (me : MV) (fz : Fz) (vw : Tau) (τ : Tau) : mLc vs mi mt mc me ⟨fz, vw⟩ τ = bd (mi ⟨fz, vw⟩ τ) (lcK vs mt mc me fz vw) := bd_of fun a => bd_om fun b => rfl
@[simp] def xK (fz : Fz) : R × Tau → Option (T × SS)
  | (.val x, τ) => some (x, ⟨fz, τ⟩)
  | (.vw (.leaf d), τ) => some (.leaf d, ⟨fz, τ⟩)
  | (.vw _, _) => none
@[simp] theorem r_mX (m : MV) (fz : Fz) (τ : Tau) : mX m ⟨fz, τ⟩ = bd (m ⟨fz, []⟩ τ) (xK fz) := bd_of fun a => by
  obtain ⟨r, τ'⟩ := a
  cases r with
  | val x => rfl
  | vw x => cases x <;> rfl
@[simp] def xbK (fz : Fz) : Bool × Tau → Option (Bool × SS)
  | (b, τ) => some (b, ⟨fz, τ⟩)
@[simp] theorem r_mXB (m : MB) (fz : Fz) (τ : Tau) : mXB m ⟨fz, τ⟩ = bd (m ⟨fz, []⟩ τ) (xbK fz) := bd_om fun a => rfl
@[simp] def xiK (fz : Fz) : List D × Tau → Option (List D × SS)
  | (b, τ) => some (b, ⟨fz, τ⟩)
@[simp] theorem r_mXI (m : MI) (fz : Fz) (τ : Tau) : mXI m ⟨fz, τ⟩ = bd (m ⟨fz, []⟩ τ) (xiK fz) := bd_om fun a => rfl
@[simp] def seqK (n : MS) : Out → Option Out
  | .nx s => n s
  | .rt t s => some (.rt t s)
  | .bk s => some (.bk s)
  | .ct s => some (.ct s)
@[simp] theorem r_mSeq (m n : MS) (s : SS) : mSeq m n s = bd (m s) (seqK n) := bd_of fun o => by cases o <;> rfl
@[simp] theorem r_mNx (s : SS) : mNx s = some (.nx s) := rfl
@[simp] theorem r_mBrk (s : SS) : mBrk s = some (.bk s) := rfl
@[simp] theorem r_mCnt (s : SS) : mCnt s = some (.ct s) := rfl
@[simp] theorem r_mRetN (s : SS) : mRetN s = some (.rt (.leaf .none) s) := rfl
def ifsK (m n : MS) : Bool × SS → Option Out
  | (true, s) => m s
  | (false, s) => n s
@[simp] theorem ifsK_t (m n : MS) (s : SS) : ifsK m n (true, s) = m s := rfl
@[simp] theorem ifsK_f (m n : MS) (s : SS) : ifsK m n (false, s) = n s := rfl
@[simp] theorem r_mIfS (c : MXB) (m n : MS) (s : SS) : mIfS c m n s = bd (c s) (ifsK m n) := bd_of fun a => by
  obtain ⟨b, s⟩ := a
  cases b <;> rfl
@[simp] def retK : T × SS → Option Out
  | (t, s) => some (.rt t s)
@[simp] theorem r_mRet (m : MX) (s : SS) : mRet m s = bd (m s) retK := bd_om fun a => rfl
@[simp] def doK : T × SS → Option Out
  | (_, s) => some (.nx s)
@[simp] theorem r_mDo (m : MX) (s : SS) : mDo m s = bd (m s) doK := bd_om fun a => rfl
@[simp] def setK2 (i : Nat) (fz : Fz) (τ : Tau) (d : D) : Option Out := some (.nx ⟨fset fz i (some d), tdel τ i⟩)
@[simp] def setK (i : Nat) : T × SS → Option Out
  | (t, ⟨fz, τ⟩) => bd t.fz (setK2 i fz τ)
@[simp] theorem r_mSet (i : Nat) (m : MX) (s : SS) : mSet i m s = bd (m s) (setK i) := bd_of fun a => bd_om fun d => rfl
@[simp] def setOK (i : Nat) : T × SS → Option Out
  | (t, ⟨fz, τ⟩) => if once τ = true ∧ i < fz.length then some (.nx ⟨fset fz i none, tset τ i t⟩) else none
@[simp] theorem r_mSetO (i : Nat) (m : MX) (s : SS) : mSetO i m s = bd (m s) (setOK i) := bd_of fun a => rfl
@[simp] theorem r_mPre (f : SS → Option SS) (m : MS) (s : SS) : mPre f m s = bd (f s) m := rfl
@[simp] def fzKb (i : Nat) (fz : Fz) (τ : Tau) (d : D) : Option SS := some ⟨fset fz i (some d), tdel τ i⟩
@[simp] def fzKa (i : Nat) (fz : Fz) (τ : Tau) : Option T → Option SS
  | none => some ⟨fz, τ⟩
  | some t => bd t.fz (fzKb i fz τ)
@[simp] theorem r_mFz (i : Nat) (fz : Fz) (τ : Tau) : mFz i ⟨fz, τ⟩ = fzKa i fz τ (tget τ i) := by
  unfold mFz
  cases h : tget τ i with
  | none => rfl
  | some t =>
    show (tget τ i).bind _ = bd _ _
    rw [h]
    exact bd_om fun a => rfl
@[simp] def forK (ws : List Nat) (mt : MG) (body : MS) : List D × SS → Option Out
  | (ds, s) => forL ws mt body ds s
@[simp] theorem r_mFor (ws : List Nat) (mi : MXI) (mt : MG) (body : MS) (s : SS) : mFor ws mi mt body s = bd (mi s) (forK ws mt body) := bd_of fun a => rfl
@[simp] theorem r_mWhile (n : Nat) (c : MXB) (body : MS) (s : SS) : mWhile n c body s = whL c body n s := rfl
@[simp] def asgK3 (ws : List Nat) (τ : Tau) (fz : Fz) : Option Out := some (.nx ⟨fz, tout ws τ⟩)
@[simp] def asgK2 (ws : List Nat) (mt : MG) (fz : Fz) (τ : Tau) (d : D) : Option Out := bd (mt d fz) (asgK3 ws τ)
@[simp] def asgK (ws : List Nat) (mt : MG) : T × SS → Option Out
  | (t, ⟨fz, τ⟩) => bd t.fz (asgK2 ws mt fz τ)
@[simp] theorem r_mAsg (ws : List Nat) (mt : MG) (m : MX) (s : SS) : mAsg ws mt m s = bd (m s) (asgK ws mt) := bd_of fun a => bd_of fun b => bd_om fun c => rfl
@[simp] def parK2 (i j : Nat) (fz : Fz) (τ : Tau) : List D → Option Out
  | [d, e] => some (.nx ⟨fset (fset fz i (some d)) j (some e), tdel (tdel τ i) j⟩)
  | _ => none
@[simp] def parK (i j : Nat) (fz : Fz) : List R × Tau → Option Out
  | (rs, τ) => bd (stL rs) (parK2 i j fz τ)
@[simp] theorem r_mPar (i j : Nat) (l : ML) (fz : Fz) (τ : Tau) : mPar i j l ⟨fz, τ⟩ = bd (l ⟨fz, []⟩ τ) (parK i j fz) := bd_of fun a => bd_of fun b => rfl
@[simp] def augK4 (i : Nat) (fz : Fz) (τ : Tau) (d : D) : Option Out := some (.nx ⟨fset fz i (some d), tdel τ i⟩)
@[simp] def augK3 (i : Nat) (fz : Fz) (τ : Tau) (r : R) : Option Out := bd r.st (augK4 i fz τ)
@[simp] def augK2 (i : Nat) (g : List R → Option R) (fz : Fz) (d : D) : R × Tau → Option Out
  | (r, τ) => bd (g [rd d, r]) (augK3 i fz τ)
@[simp] def augK (i : Nat) (g : List R → Option R) (m : MV) (fz : Fz) (τ : Tau) (d : D) : Option Out := bd (m ⟨fz, []⟩ τ) (augK2 i g fz d)
@[simp] theorem r_mAug (i : Nat) (g : List R → Option R) (m : MV) (fz : Fz) (τ : Tau) : mAug i g m ⟨fz, τ⟩ = bd (fget fz i) (augK i g m fz τ) := bd_of fun a => bd_of fun b => bd_of fun c => bd_om fun d => rfl
@[simp] def spK8 (x : Nat) (fz : Fz) (τ : Tau) (u : T) : Option Out := some (.nx ⟨fz, tset τ x u⟩)
@[simp] def spK7 (x : Nat) (fz : Fz) (u : T) (is : List Int) (τ : Tau) : D × T → Option Out
  | (_, w) => bd (setP u is w) (spK8 x fz τ)
@[simp] def spK6 (x : Nat) (fz : Fz) (d : D) (u : T) (is : List Int) (w : T) (τ : Tau) (i : Int) : Option Out := bd (gPut i w [d]) (spK7 x fz u is τ)
@[simp] def spK5 (x : Nat) (fz : Fz) (d : D) (u : T) (is : List Int) (w : T) : R × Tau → Option Out
  | (r, τ) => bd (asI r) (spK6 x fz d u is w τ)
@[simp] def spK4 (x : Nat) (mi : MV) (fz : Fz) (d : D) (u : T) : (List Int × T) × Tau → Option Out
  | ((is, w), τ) => bd (mi ⟨fz, [(x, u)]⟩ τ) (spK5 x fz d u is w)
@[simp] def spK3 (x : Nat) (mp : MP) (mi : MV) (fz : Fz) (τ : Tau) (d : D) (u : T) : Option Out := bd (mp u ⟨fz, [(x, u)]⟩ (tset τ x .hole)) (spK4 x mi fz d u)
@[simp] def spK2 (x : Nat) (mp : MP) (mi : MV) (fz : Fz) (τ : Tau) (d : D) : Option Out := bd (tget τ x) (spK3 x mp mi fz τ d)
@[simp] def spK1 (x : Nat) (mp : MP) (mi : MV) (fz : Fz) : R × Tau → Option Out
  | (r, τ) => bd r.st (spK2 x mp mi fz τ)
@[simp] theorem r_mSetP (x : Nat) (mp : MP) (me mi : MV) (fz : Fz) (τ : Tau) : mSetP x mp me mi ⟨fz, τ⟩ = bd (me ⟨fz, []⟩ τ) (spK1 x mp mi fz) :=
  bd_of fun a => bd_of fun b => bd_of fun c => bd_of fun d => bd_of fun e => bd_of fun f => bd_of fun g => bd_om fun h => rfl
@[simp] theorem inFz_nil : inFz [] [] = some [] := rfl
@[simp] def ifzK (x : Option D) (fz : Fz) : Option Fz := some (x :: fz)
@[simp] theorem inFz_t (ks : List Bool) (t : T) (ts : List T) : inFz (true :: ks) (t :: ts) = bd (inFz ks ts) (ifzK none) := by
  show (inFz ks ts).map (none :: ·) = _
  exact bd_om fun a => rfl
@[simp] theorem inFz_f (ks : List Bool) (d : D) (ts : List T) : inFz (false :: ks) (.leaf d :: ts) = bd (inFz ks ts) (ifzK (some d)) := by
  show (inFz ks ts).map (some d :: ·) = _
  exact bd_om fun a => rfl
@[simp] theorem inTau_nil (i : Nat) : inTau i [] [] = [] := rfl
@[simp] theorem inTau_t (i : Nat) (ks : List Bool) (t : T) (ts : List T) : inTau i (true :: ks) (t :: ts) = (i, t) :: inTau (i + 1) ks ts := rfl
@[simp] theorem inTau_f (i : Nat) (ks : List Bool) (t : T) (ts : List T) : inTau i (false :: ks) (t :: ts) = inTau (i + 1) ks ts := rfl
@[simp] theorem outT_nil (i : Nat) (τ : Tau) : outT i [] [] τ = some [] := rfl
@[simp] def otK (t : T) (ts : List T) : Option (List T) := some (t :: ts)
@[simp] def otK0 (i : Nat) (ks : List Bool) (ts : List T) (τ : Tau) (t : T) : Option (List T) := bd (outT (i + 1) ks ts (tset τ i .hole)) (otK t)
@[simp] theorem outT_t (i : Nat) (ks : List Bool) (t : T) (ts : List T) (τ : Tau) : outT i (true :: ks) (t :: ts) τ = bd (tget τ i) (otK0 i ks ts τ) := by
  show (tget τ i).bind _ = _
  exact bd_of fun a => bd_om fun b => rfl
@[simp] theorem outT_f (i : Nat) (ks : List Bool) (t : T) (ts : List T) (τ : Tau) : outT i (false :: ks) (t :: ts) τ = bd (outT (i + 1) ks ts τ) (otK t) := by
  show (outT (i + 1) ks ts τ).map (t :: ·) = _
  exact bd_om fun a => rfl
@[simp] def fnK3 (t : T) (ts : List T) : Option (T × List T) := some (t, ts)
@[simp] def fnK2 (ks : List Bool) (ts : List T) : Out → Option (T × List T)
  | .rt t s => bd (outT 0 ks ts s.ow) (fnK3 t)
  | .nx s => bd (outT 0 ks ts s.ow) (fnK3 (.leaf .none))
  | .bk _ => none
  | .ct _ => none
@[simp] def fnK (ks : List Bool) (n : Nat) (body : MS) (ts : List T) (fz : Fz) : Option (T × List T) := bd (body ⟨fz ++ List.replicate (n - ks.length) none, inTau 0 ks ts⟩) (fnK2 ks ts)
@[simp] theorem r_mFn (ks : List Bool) (n : Nat) (body : MS) (ts : List T) : mFn ks n body ts = bd (inFz ks ts) (fnK ks n body ts) := bd_of fun fz => bd_of fun o => by
  cases o with
  | rt t s => exact bd_om fun a => rfl
  | nx s => exact bd_om fun a => rfl
  | bk s => rfl
  | ct s => rfl
@[simp] def gpK2 (d : D) : Option R := some (rd d)
@[simp] def gpK (p : List D → Option D) (ds : List D) : Option R := bd (p ds) gpK2
@[simp] theorem r_gp (p : List D → Option D) (rs : List R) : gp p rs = bd (erL rs) (gpK p) := bd_of fun a => bd_om fun b => rfl
@[simp] theorem p_i2 (ok : Int → Int → Bool) (f : Int → Int → Int) (a b : Int) : pI2 ok f [.int a, .int b] = if ok a b = true then some (.int (f a b)) else none := rfl
@[simp] theorem p_c2 (f : Int → Int → Bool) (a b : Int) : pC2 f [.int a, .int b] = some (.bool (f a b)) := rfl
@[simp] theorem p_neg (a : Int) : pNeg [.int a] = some (.int (-a)) := rfl
@[simp] theorem p_abs (a : Int) : pAbs [.int a] = some (.int (if a < 0 then -a else a)) := rfl
@[simp] theorem p_min (a b : Int) : pMin2 [.int a, .int b] = some (.int (if b < a then b else a)) := rfl
@[simp] theorem p_max (a b : Int) : pMax2 [.int a, .int b] = some (.int (if b > a then b else a)) := rfl
@[simp] theorem p_int (a : Int) : pInt [.int a] = some (.int a) := rfl
@[simp] theorem p_intb (a : Bool) : pInt [.bool a] = some (.int (if a = true then 1 else 0)) := rfl
@[simp] theorem p_eq (a b : D) : pEq [a, b] = if SeqAt.shaped a = true ∧ SeqAt.shaped b = true then some (.bool (PyData.eqv a b)) else none := rfl
@[simp] theorem p_ne (a b : D) : pNe [a, b] = if SeqAt.shaped a = true ∧ SeqAt.shaped b = true then some (.bool (!PyData.eqv a b)) else none := rfl
@[simp] theorem p_isN (a : D) : pIsN [a, .none] = some (.bool (isNone a)) := rfl
@[simp] theorem p_notN (a : D) : pNotN [a, .none] = some (.bool (!isNone a)) := rfl
@[simp] theorem p_str (d : D) : pStr [d] = if okShow d = true then some (.str (strOf d)) else none := rfl
@[simp] theorem p_repr (d : D) : pRepr [d] = if okShow d = true then some (.str d.shown) else none := rfl
@[simp] theorem g_add (a b : Int) : gAdd [.val (.leaf (.int a)), .val (.leaf (.int b))] = some (rInt (a + b)) := rfl
@[simp] theorem g_adds (a b : Str) : gAdd [.val (.leaf (.str a)), .val (.leaf (.str b))] = if a.length + b.length ≤ 16000000 then some (rd (.str (a ++ b))) else none := rfl
@[simp] theorem g_addtt (a b : List D) : gAdd [.val (.leaf (.tuple a)), .val (.leaf (.tuple b))] = if a.length + b.length ≤ 16000000 then some (rd (.tuple (a ++ b))) else none := rfl
@[simp] theorem g_addff (a b : List D) : gAdd [.val (.fl a), .val (.fl b)] = if a.length + b.length ≤ 16000000 then some (.val (.fl (a ++ b))) else none := rfl
@[simp] theorem g_addfl (a b : List D) : gAdd [.val (.fl a), .val (.leaf (.list b))] = if a.length + b.length ≤ 16000000 then some (.val (.fl (a ++ b))) else none := rfl
@[simp] theorem g_addlf (a b : List D) : gAdd [.val (.leaf (.list a)), .val (.fl b)] = if a.length + b.length ≤ 16000000 then some (.val (.fl (a ++ b))) else none := rfl
@[simp] theorem g_addll (a b : List D) : gAdd [.val (.leaf (.list a)), .val (.leaf (.list b))] = if a.length + b.length ≤ 16000000 then some (.val (.fl (a ++ b))) else none := rfl
@[simp] theorem g_addwf (a b : List D) : gAdd [.vw (.fl a), .val (.fl b)] = if a.length + b.length ≤ 16000000 then some (.val (.fl (a ++ b))) else none := rfl
@[simp] theorem g_mul (a b : Int) : gMul [.val (.leaf (.int a)), .val (.leaf (.int b))] = if okMul a b = true then some (rInt (a * b)) else none := rfl
@[simp] theorem g_mulf (a : List D) (k : Int) : gMul [.val (.fl a), .val (.leaf (.int k))] = if (-4000000 ≤ k ∧ k ≤ 4000000) ∧ a.length * k.toNat ≤ 16000000 then some (.val (.fl (repD a k.toNat))) else none := rfl
@[simp] def ixK (d : D) : Option R := some (rd d)
@[simp] def ixKt (d : T) : Option R := some (.vw d)
@[simp] theorem ix_l (ds : List D) (i : Int) : gIx [.val (.leaf (.list ds)), .val (.leaf (.int i))] = bd (L2.atI ds i) ixK := bd_om fun a => rfl
@[simp] theorem ix_t (ds : List D) (i : Int) : gIx [.val (.leaf (.tuple ds)), .val (.leaf (.int i))] = bd (L2.atI ds i) ixK := bd_om fun a => rfl
@[simp] theorem ix_f (ds : List D) (i : Int) : gIx [.val (.fl ds), .val (.leaf (.int i))] = bd (L2.atI ds i) ixK := bd_om fun a => rfl
@[simp] theorem ix_wf (ds : List D) (i : Int) : gIx [.vw (.fl ds), .val (.leaf (.int i))] = bd (L2.atI ds i) ixK := bd_om fun a => rfl
@[simp] theorem ix_ws (ds : List D) (i : Int) : gIx [.vw (.scr ds), .val (.leaf (.int i))] = bd (L2.atI ds i) ixK := bd_om fun a => rfl
@[simp] theorem ix_wl (ds : List D) (i : Int) : gIx [.vw (.leaf (.list ds)), .val (.leaf (.int i))] = bd (L2.atI ds i) ixK := bd_om fun a => rfl
@[simp] theorem ix_wt (ds : List D) (i : Int) : gIx [.vw (.leaf (.tuple ds)), .val (.leaf (.int i))] = bd (L2.atI ds i) ixK := bd_om fun a => rfl
@[simp] theorem ix_wL (ds : List T) (i : Int) : gIx [.vw (.ls ds), .val (.leaf (.int i))] = bd (L2.atI ds i) ixKt := bd_om fun a => rfl
@[simp] theorem ix_wT (ds : List T) (i : Int) : gIx [.vw (.tup ds), .val (.leaf (.int i))] = bd (L2.atI ds i) ixKt := bd_om fun a => rfl
@[simp] theorem len_l (ds : List D) : gLen [.val (.leaf (.list ds))] = some (rInt ds.length) := rfl
@[simp] theorem len_t (ds : List D) : gLen [.val (.leaf (.tuple ds))] = some (rInt ds.length) := rfl
@[simp] theorem len_f (ds : List D) : gLen [.val (.fl ds)] = some (rInt ds.length) := rfl
@[simp] theorem len_wf (ds : List D) : gLen [.vw (.fl ds)] = some (rInt ds.length) := rfl
@[simp] theorem len_ws (ds : List D) : gLen [.vw (.scr ds)] = some (rInt ds.length) := rfl
@[simp] theorem len_wl (ds : List D) : gLen [.vw (.leaf (.list ds))] = some (rInt ds.length) := rfl
@[simp] theorem len_wt (ds : List D) : gLen [.vw (.leaf (.tuple ds))] = some (rInt ds.length) := rfl
@[simp] theorem len_wL (ds : List T) : gLen [.vw (.ls ds)] = some (rInt ds.length) := rfl
@[simp] theorem len_s (z : Str) : gLen [.val (.leaf (.str z))] = if z.length ≤ 16000000 then some (rInt z.length) else none := rfl
@[simp] def tupK (ds : List D) : Option R := some (rd (.tuple ds))
@[simp] def lstK (ds : List D) : Option R := some (.val (.fl ds))
@[simp] def lstKT (ds : List T) : Option R := some (.val (.ls ds))
@[simp] theorem r_gTupD (rs : List R) : gTupD rs = bd (stL rs) tupK := bd_om fun a => rfl
@[simp] theorem r_gLstD (rs : List R) : gLstD rs = bd (stL rs) lstK := bd_om fun a => rfl
@[simp] theorem r_gLstT (rs : List R) : gLstT rs = bd (tsR rs) lstKT := bd_om fun a => rfl
@[simp] def gliK : Bool × List D → Option R
  | (_, ds) => some (.val (.fl ds))
@[simp] theorem r_gList (r : R) : gList [r] = bd r.its gliK := bd_om fun a => rfl
@[simp] def gtuK : Bool × List D → Option R
  | (_, ds) => some (rd (.tuple ds))
@[simp] theorem r_gTuple (r : R) : gTuple [r] = bd r.its gtuK := bd_om fun a => rfl
@[simp] def gboolK (f : List Bool → Bool) (bs : List Bool) : Option R := some (rBool (f bs))
def allB (bs : List Bool) : Bool := bs.all id
def anyB (bs : List Bool) : Bool := bs.any id
@[simp] def gallK (f : List Bool → Bool) : Bool × List D → Option R
  | (true, ds) => bd (boolsD ds) (gboolK f)
  | (false, _) => none
@[simp] theorem r_gAll (r : R) : gAll [r] = bd r.its (gallK allB) := bd_of fun a => by
  obtain ⟨b, ds⟩ := a
  cases b with
  | true => exact bd_om fun a => rfl
  | false => rfl
@[simp] theorem r_gAny (r : R) : gAny [r] = bd r.its (gallK anyB) := bd_of fun a => by
  obtain ⟨b, ds⟩ := a
  cases b with
  | true => exact bd_om fun a => rfl
  | false => rfl
@[simp] theorem cut_l (ds : List D) (i j : Option Int) : cutR (.val (.leaf (.list ds))) i j = some (.val (.fl (cutD ds i j))) := rfl
@[simp] theorem cut_f (ds : List D) (i j : Option Int) : cutR (.val (.fl ds)) i j = some (.val (.fl (cutD ds i j))) := rfl
@[simp] theorem cut_wf (ds : List D) (i j : Option Int) : cutR (.vw (.fl ds)) i j = some (.val (.fl (cutD ds i j))) := rfl
@[simp] theorem cut_ws (ds : List D) (i j : Option Int) : cutR (.vw (.scr ds)) i j = some (.val (.fl (cutD ds i j))) := rfl
@[simp] theorem cut_t (ds : List D) (i j : Option Int) : cutR (.val (.leaf (.tuple ds))) i j = some (rd (.tuple (cutD ds i j))) := rfl
@[simp] theorem okMul_l {a b : Int} (h : -18446744073709551616 < a) (h' : a < 18446744073709551616) : okMul a b = true := decide_eq_true (.inl ⟨h, h'⟩)
@[simp] theorem okMul_r {a b : Int} (h : -18446744073709551616 < b) (h' : b < 18446744073709551616) : okMul a b = true := decide_eq_true (.inr ⟨h, h'⟩)
theorem emod_b (a m : Int) (h : 0 < m) : 0 ≤ a % m ∧ a % m < m := ⟨Int.emod_nonneg _ (by omega), Int.emod_lt_of_pos _ h⟩
end Tl

namespace Tl
open PySem PySem.Spec PyProof.Rows L2
section
variable {X : Cx} {x : Str} {p pos : Pos} {k : Nat} {m : MF}
end
section
variable {X : Cx} {K : PySem.W.Frag}
def rInT (K : PySem.W.Frag) : R2 := fun x y H Q => ∃ d ds, Dp K H x d ∧ Dp K H y (.tuple ds) ∧ SeqAt.shaped d = true ∧ SeqAt.shaped (.tuple ds) = true ∧ Q (.bl (ds.any fun z => PyData.eqv z d)) H
def rNotInT (K : PySem.W.Frag) : R2 := fun x y H Q => ∃ d ds, Dp K H x d ∧ Dp K H y (.tuple ds) ∧ SeqAt.shaped d = true ∧ SeqAt.shaped (.tuple ds) = true ∧ Q (.bl (!ds.any fun z => PyData.eqv z d)) H
theorem op_inT (hu : X.A.units + 65 < cLine) : OpR X (compareOp .In) (rInT X.K) := by
  intro pins s σ H x y v u Q I rx ry h
  obtain ⟨d, ds, hd, he, sd, se, q⟩ := h
  obtain ⟨as, r1⟩ := Dp.reads I d x v hd rx
  obtain ⟨bs, r2⟩ := Dp.reads I (.tuple ds) y u he ry
  exact SeqAt.in_tuple_reads r2 r1 (SeqAt.canLay_of_shaped se) (SeqAt.canLay_of_shaped sd) (room_in_shaped sd hu) ⟨.bl _, H, I, rfl, q⟩
theorem op_notInT (hu : X.A.units + 65 < cLine) : OpR X (compareOp .NotIn) (rNotInT X.K) := by
  intro pins s σ H x y v u Q I rx ry h
  obtain ⟨d, ds, hd, he, sd, se, q⟩ := h
  obtain ⟨as, r1⟩ := Dp.reads I d x v hd rx
  obtain ⟨bs, r2⟩ := Dp.reads I (.tuple ds) y u he ry
  exact SeqAt.notIn_tuple_reads r2 r1 (SeqAt.canLay_of_shaped se) (SeqAt.canLay_of_shaped sd) (room_in_shaped sd hu) ⟨.bl _, H, I, rfl, q⟩
def rInAll (K : PySem.W.Frag) : R2 := fun x y H Q => rInD K x y H Q ∨ rInT K x y H Q
def rNotInAll (K : PySem.W.Frag) : R2 := fun x y H Q => rNotInD K x y H Q ∨ rNotInT K x y H Q
theorem op_inAll (hu : X.A.units + 65 < cLine) : OpR X (compareOp .In) (rInAll X.K) := by
  intro pins s σ H x y v u Q I rx ry h
  rcases h with h | h
  · exact op_inD hu pins s σ H x y v u Q I rx ry h
  · exact op_inT hu pins s σ H x y v u Q I rx ry h
theorem op_notInAll (hu : X.A.units + 65 < cLine) : OpR X (compareOp .NotIn) (rNotInAll X.K) := by
  intro pins s σ H x y v u Q I rx ry h
  rcases h with h | h
  · exact op_notInD hu pins s σ H x y v u Q I rx ry h
  · exact op_notInT hu pins s σ H x y v u Q I rx ry h
def pIn (neg : Bool) : List D → Option D
  | [d, .list ds] => if SeqAt.shaped d = true ∧ SeqAt.shaped (.list ds) = true then some (.bool (if neg = true then !ds.any fun z => PyData.eqv z d else ds.any fun z => PyData.eqv z d)) else none
  | [d, .tuple ds] => if SeqAt.shaped d = true ∧ SeqAt.shaped (.tuple ds) = true then some (.bool (if neg = true then !ds.any fun z => PyData.eqv z d else ds.any fun z => PyData.eqv z d)) else none
  | _ => none
def gIn : List R → Option R := gp (pIn false)
def gNotIn : List R → Option R := gp (pIn true)
theorem pIn_cases {neg : Bool} {ds : List D} {d : D} (e : pIn neg ds = some d) : ∃ a c es, ds = [a, c] ∧ (c = .list es ∨ c = .tuple es) ∧ SeqAt.shaped a = true ∧ SeqAt.shaped c = true ∧ d = .bool (if neg = true then !es.any fun z => PyData.eqv z a else es.any fun z => PyData.eqv z a) := by
  match ds, e with
  | [a, .list es], e =>
    have e' : (if SeqAt.shaped a = true ∧ SeqAt.shaped (.list es) = true then some (PyData.bool (if neg = true then !es.any fun z => PyData.eqv z a else es.any fun z => PyData.eqv z a)) else none) = some d := e
    by_cases q : SeqAt.shaped a = true ∧ SeqAt.shaped (.list es) = true
    · rw [if_pos q] at e'
      cases e'
      exact ⟨a, _, es, rfl, .inl rfl, q.1, q.2, rfl⟩
    · rw [if_neg q] at e'
      cases e'
  | [a, .tuple es], e =>
    have e' : (if SeqAt.shaped a = true ∧ SeqAt.shaped (.tuple es) = true then some (PyData.bool (if neg = true then !es.any fun z => PyData.eqv z a else es.any fun z => PyData.eqv z a)) else none) = some d := e
    by_cases q : SeqAt.shaped a = true ∧ SeqAt.shaped (.tuple es) = true
    · rw [if_pos q] at e'
      cases e'
      exact ⟨a, _, es, rfl, .inr rfl, q.1, q.2, rfl⟩
    · rw [if_neg q] at e'
      cases e'
  | [], e => cases e
  | [_], e => cases e
  | _ :: _ :: _ :: _, e => simp [pIn] at e
  | [_, .none], e => cases e
  | [_, .bool _], e => cases e
  | [_, .int _], e => cases e
  | [_, .str _], e => cases e
  | [_, .dict _], e => cases e
theorem vr_in : VR K (two (rInAll K)) gIn := VR.plain fun ds d e H vs Q r k => by
  obtain ⟨a, c, es, rfl, hc, s1, s2, rfl⟩ := pIn_cases e
  obtain ⟨v, w, rfl, r1, r2⟩ := r.two
  have d1 := r1.dp a (shaped_lay s1)
  have d2 := r2.dp c (shaped_lay s2)
  rcases hc with rfl | rfl
  · exact ⟨v, w, rfl, .inl ⟨a, es, d1, d2, s1, s2, k _ fun F => .bl _⟩⟩
  · exact ⟨v, w, rfl, .inr ⟨a, es, d1, d2, s1, s2, k _ fun F => .bl _⟩⟩
theorem vr_notIn : VR K (two (rNotInAll K)) gNotIn := VR.plain fun ds d e H vs Q r k => by
  obtain ⟨a, c, es, rfl, hc, s1, s2, rfl⟩ := pIn_cases e
  obtain ⟨v, w, rfl, r1, r2⟩ := r.two
  have d1 := r1.dp a (shaped_lay s1)
  have d2 := r2.dp c (shaped_lay s2)
  rcases hc with rfl | rfl
  · exact ⟨v, w, rfl, .inl ⟨a, es, d1, d2, s1, s2, k _ fun F => .bl _⟩⟩
  · exact ⟨v, w, rfl, .inr ⟨a, es, d1, d2, s1, s2, k _ fun F => .bl _⟩⟩
theorem hu_in {j : Nat} (hr : RmG j X.A) : X.A.units + 65 < cLine := by
  have := hr.rm.un
  omega
@[simp] theorem r_gIn (rs : List R) : gIn rs = bd (erL rs) (gpK (pIn false)) := r_gp _ _
@[simp] theorem r_gNotIn (rs : List R) : gNotIn rs = bd (erL rs) (gpK (pIn true)) := r_gp _ _
@[simp] theorem p_inl (neg : Bool) (d : D) (ds : List D) : pIn neg [d, .list ds] = if SeqAt.shaped d = true ∧ SeqAt.shaped (.list ds) = true then some (.bool (if neg = true then !ds.any fun z => PyData.eqv z d else ds.any fun z => PyData.eqv z d)) else none := rfl
@[simp] theorem p_int' (neg : Bool) (d : D) (ds : List D) : pIn neg [d, .tuple ds] = if SeqAt.shaped d = true ∧ SeqAt.shaped (.tuple ds) = true then some (.bool (if neg = true then !ds.any fun z => PyData.eqv z d else ds.any fun z => PyData.eqv z d)) else none := rfl
end
def putS (i : Nat) (b : Bool) (r : R) (s : SS) : Option SS :=
  match b with
  | true => match r with
    | .val t => if once s.ow = true ∧ i < s.fz.length then some ⟨fset s.fz i none, tset s.ow i t⟩ else none
    | .vw _ => none
  | false => r.st.map fun d => ⟨fset s.fz i (some d), tdel s.ow i⟩
def putsS : List (Nat × Bool) → List R → SS → Option SS
  | [], [], s => some s
  | (i, b) :: is, r :: rs, s => (putS i b r s).bind fun s1 => putsS is rs s1
  | _, _, _ => none
section
variable {K : PySem.W.Frag}
end
def mParG (is : List (Nat × Bool)) (l : ML) : MS := fun s => (l ⟨s.fz, []⟩ s.ow).bind fun p => (putsS is p.1 ⟨s.fz, p.2⟩).map .nx
section
variable {X : Cx} {Pr : List Nat} {st : Stmt}
end
@[simp] def psK3 (i : Nat) (fz : Fz) (τ : Tau) (d : D) : Option SS := some ⟨fset fz i (some d), tdel τ i⟩
@[simp] theorem r_putF (i : Nat) (r : R) (fz : Fz) (τ : Tau) : putS i false r ⟨fz, τ⟩ = bd r.st (psK3 i fz τ) := bd_om fun a => rfl
@[simp] theorem r_putT (i : Nat) (t : T) (fz : Fz) (τ : Tau) : putS i true (.val t) ⟨fz, τ⟩ = if once τ = true ∧ i < fz.length then some ⟨fset fz i none, tset τ i t⟩ else none := rfl
@[simp] theorem r_puts0 (s : SS) : putsS [] [] s = some s := rfl
@[simp] theorem r_puts1 (i : Nat) (b : Bool) (is : List (Nat × Bool)) (r : R) (rs : List R) (s : SS) : putsS ((i, b) :: is) (r :: rs) s = bd (putS i b r s) (putsS is rs) := bd_of fun a => rfl
@[simp] def pgK3 (s : SS) : Option Out := some (.nx s)
@[simp] def pgK (is : List (Nat × Bool)) (fz : Fz) : List R × Tau → Option Out
  | (rs, τ) => bd (putsS is rs ⟨fz, τ⟩) pgK3
@[simp] theorem r_mParG (is : List (Nat × Bool)) (l : ML) (fz : Fz) (τ : Tau) : mParG is l ⟨fz, τ⟩ = bd (l ⟨fz, []⟩ τ) (pgK is fz) := bd_of fun a => bd_om fun b => rfl
end Tl

namespace Tl
open PySem PySem.Spec PyProof.Rows L2
def gTupT : List R → Option R := fun rs => (tsR rs).map fun ds => .val (.tup ds)
section
variable {X : Cx} {pos : Pos}
theorem er_tupT {es : List Expr} {l : ML} {x1 : Nat} (ha : AR X es l) (hl : es.length ≤ 1000 := by decide) : ER X (.Tuple es x1 pos) (mOp gTupT l) := ⟨fun ro τ r τ' em F B H σ A Q a k => by
  obtain ⟨⟨rs, τ1⟩, e1, em⟩ := Option.bind_eq_some_iff.mp em
  obtain ⟨r2, e2, em⟩ := Option.map_eq_some_iff.mp em
  cases em
  obtain ⟨ts, e3, e4⟩ := Option.map_eq_some_iff.mp e2
  cases e4
  have hlen := ha.len _ _ _ _ e1
  refine wE (pe_tup paW) (ha.run ro τ rs τ1 e1 F B H σ A _ a fun F1 H1 vs A1 A2 g1 c1 o1 t1 => ⟨?_, fun p hp => ?_⟩)
  · rw [o1.length, hlen]
    exact Nat.le_of_lt (small1000 hl)
  · obtain ⟨g3, c3⟩ := c1.newF (o := .tup vs) hp
    have sh : ∀ q o, H1 q = some o → upd H1 p (.tup vs) q = some o := fun q o z => by
      rw [upd_ne (ne_of_none z hp)]
      exact z
    exact k _ _ (.ref p) A1 A2 (g1.trans g3) c3 (.tup (.inl (.inl upd_same)) (by rw [o1.length, hlen]; exact Nat.le_of_lt (small1000 hl)) ((o1.own e3).stay g3.ff fun q _ o z => sh q o z)) (t1.stay g3.ff fun q _ o z => sh q o z)⟩
end
@[simp] def tupKT (ds : List T) : Option R := some (.val (.tup ds))
@[simp] theorem r_gTupT (rs : List R) : gTupT rs = bd (tsR rs) tupKT := bd_om fun a => rfl
section
variable {K : PySem.W.Frag}
/-- the turns: the items to come, the trees made -/
def lcLoopT (vs : List Nat) (mt : MG) (mc : MB) (me : MV) (fw : Fz) (vw : Tau) : List D → List T → Tau → Option (List T × Tau)
  | [], acc, τ => some (acc, τ)
  | d :: ds, acc, τ => (mt d fw).bind fun fz => (mc ⟨fz, vw⟩ τ).bind fun p =>
      if p.1 = true then (me ⟨fz, vw⟩ p.2).bind fun q => q.1.t.bind fun y => lcLoopT vs mt mc me fw vw ds (acc ++ [y]) (tout vs q.2) else lcLoopT vs mt mc me fw vw ds acc (tout vs p.2)
def mLcT (vs : List Nat) (mi : MI) (mt : MG) (mc : MB) (me : MV) : MV := fun ro τ => (mi ro τ).bind fun p => (lcLoopT vs mt mc me (fwipe ro.fz vs) (tout vs ro.vw) p.1 [] (tout vs p.2)).map fun q => (.val (.ls q.1), q.2)
end
section
variable {X : Cx} {scope : Scope} {elt tg iter c : Expr} {own : List (Str × Nat)} {pos : Pos} {ws : List Nat} {mi : MI} {mt : MG} {mc : MB} {me : MV}
end
@[simp] def lcTK2 : List T × Tau → Option (R × Tau)
  | (ds, τ) => some (.val (.ls ds), τ)
@[simp] def lcTK (vs : List Nat) (mt : MG) (mc : MB) (me : MV) (fz : Fz) (vw : Tau) : List D × Tau → Option (R × Tau)
  | (ds, τ) => bd (lcLoopT vs mt mc me (fwipe fz vs) (tout vs vw) ds [] (tout vs τ)) lcTK2
@[simp] theorem r_mLcT (vs : List Nat) (mi : MI) (mt : MG) (mc : MB) (me : MV) (fz : Fz) (vw : Tau) (τ : Tau) : mLcT vs mi mt mc me ⟨fz, vw⟩ τ = bd (mi ⟨fz, vw⟩ τ) (lcTK vs mt mc me fz vw) := bd_of fun a => bd_om fun b => rfl
end Tl

namespace Tl
open PySem PySem.Spec PyProof.Rows L2
def T.withKids : T → List T → T
  | .ls _, ts => .ls ts
  | .tup _, ts => .tup ts
  | t, _ => t
def forOL (x : Nat) (body : MS) : Nat → Nat → List T → SS → Option (List T × Out)
  | 0, _, ts, s => some (ts, .nx s)
  | n + 1, j, ts, s => (ts[j]?).bind fun t => if once s.ow = true ∧ x < s.fz.length then (body ⟨fset s.fz x none, tset s.ow x t⟩).bind fun o => match o with
      | .nx s1 => (tget s1.ow x).bind fun t' => forOL x body n (j + 1) (ts.set j t') ⟨fset s1.fz x none, tdel s1.ow x⟩
      | .ct s1 => (tget s1.ow x).bind fun t' => forOL x body n (j + 1) (ts.set j t') ⟨fset s1.fz x none, tdel s1.ow x⟩
      | .bk s1 => (tget s1.ow x).map fun t' => (ts.set j t', .nx ⟨fset s1.fz x none, tdel s1.ow x⟩)
      | .rt r s1 => (tget s1.ow x).map fun t' => (ts.set j t', .rt r ⟨fset s1.fz x none, tdel s1.ow x⟩)
    else none
def endO (y : Nat) (u' : T) : Out → Option Out
  | .nx s => some (.nx ⟨s.fz, tset s.ow y u'⟩)
  | .rt r s => some (.rt r ⟨s.fz, tset s.ow y u'⟩)
  | _ => none
def mForO (y x : Nat) (mp : MP) (body : MS) : MS := fun s => (tget s.ow y).bind fun u => (mp u ⟨s.fz, [(y, u)]⟩ (tset s.ow y .hole)).bind fun p => p.1.2.kids.bind fun ts =>
  (forOL x body ts.length 0 ts ⟨s.fz, p.2⟩).bind fun q => (setP u p.1.1 (p.1.2.withKids q.1)).bind fun u' => endO y u' q.2
section
variable {X : Cx} {Pr : List Nat}
end
@[simp] theorem wk_ls (a ts : List T) : T.withKids (.ls a) ts = .ls ts := rfl
@[simp] theorem wk_tup (a ts : List T) : T.withKids (.tup a) ts = .tup ts := rfl
@[simp] theorem endO_nx (y : Nat) (u : T) (fz : Fz) (τ : Tau) : endO y u (.nx ⟨fz, τ⟩) = some (.nx ⟨fz, tset τ y u⟩) := rfl
@[simp] def foK5 (y : Nat) (o2 : Out) (u' : T) : Option Out := endO y u' o2
@[simp] def foK4 (y : Nat) (u w : T) (is : List Int) : List T × Out → Option Out
  | (ts, o2) => bd (setP u is (w.withKids ts)) (foK5 y o2)
@[simp] def foK3 (y x : Nat) (body : MS) (fz : Fz) (u w : T) (is : List Int) (τ : Tau) (ts : List T) : Option Out := bd (forOL x body ts.length 0 ts ⟨fz, τ⟩) (foK4 y u w is)
@[simp] def foK2 (y x : Nat) (body : MS) (fz : Fz) (u : T) : (List Int × T) × Tau → Option Out
  | ((is, w), τ) => bd w.kids (foK3 y x body fz u w is τ)
@[simp] def foK (y x : Nat) (mp : MP) (body : MS) (fz : Fz) (τ : Tau) (u : T) : Option Out := bd (mp u ⟨fz, [(y, u)]⟩ (tset τ y .hole)) (foK2 y x body fz u)
@[simp] theorem r_mForO (y x : Nat) (mp : MP) (body : MS) (fz : Fz) (τ : Tau) : mForO y x mp body ⟨fz, τ⟩ = bd (tget τ y) (foK y x mp body fz τ) := bd_of fun a => bd_of fun b => bd_of fun c => bd_of fun d => bd_of fun e => rfl
end Tl

namespace Tl
open PySem PySem.Spec PyProof.Rows L2
def mChain (f f' : Int → Int → Bool) (ma mb mc : MV) : MV := fun ro τ => (ma ro τ).bind fun p => (asI p.1).bind fun i => (mb ro p.2).bind fun q => (asI q.1).bind fun j =>
  if f i j = true then (mc ro q.2).bind fun w => (asI w.1).map fun l => (rBool (f' j l), w.2) else some (rBool false, q.2)
section
variable {X : Cx} {a b c : Expr} {pos : Pos} {ma mb mc : MV} {f f' : Int → Int → Bool}
theorem ev_chain (ha : ER X a ma) (hb : ER X b mb) (hc : ER X c mc) : EV X.K (tChain (rI0 fun i j => .bl (f i j)) (rI0 fun i j => .bl (f' i j)) (wpE X a) (wpE X b) (wpE X c)) (mChain f f' ma mb mc) := ⟨fun ro τ r τ' em F B H σ A Q at_ k => by
  obtain ⟨⟨x, τ1⟩, e1, em⟩ := Option.bind_eq_some_iff.mp em
  obtain ⟨i, e2, em⟩ := Option.bind_eq_some_iff.mp em
  obtain ⟨⟨y, τ2⟩, e3, em⟩ := Option.bind_eq_some_iff.mp em
  obtain ⟨j, e4, em⟩ := Option.bind_eq_some_iff.mp em
  refine ha.run ro τ x τ1 e1 F B H σ A _ at_ fun F1 H1 v A1 A2 g1 c1 o1 t1 => ?_
  have ev := asI_of e2 o1
  have g1' : Go F H A F1 H1 A2 := g1.trans (Go.less fun _ m => List.mem_append_right _ m)
  have at1 : At X.K F1 B H1 σ ro τ1 A2 := ⟨c1.right, at_.ro.mono g1.ff, t1⟩
  refine hb.run ro τ1 y τ2 e3 F1 B H1 σ A2 _ at1 fun F2 H2 u A3 A4 g2 c2 o2 t2 => ?_
  have eu := asI_of e4 o2
  have g2' : Go F1 H1 A2 F2 H2 A4 := g2.trans (Go.less fun _ m => List.mem_append_right _ m)
  refine ⟨i, j, ev, eu, f i j, rfl, ?_⟩
  by_cases q : f i j = true
  · rw [if_pos q]
    have em' : (if f i j = true then (mc ro τ2).bind fun w => (asI w.1).map fun l => (rBool (f' j l), w.2) else some (rBool false, τ2)) = some (r, τ') := em
    rw [if_pos q] at em'
    obtain ⟨⟨w, τ3⟩, e5, em⟩ := Option.bind_eq_some_iff.mp em'
    obtain ⟨l, e6, em⟩ := Option.map_eq_some_iff.mp em
    cases em
    refine hc.run ro τ2 w _ e5 F2 B H2 σ A4 _ ⟨c2.right, at1.ro.mono g2.ff, t2⟩ fun F3 H3 z A5 A6 g3 c3 o3 t3 => ?_
    have ez := asI_of e6 o3
    refine ⟨j, l, eu, ez, ?_⟩
    exact k F3 H3 _ [] A6 ((g1'.trans g2').trans (g3.trans (Go.less fun _ m => List.mem_append_right _ m))) c3.right (.leaf (.bl _)) t3
  · rw [if_neg q]
    have em' : (if f i j = true then (mc ro τ2).bind fun w => (asI w.1).map fun l => (rBool (f' j l), w.2) else some (rBool false, τ2)) = some (r, τ') := em
    rw [if_neg q] at em'
    cases em'
    exact k F2 H2 _ [] A4 (g1'.trans g2') c2.right (.leaf (.bl _)) t2⟩
theorem tr_chain {op op' : CmpOp} (ho : OpR X (compareOp op) (rI0 fun i j => .bl (f i j))) (ho' : OpR X (compareOp op') (rI0 fun i j => .bl (f' i j))) (ha : ER X a ma) (hb : ER X b mb) (hc : ER X c mc) (hm : lastMarks [op, op'] [b, c] = false := by with_unfolding_all rfl) :
    TR X (.Compare a [op, op'] [b, c] pos) (mTst (mChain f f' ma mb mc)) := ⟨fun ro τ r τ' em F B H σ A Q at_ k => by
  obtain ⟨⟨z, τ1⟩, e1, em⟩ := Option.bind_eq_some_iff.mp em
  obtain ⟨b', e2, em⟩ := Option.map_eq_some_iff.mp em
  cases em
  refine wT (pt_chain ho ho' peW peW peW hm) ((ev_chain ha hb hc).run ro τ z _ e1 F B H σ A _ at_ fun F1 H1 v A1 A2 g1 c1 o1 t1 => ?_)
  cases z with
  | vw t => cases e2
  | val t =>
    cases t with
    | leaf d =>
      cases d with
      | bool q =>
        cases e2
        cases o1 with
        | leaf rr =>
          cases rr
          exact ⟨_, rfl, k F1 H1 A2 (g1.trans (Go.less fun _ m => List.mem_append_right _ m)) c1.right t1⟩
      | _ => cases e2
    | _ => cases e2⟩
end
@[simp] def chK4 (f' : Int → Int → Bool) (j : Int) (τ : Tau) (l : Int) : Option (R × Tau) := some (rBool (f' j l), τ)
@[simp] def chK3 (f' : Int → Int → Bool) (j : Int) : R × Tau → Option (R × Tau)
  | (w, τ) => bd (asI w) (chK4 f' j τ)
def chK2' (f' : Int → Int → Bool) (mc : MV) (ro : Ro) (j : Int) (τ : Tau) : Bool → Option (R × Tau)
  | true => bd (mc ro τ) (chK3 f' j)
  | false => some (rBool false, τ)
@[simp] theorem chK2_t (f' : Int → Int → Bool) (mc : MV) (ro : Ro) (j : Int) (τ : Tau) : chK2' f' mc ro j τ true = bd (mc ro τ) (chK3 f' j) := rfl
@[simp] theorem chK2_f (f' : Int → Int → Bool) (mc : MV) (ro : Ro) (j : Int) (τ : Tau) : chK2' f' mc ro j τ false = some (rBool false, τ) := rfl
@[simp] def chK2 (f f' : Int → Int → Bool) (mc : MV) (ro : Ro) (i : Int) (τ : Tau) (j : Int) : Option (R × Tau) := chK2' f' mc ro j τ (f i j)
@[simp] def chK1 (f f' : Int → Int → Bool) (mc : MV) (ro : Ro) (i : Int) : R × Tau → Option (R × Tau)
  | (q, τ) => bd (asI q) (chK2 f f' mc ro i τ)
@[simp] def chK0 (f f' : Int → Int → Bool) (mb mc : MV) (ro : Ro) (τ : Tau) (i : Int) : Option (R × Tau) := bd (mb ro τ) (chK1 f f' mc ro i)
@[simp] def chK (f f' : Int → Int → Bool) (mb mc : MV) (ro : Ro) : R × Tau → Option (R × Tau)
  | (p, τ) => bd (asI p) (chK0 f f' mb mc ro τ)
@[simp] theorem r_mChain (f f' : Int → Int → Bool) (ma mb mc : MV) (ro : Ro) (τ : Tau) : mChain f f' ma mb mc ro τ = bd (ma ro τ) (chK f f' mb mc ro) := bd_of fun a => bd_of fun i => bd_of fun b => bd_of fun j => by
  show (if f i j = true then _ else _) = chK2' f' mc ro j b.2 (f i j)
  cases q : f i j with
  | true =>
    rw [if_pos rfl]
    exact bd_of fun w => bd_om fun l => rfl
  | false =>
    rw [if_neg Bool.false_ne_true]
    rfl
def fLt (i j : Int) : Bool := decide (i < j)
def fLe (i j : Int) : Bool := decide (i ≤ j)
def fGt (i j : Int) : Bool := decide (j < i)
def fGe (i j : Int) : Bool := decide (j ≤ i)
@[simp] theorem fLt_d (i j : Int) : fLt i j = decide (i < j) := rfl
@[simp] theorem fLe_d (i j : Int) : fLe i j = decide (i ≤ j) := rfl
@[simp] theorem fGt_d (i j : Int) : fGt i j = decide (j < i) := rfl
@[simp] theorem fGe_d (i j : Int) : fGe i j = decide (j ≤ i) := rfl
def isLstR (r : R) : Bool := match r.its with
  | some (true, _) => true
  | _ => false
def mLM (g : List R → Option R) (m0 : MV) (l : ML) : MV := fun ro τ => (m0 ro τ).bind fun p => if isLstR p.1 = true then (l ro p.2).bind fun q => (g (p.1 :: q.1)).map fun r => (r, q.2) else none
theorem lst_ty {K : PySem.W.Frag} {F B H : Hp} {r : R} {v : V} {A : List Addr} (h : isLstR r = true) (c : Cn F B H A) (o : ROk K F B H r v A) : tyV K "list" v H := by
  unfold isLstR at h
  split at h
  · rename_i ds e
    have c' : Cn F B H (A ++ []) := by
      rw [List.append_nil]
      exact c
    obtain ⟨F1, a, xs, _, c1, _, rfl, _, _, sq⟩ := its_of c' o e
    exact .inl ⟨rfl, xs, sq H c1.fh c1.bh⟩
  · cases h
section
variable {X : Cx} {o e : Expr} {es : List Expr} {name : Str} {apos cpos : Pos} {id : String} {r : V → List V → Hp → VK → Prop} {g : List R → Option R} {m0 : MV} {l : ML}
theorem er_lm (vr : VR X.K (fun vs H Q => ∃ x xs, vs = x :: xs ∧ r x xs H Q) g)
    (slot : Slot "list" name id) (hty : typeOf (.builtin id) = pure (.type "method_descriptor")) (hm : MtR X id r) (ho : ER X o m0) (ha : AR X (e :: es) l)
    (hbase : attributeBase o name X.env (eval o X.env) = eval o X.env := by rfl)
    (hfew : ((backTo cpos (starEach (e :: es) X.env)).all (fun x => !x.1) && (backToKw cpos (keywordEach [] X.env)).all (fun x => x.1.isSome)
      && decide ((e :: es).length + ([] : List Keyword).length + (if ([] : List Keyword).isEmpty then 0 else 1) < 30)) = true := by rfl)
    (hline : (apos.endLine == cpos.line) = true := by rfl) (hs : starEach (e :: es) X.env = (false, eval e X.env) :: starEach es X.env := by rfl) (hplain : (backTo cpos (starEach es X.env)).any (·.1) = false := by rfl) :
    ER X (.Call (.Attribute o name apos) (e :: es) [] cpos) (mLM g m0 l) := ⟨fun ro τ z τ' em F B H σ A Q a k => by
  obtain ⟨⟨x, τ1⟩, e1, em⟩ := Option.bind_eq_some_iff.mp em
  have em : (if isLstR x = true then (l ro τ1).bind fun q => (g (x :: q.1)).map fun r => (r, q.2) else none) = some (z, τ') := em
  by_cases q0 : isLstR x = true
  · rw [if_pos q0] at em
    obtain ⟨⟨rs, τ2⟩, e2, em⟩ := Option.bind_eq_some_iff.mp em
    obtain ⟨w, e3, em⟩ := Option.map_eq_some_iff.mp em
    cases em
    refine wE (pe_bm PySem.F.plainAttrs_list slot hty hm peW paW hbase hfew hline hs hplain) (ho.run ro τ x τ1 e1 F B H σ A _ a fun F1 H1 v A1 A2 g1 c1 o1 t1 => ⟨lst_ty q0 c1.left o1, ?_⟩)
    refine ha.run ro τ1 rs _ e2 F1 B H1 σ A2 _ (a.next g1 c1 t1) fun F2 H2 vs A3 A4 g2 c2 o2 t2 => ?_
    obtain ⟨g3, c3⟩ := Go.framed c1 g2 c2
    have o3 := Go.ros c1 g2 o1
    rw [← List.append_assoc] at g3 c3
    have big := vr (x :: rs) z e3 F2 B H2 (v :: vs) (A1 ++ A3) Q c3.left (.cons o3 o2) fun F3 H3 u A5 g4 c4 o4 => by
      obtain ⟨g5, c5⟩ := Go.framedR c3 g4 c4
      exact k F3 H3 u A5 A4 ((g1.trans g3).trans g5) c5 o4 (t2.stay g4.ff fun b m w q => g4.keep b w (fun z => c3.apart b z m) q)
    obtain ⟨y, ys, ey, q⟩ := big
    cases ey
    exact q
  · rw [if_neg q0] at em
    cases em⟩
end
def pIndex : List D → Option D
  | [.list ds, d] => if SeqAt.shaped (.list ds) = true ∧ SeqAt.shaped d = true then (ds.findIdx? fun z => PyData.eqv z d).map fun j => .int (j : Nat) else none
  | _ => none
theorem vr_index {K : PySem.W.Frag} : VR K (fun vs H Q => ∃ x xs, vs = x :: xs ∧ rIndexD K x xs H Q) (gp pIndex) := VR.plain fun ds d e H vs Q r k => by
  match ds, e with
  | [.list es, a], e =>
    have e' : (if SeqAt.shaped (.list es) = true ∧ SeqAt.shaped a = true then (es.findIdx? fun z => PyData.eqv z a).map fun j => PyData.int (j : Nat) else none) = some d := e
    by_cases q : SeqAt.shaped (.list es) = true ∧ SeqAt.shaped a = true
    · rw [if_pos q] at e'
      obtain ⟨j, e1, e2⟩ := Option.map_eq_some_iff.mp e'
      subst e2
      obtain ⟨v, w, rfl, r1, r2⟩ := r.two
      obtain ⟨hj, h1, h2⟩ := List.findIdx?_eq_some_iff_getElem.mp e1
      have d1 := r1.dp _ (shaped_lay q.1)
      have d2 := r2.dp a (shaped_lay q.2)
      have hv : ∃ p, v = .ref p := by
        cases r1 with
        | lst hh _ _ => exact ⟨_, rfl⟩
      obtain ⟨p, rfl⟩ := hv
      · refine ⟨_, _, rfl, p, w, a, es, j, es[j], rfl, rfl, d1, d2, q.1, q.2, List.getElem?_eq_getElem hj, h1, fun m z hm hz => ?_, k _ fun F => .int _⟩
        obtain ⟨hl, ez⟩ := List.getElem?_eq_some_iff.mp hz
        subst ez
        simpa using h2 m hm
    · rw [if_neg q] at e'
      cases e'
  | [], e => cases e
  | [_], e => simp [pIndex] at e
  | _ :: _ :: _ :: _, e => simp [pIndex] at e
  | [.none, _], e => cases e
  | [.bool _, _], e => cases e
  | [.int _, _], e => cases e
  | [.str _, _], e => cases e
  | [.tuple _, _], e => cases e
  | [.dict _, _], e => cases e
@[simp] theorem p_index (ds : List D) (d : D) : pIndex [.list ds, d] = if SeqAt.shaped (.list ds) = true ∧ SeqAt.shaped d = true then (ds.findIdx? fun z => PyData.eqv z d).map fun j => .int (j : Nat) else none := rfl
@[simp] def lmK3 (τ : Tau) (r : R) : Option (R × Tau) := some (r, τ)
@[simp] def lmK2 (g : List R → Option R) (r : R) : List R × Tau → Option (R × Tau)
  | (rs, τ) => bd (g (r :: rs)) (lmK3 τ)
def lmK1 (g : List R → Option R) (l : ML) (ro : Ro) (r : R) (τ : Tau) : Bool → Option (R × Tau)
  | true => bd (l ro τ) (lmK2 g r)
  | false => none
@[simp] theorem lmK1_t (g : List R → Option R) (l : ML) (ro : Ro) (r : R) (τ : Tau) : lmK1 g l ro r τ true = bd (l ro τ) (lmK2 g r) := rfl
@[simp] def lmK (g : List R → Option R) (l : ML) (ro : Ro) : R × Tau → Option (R × Tau)
  | (r, τ) => lmK1 g l ro r τ (isLstR r)
@[simp] theorem r_mLM (g : List R → Option R) (m0 : MV) (l : ML) (ro : Ro) (τ : Tau) : mLM g m0 l ro τ = bd (m0 ro τ) (lmK g l ro) := bd_of fun a => by
  show (if isLstR a.1 = true then _ else none) = lmK1 g l ro a.1 a.2 (isLstR a.1)
  cases q : isLstR a.1 with
  | true =>
    rw [if_pos rfl]
    exact bd_of fun b => bd_om fun c => rfl
  | false =>
    rw [if_neg Bool.false_ne_true]
    rfl
@[simp] theorem isLstR_l (ds : List D) : isLstR (.val (.leaf (.list ds))) = true := rfl
@[simp] theorem isLstR_f (ds : List D) : isLstR (.val (.fl ds)) = true := rfl
@[simp] theorem isLstR_wf (ds : List D) : isLstR (.vw (.fl ds)) = true := rfl
end Tl

namespace Tl
open PySem PySem.Spec PyProof.Rows L2
section
variable {X : Cx}
abbrev TP := Addr × Int × Int
end
section
variable {α β : Type}
def insBy (lt : α → α → Bool) (x : α) : List α → List α
  | [] => [x]
  | y :: r => if lt y x = true then y :: insBy lt x r else x :: y :: r
def sortBy (lt : α → α → Bool) : List α → List α
  | [] => []
  | x :: r => insBy lt x (sortBy lt r)
end
abbrev ltI (a b : Int) : Bool := decide (a < b)
abbrev ltQ (a b : Int × Int) : Bool := SrtO.lexB a b
def pqD (p : Int × Int) : D := .tuple [.int p.1, .int p.2]
def pqsD : List D → Option (List (Int × Int))
  | [] => some []
  | .tuple [.int a, .int b] :: r => (pqsD r).map ((a, b) :: ·)
  | _ => none
/-- sorted(..) of a list of whole numbers, of pairs of them -/
def gSorted : List R → Option R
  | [x] => x.lst?.bind fun ds => match intsD ds with
    | some ns => some (.val (.fl ((sortBy ltI ns).map PyData.int)))
    | none => (pqsD ds).map fun ps => .val (.fl ((sortBy ltQ ps).map pqD))
  | _ => none
section
variable {K : PySem.W.Frag} {X : Cx}
theorem RepL.pairs {F : Hp} : ∀ {xs : List V} {ps : List (Int × Int)}, RepL K F xs (ps.map pqD) → ∃ tps : List TP, xs = tps.map (fun q => V.ref q.1) ∧ ps = tps.map (·.2) ∧ ∀ q ∈ tps, SqT K F q.1 [.int q.2.1, .int q.2.2]
  | _, [], h => by
    cases h
    exact ⟨[], rfl, rfl, fun _ m => nomatch m⟩
  | _, (i, j) :: ps, h => by
    cases h with
    | cons r t =>
      obtain ⟨tps, e1, e2, h3⟩ := RepL.pairs t
      cases r with
      | @tup a ys _ h1 h2 h4 =>
        obtain ⟨u, w, rfl, r1, r2⟩ := RepL.two h4
        cases r1.toInt
        cases r2.toInt
        refine ⟨(a, i, j) :: tps, by rw [e1]; rfl, by rw [e2]; rfl, fun q m => ?_⟩
        rcases List.mem_cons.mp m with rfl | m
        · exact h1
        · exact h3 q m
end
end Tl

namespace L2
open PySem PySem.Spec PyProof.Rows
section
variable {prog : Program} {w : World} {A : Around} {E : Value → Shared → Prop} {s : Shared}
end
section
variable {X : Cx}
end
end L2
namespace Tl
open PySem PySem.Spec PyProof.Rows L2
def tup? : R → Option (List D)
  | .val (.leaf (.tuple ds)) => some ds
  | _ => none
def gSortTu : List R → Option R
  | [x] => (tup? x).bind fun ds => (intsD ds).map fun ns => .val (.fl ((sortBy ltI ns).map PyData.int))
  | _ => none
@[simp] theorem r_gSortTu (ds : List D) : gSortTu [.val (.leaf (.tuple ds))] = (intsD ds).map fun ns => .val (.fl ((sortBy ltI ns).map PyData.int)) := rfl
end Tl

namespace Tl
open PySem PySem.Spec PyProof.Rows L2
def keyOf : D → Option Key
  | .int i => some (.inl i)
  | .str s => some (.inr s)
  | _ => none
@[simp] theorem keyOf_int (i : Int) : keyOf (.int i) = some (.inl i) := rfl
@[simp] theorem keyOf_str (i : Str) : keyOf (.str i) = some (.inr i) := rfl
def keyIsB : D → Key → Bool
  | .int a, .inl b => decide (a = b)
  | .str a, .inr b => decide (a = b)
  | _, _ => false
theorem keyIs_D (j k : Key) : keyIsB (keyD j) k = decide (j = k) := by
  cases j <;> cases k <;> simp [keyIsB, keyD]
section
variable {κ α : Type} [DecidableEq κ]
def valK (es : List (κ × α)) (k : κ) : Option α := (es.find? fun p => decide (p.1 = k)).map (·.2)
def putE (es : List (κ × α)) (k : κ) (d : α) : List (κ × α) := if (es.any fun p => decide (p.1 = k)) = true then es.map (fun p => if p.1 = k then (p.1, d) else p) else es ++ [(k, d)]
def dropE (es : List (κ × α)) (k : κ) : List (κ × α) := es.filter fun p => decide (p.1 ≠ k)
def mergeE (es more : List (κ × α)) : List (κ × α) := more.foldl (fun a p => putE a p.1 p.2) es
@[simp] theorem valK_nil (k : κ) : valK ([] : List (κ × α)) k = none := rfl
theorem valK_cons (p : κ × α) (es : List (κ × α)) (k : κ) : valK (p :: es) k = if p.1 = k then some p.2 else valK es k := by
  unfold valK
  rw [List.find?_cons]
  by_cases h : p.1 = k <;> simp [h]
@[simp] theorem mergeE_nil (es : List (κ × α)) : mergeE es [] = es := rfl
end
/-- what a dict's data hold at a key -/
def valE (es : List (D × D)) (k : Key) : Option D := (es.find? fun p => keyIsB p.1 k).map (·.2)
abbrev dkD (es : List (Key × D)) : List (D × D) := es.map fun p => (keyD p.1, p.2)
theorem valE_dk : ∀ (es : List (Key × D)) (k : Key), valE (dkD es) k = valK es k
  | [], _ => rfl
  | p :: es, k => by
    rw [valK_cons, ← valE_dk es k]
    unfold valE
    rw [show dkD (p :: es) = (keyD p.1, p.2) :: dkD es from rfl, List.find?_cons, keyIs_D]
    by_cases h : p.1 = k <;> simp [h]
section
variable {K : PySem.W.Frag} {F : Hp}
theorem Rep.key {v : V} {k : Key} (r : Rep K F v (keyD k)) : v = kV k := by
  cases k with
  | inl i => exact Rep.toInt r
  | inr i => exact Rep.toStr r
theorem RepK.val (k : Key) : ∀ {kvs : List (Key × V)} {es : List (D × D)}, RepK K F kvs es → (valV kvs k = none ∧ valE es k = none) ∨ ∃ v d, valV kvs k = some v ∧ valE es k = some d ∧ Rep K F v d
  | _, _, .nil => .inl ⟨rfl, rfl⟩
  | _, _, .cons (k := j) (v := v) (d := d) r t => by
    by_cases h : j = k
    · refine .inr ⟨v, d, valV_pos h, ?_, r⟩
      unfold valE
      rw [List.find?_cons, keyIs_D]
      simp [h]
    · have e : ∀ es, valE ((keyD j, d) :: es) k = valE es k := fun es => by
        unfold valE
        rw [List.find?_cons, keyIs_D]
        simp [h]
      rw [valV_neg h, e]
      exact RepK.val k t
theorem RepK.len : ∀ {kvs : List (Key × V)} {es : List (D × D)}, RepK K F kvs es → kvs.length = es.length
  | _, _, .nil => rfl
  | _, _, .cons _ t => by rw [List.length_cons, List.length_cons, RepK.len t]
def okDK : List (D × D) → Bool
  | (.none, _) :: _ => false
  | _ => true
theorem Rep.dict {v : V} {es : List (D × D)} (r : Rep K F v (.dict es)) (h : okDK es = true) : ∃ a kvs, v = .ref a ∧ F a = some (.dK kvs) ∧ RepK K F kvs es := by
  cases r with
  | dk h1 h2 => exact ⟨_, _, rfl, h1, h2⟩
  | dn h1 h2 => cases h
  | dl h1 h2 => cases h
  | xc => cases h
  | xf => cases h
theorem okDK_dk (es : List (Key × D)) : okDK (dkD es) = true := by
  cases es with
  | nil => rfl
  | cons p es => cases p with | mk k d => cases k <;> rfl
end
def pDIn : List D → Option D
  | [k, .dict es] => if okDK es = true then (keyOf k).map fun k => .bool (valE es k).isSome else none
  | _ => none
def pDNotIn : List D → Option D
  | [k, .dict es] => if okDK es = true then (keyOf k).map fun k => .bool !(valE es k).isSome else none
  | _ => none
section
variable {K : PySem.W.Frag}
/-- d[k]: the dict frozen at once (what is told may be an object) -/
def pDGet : List D → Option D
  | [.dict es, k] => if okDK es = true then (keyOf k).bind fun k => valE es k else none
  | _ => none
/-- what is told is plain: a number, a text, a truth, None -/
def isPl : D → Bool
  | .none => true
  | .bool _ => true
  | .int _ => true
  | .str _ => true
  | _ => false
def pDGetP (ds : List D) : Option D := (pDGet ds).bind fun d => if isPl d = true then some d else none
end
section
variable {X : Cx} {a b : Expr} {ma mb : MV} {pos : Pos}
/-- {} -/
def mDNewK : MV := fun _ τ => some (.val (.dk []), τ)
end
section
variable {K : PySem.W.Frag} {F : Hp}
theorem KvOk.any {k : Key} : ∀ {kvs : List (Key × V)} {es : List (Key × D)}, KvOk K F kvs es → (kvs.any fun p => decide (p.1 = k)) = es.any fun p => decide (p.1 = k)
  | _, _, .nil => rfl
  | _, _, .cons h t => by rw [List.any_cons, List.any_cons, KvOk.any t, h.1]
theorem KvOk.set {k : Key} {v : V} {d : D} (r : Rep K F v d) : ∀ {kvs : List (Key × V)} {es : List (Key × D)}, KvOk K F kvs es → KvOk K F (kvs.map fun p => if p.1 = k then (p.1, v) else p) (es.map fun p => if p.1 = k then (p.1, d) else p)
  | _, _, .nil => .nil
  | _, _, .cons (a := p) (b := q) h t => by
    refine .cons ?_ (KvOk.set r t)
    show (if p.1 = k then (p.1, v) else p).1 = (if q.1 = k then (q.1, d) else q).1 ∧ Rep K F (if p.1 = k then (p.1, v) else p).2 (if q.1 = k then (q.1, d) else q).2
    by_cases e : q.1 = k
    · rw [if_pos e, if_pos (by rw [h.1]; exact e)]
      exact ⟨h.1, r⟩
    · rw [if_neg e, if_neg (by rw [h.1]; exact e)]
      exact h
theorem KvOk.app : ∀ {xs ys : List (Key × V)} {es fs : List (Key × D)}, KvOk K F xs es → KvOk K F ys fs → KvOk K F (xs ++ ys) (es ++ fs)
  | _, _, _, _, .nil, s => s
  | _, _, _, _, .cons h t, s => .cons h (KvOk.app t s)
theorem KvOk.put {k : Key} {v : V} {d : D} (r : Rep K F v d) {kvs : List (Key × V)} {es : List (Key × D)} (h : KvOk K F kvs es) : KvOk K F (L2.putK kvs k v) (putE es k d) := by
  unfold L2.putK putE
  rw [h.any (k := k)]
  split
  · exact h.set r
  · exact h.app (.cons ⟨rfl, r⟩ .nil)
theorem KvOk.drop {k : Key} : ∀ {kvs : List (Key × V)} {es : List (Key × D)}, KvOk K F kvs es → KvOk K F (L2.dropK kvs k) (dropE es k)
  | _, _, .nil => .nil
  | _, _, .cons (a := p) (b := q) h t => by
    unfold L2.dropK dropE
    rw [List.filter_cons, List.filter_cons, h.1]
    split
    · exact .cons h (KvOk.drop t)
    · exact KvOk.drop t
theorem KvOk.len {kvs : List (Key × V)} {es : List (Key × D)} (h : KvOk K F kvs es) : kvs.length = es.length := Paired.length h
theorem KvOk.val {k : Key} : ∀ {kvs : List (Key × V)} {es : List (Key × D)}, KvOk K F kvs es → (valV kvs k = none ∧ valK es k = none) ∨ ∃ v d, valV kvs k = some v ∧ valK es k = some d ∧ Rep K F v d
  | _, _, .nil => .inl ⟨rfl, rfl⟩
  | _, _, .cons (a := p) (b := q) h t => by
    rw [valK_cons]
    by_cases e : q.1 = k
    · rw [if_pos e, valV_pos (h.1.trans e)]
      exact .inr ⟨_, _, rfl, rfl, h.2⟩
    · rw [if_neg e, valV_neg (by rw [h.1]; exact e)]
      exact KvOk.val t
/-- pairs of a key and a thing, as a list of data -/
def entriesOf : List D → Option (List (Key × D))
  | [] => some []
  | .tuple [k, d] :: r => (keyOf k).bind fun k => (entriesOf r).map ((k, d) :: ·)
  | _ => none
/-- what stands owned as a dict -/
def isDk : T → Bool
  | .dk _ => true
  | _ => false
end
section
variable {X : Cx} {K : PySem.W.Frag}
/-- d.update(list of pairs) -/
def gDUpd : T → List D → Option (D × T)
  | .dk es, [.list ds] => (entriesOf ds).bind fun fs => if es.length + fs.length ≤ 16000000 then some (.none, .dk (mergeE es fs)) else none
  | _, _ => none
def gDPop : T → List D → Option (D × T)
  | .dk es, [k] => (keyOf k).bind fun k => (valK es k).map fun d => (d, .dk (dropE es k))
  | _, _ => none
def mMutD (i : Nat) (g : T → List D → Option (D × T)) (l : ML) : MV := fun ro τ => (tget τ i).bind fun t0 => if isDk t0 = true then (l ro τ).bind fun p => (stL p.1).bind fun ds => (tget p.2 i).bind fun t => (g t ds).map fun q => (rd q.1, tset p.2 i q.2) else none
/-- d[k] = e -/
def putD : T → Key → D → Option T
  | .dk es, k, d => if es.length < 16000000 then some (.dk (putE es k d)) else none
  | _, _, _ => none
def mSetD (x : Nat) (me mi : MV) : MS := fun s => (tget s.ow x).bind fun _ => (me ⟨s.fz, []⟩ s.ow).bind fun p => p.1.st.bind fun d => (mi ⟨s.fz, []⟩ p.2).bind fun q => q.1.er.bind fun kd => (keyOf kd).bind fun i => (tget q.2 x).bind fun t => (putD t i d).map fun t' => .nx ⟨s.fz, tset q.2 x t'⟩
end
end Tl

namespace Tl
open PySem PySem.Spec PyProof.Rows L2
section
variable {X : Cx} {x : Str} {pos : Pos}
theorem er_globI {i : Int} (h : ∃ t, X.mg x = some (.int i t)) (hg : Gl X x := by rfl) (hd : (x == ("__debug__" : Str)) = false := by decide) : ER X (.Name x pos) (mC (.int i)) := by
  obtain ⟨t, h⟩ := h
  exact er_c (v := .int i) (pe_glob (v := .int i) hg h ⟨t, rfl⟩ hd) fun _ => .int i
theorem er_globS {i : Str} (h : ∃ t, X.mg x = some (.str i t)) (hg : Gl X x := by rfl) (hd : (x == ("__debug__" : Str)) = false := by decide) : ER X (.Name x pos) (mC (.str i)) := by
  obtain ⟨t, h⟩ := h
  exact er_c (v := .str i) (pe_glob (v := .str i) hg h ⟨t, rfl⟩ hd) fun _ => .str i
end
@[simp] theorem r_mDNewK (ro : Ro) (τ : Tau) : mDNewK ro τ = some (.val (.dk []), τ) := rfl
@[simp] theorem fz_dk (es : List (Key × D)) : T.fz (.dk es) = some (.dict (dkD es)) := rfl
@[simp] theorem hole_dk (es : List (Key × D)) : isHole (.dk es) = false := rfl
@[simp] theorem isDk_dk (es : List (Key × D)) : isDk (.dk es) = true := rfl
@[simp] def mutDK0 (i : Nat) (g : T → List D → Option (D × T)) (l : ML) (ro : Ro) (τ : Tau) : Bool → Option (R × Tau)
  | true => bd (l ro τ) (mutK1 i g)
  | false => none
@[simp] def mutDK (i : Nat) (g : T → List D → Option (D × T)) (l : ML) (ro : Ro) (τ : Tau) (t : T) : Option (R × Tau) := mutDK0 i g l ro τ (isDk t)
@[simp] theorem r_mMutD (i : Nat) (g : T → List D → Option (D × T)) (l : ML) (ro : Ro) (τ : Tau) : mMutD i g l ro τ = bd (tget τ i) (mutDK i g l ro τ) := bd_of fun t => by
  unfold mutDK
  cases z : isDk t with
  | false => rw [if_neg Bool.false_ne_true]; rfl
  | true =>
    rw [if_pos rfl]
    exact bd_of fun a => bd_of fun b => bd_of fun c => bd_om fun d => rfl
@[simp] def dupK (es : List (Key × D)) (fs : List (Key × D)) : Option (D × T) := if es.length + fs.length ≤ 16000000 then some (.none, .dk (mergeE es fs)) else none
@[simp] theorem r_gDUpd (es : List (Key × D)) (ds : List D) : gDUpd (.dk es) [.list ds] = bd (entriesOf ds) (dupK es) := bd_of fun a => rfl
@[simp] def dpopK2 (es : List (Key × D)) (k : Key) (d : D) : Option (D × T) := some (d, .dk (dropE es k))
@[simp] def dpopK (es : List (Key × D)) (k : Key) : Option (D × T) := bd (valK es k) (dpopK2 es k)
@[simp] theorem r_gDPop (es : List (Key × D)) (d : D) : gDPop (.dk es) [d] = bd (keyOf d) (dpopK es) := bd_of fun a => bd_om fun b => rfl
@[simp] theorem r_putD (es : List (Key × D)) (k : Key) (d : D) : putD (.dk es) k d = if es.length < 16000000 then some (.dk (putE es k d)) else none := rfl
@[simp] def sdK7 (x : Nat) (fz : Fz) (τ : Tau) (u : T) : Option Out := some (.nx ⟨fz, tset τ x u⟩)
@[simp] def sdK6 (x : Nat) (fz : Fz) (τ : Tau) (d : D) (k : Key) (t : T) : Option Out := bd (putD t k d) (sdK7 x fz τ)
@[simp] def sdK5 (x : Nat) (fz : Fz) (τ : Tau) (d : D) (k : Key) : Option Out := bd (tget τ x) (sdK6 x fz τ d k)
@[simp] def sdK4 (x : Nat) (fz : Fz) (τ : Tau) (d : D) (kd : D) : Option Out := bd (keyOf kd) (sdK5 x fz τ d)
@[simp] def sdK3 (x : Nat) (fz : Fz) (d : D) : R × Tau → Option Out
  | (r, τ) => bd r.er (sdK4 x fz τ d)
@[simp] def sdK2 (x : Nat) (mi : MV) (fz : Fz) (τ : Tau) (d : D) : Option Out := bd (mi ⟨fz, []⟩ τ) (sdK3 x fz d)
@[simp] def sdK1 (x : Nat) (mi : MV) (fz : Fz) : R × Tau → Option Out
  | (r, τ) => bd r.st (sdK2 x mi fz τ)
@[simp] def sdK0 (x : Nat) (me mi : MV) (fz : Fz) (τ : Tau) (_ : T) : Option Out := bd (me ⟨fz, []⟩ τ) (sdK1 x mi fz)
@[simp] theorem r_mSetD (x : Nat) (me mi : MV) (fz : Fz) (τ : Tau) : mSetD x me mi ⟨fz, τ⟩ = bd (tget τ x) (sdK0 x me mi fz τ) :=
  bd_of fun a => bd_of fun b => bd_of fun c => bd_of fun d => bd_of fun e => bd_of fun f => bd_of fun g => bd_om fun h => rfl
@[simp] def dinK (es : List (D × D)) (k : Key) : Option D := some (.bool (valE es k).isSome)
@[simp] theorem p_din (k : D) (es : List (D × D)) : pDIn [k, .dict es] = if okDK es = true then bd (keyOf k) (dinK es) else none := by
  show (if okDK es = true then (keyOf k).map _ else none) = _
  split
  · exact bd_om fun a => rfl
  · rfl
@[simp] def dninK (es : List (D × D)) (k : Key) : Option D := some (.bool !(valE es k).isSome)
@[simp] theorem p_dnin (k : D) (es : List (D × D)) : pDNotIn [k, .dict es] = if okDK es = true then bd (keyOf k) (dninK es) else none := by
  show (if okDK es = true then (keyOf k).map _ else none) = _
  split
  · exact bd_om fun a => rfl
  · rfl
@[simp] theorem p_dget (k : D) (es : List (D × D)) : pDGet [.dict es, k] = if okDK es = true then bd (keyOf k) (valE es) else none := by
  show (if okDK es = true then (keyOf k).bind _ else none) = _
  split
  · exact bd_of fun a => rfl
  · rfl
@[simp] def dgpK2 (d : D) : Bool → Option D
  | true => some d
  | false => none
@[simp] def dgpK (d : D) : Option D := dgpK2 d (isPl d)
@[simp] theorem r_pDGetP (ds : List D) : pDGetP ds = bd (pDGet ds) dgpK := bd_of fun d => by
  unfold dgpK
  cases h : isPl d <;> rfl
@[simp] def gkK (p : List D → Option D) (ds : List D) : Option R := bd (p ds) gpK2
@[simp] theorem r_gk (p : List D → Option D) (rs : List R) : gk p rs = bd (stL rs) (gkK p) := bd_of fun a => bd_om fun b => rfl
@[simp] theorem isPl_int (i : Int) : isPl (.int i) = true := rfl
@[simp] theorem isPl_bool (i : Bool) : isPl (.bool i) = true := rfl
@[simp] theorem isPl_non : isPl .none = true := rfl
@[simp] theorem okDK_dk' (es : List (Key × D)) : okDK (dkD es) = true := okDK_dk es
@[simp] theorem valE_dk' (es : List (Key × D)) (k : Key) : valE (dkD es) k = valK es k := valE_dk es k
@[simp] def sortK2 (ds : List D) : Option (List Int) → Option R
  | some ns => some (.val (.fl ((sortBy ltI ns).map PyData.int)))
  | none => (pqsD ds).map fun ps => .val (.fl ((sortBy ltQ ps).map pqD))
def sortK (ds : List D) : Option R := sortK2 ds (intsD ds)
@[simp] theorem r_gSorted (x : R) : gSorted [x] = bd x.lst? sortK := bd_of fun ds => by
  unfold sortK
  cases intsD ds <;> rfl
@[simp] theorem lst_fl (ds : List D) : R.lst? (.val (.fl ds)) = some ds := rfl
@[simp] theorem lst_leaf (ds : List D) : R.lst? (.val (.leaf (.list ds))) = some ds := rfl
@[simp] theorem lst_vfl (ds : List D) : R.lst? (.vw (.fl ds)) = some ds := rfl
end Tl

namespace Tl
open PySem PySem.Spec PyProof.Rows L2
section
variable {X : Cx} {K : PySem.W.Frag}
def apT : T → T → Option T
  | .ls ts, u => if ts.length < 16000000 then some (.ls (ts ++ [u])) else none
  | _, _ => none
def mApT (i : Nat) (m : MV) : MV := fun ro τ => (tget τ i).bind fun t0 => if isLs t0 = true then (m ro τ).bind fun p => p.1.t.bind fun u => (tget p.2 i).bind fun t => (apT t u).map fun t' => (rd .none, tset p.2 i t') else none
theorem OwnL.erase {F H : Hp} : ∀ {vs : List V} {ts : List T} {A : List Addr} {j : Nat} {t : T}, OwnL K F H vs ts A → ts[j]? = some t → ∃ w B C, vs[j]? = some w ∧ Own K F H w t B ∧ OwnL K F H (vs.eraseIdx j) (ts.eraseIdx j) C ∧ A.Perm (B ++ C)
  | _, [], _, j, t, o, e => by cases e
  | _, t0 :: ts, _, 0, t, o, e => by
    cases o with
    | cons o1 o2 =>
      cases e
      exact ⟨_, _, _, rfl, o1, o2, List.Perm.refl _⟩
  | _, t0 :: ts, _, j + 1, t, o, e => by
    cases o with
    | cons o1 o2 =>
      rename_i v vs A1 A2
      obtain ⟨w, B, C, h1, h2, h3, h4⟩ := OwnL.erase o2 (show ts[j]? = some t from e)
      refine ⟨w, B, A1 ++ C, h1, h2, .cons o1 h3, ?_⟩
      refine (List.Perm.append_left A1 h4).trans ?_
      rw [← List.append_assoc, ← List.append_assoc]
      exact List.Perm.append_right C List.perm_append_comm
def popT : T → Int → Option (T × T)
  | .ls ts, i => if -16000000 ≤ i ∧ i ≤ 16000000 then (seqIndex? i ts.length).bind fun k => (ts[k]?).map fun u => (u, .ls (ts.eraseIdx k)) else none
  | _, _ => none
def mPopT (i : Nat) (m : MV) : MV := fun ro τ => (tget τ i).bind fun t0 => if isLs t0 = true then (m ro τ).bind fun p => (asI p.1).bind fun j => (tget p.2 i).bind fun t => (popT t j).map fun q => (.val q.1, tset p.2 i q.2) else none
end
@[simp] def apK4 (i : Nat) (τ : Tau) (t : T) : Option (R × Tau) := some (rd .none, tset τ i t)
@[simp] def apK3 (i : Nat) (τ : Tau) (u t : T) : Option (R × Tau) := bd (apT t u) (apK4 i τ)
@[simp] def apK2 (i : Nat) (τ : Tau) (u : T) : Option (R × Tau) := bd (tget τ i) (apK3 i τ u)
@[simp] def apK1 (i : Nat) : R × Tau → Option (R × Tau)
  | (r, τ) => bd r.t (apK2 i τ)
@[simp] def apK0 (i : Nat) (m : MV) (ro : Ro) (τ : Tau) : Bool → Option (R × Tau)
  | true => bd (m ro τ) (apK1 i)
  | false => none
@[simp] def apK (i : Nat) (m : MV) (ro : Ro) (τ : Tau) (t : T) : Option (R × Tau) := apK0 i m ro τ (isLs t)
@[simp] theorem r_mApT (i : Nat) (m : MV) (ro : Ro) (τ : Tau) : mApT i m ro τ = bd (tget τ i) (apK i m ro τ) := bd_of fun t => by
  unfold apK
  cases z : isLs t with
  | false => rw [if_neg Bool.false_ne_true]; rfl
  | true =>
    rw [if_pos rfl]
    exact bd_of fun a => bd_of fun b => bd_of fun c => bd_om fun d => rfl
@[simp] theorem r_apT (ts : List T) (u : T) : apT (.ls ts) u = if ts.length < 16000000 then some (.ls (ts ++ [u])) else none := rfl
@[simp] def ppK4 (i : Nat) (τ : Tau) : T × T → Option (R × Tau)
  | (u, t) => some (.val u, tset τ i t)
@[simp] def ppK3 (i : Nat) (τ : Tau) (j : Int) (t : T) : Option (R × Tau) := bd (popT t j) (ppK4 i τ)
@[simp] def ppK2 (i : Nat) (τ : Tau) (j : Int) : Option (R × Tau) := bd (tget τ i) (ppK3 i τ j)
@[simp] def ppK1 (i : Nat) : R × Tau → Option (R × Tau)
  | (r, τ) => bd (asI r) (ppK2 i τ)
@[simp] def ppK0 (i : Nat) (m : MV) (ro : Ro) (τ : Tau) : Bool → Option (R × Tau)
  | true => bd (m ro τ) (ppK1 i)
  | false => none
@[simp] def ppK (i : Nat) (m : MV) (ro : Ro) (τ : Tau) (t : T) : Option (R × Tau) := ppK0 i m ro τ (isLs t)
@[simp] theorem r_mPopT (i : Nat) (m : MV) (ro : Ro) (τ : Tau) : mPopT i m ro τ = bd (tget τ i) (ppK i m ro τ) := bd_of fun t => by
  unfold ppK
  cases z : isLs t with
  | false => rw [if_neg Bool.false_ne_true]; rfl
  | true =>
    rw [if_pos rfl]
    exact bd_of fun a => bd_of fun b => bd_of fun c => bd_om fun d => rfl
@[simp] theorem gtT_l (l : MGs) (ds : List D) (fz : Fz) : gtT l (.list ds) fz = l ds fz := rfl
end Tl

namespace Tl
open PySem PySem.Spec PyProof.Rows L2
def pIsB : List D → Option D
  | [.bool a, .bool b] => some (.bool (decide (a = b)))
  | _ => none
def pNotIsB : List D → Option D
  | [.bool a, .bool b] => some (.bool !(decide (a = b)))
  | _ => none
@[simp] theorem p_isB (a b : Bool) : pIsB [.bool a, .bool b] = some (.bool (decide (a = b))) := rfl
@[simp] theorem p_notIsB (a b : Bool) : pNotIsB [.bool a, .bool b] = some (.bool !(decide (a = b))) := rfl
section
variable {K : PySem.W.Frag} {X : Cx}
/-- list(range(a, b)) -/
def mLRng2 (m n : MV) : MV := fun ro τ => (m ro τ).bind fun p => (asI p.1).bind fun a => (n ro p.2).bind fun q => (asI q.1).bind fun b => if 0 ≤ a ∧ a ≤ 4000000 ∧ 0 ≤ b ∧ b ≤ 4000000 then some (.val (.fl (rangeD a 1 (b - a).toNat)), q.2) else none
end
@[simp] def rg2K3 (i : Int) (τ : Tau) (j : Int) : Option (R × Tau) := if 0 ≤ i ∧ i ≤ 4000000 ∧ 0 ≤ j ∧ j ≤ 4000000 then some (.val (.fl (rangeD i 1 (j - i).toNat)), τ) else none
@[simp] def rg2K2 (i : Int) : R × Tau → Option (R × Tau)
  | (r, τ) => bd (asI r) (rg2K3 i τ)
@[simp] def rg2K1 (n : MV) (ro : Ro) (τ : Tau) (i : Int) : Option (R × Tau) := bd (n ro τ) (rg2K2 i)
@[simp] def rg2K (n : MV) (ro : Ro) : R × Tau → Option (R × Tau)
  | (r, τ) => bd (asI r) (rg2K1 n ro τ)
@[simp] theorem r_mLRng2 (m n : MV) (ro : Ro) (τ : Tau) : mLRng2 m n ro τ = bd (m ro τ) (rg2K n ro) := bd_of fun a => bd_of fun b => bd_of fun c => bd_of fun d => rfl
end Tl

namespace Tl
open PySem PySem.Spec PyProof.Rows L2
section
variable {X : Cx} {K : PySem.W.Frag}
/-- a tuple times 0, times 1 -/
def pMulT : List D → Option D
  | [.tuple (a :: ds), .int j] => if j = 1 then some (.tuple (a :: ds)) else if j = 0 then some (.tuple []) else none
  | _ => none
end
@[simp] theorem p_mulT (a : D) (ds : List D) (j : Int) : pMulT [.tuple (a :: ds), .int j] = if j = 1 then some (.tuple (a :: ds)) else if j = 0 then some (.tuple []) else none := rfl
end Tl

namespace Tl
open PySem PySem.Spec PyProof.Rows L2
def mNever : MS := fun _ => none
theorem sr_never {X : L2.Cx} {Pr : List Nat} {st : Stmt} : SR X Pr st mNever := ⟨fun s o em => nomatch em⟩
end Tl

namespace Tl
open PySem PySem.Spec PyProof.Rows L2
end Tl

namespace Tl
open PySem PySem.Spec PyProof.Rows L2
section
variable {K : PySem.W.Frag} {X : L2.Cx}
end
end Tl

namespace Tl
open PySem PySem.Spec PyProof.Rows L2
section
variable {X : L2.Cx} {Pr : List Nat}
end
end Tl

namespace Tl
open PySem PySem.Spec PyProof.Rows L2
section
variable {X : L2.Cx} {e : Expr} {es : List Expr}
variable {x : Str} {p pos : Pos} {k n : Nat} {m : MF} {l : MCA}
end
end Tl

namespace Tl
open PySem PySem.Spec PyProof.Rows L2
def cSeeL (m : MF) (l : MCA) : MCA := fun ro τ => (l ro τ).bind fun p => (leafs p.1).bind fun ts => (m ts).bind fun r => r.1.fz.map fun d => ([.d d], p.2)
section
variable {X : L2.Cx} {e : Expr} {es : List Expr}
variable {x : Str} {p pos : Pos} {k n : Nat} {m : MF} {l : MCA}
end
@[simp] def seeLK4 (τ : Tau) (d : D) : Option (List CArg × Tau) := some ([.d d], τ)
@[simp] def seeLK3 (τ : Tau) : T × List T → Option (List CArg × Tau)
  | (r, _) => bd r.fz (seeLK4 τ)
@[simp] def seeLK2 (f : MF) (τ : Tau) (ts : List T) : Option (List CArg × Tau) := bd (f ts) (seeLK3 τ)
@[simp] def seeLK (f : MF) : List CArg × Tau → Option (List CArg × Tau)
  | (cs, τ) => bd (leafs cs) (seeLK2 f τ)
@[simp] theorem r_cSeeL (f : MF) (l : MCA) (ro : Ro) (τ : Tau) : cSeeL f l ro τ = bd (l ro τ) (seeLK f) := bd_of fun a => bd_of fun b => bd_of fun c => bd_om fun d => rfl
end Tl

namespace Tl
open PySem PySem.Spec PyProof.Rows L2
section
variable {X : L2.Cx}
def gExtendA : T → List D → Option (D × T)
  | .fl xs, [.list es] => if xs.length + es.length ≤ 16000000 then some (.none, .fl (xs ++ es)) else none
  | .fl xs, [.tuple es] => if xs.length + es.length ≤ 16000000 then some (.none, .fl (xs ++ es)) else none
  | _, _ => none
@[simp] theorem g_extendAl (xs es : List D) : gExtendA (.fl xs) [.list es] = if xs.length + es.length ≤ 16000000 then some (.none, .fl (xs ++ es)) else none := rfl
@[simp] theorem g_extendAt (xs es : List D) : gExtendA (.fl xs) [.tuple es] = if xs.length + es.length ≤ 16000000 then some (.none, .fl (xs ++ es)) else none := rfl
end
end Tl

namespace Tl
open PySem PySem.Spec PyProof.Rows L2
section
variable {X : L2.Cx}
end
end Tl

namespace Tl
open PySem PySem.Spec PyProof.Rows L2
section
variable {prog : Program} {w : World} {A : Around} {E : Value → Shared → Prop} {s : Shared}
end
def nI : D → Option Int
  | .int i => some i
  | .bool b => some (b2i b)
  | _ => none
def pN2 (f : Int → Int → D) : List D → Option D
  | [.int a, .int b] => some (f a b)
  | [.bool a, .int b] => some (f (b2i a) b)
  | _ => none
def pN3 (f : Int → Int → D) : List D → Option D
  | [.int a, .int b] => some (f a b)
  | [.bool a, .int b] => some (f (b2i a) b)
  | [.int a, .bool b] => some (f a (b2i b))
  | _ => none
section
variable {X : L2.Cx}
end
@[simp] theorem p_n2 (f : Int → Int → D) (a b : Int) : pN2 f [.int a, .int b] = some (f a b) := rfl
@[simp] theorem p_n2b (f : Int → Int → D) (a : Bool) (b : Int) : pN2 f [.bool a, .int b] = some (f (b2i a) b) := rfl
@[simp] theorem p_n3 (f : Int → Int → D) (a b : Int) : pN3 f [.int a, .int b] = some (f a b) := rfl
@[simp] theorem p_n3b (f : Int → Int → D) (a : Bool) (b : Int) : pN3 f [.bool a, .int b] = some (f (b2i a) b) := rfl
@[simp] theorem p_n3c (f : Int → Int → D) (a : Int) (b : Bool) : pN3 f [.int a, .bool b] = some (f a (b2i b)) := rfl
end Tl

namespace PySem
open Sem (wp)
section
variable {prog : Program} {w : World} {A : Around} {E : Value → Shared → Prop} {s : Shared}
end
end PySem
namespace L2
open PySem PySem.Spec PyProof.Rows
/-- the tuple at a, each item in a new pair -/
def Itet (K : PySem.W.Frag) (a : Addr) : It :=
  ⟨fun i H => ∃ (xs : List V) (x : V), SqT K H a xs ∧ xs[i]? = some x, fun i H v H' => ∃ T x, v = .ref T ∧ H T = none ∧ H' = upd H T (.tup [.int (i : Nat), x]) ∧ ∀ xs, SqT K H a xs → xs[i]? = some x, fun i H => ∃ xs : List V, SqT K H a xs ∧ xs.length ≤ i⟩
def iEnumE (K : PySem.W.Frag) (ta : TA) : TI := fun σ H R => ta σ H fun vs H1 => ∃ a xs, vs = [.ref a] ∧ ((SqL K H1 a xs ∧ R (Ite K a) H1) ∨ (SqT K H1 a xs ∧ R (Itet K a) H1))
end L2
namespace Tl
open PySem PySem.Spec PyProof.Rows L2 RZ
section
variable {K : PySem.W.Frag} {F B H : Hp}
end
section
variable {X : L2.Cx} {e : Expr} {p pos tpos : Pos} {elts : List Expr} {kk : Nat}
def iEnumE (m : MV) : MI := fun ro τ => (m ro τ).bind fun p => p.1.its.bind fun q => some (enumFrom 0 q.2, p.2)
@[simp] def enE : Bool × List D → Tau → Option (List D × Tau) := fun q τ => some (enumFrom 0 q.2, τ)
end
@[simp] def enEK2 (τ : Tau) (q : Bool × List D) : Option (List D × Tau) := some (enumFrom 0 q.2, τ)
@[simp] def enEK : R × Tau → Option (List D × Tau)
  | (r, τ) => bd r.its (enEK2 τ)
@[simp] theorem r_iEnumE (m : MV) (ro : Ro) (τ : Tau) : iEnumE m ro τ = bd (m ro τ) enEK := bd_of fun a => bd_of fun b => rfl
end Tl

namespace PySem
open Sem (wp)
section
variable {prog : Program} {w : World} {A : Around} {E : Value → Shared → Prop} {s : Shared}
end
section
variable {prog : Program} {w : World} {A : Around} {E : Value → Shared → Prop} {s : Shared}
end
end PySem
namespace L2
open PySem PySem.Spec PyProof.Rows
end L2
namespace Tl
open PySem PySem.Spec PyProof.Rows L2 RZ
section
variable {K : PySem.W.Frag} {F B H : Hp}
end
section
variable {X : L2.Cx} {e : Expr} {p pos p2 pos2 tpos : Pos} {elts : List Expr} {kk : Nat}
def iEnR (m : MV) : MI := fun ro τ => (m ro τ).bind fun p => p.1.its.bind fun q => if q.1 = true then some (enumFrom 0 q.2.reverse, p.2) else none
end
@[simp] def enRK2 (τ : Tau) : Bool × List D → Option (List D × Tau)
  | (true, ds) => some (enumFrom 0 ds.reverse, τ)
  | (false, _) => none
@[simp] def enRK : R × Tau → Option (List D × Tau)
  | (r, τ) => bd r.its (enRK2 τ)
@[simp] theorem r_iEnR (m : MV) (ro : Ro) (τ : Tau) : iEnR m ro τ = bd (m ro τ) enRK := bd_of fun a => bd_of fun b => by
  obtain ⟨q, ds⟩ := b
  cases q <;> rfl
end Tl

namespace L2
open PySem PySem.Spec PyProof.Rows
section
variable {X : Cx}
end
end L2
namespace Tl
open PySem PySem.Spec PyProof.Rows L2
section
variable {K : PySem.W.Frag}
/-- alike data, that can be laid and told apart -/
def okMn (ds : List D) : Bool := (ds.all fun x => ds.all fun y => PySem.W.alike x y) && (ds.all fun x => !isNone x) && PyData.plainAll ds && PyData.canLayAll0 ds && decide (PyData.depthAll ds ≤ 60)
def gMnD (mn : D → List D → D) : List R → Option R
  | [x] => x.its.bind fun p => if p.1 = true then (match p.2 with
    | d :: ds => if okMn (d :: ds) = true then some (rd (mn d ds)) else none
    | [] => none) else none
  | _ => none
end
@[simp] def mnK (mn : D → List D → D) : Bool × List D → Option R
  | (true, d :: ds) => if okMn (d :: ds) = true then some (rd (mn d ds)) else none
  | _ => none
@[simp] theorem r_gMnD (mn : D → List D → D) (r : R) : gMnD mn [r] = bd r.its (mnK mn) := bd_of fun a => by
  obtain ⟨b, ds⟩ := a
  cases b <;> cases ds <;> rfl
end Tl

namespace L2
open PySem PySem.Spec PyProof.Rows
section
variable {X : Cx}
end
end L2
namespace Tl
open PySem PySem.Spec PyProof.Rows L2
section
variable {K : PySem.W.Frag}
end
section
variable {X : Cx} {a b : Expr} {ma mb : MV} {x : Str} {p pos kpos : Pos}
end
@[simp] def mxK2 (es : List D) : D → Option R
  | .int z => (match es with
      | d :: ds => if okMn (d :: ds) = true then some (rd (PySem.W.maxD d ds)) else none
      | [] => some (rd (.int z)))
  | _ => none
@[simp] def mxK (r : R) : Bool × List D → Option R
  | (true, es) => bd r.er (mxK2 es)
  | _ => none
end Tl

namespace Tl
open PySem PySem.Spec PyProof.Rows L2
def strsD : List D → Option (List Str)
  | [] => some []
  | .str s :: ds => (strsD ds).map (s :: ·)
  | _ => none
theorem strsD_map : ∀ {ds : List D} {ys : List Str}, strsD ds = some ys → ds = ys.map PyData.str
  | [], ys, e => by cases e; rfl
  | .str s :: ds, ys, e => by
    obtain ⟨zs, e1, e2⟩ := Option.map_eq_some_iff.mp (show (strsD ds).map (s :: ·) = some ys from e)
    subst e2
    rw [strsD_map e1]
    rfl
  | .none :: _, _, e => by cases e
  | .bool _ :: _, _, e => by cases e
  | .int _ :: _, _, e => by cases e
  | .list _ :: _, _, e => by cases e
  | .tuple _ :: _, _, e => by cases e
  | .dict _ :: _, _, e => by cases e
@[simp] theorem strsD_strs : ∀ ys : List Str, strsD (ys.map PyData.str) = some ys
  | [] => rfl
  | y :: ys => by
    show (strsD (ys.map PyData.str)).map (y :: ·) = _
    rw [strsD_strs ys]
    rfl
section
variable {K : PySem.W.Frag} {F : Hp}
theorem repL_strs : ∀ {ys : List Str} {xs : List V}, RepL K F xs (ys.map PyData.str) → xs = ys.map V.str
  | [], _, r => by
    cases r
    rfl
  | y :: ys, _, r => by
    cases r with
    | cons r1 r2 =>
      rw [List.map_cons, r1.toStr, repL_strs r2]
theorem strs_repL : ∀ ys : List Str, RepL K F (ys.map V.str) (ys.map PyData.str)
  | [] => .nil
  | y :: ys => .cons (.str y) (strs_repL ys)
abbrev rJoin (K : PySem.W.Frag) : R2 := fun x y H Q => ∃ a p, ∃ ys : List Str, x = .str a ∧ y = .ref p ∧ (SqL K H p (ys.map V.str) ∨ SqT K H p (ys.map V.str)) ∧ (ys.map (·.length)).sum + ys.length * a.length ≤ 16777216 ∧ Q (.str (Txt.join a ys)) H
def okJoin (a : Str) (ys : List Str) : Bool := decide ((ys.map (·.length)).sum + ys.length * a.length ≤ 16777216)
def gJoin : List R → Option R
  | [x, y] => match x.er with
    | some (.str a) => y.its.bind fun p => (strsD p.2).bind fun ys => if okJoin a ys = true then some (rd (.str (Txt.join a ys))) else none
    | _ => none
  | _ => none
theorem vr_join : VR K (two (rJoin K)) gJoin := by
  intro rs z e F B H vs A Q c o k
  match rs, e with
  | [x, y], e =>
    have e' : (match x.er with
      | some (.str a) => y.its.bind fun p => (strsD p.2).bind fun ys => if okJoin a ys = true then some (rd (.str (Txt.join a ys))) else none
      | _ => none) = some z := e
    cases hx : x.er with
    | none => rw [hx] at e'; cases e'
    | some d =>
      rw [hx] at e'
      match d, hx, e' with
      | .str a, hx, e' =>
      obtain ⟨⟨isL, ds⟩, e1, e2⟩ := Option.bind_eq_some_iff.mp e'
      obtain ⟨ys, e3, e4⟩ := Option.bind_eq_some_iff.mp e2
      by_cases q : okJoin a ys = true
      · rw [if_pos q] at e4
        cases e4
        obtain ⟨v, w, A1, A2, rfl, o1, o2, g, c1, s, h1, h2⟩ := rs_two c o
        obtain ⟨p, xs, rfl, ha, za, ra⟩ := seq_of o2 e1 h2 s c1.fh c1.bh
        have rv : Rep K H v (.str a) := o1.rep c.fh c.bh (fun _ _ _ q => q) hx
        have ev := rv.toStr
        subst ev
        have ed : ds = ys.map PyData.str := strsD_map e3
        subst ed
        have ex := repL_strs ra
        subst ex
        refine ⟨_, _, rfl, a, p, ys, rfl, rfl, ?_, of_decide_eq_true q, k _ H (.str (Txt.join a ys)) [] g c1 (.leaf (.str _))⟩
        cases isL with
        | true => exact .inl ha
        | false => exact .inr ha
      · rw [if_neg q] at e4
        cases e4
      | .none, hx, e' => cases e'
      | .bool _, hx, e' => cases e'
      | .int _, hx, e' => cases e'
      | .list _, hx, e' => cases e'
      | .tuple _, hx, e' => cases e'
      | .dict _, hx, e' => cases e'
abbrev rSplit : R2 := fun x y H Q => ∃ a b, x = .str a ∧ y = .str b ∧ (b.length == 0) = false ∧ a.length + 2 ≤ sizeLine ∧ rNewStrs (Txt.split a b) H Q
def okSplit (a b : Str) : Bool := !(b.length == 0) && decide (a.length ≤ 10000000) && decide ((Txt.split a b).length ≤ 16000000)
def gSplit : List R → Option R
  | [x, y] => x.er.bind fun d => y.er.bind fun e => match d, e with
    | .str a, .str b => if okSplit a b = true then some (.val (.fl ((Txt.split a b).map PyData.str))) else none
    | _, _ => none
  | _ => none
theorem vr_split : VR K (two rSplit) gSplit := by
  intro rs z e F B H vs A Q c o k
  match rs, e with
  | [x, y], e =>
    obtain ⟨d, e1, e⟩ := Option.bind_eq_some_iff.mp (show x.er.bind _ = some z from e)
    obtain ⟨d', e2, e⟩ := Option.bind_eq_some_iff.mp e
    have key : ∀ a b, d = .str a → d' = .str b → two rSplit vs H Q := fun a b ea eb => by
      subst ea
      subst eb
      have e' : (if okSplit a b = true then some (R.val (.fl ((Txt.split a b).map PyData.str))) else none) = some z := e
      by_cases q : okSplit a b = true
      · rw [if_pos q] at e'
        cases e'
        unfold okSplit at q
        simp only [Bool.and_eq_true, Bool.not_eq_true', decide_eq_true_iff] at q
        obtain ⟨⟨q1, q2⟩, q3⟩ := q
        obtain ⟨v, w, A1, A2, rfl, o1, o2, g, c1, s, h1, h2⟩ := rs_two c o
        have rv : Rep K H v (.str a) := o1.rep c.fh c.bh (fun _ _ _ q => q) e1
        have rw' : Rep K H w (.str b) := o2.rep c.fh c.bh (fun _ _ _ q => q) e2
        have ev := rv.toStr
        have ew := rw'.toStr
        subst ev
        subst ew
        refine ⟨_, _, rfl, a, b, rfl, rfl, q1, by rw [sizeLine_eq]; omega, ?_⟩
        exact new_list g c1 (by rw [List.length_map]; exact small16 q3) (strs_repL _) k
      · rw [if_neg q] at e'
        cases e'
    match d, d', e with
    | .str a, .str b, e => exact key a b rfl rfl
    | .none, _, e => cases e
    | .bool _, _, e => cases e
    | .int _, _, e => cases e
    | .list _, _, e => cases e
    | .tuple _, _, e => cases e
    | .dict _, _, e => cases e
    | .str _, .none, e => cases e
    | .str _, .bool _, e => cases e
    | .str _, .int _, e => cases e
    | .str _, .list _, e => cases e
    | .str _, .tuple _, e => cases e
    | .str _, .dict _, e => cases e
def rIntS : List V → Hp → VK → Prop := fun xs H Q => ∃ a n, xs = [.str a] ∧ PySem.intText? a = some n ∧ a.length ≤ 640 ∧ Q (.int n) H
def pIntS : List D → Option D
  | [.str a] => if a.length ≤ 640 then (PySem.intText? a).map PyData.int else none
  | _ => none
theorem vr_intS : VR K rIntS (gp pIntS) := VR.plain fun ds d e H vs Q r k => by
  match ds, e with
  | [.str a], e =>
    have e' : (if a.length ≤ 640 then (PySem.intText? a).map PyData.int else none) = some d := e
    by_cases q : a.length ≤ 640
    · rw [if_pos q] at e'
      obtain ⟨n, e1, e2⟩ := Option.map_eq_some_iff.mp e'
      subst e2
      obtain ⟨v, rfl, r1⟩ := r.one
      have ev := r1.toStr
      subst ev
      exact ⟨a, n, rfl, e1, q, k _ fun F => .int n⟩
    · rw [if_neg q] at e'
      cases e'
abbrev rInS : R2 := fun x y H Q => ∃ (c : Nat) (z : Str), x = .str ⟨#[c]⟩ ∧ y = .str z ∧ Q (.bl (decide (c ∈ z.cps.toList))) H
def pInS : List D → Option D
  | [.str a, .str z] => match a.cps.toList with
    | [c] => some (.bool (decide (c ∈ z.cps.toList)))
    | _ => none
  | _ => none
theorem vr_inS : VR K (two rInS) (gp pInS) := VR.plain fun ds d e H vs Q r k => by
  match ds, e with
  | [.str a, .str z], e =>
    have e' : (match a.cps.toList with
      | [c] => some (PyData.bool (decide (c ∈ z.cps.toList)))
      | _ => none) = some d := e
    match ha : a.cps.toList, e' with
    | [c], e' =>
      cases e'
      obtain ⟨v, w, rfl, r1, r2⟩ := r.two
      have ev := r1.toStr
      have ew := r2.toStr
      subst ev
      subst ew
      have ea : a = ⟨#[c]⟩ := Str.ext' (Array.toList_inj.mp ha)
      exact ⟨_, _, rfl, c, z, by rw [ea], rfl, k _ fun F => .bl _⟩
abbrev rNotInS : R2 := fun x y H Q => ∃ (c : Nat) (z : Str), x = .str ⟨#[c]⟩ ∧ y = .str z ∧ Q (.bl (!decide (c ∈ z.cps.toList))) H
def pNotInS : List D → Option D
  | [.str a, .str z] => match a.cps.toList with
    | [c] => some (.bool (!decide (c ∈ z.cps.toList)))
    | _ => none
  | _ => none
theorem vr_notInS : VR K (two rNotInS) (gp pNotInS) := VR.plain fun ds d e H vs Q r k => by
  match ds, e with
  | [.str a, .str z], e =>
    have e' : (match a.cps.toList with
      | [c] => some (PyData.bool (!decide (c ∈ z.cps.toList)))
      | _ => none) = some d := e
    match ha : a.cps.toList, e' with
    | [c], e' =>
      cases e'
      obtain ⟨v, w, rfl, r1, r2⟩ := r.two
      have ev := r1.toStr
      have ew := r2.toStr
      subst ev
      subst ew
      have ea : a = ⟨#[c]⟩ := Str.ext' (Array.toList_inj.mp ha)
      exact ⟨_, _, rfl, c, z, by rw [ea], rfl, k _ fun F => .bl _⟩
def signsD (z : Str) : List D := z.cps.toList.map fun c => .str ⟨#[c]⟩
theorem src_str {B : Hp} (z : Str) (hz : z.length ≤ 16000000) : Src K F B (Its z) (signsD z) where
  small := by
    unfold signsD
    rw [List.length_map, Array.length_toList]
    exact small16 hz
  go := fun F1 H1 s1 s2 s3 i d e => by
    have := (List.getElem?_eq_some_iff.mp e).1
    unfold signsD at this
    rw [List.length_map, Array.length_toList] at this
    exact this
  yld := fun F1 H1 s1 s2 s3 i d e x H2 y => by
    obtain ⟨e1, c, e2, e3⟩ := y
    subst e1
    refine ⟨F1, fun B' A c => ⟨Go.refl, c⟩, ?_⟩
    unfold signsD at e
    rw [List.getElem?_map, Array.getElem?_toList, e2] at e
    cases e
    rw [e3]
    exact .str _
  stop := fun F1 H1 s1 s2 s3 i l => by
    unfold signsD at l
    rw [List.length_map, Array.length_toList] at l
    exact l
end
section
variable {X : Cx} {a b : Expr} {tg e o : Expr} {ma mb : MV} {apos pos : Pos} {ka : Str}
def iTxt (m : MV) : MI := fun ro τ => (m ro τ).bind fun p => p.1.er.bind fun d => match d with
  | .str z => if z.length ≤ 16000000 then some (signsD z, p.2) else none
  | _ => none
theorem ir_txt {m : MV} (h : ER X e m) : IR X tg e (iTxt m) := ⟨fun ro τ ds τ' em F B H σ A Rr a k => by
  obtain ⟨⟨r, τ1⟩, e1, e2⟩ := Option.bind_eq_some_iff.mp em
  obtain ⟨d, e3, e4⟩ := Option.bind_eq_some_iff.mp e2
  match d, e3, e4 with
  | .str z, e3, e4 =>
    have e4' : (if z.length ≤ 16000000 then some (signsD z, τ1) else none) = some (ds, τ') := e4
    by_cases q : z.length ≤ 16000000
    · rw [if_pos q] at e4'
      cases e4'
      refine wI (pi_str peW) (h.run ro τ r _ e1 F B H σ A _ a fun F1 H1 v A1 A2 g1 c1 o1 t1 => ?_)
      have rv : Rep X.K H1 v (.str z) := o1.rep c1.fh c1.bh (fun _ _ _ q => q) e3
      have ev := rv.toStr
      refine ⟨z, ev, ?_⟩
      exact k F1 H1 A2 (Its z) (g1.trans (Go.less fun a m => List.mem_append_right _ m)) c1.right t1 (src_str z q)
    · rw [if_neg q] at e4'
      cases e4'⟩
def mTxt2 (m n : MV) : ML := fun ro τ => (m ro τ).bind fun p => p.1.er.bind fun d => match d with
  | .str _ => (n ro p.2).map fun q => ([p.1, q.1], q.2)
  | _ => none
def wpTx (X : Cx) (a b : Expr) : L2.St → Hp → (List V → Hp → Prop) → Prop := fun σ H Q => wpE X a σ H fun x H1 => (∃ s, x = .str s) ∧ wpE X b σ H1 fun y H2 => Q [x, y] H2
theorem mTxt2_split {m n : MV} {ro : Ro} {τ τ' : Tau} {r : List R} (em : mTxt2 m n ro τ = some (r, τ')) : ∃ r1 τ1 s r2, m ro τ = some (r1, τ1) ∧ r1.er = some (.str s) ∧ n ro τ1 = some (r2, τ') ∧ r = [r1, r2] := by
  obtain ⟨⟨r1, τ1⟩, e1, e2⟩ := Option.bind_eq_some_iff.mp em
  obtain ⟨d, e3, e4⟩ := Option.bind_eq_some_iff.mp e2
  match d, e3, e4 with
  | .str s, e3, e4 =>
    obtain ⟨⟨r2, τ2⟩, e5, e6⟩ := Option.map_eq_some_iff.mp (show (n ro τ1).map _ = some (r, τ') from e4)
    cases e6
    exact ⟨r1, τ1, s, r2, e1, e3, e5, rfl⟩
theorem aqS {m n : MV} (h : ER X a m) (h' : ER X b n) : AQ X.K (wpTx X a b) 2 (mTxt2 m n) := by
  refine ⟨fun ro τ r τ' em => ?_, fun ro τ r τ' em F B H σ A Q a k => ?_⟩
  · obtain ⟨r1, τ1, s, r2, e1, e2, e3, rfl⟩ := mTxt2_split em
    rfl
  · obtain ⟨r1, τ1, s, r2, e1, e2, e3, rfl⟩ := mTxt2_split em
    refine h.run ro τ r1 _ e1 F B H σ A _ a fun F1 H1 v A1 A2 g1 c1 o1 t1 => ?_
    have rv : Rep X.K H1 v (.str s) := o1.rep c1.fh c1.bh (fun _ _ _ q => q) e2
    refine ⟨⟨s, rv.toStr⟩, ?_⟩
    refine h'.run ro τ1 r2 _ e3 F1 B H1 σ A2 _ (a.next g1 c1 t1) fun F2 H2 w A3 A4 g2 c2 o2 t2 => ?_
    obtain ⟨g3, c3⟩ := Go.framed c1 g2 c2
    have q := Go.ros c1 g2 o1
    rw [← List.append_assoc] at g3 c3
    exact k F2 H2 _ (A1 ++ A3) A4 (g1.trans g3) c3 (by
      have q2 : RsOk X.K F2 B H2 [r1, r2] [v, w] (A1 ++ (A3 ++ [])) := .cons q (.cons o2 .nil)
      rw [List.append_nil] at q2
      exact q2) t2
theorem er_m1t {id : String} {name : Str} {r : V → List V → Hp → VK → Prop} {r2 : R2} {g : List R → Option R} (slot : Slot "str" name id) (ty : typeOf (.builtin id) = pure (.type "method_descriptor")) (rule : MtR X id r) (hr : ∀ x y H Q, r2 x y H Q → r x [y] H Q) (vr : VR X.K (two r2) g) (ho : ER X o ma) (he : ER X e mb)
    (hs : starEach [e] X.env = [(false, eval e X.env)]) (hbase : attributeBase o name X.env (eval o X.env) = eval o X.env) (hline : (apos.endLine == pos.line) = true) :
    ER X (.Call (.Attribute o name apos) [e] [] pos) (mOp g (mTxt2 ma mb)) :=
  er_op' (wp := wpTx X o e) (run := two r2) (fun σ H Q w => wE (pe_m1 slot ty rule peW peW hs hbase hline) (wpE_mono (fun x H1 ⟨s, w⟩ => ⟨s, wpE_mono (fun y H2 ⟨_, _, e, q⟩ => by cases e; exact hr _ _ _ _ q) w⟩) w)) vr (aqS ho he)
theorem er_join (ho : ER X o ma) (he : ER X e mb) (hs : starEach [e] X.env = [(false, eval e X.env)] := by rfl) (hbase : attributeBase o "join" X.env (eval o X.env) = eval o X.env := by rfl) (hline : (apos.endLine == pos.line) = true := by rfl) :
    ER X (.Call (.Attribute o "join" apos) [e] [] pos) (mOp gJoin (mTxt2 ma mb)) :=
  er_m1t (r2 := rJoin X.K) F.slot_str_join F.type_str_join mt_join (fun x y H Q ⟨a, p, ys, e1, e2, h, z, q⟩ => ⟨a, p, ys, e1, by rw [e2], h, z, q⟩) vr_join ho he hs hbase hline
theorem er_split (ho : ER X o ma) (he : ER X e mb) (hs : starEach [e] X.env = [(false, eval e X.env)] := by rfl) (hbase : attributeBase o "split" X.env (eval o X.env) = eval o X.env := by rfl) (hline : (apos.endLine == pos.line) = true := by rfl) :
    ER X (.Call (.Attribute o "split" apos) [e] [] pos) (mOp gSplit (mTxt2 ma mb)) :=
  er_m1t (r2 := rSplit) F.slot_str_split F.type_str_split mt_split (fun x y H Q ⟨a, b, e1, e2, h, z, q⟩ => ⟨a, b, e1, by rw [e2], h, z, q⟩) vr_split ho he hs hbase hline
end
@[simp] def txK2 (n : MV) (ro : Ro) (p : R × Tau) : D → Option (List R × Tau)
  | .str _ => bd (n ro p.2) fun q => some ([p.1, q.1], q.2)
  | _ => none
@[simp] def txK (n : MV) (ro : Ro) (p : R × Tau) : Option (List R × Tau) := bd p.1.er (txK2 n ro p)
@[simp] theorem r_mTxt2 (m n : MV) (ro : Ro) (τ : Tau) : mTxt2 m n ro τ = bd (m ro τ) (txK n ro) := bd_of fun a => bd_of fun d => by
  cases d <;> first | rfl | (show (n ro a.2).map _ = bd (n ro a.2) _; cases n ro a.2 <;> rfl)
@[simp] def jnK2 (a : Str) (p : Bool × List D) : Option R := bd (strsD p.2) fun ys => if okJoin a ys = true then some (rd (.str (Txt.join a ys))) else none
@[simp] def jnK (y : R) : D → Option R
  | .str a => bd y.its (jnK2 a)
  | _ => none
@[simp] theorem r_gJoin (x y : R) : gJoin [x, y] = bd x.er (jnK y) := by
  show (match x.er with
    | some (.str a) => y.its.bind fun p => (strsD p.2).bind fun ys => if okJoin a ys = true then some (rd (.str (Txt.join a ys))) else none
    | _ => none) = _
  cases x.er with
  | none => rfl
  | some d => cases d <;> first | rfl | exact bd_of fun a => bd_of fun b => rfl
@[simp] def splK2 : D → D → Option R
  | .str a, .str b => if okSplit a b = true then some (.val (.fl ((Txt.split a b).map PyData.str))) else none
  | _, _ => none
@[simp] def splK (y : R) (d : D) : Option R := bd y.er (splK2 d)
@[simp] theorem r_gSplit (x y : R) : gSplit [x, y] = bd x.er (splK y) := bd_of fun a => bd_of fun b => by
  cases a <;> first | rfl | (cases b <;> rfl)
@[simp] theorem p_intS (a : Str) : pIntS [.str a] = if a.length ≤ 640 then (PySem.intText? a).map PyData.int else none := rfl
theorem p_inS (c : Nat) (z : Str) : pInS [.str ⟨#[c]⟩, .str z] = some (.bool (decide (c ∈ z.cps.toList))) := rfl
@[simp] def itxK (τ : Tau) : D → Option (List D × Tau)
  | .str z => if z.length ≤ 16000000 then some (signsD z, τ) else none
  | _ => none
@[simp] def itxK0 (p : R × Tau) : Option (List D × Tau) := bd p.1.er (itxK p.2)
@[simp] theorem r_iTxt (m : MV) (ro : Ro) (τ : Tau) : iTxt m ro τ = bd (m ro τ) itxK0 := bd_of fun a => bd_of fun b => by
  cases b <;> rfl
end Tl

namespace L2
open PySem PySem.Spec PyProof.Rows
section
variable {X : Cx}
end
end L2
namespace Tl
open PySem PySem.Spec PyProof.Rows L2
section
variable {K : PySem.W.Frag} {F : Hp}
/-- the sorted list -/
def sortD (ds : List D) : List D := ds.mergeSort (PySem.W.dataLe false id)
def tupB : D → Bool
  | .tuple (_ :: _) => true
  | _ => false
def okSo (ds : List D) : Bool := (ds.all fun x => ds.all fun y => PySem.W.alike x y) && ds.all tupB && PyData.canLayAll0 ds && decide (PyData.depthAll ds ≤ 60)
def gSortA : List R → Option R
  | [x] => x.lst?.bind fun ds => if okSo ds = true then some (.val (.fl (sortD ds))) else none
  | _ => none
end
@[simp] def sortAK (ds : List D) : Option R := if okSo ds = true then some (.val (.fl (sortD ds))) else none
@[simp] theorem r_gSortA (x : R) : gSortA [x] = bd x.lst? sortAK := bd_of fun ds => rfl
end Tl

namespace Tl
open PySem PySem.Spec PyProof.Rows L2
section
variable {X : L2.Cx} {Pr : List Nat} {st : Stmt}
end
end Tl

namespace L2
open PySem PySem.Spec PyProof.Rows
def Itzm (K : PySem.W.Frag) (n1 n2 : Nat) (a b : Addr) : It :=
  ⟨fun i H => ∃ (xs ys : List V) (x y : V), SqT K H a xs ∧ SqL K H b ys ∧ xs.length = n1 ∧ ys.length = n2 ∧ xs[i]? = some x ∧ ys[i]? = some y,
    fun i H v H' => ∃ T x y, v = .ref T ∧ H T = none ∧ H' = upd H T (.tup [x, y]) ∧ (∀ xs, SqT K H a xs → xs[i]? = some x) ∧ ∀ ys, SqL K H b ys → ys[i]? = some y,
    fun i H => ∃ xs ys : List V, SqT K H a xs ∧ SqL K H b ys ∧ xs.length = n1 ∧ ys.length = n2 ∧ (n1 ≤ i ∨ n2 ≤ i)⟩
def iZipX (K : PySem.W.Frag) (ta : TA) : TI := fun σ H R => ta σ H fun vs H1 => ∃ a b xs ys, vs = [.ref a, .ref b] ∧ SqT K H1 a xs ∧ SqL K H1 b ys ∧ R (Itzm K xs.length ys.length a b) H1
end L2
namespace Tl
open PySem PySem.Spec PyProof.Rows L2 RZ
section
variable {K : PySem.W.Frag} {F B : Hp}
end
section
variable {X : L2.Cx} {e e2 : Expr} {p pos tpos : Pos} {elts : List Expr} {kk : Nat}
/-- zip of a tuple and a list -/
def iZipX (m n : MV) : MI := fun ro τ => (m ro τ).bind fun p => p.1.its.bind fun q => (n ro p.2).bind fun p' => p'.1.its.bind fun q' => if q.1 = false ∧ q'.1 = true then some (zipD q.2 q'.2, p'.2) else none
end
@[simp] def zpX4 (τ : Tau) (b : Bool) (ds : List D) : Bool × List D → Option (List D × Tau)
  | (c, es) => if b = false ∧ c = true then some (zipD ds es, τ) else none
@[simp] def zpX3 (b : Bool) (ds : List D) : R × Tau → Option (List D × Tau)
  | (r, τ) => bd r.its (zpX4 τ b ds)
@[simp] def zpX2 (n : MV) (ro : Ro) (τ : Tau) : Bool × List D → Option (List D × Tau)
  | (b, ds) => bd (n ro τ) (zpX3 b ds)
@[simp] def zpX (n : MV) (ro : Ro) : R × Tau → Option (List D × Tau)
  | (r, τ) => bd r.its (zpX2 n ro τ)
@[simp] theorem r_iZipX (m n : MV) (ro : Ro) (τ : Tau) : iZipX m n ro τ = bd (m ro τ) (zpX n ro) := bd_of fun a => bd_of fun b => bd_of fun c => bd_of fun d => rfl
end Tl

namespace L2
open PySem PySem.Spec PyProof.Rows
section
variable {P : Program} {w : World} {A : Around} {E : Value → Shared → Prop} {s : Shared}
end
section
variable {X : Cx}
end
end L2
namespace Tl
open PySem PySem.Spec PyProof.Rows L2
/-- the numbers of a list, rising, each once -/
def insS (x : Int) : List Int → List Int
  | [] => [x]
  | y :: r => if x < y then x :: y :: r else if x = y then y :: r else y :: insS x r
def sset : List Int → List Int
  | [] => []
  | x :: r => insS x (sset r)
def gSortSet : List R → Option R
  | [x] => x.lst?.bind fun ds => (intsD ds).bind fun ns => if ns.length < 60 then some (.val (.fl ((sset ns).map PyData.int))) else none
  | _ => none
section
variable {X : L2.Cx}
end
@[simp] def ssK (ns : List Int) : Option R := if ns.length < 60 then some (.val (.fl ((sset ns).map PyData.int))) else none
@[simp] def ssK0 (ds : List D) : Option R := bd (intsD ds) ssK
@[simp] theorem r_gSortSet (x : R) : gSortSet [x] = bd x.lst? ssK0 := bd_of fun ds => bd_of fun ns => rfl
end Tl

namespace L2
open PySem PySem.Spec PyProof.Rows
section
variable {X : Cx}
end
end L2
namespace Tl
open PySem PySem.Spec PyProof.Rows L2
def gSortSetG : List R → Option R
  | [x] => x.lst?.bind fun ds => (intsD ds).bind fun ns => if ns.length < 4000 ∧ (sset ns).length < 64 then some (.val (.fl ((sset ns).map PyData.int))) else none
  | _ => none
section
variable {X : L2.Cx}
end
@[simp] def ssGK (ns : List Int) : Option R := if ns.length < 4000 ∧ (sset ns).length < 64 then some (.val (.fl ((sset ns).map PyData.int))) else none
@[simp] def ssGK0 (ds : List D) : Option R := bd (intsD ds) ssGK
@[simp] theorem r_gSortSetG (x : R) : gSortSetG [x] = bd x.lst? ssGK0 := bd_of fun ds => bd_of fun ns => rfl
end Tl

namespace Tl
open PySem PySem.Spec PyProof.Rows L2
def gRevL : List R → Option R
  | [x] => x.lst?.map fun ds => .val (.fl ds.reverse)
  | _ => none
section
variable {X : L2.Cx}
end
@[simp] def rvlK (ds : List D) : Option R := some (.val (.fl ds.reverse))
@[simp] theorem r_gRevL (x : R) : gRevL [x] = bd x.lst? rvlK := bd_om fun ds => rfl
end Tl

namespace Tl
open PySem PySem.Spec PyProof.Rows L2 RZ
/-- x..[i] := d -/
def putP (x : Nat) (mp : MP) (mi : MV) (fz : Fz) (d : D) (τ : Tau) : Option Tau := (tget τ x).bind fun u => (mp u ⟨fz, [(x, u)]⟩ (tset τ x .hole)).bind fun q => (mi ⟨fz, [(x, u)]⟩ q.2).bind fun r => (asI r.1).bind fun i =>
  (gPut i q.1.2 [d]).bind fun w => (setP u q.1.1 w.2).map fun u' => tset r.2 x u'
section
variable {X : L2.Cx}
theorem put_run {o ix : Expr} {x : Nat} {mp : MP} {mi : MV} (ho : PV X.K x (wpE X o) mp) (hi : ER X ix mi) {fz : Fz} {d : D} {τ1 τ' : Tau} {F2 H1 : Hp} {σ : L2.St} {A2 : List Addr} {v0 : V} {Q : L2.St → Hp → Prop}
    (e : putP x mp mi fz d τ1 = some τ') (at2 : At X.K F2 noH H1 σ ⟨fz, []⟩ τ1 A2) (rv : Rep X.K F2 v0 d) (k : ∀ (F' H' : Hp) (A' : List Addr), Go F2 H1 A2 F' H' A' → At X.K F' noH H' σ ⟨fz, []⟩ τ' A' → Q σ H') : L2.gSub (wpE X o) (wpE X ix) rSetL v0 σ H1 Q := by
  obtain ⟨u, e3, em⟩ := Option.bind_eq_some_iff.mp e
  obtain ⟨⟨⟨is, w⟩, τ2⟩, e4, em⟩ := Option.bind_eq_some_iff.mp em
  obtain ⟨⟨r', τ3⟩, e5, em⟩ := Option.bind_eq_some_iff.mp em
  obtain ⟨j, e6, em⟩ := Option.bind_eq_some_iff.mp em
  obtain ⟨⟨z, w'⟩, e7, em⟩ := Option.bind_eq_some_iff.mp em
  obtain ⟨u', e8, em⟩ := Option.map_eq_some_iff.mp em
  subst em
  obtain ⟨v, A3, A4, B', hv, oH, tH, c, s', bs, oB, a2⟩ := glass at2 e3
  obtain ⟨y, B0, C0, hw, ow, pm, back⟩ := Own.at oB (ho.get _ _ _ _ _ _ e4)
  refine ho.run _ _ _ _ _ _ e4 F2 B' H1 σ A4 _ v y a2 hv hw fun F3 H3 A5 g3 c3 t3 => ?_
  refine hi.run _ _ r' τ3 e5 F3 B' H3 σ A5 _ ⟨c3, a2.ro.mono g3.ff, t3⟩ fun F4 H4 i0 A6 A7 g4 c4 o4 t4 => ?_
  have ei : i0 = .int j := asI_of e6 o4
  subst ei
  have g34 : Go F2 H1 A4 F4 H4 A7 := g3.trans (g4.trans (Go.less fun _ m => List.mem_append_right _ m))
  obtain ⟨g5, c5⟩ := Go.framed c g34 (unglass bs c4.right)
  have rv4 : RepL X.K F4 [v0] [d] := .cons (rv.mono g34.ff) .nil
  have o5 : RsOk X.K F4 B' H4 [rd d] [v0] [] := .cons (A := []) (show ROk X.K F4 B' H4 (rd d) v0 [] from .leaf (rv.mono g34.ff)) .nil
  have := mutP_end (K := X.K) (R1 := []) (Q := fun _ H3 => Q σ H3) (mu_put j) ((Go.less s').trans g5) c5 o5 bs c4.bh t4 hv (by rfl) e7 pm (ow.stay g34.ff fun _ _ _ q => q) (fun F' H' u' t' B1 s' k' o' e' => back F' H' u' t' B1 (g34.ff.trans s') k' o' e') e8 fun F' H' uu A1 A2 g c o t =>
    k F' H' A2 (g.trans (Go.less fun _ m => List.mem_append_right _ m)) ⟨c.right, at2.ro.mono (g.ff), t⟩
  obtain ⟨v1, q1, q2⟩ := this
  cases q1
  exact q2
def pair2 : D → Option (D × D)
  | .tuple [a, b] => some (a, b)
  | _ => none
def mSetP2 (x : Nat) (mp : MP) (mi : MV) (y : Nat) (mq : MP) (mj : MV) (me : MV) : MS := fun s => (me ⟨s.fz, []⟩ s.ow).bind fun p => p.1.st.bind fun d => (pair2 d).bind fun ab => (putP x mp mi s.fz ab.1 p.2).bind fun τ => (putP y mq mj s.fz ab.2 τ).map fun τ' => .nx ⟨s.fz, τ'⟩
theorem sr_setP2 {Pr : List Nat} {st : Stmt} {e o ix o' ix' : Expr} {x y : Nat} {mp mq : MP} {me mi mj : MV} (p : PS X st (tAsg (wpE X e) (gTup X.K 2 (gCons (L2.gSub (wpE X o) (wpE X ix) rSetL) (gCons (L2.gSub (wpE X o') (wpE X ix') rSetL) gNil))))) (he : ER X e me) (ho : PV X.K x (wpE X o) mp) (hi : ER X ix mi) (ho' : PV X.K y (wpE X o') mq) (hi' : ER X ix' mj) : SR X Pr st (mSetP2 x mp mi y mq mj me) := ⟨fun s out em F H σ A Dd a k => by
  obtain ⟨⟨r, τ1⟩, e1, em⟩ := Option.bind_eq_some_iff.mp em
  obtain ⟨d, e2, em⟩ := Option.bind_eq_some_iff.mp em
  obtain ⟨⟨d1, d2⟩, e3, em⟩ := Option.bind_eq_some_iff.mp em
  obtain ⟨τ2, e4, em⟩ := Option.bind_eq_some_iff.mp em
  obtain ⟨τ3, e5, em⟩ := Option.map_eq_some_iff.mp em
  cases em
  refine wS p (he.run _ _ r τ1 e1 F noH H σ A _ a.at_ fun F1 H1 v0 A1 A2 g1 c1 o1 t1 => ?_)
  obtain ⟨F2, g2, c2, s2, rv⟩ := o1.freeze c1 e2
  have at2 : At X.K F2 noH H1 σ ⟨s.fz, []⟩ τ1 A2 := ⟨c2, a.at_.ro.mono (g1.ff.trans s2), t1.stay s2 fun _ _ _ q => q⟩
  have ed : d = .tuple [d1, d2] := by
    unfold pair2 at e3
    split at e3
    · cases e3
      rfl
    · cases e3
  subst ed
  cases rv with
  | tup h1 h2 h3 =>
    obtain ⟨v1, v2, rfl, r1, r2⟩ := RepL.two h3
    refine ⟨_, _, rfl, sameT c2.fh h1, rfl, v1, [v2], rfl, ?_⟩
    refine put_run ho hi e4 at2 r1 fun F3 H3 A3 g3 at3 => ⟨v2, [], rfl, ?_⟩
    refine put_run ho' hi' e5 at3 (r2.mono g3.ff) fun F4 H4 A4 g4 at4 => ⟨rfl, ?_⟩
    exact k F4 H4 σ A4 (((g1.trans g2).trans g3).trans g4) ⟨at4.cn, at4.ro.fz, at4.tau⟩ Agree.refl⟩
end
@[simp] theorem r_pair2 (a b : D) : pair2 (.tuple [a, b]) = some (a, b) := rfl
@[simp] def pwK5 (x : Nat) (τ : Tau) (u : T) : Option Tau := some (tset τ x u)
@[simp] def pwK4 (x : Nat) (u : T) (is : List Int) (τ : Tau) : D × T → Option Tau
  | (_, w) => bd (setP u is w) (pwK5 x τ)
@[simp] def pwK3 (x : Nat) (d : D) (u : T) (is : List Int) (w : T) (τ : Tau) (i : Int) : Option Tau := bd (gPut i w [d]) (pwK4 x u is τ)
@[simp] def pwK2 (x : Nat) (d : D) (u : T) (is : List Int) (w : T) : R × Tau → Option Tau
  | (r, τ) => bd (asI r) (pwK3 x d u is w τ)
@[simp] def pwK1 (x : Nat) (mi : MV) (fz : Fz) (d : D) (u : T) : (List Int × T) × Tau → Option Tau
  | ((is, w), τ) => bd (mi ⟨fz, [(x, u)]⟩ τ) (pwK2 x d u is w)
@[simp] def pwK (x : Nat) (mp : MP) (mi : MV) (fz : Fz) (d : D) (τ : Tau) (u : T) : Option Tau := bd (mp u ⟨fz, [(x, u)]⟩ (tset τ x .hole)) (pwK1 x mi fz d u)
@[simp] theorem r_putP (x : Nat) (mp : MP) (mi : MV) (fz : Fz) (d : D) (τ : Tau) : putP x mp mi fz d τ = bd (tget τ x) (pwK x mp mi fz d τ) :=
  bd_of fun u => bd_of fun q => bd_of fun r => bd_of fun i => bd_of fun w => bd_om fun u' => rfl
@[simp] def s2K5 (fz : Fz) (τ : Tau) : Option Out := some (.nx ⟨fz, τ⟩)
@[simp] def s2K4 (y : Nat) (mq : MP) (mj : MV) (fz : Fz) (d : D) (τ : Tau) : Option Out := bd (putP y mq mj fz d τ) (s2K5 fz)
@[simp] def s2K3 (x : Nat) (mp : MP) (mi : MV) (y : Nat) (mq : MP) (mj : MV) (fz : Fz) (τ : Tau) : D × D → Option Out
  | (a, b) => bd (putP x mp mi fz a τ) (s2K4 y mq mj fz b)
@[simp] def s2K2 (x : Nat) (mp : MP) (mi : MV) (y : Nat) (mq : MP) (mj : MV) (fz : Fz) (τ : Tau) (d : D) : Option Out := bd (pair2 d) (s2K3 x mp mi y mq mj fz τ)
@[simp] def s2K1 (x : Nat) (mp : MP) (mi : MV) (y : Nat) (mq : MP) (mj : MV) (fz : Fz) : R × Tau → Option Out
  | (r, τ) => bd r.st (s2K2 x mp mi y mq mj fz τ)
@[simp] theorem r_mSetP2 (x : Nat) (mp : MP) (mi : MV) (y : Nat) (mq : MP) (mj : MV) (me : MV) (fz : Fz) (τ : Tau) : mSetP2 x mp mi y mq mj me ⟨fz, τ⟩ = bd (me ⟨fz, []⟩ τ) (s2K1 x mp mi y mq mj fz) :=
  bd_of fun p => bd_of fun d => bd_of fun ab => bd_of fun τ1 => bd_om fun τ2 => rfl
end Tl

namespace Tl
open PySem PySem.Spec PyProof.Rows L2
def pBool : List D → Option D
  | [.int a] => some (.bool (a != 0))
  | [.bool b] => some (.bool b)
  | _ => none
@[simp] theorem p_bool (a : Int) : pBool [.int a] = some (.bool (a != 0)) := rfl
@[simp] theorem p_boolb (a : Bool) : pBool [.bool a] = some (.bool a) := rfl
end Tl

namespace Tl
open PySem PySem.Spec PyProof.Rows L2
section
variable {X : Cx} {K : PySem.W.Frag} {F B H : Hp}
/-- {x: c} -/
def mDisp1 (j : Nat) (d : D) : MV := fun ro τ => (fget ro.fz j).bind fun kd => (keyOf kd).map fun k => (.val (.dk [(k, d)]), τ)
def ddOf : List T → Option (List (Key × List (Key × D)))
  | [] => some []
  | .tup [.leaf kd, .dk ys] :: r => (keyOf kd).bind fun k => (ddOf r).map ((k, ys) :: ·)
  | _ => none
theorem OwnD.keys : ∀ {kvs : List (Key × V)} {es : List (Key × List (Key × D))} {A : List Addr}, OwnD K F H kvs es A → kvs.map (·.1) = es.map (·.1)
  | _, _, _, .nil => rfl
  | _, _, _, .cons _ _ t => congrArg (_ :: ·) (OwnD.keys t)
def gDictT : List R → Option R
  | [.val (.ls ts)] => (ddOf ts).bind fun es => if (es.map (·.1)).Nodup then some (.val (.dd es)) else none
  | _ => none
end
end Tl

namespace Tl
open PySem PySem.Spec PyProof.Rows L2
section
variable {X : L2.Cx} {K : PySem.W.Frag} {F B H : Hp} {a b : Expr} {ma mb : MV} {p q pos : Pos}
def listDD : D → Option R
  | .dict es => if okDK es = true ∧ es.length ≤ 16000000 then some (.val (.fl (es.map (·.1)))) else none
  | _ => none
def gListD : List R → Option R
  | [x] => x.er.bind listDD
  | _ => none
end
end Tl

namespace Tl
open PySem PySem.Spec PyProof.Rows L2
section
variable {X : L2.Cx} {K : PySem.W.Frag} {F B H : Hp}
def setDD {α : Type} : List (Key × α) → Key → α → List (Key × α)
  | [], _, _ => []
  | p :: es, k, z => if p.1 = k then (p.1, z) :: es else p :: setDD es k z
theorem OwnD.at {k : Key} {xs : List (Key × D)} : ∀ {kvs : List (Key × V)} {es : List (Key × List (Key × D))} {A : List Addr}, OwnD K F H kvs es A → valK es k = some xs → ∃ b kx, valV kvs k = some (.ref b) ∧ H b = some (.dK kx) ∧ KvOk K F kx xs ∧ b ∈ A
  | _, _, _, .nil, e => by cases e
  | _, _, _, .cons (k := j) (b := b) h r t, e => by
    rw [valK_cons] at e
    by_cases q : j = k
    · rw [if_pos q] at e
      cases e
      exact ⟨b, _, valV_pos q, h, r, List.mem_cons_self⟩
    · rw [if_neg q] at e
      obtain ⟨b', kx, e1, e2, e3, e4⟩ := OwnD.at t e
      exact ⟨b', kx, by rw [valV_neg q]; exact e1, e2, e3, List.mem_cons_of_mem _ e4⟩
theorem OwnD.ne {k1 k2 : Key} {b : Addr} : ∀ {kvs : List (Key × V)} {es : List (Key × List (Key × D))} {A : List Addr}, OwnD K F H kvs es A → A.Nodup → valV kvs k1 = some (.ref b) → valV kvs k2 = some (.ref b) → k1 = k2
  | _, _, _, .nil, _, e, _ => by cases e
  | _, _, _, .cons (k := j) (b := c) h r t, n, e, e' => by
    have out : ∀ {kvs : List (Key × V)} {es : List (Key × List (Key × D))} {A : List Addr} {k : Key}, OwnD K F H kvs es A → valV kvs k = some (.ref b) → b ∈ A := by
      intro kvs es A k o
      induction o with
      | nil => intro e; cases e
      | @cons j' b' xs ys kvs es A h r t ih =>
        intro e
        by_cases q : j' = k
        · rw [valV_pos q] at e
          cases e
          exact List.mem_cons_self
        · rw [valV_neg q] at e
          exact List.mem_cons_of_mem _ (ih e)
    obtain ⟨n1, n2⟩ := List.nodup_cons.mp n
    by_cases q1 : j = k1
    · by_cases q2 : j = k2
      · rw [← q1, ← q2]
      · rw [valV_pos q1] at e
        cases e
        rw [valV_neg q2] at e'
        exact absurd (out t e') n1
    · by_cases q2 : j = k2
      · rw [valV_pos q2] at e'
        cases e'
        rw [valV_neg q1] at e
        exact absurd (out t e) n1
      · rw [valV_neg q1] at e
        rw [valV_neg q2] at e'
        exact OwnD.ne t n2 e e'
theorem OwnD.put {k : Key} {b : Addr} {kz : List (Key × V)} {z : List (Key × D)} (r : KvOk K F kz z) : ∀ {kvs : List (Key × V)} {es : List (Key × List (Key × D))} {A : List Addr}, OwnD K F H kvs es A → A.Nodup → valV kvs k = some (.ref b) → OwnD K F (upd H b (.dK kz)) kvs (setDD es k z) A
  | _, _, _, .nil, _, e => by cases e
  | _, _, _, .cons (k := j) (b := c) h r' t, n, e => by
    obtain ⟨n1, n2⟩ := List.nodup_cons.mp n
    unfold setDD
    by_cases q : j = k
    · rw [valV_pos q] at e
      cases e
      rw [if_pos q]
      exact .cons upd_same r (t.stay (Same.refl F) fun a m o y => by
        have e3 : a ≠ b := fun e2 => by
          subst e2
          exact n1 m
        rw [upd_ne e3]
        exact y)
    · rw [valV_neg q] at e
      rw [if_neg q]
      have hb : c ≠ b := fun y => by
        subst y
        have out : ∀ {kvs : List (Key × V)} {es : List (Key × List (Key × D))} {A : List Addr}, OwnD K F H kvs es A → valV kvs k = some (.ref c) → c ∈ A := by
          intro kvs es A o
          induction o with
          | nil => intro e; cases e
          | @cons j' b' xs ys kvs es A h r t ih =>
            intro e
            by_cases q : j' = k
            · rw [valV_pos q] at e
              cases e
              exact List.mem_cons_self
            · rw [valV_neg q] at e
              exact List.mem_cons_of_mem _ (ih e)
        exact n1 (out t e)
      exact .cons (by rw [upd_ne hb]; exact h) r' (OwnD.put r t n2 e)
def updDD : T → Fz → Nat → Nat → Option T
  | .dd es, fz, j1, j2 => (fget fz j1).bind fun d1 => (keyOf d1).bind fun k1 => (fget fz j2).bind fun d2 => (keyOf d2).bind fun k2 => (valK es k1).bind fun xs => (valK es k2).bind fun ys => if k1 ≠ k2 ∧ xs.length + ys.length ≤ 16000000 then some (.dd (setDD es k1 (mergeE xs ys))) else none
  | _, _, _, _ => none
def mUpdDD (i j1 j2 : Nat) : MV := fun ro τ => (tget τ i).bind fun t => (updDD t ro.fz j1 j2).map fun t' => (rd .none, tset τ i t')
end
end Tl

namespace Tl
open PySem PySem.Spec PyProof.Rows L2
section
variable {X : L2.Cx} {K : PySem.W.Frag} {F B H : Hp}
def entK : List (D × D) → Option (List (Key × D))
  | [] => some []
  | (k, d) :: r => (keyOf k).bind fun k => (entK r).map ((k, d) :: ·)
theorem entK_dk : ∀ es : List (Key × D), entK (dkD es) = some es
  | [] => rfl
  | (k, d) :: es => by
    have e : keyOf (keyD k) = some k := by cases k <;> rfl
    show (keyOf (keyD k)).bind _ = _
    rw [e]
    show (entK (dkD es)).map _ = _
    rw [entK_dk es]
    rfl
def gDUpdD : T → List D → Option (D × T)
  | .dk es, [.dict ds] => (entK ds).bind fun fs => if es.length + fs.length ≤ 16000000 then some (.none, .dk (mergeE es fs)) else none
  | _, _ => none
def augD (f : Int → Int) : T → D → Option T
  | .dk es, kd => (keyOf kd).bind fun k => (valK es k).bind fun d => match d with
    | .int i => if es.length < 16000000 then some (.dk (putE es k (.int (f i)))) else none
    | _ => none
  | _, _ => none
def mAugD (x j : Nat) (f : Int → Int) : MS := fun s => (tget s.ow x).bind fun t => (fget s.fz j).bind fun kd => (augD f t kd).map fun t' => .nx ⟨s.fz, tset s.ow x t'⟩
end
end Tl

namespace Tl
open PySem PySem.Spec PyProof.Rows L2
section
variable {K : PySem.W.Frag} {F F' B H H' : Hp} {d : Addr} {od : Obj} {ks : List (Key × V)}
/-- all but what stands at d -/
def dropH (F : Hp) (d : Addr) : Hp := fun b => if b = d then none else F b
theorem drop_ne {a : Addr} {o : HO} (h : a ≠ d) (e : F a = some o) : dropH F d a = some o := by
  unfold dropH
  rw [if_neg h]
  exact e
theorem lk_lst {a : Addr} {xs : List V} (hd : F d = some (.frz od (.dK ks))) (e : F a = some (.lst xs)) : a ≠ d := fun z => by
  subst z
  rw [hd] at e
  cases e
theorem lk_dk {a : Addr} {xs : List (Key × V)} (hd : F d = some (.frz od (.dK ks))) (e : F a = some (.dK xs)) : a ≠ d := fun z => by
  subst z
  rw [hd] at e
  cases e
theorem lk_dn {a : Addr} {xs : List (NK × Addr × V)} (hd : F d = some (.frz od (.dK ks))) (e : F a = some (dnO a xs)) : a ≠ d := fun z => by
  subst z
  rw [hd] at e
  cases e
theorem lk_dl {a : Addr} {o : Obj} {xs : List (NK × Addr × V)} (hd : F d = some (.frz od (.dK ks))) (e : F a = some (.frz o (dnO a xs))) : a ≠ d := fun z => by
  subst z
  rw [hd] at e
  cases e
theorem lk_sqT {a : Addr} {xs : List V} (hd : F d = some (.frz od (.dK ks))) (h : SqT K F a xs) : SqT K (dropH F d) a xs := by
  rcases h with h | h
  · rcases h with h | ⟨o, h⟩
    · exact .inl (.inl (drop_ne (fun z => by subst z; rw [hd] at h; cases h) h))
    · exact .inl (.inr ⟨o, drop_ne (fun z => by subst z; rw [hd] at h; cases h) h⟩)
  · exact .inr h
theorem lk_ext {a : Addr} {φ : Heap → Prop} (hd : F d = some (.frz od (.dK ks))) (h : F a = some (.ext φ)) : a ≠ d := fun z => by
  subst z
  rw [hd] at h
  cases h
theorem lk_xd {a : Addr} {fs : List (Str × V)} (hd : F d = some (.frz od (.dK ks))) (h : F a = some (.xd fs)) : a ≠ d := fun z => by
  subst z
  rw [hd] at h
  cases h
theorem Rep.drop {v : V} {x : D} (hd : F d = some (.frz od (.dK ks))) (h : Rep K F v x) : Rep K (dropH F d) v x :=
  Rep.rec (K := K) (F := F) (motive_1 := fun v d' _ => Rep K (dropH F d) v d') (motive_2 := fun v d' _ => RepL K (dropH F d) v d') (motive_3 := fun v d' _ => RepK K (dropH F d) v d') (motive_4 := fun v d' _ => RepN K (dropH F d) v d')
    .non .bl .int .str (fun h z _ r => .lst (drop_ne (lk_lst hd h) h) z r) (fun h z _ r => .tup (lk_sqT hd h) z r) (fun h _ r => .dk (drop_ne (lk_dk hd h) h) r) (fun h _ r => .dn (drop_ne (lk_dn hd h) h) r) (fun h _ r => .dl (drop_ne (lk_dl hd h) h) r)
    (fun h k n => .xc (drop_ne (lk_ext hd h) h) k n) (fun h k n g _ r => .xf (drop_ne (lk_ext hd h) h) k n (drop_ne (lk_xd hd g) g) r)
    .nil (fun _ _ a b => .cons a b) .nil (fun _ _ a b => .cons a b) .nil (fun k _ _ _ a b c => .cons k a b c) h
end
end Tl

namespace Tl
open PySem PySem.Spec PyProof.Rows L2
section
variable {X : L2.Cx} {Pr : List Nat}
/-- d[k] of an owned dict (locked or not), kept -/
def dkOf : T → Option (List (Key × D))
  | .dk es => some es
  | .lk es => some es
  | _ => none
def mGetO (i : Nat) (mb : MV) : MV := fun ro τ => (tget τ i).bind fun _ => (mb ro τ).bind fun p => p.1.er.bind fun kd => (keyOf kd).bind fun k => (tget p.2 i).bind fun t => (dkOf t).bind fun es => (valK es k).map fun d => (rd d, p.2)
end
end Tl

namespace Tl
open PySem PySem.Spec PyProof.Rows L2
section
variable {X : L2.Cx} {K : PySem.W.Frag} {F F' B H : Hp}
abbrev halfE (es : List (Key × List (Key × D))) : List (Key × D) := es.map fun p => (p.1, .dict (dkD p.2))
def halfR : R → R
  | .val (.dd es) => .val (.dk (halfE es))
  | r => r
def mHalf (m : MV) : MV := fun ro τ => (m ro τ).map fun p => (halfR p.1, p.2)
end
@[simp] def dsK2 (d : D) (τ : Tau) (k : Key) : Option (R × Tau) := some (.val (.dk [(k, d)]), τ)
@[simp] def dsK (d : D) (τ : Tau) (kd : D) : Option (R × Tau) := bd (keyOf kd) (dsK2 d τ)
@[simp] theorem r_mDisp1 (j : Nat) (d : D) (ro : Ro) (τ : Tau) : mDisp1 j d ro τ = bd (fget ro.fz j) (dsK d τ) := bd_of fun a => bd_om fun b => rfl
@[simp] theorem fz_dd (es : List (Key × List (Key × D))) : T.fz (.dd es) = some (.dict (ddD es)) := rfl
@[simp] theorem fz_lk (es : List (Key × D)) : T.fz (.lk es) = none := rfl
@[simp] theorem hole_dd (es : List (Key × List (Key × D))) : isHole (.dd es) = false := rfl
@[simp] theorem hole_lk (es : List (Key × D)) : isHole (.lk es) = false := rfl
@[simp] theorem okDK_dd (es : List (Key × List (Key × D))) : okDK (ddD es) = true := by
  cases es with
  | nil => rfl
  | cons p es => cases p with | mk k d => cases k <;> rfl
theorem valE_dd : ∀ (es : List (Key × List (Key × D))) (k : Key), valE (ddD es) k = (valK es k).map fun xs => .dict (dkD xs)
  | [], _ => rfl
  | p :: es, k => by
    rw [valK_cons]
    unfold valE
    rw [show ddD (p :: es) = (keyD p.1, .dict (dkD p.2)) :: ddD es from rfl, List.find?_cons, keyIs_D]
    by_cases h : p.1 = k
    · simp [h]
    · have := valE_dd es k
      unfold valE at this
      rw [decide_eq_false h, if_neg h]
      exact this
@[simp] theorem valE_dd' (es : List (Key × List (Key × D))) (k : Key) : valE (ddD es) k = (valK es k).map fun xs => .dict (dkD xs) := valE_dd es k
@[simp] def gdtK (es : List (Key × List (Key × D))) : Option R := if (es.map (·.1)).Nodup then some (.val (.dd es)) else none
@[simp] theorem r_gDictT (ts : List T) : gDictT [.val (.ls ts)] = bd (ddOf ts) gdtK := bd_of fun a => rfl
@[simp] def hfK : R × Tau → Option (R × Tau)
  | (r, τ) => some (halfR r, τ)
@[simp] theorem r_mHalf (m : MV) (ro : Ro) (τ : Tau) : mHalf m ro τ = bd (m ro τ) hfK := bd_om fun a => rfl
@[simp] theorem half_dd (es : List (Key × List (Key × D))) : halfR (.val (.dd es)) = .val (.dk (halfE es)) := rfl
@[simp] theorem half_dk (es : List (Key × D)) : halfR (.val (.dk es)) = .val (.dk es) := rfl
@[simp] theorem r_gListD (x : R) : gListD [x] = bd x.er listDD := bd_of fun a => rfl
/-- d[k].update(d[j]) -/
@[simp] def udK5 (es : List (Key × List (Key × D))) (k1 k2 : Key) (xs ys : List (Key × D)) : Option T := if k1 ≠ k2 ∧ xs.length + ys.length ≤ 16000000 then some (.dd (setDD es k1 (mergeE xs ys))) else none
@[simp] def udK4 (es : List (Key × List (Key × D))) (k1 k2 : Key) (xs : List (Key × D)) : Option T := bd (valK es k2) (udK5 es k1 k2 xs)
@[simp] def udK3 (es : List (Key × List (Key × D))) (k1 k2 : Key) : Option T := bd (valK es k1) (udK4 es k1 k2)
@[simp] def udK2 (es : List (Key × List (Key × D))) (k1 : Key) (d2 : D) : Option T := bd (keyOf d2) (udK3 es k1)
@[simp] def udK1 (es : List (Key × List (Key × D))) (fz : Fz) (j2 : Nat) (k1 : Key) : Option T := bd (fget fz j2) (udK2 es k1)
@[simp] def udK0 (es : List (Key × List (Key × D))) (fz : Fz) (j2 : Nat) (d1 : D) : Option T := bd (keyOf d1) (udK1 es fz j2)
@[simp] theorem r_updDD (es : List (Key × List (Key × D))) (fz : Fz) (j1 j2 : Nat) : updDD (.dd es) fz j1 j2 = bd (fget fz j1) (udK0 es fz j2) :=
  bd_of fun a => bd_of fun b => bd_of fun c => bd_of fun d => bd_of fun e => bd_of fun f => rfl
@[simp] def muK2 (i : Nat) (τ : Tau) (t : T) : Option (R × Tau) := some (rd .none, tset τ i t)
@[simp] def muK1 (i j1 j2 : Nat) (fz : Fz) (τ : Tau) (t : T) : Option (R × Tau) := bd (updDD t fz j1 j2) (muK2 i τ)
@[simp] theorem r_mUpdDD (i j1 j2 : Nat) (ro : Ro) (τ : Tau) : mUpdDD i j1 j2 ro τ = bd (tget τ i) (muK1 i j1 j2 ro.fz τ) := bd_of fun a => bd_om fun b => rfl
/-- reading an owned dict -/
@[simp] theorem dkOf_dk (es : List (Key × D)) : dkOf (.dk es) = some es := rfl
@[simp] theorem dkOf_lk (es : List (Key × D)) : dkOf (.lk es) = some es := rfl
@[simp] def goK6 (τ : Tau) (d : D) : Option (R × Tau) := some (rd d, τ)
@[simp] def goK5 (τ : Tau) (k : Key) (es : List (Key × D)) : Option (R × Tau) := bd (valK es k) (goK6 τ)
@[simp] def goK4 (τ : Tau) (k : Key) (t : T) : Option (R × Tau) := bd (dkOf t) (goK5 τ k)
@[simp] def goK3 (i : Nat) (τ : Tau) (k : Key) : Option (R × Tau) := bd (tget τ i) (goK4 τ k)
@[simp] def goK2 (i : Nat) (τ : Tau) (kd : D) : Option (R × Tau) := bd (keyOf kd) (goK3 i τ)
@[simp] def goK1 (i : Nat) : R × Tau → Option (R × Tau)
  | (r, τ) => bd r.er (goK2 i τ)
@[simp] def goK0 (i : Nat) (mb : MV) (ro : Ro) (τ : Tau) (_ : T) : Option (R × Tau) := bd (mb ro τ) (goK1 i)
@[simp] theorem r_mGetO (i : Nat) (mb : MV) (ro : Ro) (τ : Tau) : mGetO i mb ro τ = bd (tget τ i) (goK0 i mb ro τ) :=
  bd_of fun a => bd_of fun b => bd_of fun c => bd_of fun d => bd_of fun e => bd_of fun f => bd_om fun g => rfl
/-- d[k] += c -/
@[simp] def auK3 (f : Int → Int) (es : List (Key × D)) (k : Key) : D → Option T
  | .int i => if es.length < 16000000 then some (.dk (putE es k (.int (f i)))) else none
  | _ => none
@[simp] def auK2 (f : Int → Int) (es : List (Key × D)) (k : Key) : Option T := bd (valK es k) (auK3 f es k)
@[simp] theorem r_augD (f : Int → Int) (es : List (Key × D)) (kd : D) : augD f (.dk es) kd = bd (keyOf kd) (auK2 f es) := bd_of fun a => bd_of fun b => by
  cases b <;> rfl
@[simp] def maK2 (x : Nat) (s : SS) (t : T) : Option Out := some (.nx ⟨s.fz, tset s.ow x t⟩)
@[simp] def maK1 (x : Nat) (f : Int → Int) (s : SS) (t : T) (kd : D) : Option Out := bd (augD f t kd) (maK2 x s)
@[simp] def maK0 (x j : Nat) (f : Int → Int) (s : SS) (t : T) : Option Out := bd (fget s.fz j) (maK1 x f s t)
@[simp] theorem r_mAugD (x j : Nat) (f : Int → Int) (s : SS) : mAugD x j f s = bd (tget s.ow x) (maK0 x j f s) := bd_of fun a => bd_of fun b => bd_om fun c => rfl
/-- d.update(dict) -/
@[simp] def duK (es : List (Key × D)) (fs : List (Key × D)) : Option (D × T) := if es.length + fs.length ≤ 16000000 then some (.none, .dk (mergeE es fs)) else none
@[simp] theorem r_gDUpdD (es : List (Key × D)) (ds : List (D × D)) : gDUpdD (.dk es) [.dict ds] = bd (entK ds) (duK es) := bd_of fun a => rfl
@[simp] theorem entK_dk' (es : List (Key × D)) : entK (dkD es) = some es := entK_dk es
@[simp] def lkK2 (τ : Tau) (es : List (Key × D)) : Option (List D × Tau) := if es.length ≤ 16000000 then some (es.map fun p => keyD p.1, τ) else none
end Tl

namespace Tl
open PySem PySem.Spec PyProof.Rows L2
section
variable {X : L2.Cx} {K : PySem.W.Frag}
def gLenD : List R → Option R
  | [x] => x.er.bind fun d => match d with
    | .dict es => if okDK es = true then some (rInt (es.length : Nat)) else none
    | _ => none
  | _ => none
/-- x in d -/
def inO (neg : Bool) (t : T) (kd : D) : Option Bool := (keyOf kd).bind fun k => (dkOf t).map fun es => if neg then !(valK es k).isSome else (valK es k).isSome
def mInO (neg : Bool) (i : Nat) (mb : MV) : MV := fun ro τ => (mb ro τ).bind fun p => p.1.er.bind fun kd => (tget p.2 i).bind fun t => (inO neg t kd).map fun b => (rd (.bool b), p.2)
variable {a b : Expr} {ma : MV} {pos : Pos} {i j : Nat}
end
@[simp] theorem r_gLenD (es : List (D × D)) : gLenD [.val (.leaf (.dict es))] = if okDK es = true then some (rInt (es.length : Nat)) else none := rfl
@[simp] theorem r_gLenDk (es : List (Key × D)) : gLenD [.val (.dk es)] = some (rInt (es.length : Nat)) := by
  show (if okDK (dkD es) = true then some (rInt ((dkD es).length : Nat)) else none) = _
  rw [if_pos (okDK_dk es), List.length_map]
@[simp] theorem r_gLenDv (es : List (Key × D)) : gLenD [.vw (.dk es)] = some (rInt (es.length : Nat)) := by
  show (if okDK (dkD es) = true then some (rInt ((dkD es).length : Nat)) else none) = _
  rw [if_pos (okDK_dk es), List.length_map]
@[simp] def inOK4 (τ : Tau) (b : Bool) : Option (R × Tau) := some (rd (.bool b), τ)
@[simp] def inOK3 (neg : Bool) (kd : D) (τ : Tau) (t : T) : Option (R × Tau) := bd (inO neg t kd) (inOK4 τ)
@[simp] def inOK2 (neg : Bool) (i : Nat) (τ : Tau) (kd : D) : Option (R × Tau) := bd (tget τ i) (inOK3 neg kd τ)
@[simp] def inOK (neg : Bool) (i : Nat) : R × Tau → Option (R × Tau)
  | (r, τ) => bd r.er (inOK2 neg i τ)
@[simp] theorem r_mInO (neg : Bool) (i : Nat) (mb : MV) (ro : Ro) (τ : Tau) : mInO neg i mb ro τ = bd (mb ro τ) (inOK neg i) := bd_of fun a => bd_of fun b => bd_of fun c => bd_om fun d => rfl
@[simp] theorem inO_dk (neg : Bool) (es : List (Key × D)) (kd : D) : inO neg (.dk es) kd = (keyOf kd).map fun k => if neg then !(valK es k).isSome else (valK es k).isSome := by
  unfold inO
  cases keyOf kd <;> rfl
@[simp] theorem inO_lk (neg : Bool) (es : List (Key × D)) (kd : D) : inO neg (.lk es) kd = (keyOf kd).map fun k => if neg then !(valK es k).isSome else (valK es k).isSome := by
  unfold inO
  cases keyOf kd <;> rfl
end Tl

namespace Tl
open PySem PySem.Spec PyProof.Rows L2
mutual
def nk : D → Option NK
  | .none => some .none
  | .int i => some (.num i)
  | .tuple ds => (nkL ds).map .tup
  | _ => none
def nkL : List D → Option (List NK)
  | [] => some []
  | d :: ds => (nk d).bind fun k => (nkL ds).map (k :: ·)
end
def keyN (d : D) : Option NK := (nk d).bind fun k => if okN k = true then some k else none
mutual
theorem nk_ok : ∀ (d : D) (k : NK), nk d = some k → d = k.data ∧ tfree k = true
  | .none, k, e => by
    cases e
    exact ⟨rfl, rfl⟩
  | .int i, k, e => by
    cases e
    exact ⟨rfl, rfl⟩
  | .tuple ds, k, e => by
    obtain ⟨ks, e1, e2⟩ := Option.map_eq_some_iff.mp (show (nkL ds).map NestedKey.tup = some k from e)
    subst e2
    obtain ⟨h1, h2⟩ := nkL_ok ds ks e1
    subst h1
    exact ⟨rfl, h2⟩
  | .bool _, _, e => by cases e
  | .str _, _, e => by cases e
  | .list _, _, e => by cases e
  | .dict _, _, e => by cases e
theorem nkL_ok : ∀ (ds : List D) (ks : List NK), nkL ds = some ks → ds = NestedKey.datas ks ∧ tfreeL ks = true
  | [], ks, e => by
    cases e
    exact ⟨rfl, rfl⟩
  | d :: ds, ks, e => by
    obtain ⟨k, e1, e⟩ := Option.bind_eq_some_iff.mp (show (nk d).bind _ = some ks from e)
    obtain ⟨r, e2, e3⟩ := Option.map_eq_some_iff.mp e
    subst e3
    obtain ⟨h1, h2⟩ := nk_ok d k e1
    obtain ⟨h3, h4⟩ := nkL_ok ds r e2
    subst h1 h3
    refine ⟨rfl, ?_⟩
    show (tfree k && tfreeL r) = true
    rw [h2, h4]
    rfl
end
mutual
theorem nk_data : ∀ (k : NK), tfree k = true → nk k.data = some k
  | .none, _ => rfl
  | .num _, _ => rfl
  | .text _, h => by cases h
  | .tup ks, h => by
    show (nkL (NestedKey.datas ks)).map NestedKey.tup = _
    rw [nkL_datas ks h]
    rfl
theorem nkL_datas : ∀ (ks : List NK), tfreeL ks = true → nkL (NestedKey.datas ks) = some ks
  | [], _ => rfl
  | k :: ks, h => by
    have h' : (tfree k && tfreeL ks) = true := h
    rw [Bool.and_eq_true] at h'
    show (nk k.data).bind (fun k => (nkL (NestedKey.datas ks)).map (k :: ·)) = _
    rw [nk_data k h'.1, nkL_datas ks h'.2]
    rfl
end
def valN (kvs : List (NK × Addr × V)) (k : NK) : Option V := (kvs.find? fun p => decide (p.1 = k)).map (·.2.2)
def putN (kvs : List (NK × Addr × V)) (k : NK) (b : Addr) (v : V) : List (NK × Addr × V) :=
  if (kvs.any fun p => decide (p.1 = k)) = true then kvs.map (fun p => if p.1 = k then (p.1, p.2.1, v) else p) else kvs ++ [(k, b, v)]
abbrev KN : List (NK × Addr × V) → List (NK × Addr × Value) → Prop := Paired fun p q => p.1 = q.1 ∧ p.2.1 = q.2.1 ∧ RelV p.2.2 q.2.2
def DnAt (H : Hp) (a : Addr) (kvs : List (NK × Addr × V)) : Prop := H a = some (dnO a kvs) ∨ ∃ o, H a = some (.frz o (dnO a kvs))
def NH (K : PySem.W.Frag) (H : Hp) (kvs : List (NK × Addr × V)) : Prop := ∀ p ∈ kvs, okN p.1 = true ∧ Rep K H (.ref p.2.1) p.1.data
theorem valN_cons (p : NK × Addr × V) (kvs : List (NK × Addr × V)) (k : NK) : valN (p :: kvs) k = if p.1 = k then some p.2.2 else valN kvs k := by
  unfold valN
  rw [List.find?_cons]
  by_cases h : p.1 = k <;> simp [h]
theorem atKey_cons {κ : Type} [DecidableEq κ] (p : κ × Addr × Value) (kvs : List (κ × Addr × Value)) (k : κ) : atKey (p :: kvs) k = if p.1 = k then some p.2 else atKey kvs k := by
  unfold atKey
  rw [List.find?_cons]
  by_cases h : p.1 = k <;> simp [h]
theorem KN.val (k : NK) : ∀ {kvs : List (NK × Addr × V)} {xs : List (NK × Addr × Value)}, KN kvs xs → RelO (valN kvs k) ((atKey xs k).map (·.2))
  | _, _, .nil => True.intro
  | _, _, .cons (a := p) (b := q) h t => by
    rw [valN_cons, atKey_cons, h.1]
    by_cases e : q.1 = k
    · rw [if_pos e, if_pos e]
      exact h.2.2
    · rw [if_neg e, if_neg e]
      exact KN.val k t
theorem KN.anyS (k : NK) : ∀ {kvs : List (NK × Addr × V)} {xs : List (NK × Addr × Value)}, KN kvs xs → (kvs.any fun p => decide (p.1 = k)) = (atKey xs k).isSome
  | _, _, .nil => rfl
  | _, _, .cons (a := p) (b := q) h t => by
    rw [List.any_cons, atKey_cons, h.1, KN.anyS k t]
    by_cases e : q.1 = k <;> simp [e]
theorem KN.repl {k : NK} {v : V} {u : Value} (r : RelV v u) : ∀ {kvs : List (NK × Addr × V)} {xs : List (NK × Addr × Value)}, KN kvs xs → KN (kvs.map fun p => if p.1 = k then (p.1, p.2.1, v) else p) (xs.map (PySem.putAt k u))
  | _, _, .nil => .nil
  | _, _, .cons (a := p) (b := q) h t => by
    refine .cons ?_ (KN.repl r t)
    unfold PySem.putAt
    show (if p.1 = k then (p.1, p.2.1, v) else p).1 = (if q.1 = k then (q.1, q.2.1, u) else q).1 ∧ (if p.1 = k then (p.1, p.2.1, v) else p).2.1 = (if q.1 = k then (q.1, q.2.1, u) else q).2.1 ∧ RelV (if p.1 = k then (p.1, p.2.1, v) else p).2.2 (if q.1 = k then (q.1, q.2.1, u) else q).2.2
    by_cases e : q.1 = k
    · rw [if_pos e, if_pos (show p.1 = k from h.1.trans e)]
      exact ⟨h.1, h.2.1, r⟩
    · rw [if_neg e, if_neg (show ¬ p.1 = k from fun z => e (h.1.symm.trans z))]
      exact h
theorem KN.snoc {p : NK × Addr × V} {q : NK × Addr × Value} (hq : p.1 = q.1 ∧ p.2.1 = q.2.1 ∧ RelV p.2.2 q.2.2) : ∀ {kvs : List (NK × Addr × V)} {xs : List (NK × Addr × Value)}, KN kvs xs → KN (kvs ++ [p]) (xs ++ [q])
  | _, _, .nil => .cons hq .nil
  | _, _, .cons h t => .cons h (KN.snoc hq t)
theorem KN.put {k : NK} {b : Addr} {v : V} {u : Value} (r : RelV v u) {kvs : List (NK × Addr × V)} {xs : List (NK × Addr × Value)} (h : KN kvs xs) : KN (putN kvs k b v) (storedH xs k b u) := by
  unfold putN storedH
  rw [h.anyS k]
  by_cases e : (atKey xs k).isSome = true
  · rw [if_pos e, if_pos e]
    exact KN.repl r h
  · rw [if_neg e, if_neg e]
    exact KN.snoc ⟨rfl, rfl, r⟩ h
theorem NH.put {K : PySem.W.Frag} {H : Hp} {kvs : List (NK × Addr × V)} {k : NK} {b : Addr} {v : V} (h : NH K H kvs) (o : okN k = true) (r : Rep K H (.ref b) k.data) : NH K H (putN kvs k b v) := by
  intro p m
  unfold putN at m
  split at m
  · obtain ⟨q, m1, e⟩ := List.mem_map.mp m
    by_cases z : q.1 = k
    · rw [if_pos z] at e
      subst e
      exact h q m1
    · rw [if_neg z] at e
      subst e
      exact h q m1
  · rcases List.mem_append.mp m with m | m
    · exact h p m
    · rw [List.mem_singleton.mp m]
      exact ⟨o, r⟩
theorem NH.mono {K : PySem.W.Frag} {H H' : Hp} {kvs : List (NK × Addr × V)} (h : NH K H kvs) (s : Same H H') : NH K H' kvs := fun p m => ⟨(h p m).1, (h p m).2.mono s⟩
theorem DnAt.mono {H H' : Hp} {a : Addr} {kvs : List (NK × Addr × V)} (h : DnAt H a kvs) (s : Same H H') : DnAt H' a kvs := by
  rcases h with h | ⟨o, h⟩
  · exact .inl (s _ _ h)
  · exact .inr ⟨o, s _ _ h⟩
section
variable {X : Cx} {pins : List (Addr × Obj)} {σ : L2.St} {H : Hp} {s : Shared}
variable {a b : Addr} {v : V} {u r : Value} {o : Option V} {A : Around} {E : Value → Shared → Prop}
end
section
variable {X : Cx} {o i e value : Expr} {pos pos' tpos : Pos} {td ty tv : TE}
end
end Tl

namespace Tl
open PySem PySem.Spec PyProof.Rows L2
/-- the pairs of such a dict, as data -/
def ndOf : D → Option (List (D × D))
  | .dict ((.none, .none) :: es) => some es
  | .dict ((.none, .bool true) :: es) => some es
  | _ => none
abbrev ndD (es : List (NK × D)) : List (D × D) := es.map fun p => (p.1.data, p.2)
def valD (es : List (D × D)) (k : NK) : Option D := (es.find? fun p => decide (nk p.1 = some k)).map (·.2)
theorem valD_cons (p : D × D) (es : List (D × D)) (k : NK) : valD (p :: es) k = if nk p.1 = some k then some p.2 else valD es k := by
  unfold valD
  rw [List.find?_cons]
  by_cases h : nk p.1 = some k <;> simp [h]
theorem nk_iff {j k : NK} (h : tfree k = true) : nk j.data = some k ↔ j = k := by
  refine ⟨fun e => ?_, fun e => by rw [e]; exact nk_data k h⟩
  have inj : ∀ (a b : NK), a.data = b.data → a = b := by
    intro a
    refine NestedKey.rec (motive_1 := fun a => ∀ b : NK, a.data = b.data → a = b) (motive_2 := fun as => ∀ bs : List NK, NestedKey.datas as = NestedKey.datas bs → as = bs) ?_ ?_ ?_ ?_ ?_ ?_ a
    · intro b e
      cases b <;> first | rfl | cases e
    · intro i b e
      cases b with
      | num j => cases e; rfl
      | _ => cases e
    · intro i b e
      cases b with
      | text j => cases e; rfl
      | _ => cases e
    · intro ks ih b e
      cases b with
      | tup js =>
        have e' : PyData.tuple (NestedKey.datas ks) = PyData.tuple (NestedKey.datas js) := e
        rw [ih js (PyData.tuple.inj e')]
      | _ => cases e
    · intro bs e
      cases bs with
      | nil => rfl
      | cons b bs => cases e
    · intro a as ih ihs bs e
      cases bs with
      | nil => cases e
      | cons b bs =>
        have e' : a.data :: NestedKey.datas as = b.data :: NestedKey.datas bs := e
        obtain ⟨e1, e2⟩ := List.cons.inj e'
        rw [ih b e1, ihs bs e2]
  exact inj j k (nk_ok _ _ e).1
theorem valD_nd (es : List (NK × D)) {k : NK} (h : tfree k = true) : valD (ndD es) k = valK es k := by
  induction es with
  | nil => rfl
  | cons p es ih =>
    rw [show ndD (p :: es) = (p.1.data, p.2) :: ndD es from rfl, valD_cons, valK_cons, ih]
    by_cases e : p.1 = k
    · rw [if_pos e, if_pos ((nk_iff h).mpr e)]
    · rw [if_neg e, if_neg fun z => e ((nk_iff h).mp z)]
section
variable {K : PySem.W.Frag} {F : Hp}
theorem Rep.nd {v : V} {d : D} {es : List (D × D)} (r : Rep K F v d) (h : ndOf d = some es) : ∃ a kvs, v = .ref a ∧ DnAt F a kvs ∧ RepN K F kvs es := by
  cases r with
  | dn h1 h2 =>
    cases h
    exact ⟨_, _, rfl, .inl h1, h2⟩
  | dl h1 h2 =>
    cases h
    exact ⟨_, _, rfl, .inr ⟨_, h1⟩, h2⟩
  | @dk a kvs es' h1 h2 =>
    cases h2 with
    | nil => cases h
    | @cons k v vs d ds r t =>
      cases k <;> cases h
  | _ => cases h
theorem RepN.val {k : NK} (hk : okN k = true) : ∀ {kvs : List (NK × Addr × V)} {es : List (D × D)}, RepN K F kvs es → (valN kvs k = none ∧ valD es k = none) ∨ ∃ v d, valN kvs k = some v ∧ valD es k = some d ∧ Rep K F v d
  | _, _, .nil => .inl ⟨rfl, rfl⟩
  | _, _, .cons (k := j) o r q t => by
    rw [valN_cons, valD_cons]
    by_cases e : j = k
    · rw [if_pos e, if_pos ((nk_iff (okN_free hk)).mpr e)]
      exact .inr ⟨_, _, rfl, rfl, q⟩
    · rw [if_neg e, if_neg fun z => e ((nk_iff (okN_free hk)).mp z)]
      exact RepN.val hk t
theorem RepN.len : ∀ {kvs : List (NK × Addr × V)} {es : List (D × D)}, RepN K F kvs es → kvs.length = es.length
  | _, _, .nil => rfl
  | _, _, .cons _ _ _ t => by rw [List.length_cons, List.length_cons, RepN.len t]
theorem NvOk.len {kvs : List (NK × Addr × V)} {es : List (NK × D)} (h : NvOk K F kvs es) : kvs.length = es.length := Paired.length h
theorem NvOk.val {k : NK} : ∀ {kvs : List (NK × Addr × V)} {es : List (NK × D)}, NvOk K F kvs es → (valN kvs k = none ∧ valK es k = none) ∨ ∃ v d, valN kvs k = some v ∧ valK es k = some d ∧ Rep K F v d
  | _, _, .nil => .inl ⟨rfl, rfl⟩
  | _, _, .cons (a := p) (b := q) h t => by
    rw [valN_cons, valK_cons]
    by_cases e : q.1 = k
    · rw [if_pos e, if_pos (h.1.trans e)]
      exact .inr ⟨_, _, rfl, rfl, h.2.2.2⟩
    · rw [if_neg e, if_neg (by rw [h.1]; exact e)]
      exact NvOk.val t
theorem NvOk.any {k : NK} : ∀ {kvs : List (NK × Addr × V)} {es : List (NK × D)}, NvOk K F kvs es → (kvs.any fun p => decide (p.1 = k)) = es.any fun p => decide (p.1 = k)
  | _, _, .nil => rfl
  | _, _, .cons h t => by rw [List.any_cons, List.any_cons, NvOk.any t, h.1]
theorem NvOk.set {k : NK} {v : V} {d : D} (r : Rep K F v d) : ∀ {kvs : List (NK × Addr × V)} {es : List (NK × D)}, NvOk K F kvs es → NvOk K F (kvs.map fun p => if p.1 = k then (p.1, p.2.1, v) else p) (es.map fun p => if p.1 = k then (p.1, d) else p)
  | _, _, .nil => .nil
  | _, _, .cons (a := p) (b := q) h t => by
    refine .cons ?_ (NvOk.set r t)
    show (if p.1 = k then (p.1, p.2.1, v) else p).1 = (if q.1 = k then (q.1, d) else q).1 ∧ okN (if p.1 = k then (p.1, p.2.1, v) else p).1 = true ∧ Rep K F (.ref (if p.1 = k then (p.1, p.2.1, v) else p).2.1) (if p.1 = k then (p.1, p.2.1, v) else p).1.data ∧ Rep K F (if p.1 = k then (p.1, p.2.1, v) else p).2.2 (if q.1 = k then (q.1, d) else q).2
    by_cases e : q.1 = k
    · rw [if_pos e, if_pos (show p.1 = k from h.1.trans e)]
      exact ⟨h.1, h.2.1, h.2.2.1, r⟩
    · rw [if_neg e, if_neg (show ¬ p.1 = k from fun z => e (h.1.symm.trans z))]
      exact h
theorem NvOk.snoc {p : NK × Addr × V} {q : NK × D} (hq : p.1 = q.1 ∧ okN p.1 = true ∧ Rep K F (.ref p.2.1) p.1.data ∧ Rep K F p.2.2 q.2) : ∀ {kvs : List (NK × Addr × V)} {es : List (NK × D)}, NvOk K F kvs es → NvOk K F (kvs ++ [p]) (es ++ [q])
  | _, _, .nil => .cons hq .nil
  | _, _, .cons h t => .cons h (NvOk.snoc hq t)
theorem NvOk.put {k : NK} {b : Addr} {v : V} {d : D} (o : okN k = true) (rk : Rep K F (.ref b) k.data) (r : Rep K F v d) {kvs : List (NK × Addr × V)} {es : List (NK × D)} (h : NvOk K F kvs es) : NvOk K F (putN kvs k b v) (putE es k d) := by
  unfold putN putE
  rw [NvOk.any h (k := k)]
  split
  · exact NvOk.set r h
  · exact NvOk.snoc ⟨rfl, o, rk, r⟩ h
/-- k in d, d[k], as data -/
def pNIn : List D → Option D
  | [k, x] => (ndOf x).bind fun es => (keyN k).map fun k => .bool (valD es k).isSome
  | _ => none
def pNNotIn : List D → Option D
  | [k, x] => (ndOf x).bind fun es => (keyN k).map fun k => .bool !(valD es k).isSome
  | _ => none
def pNGet : List D → Option D
  | [x, k] => (ndOf x).bind fun es => (keyN k).bind fun k => valD es k
  | _ => none
end
section
variable {X : Cx} {a b : Expr} {ma mb : MV} {pos : Pos}
/-- {} -/
def mDNewN : MV := fun _ τ => some (.val (.dn []), τ)
/-- d[k], d an owned one: what is told is kept -/
def dnOf : T → Option (List (NK × D))
  | .dn es => some es
  | _ => none
/-- what the dict in the slot i holds at a key: an owned one, or a frozen one -/
def hasN (ro : Ro) (τ : Tau) (i : Nat) : Bool := match tget τ i with
  | some (.dn _) => true
  | some _ => false
  | none => match fget ro.fz i with
    | some d => (ndOf d).isSome
    | none => false
def lookN (ro : Ro) (τ : Tau) (i : Nat) (k : NK) : Option (Option D) := match tget τ i with
  | some (.dn es) => some (valK es k)
  | some _ => none
  | none => (fget ro.fz i).bind fun d => (ndOf d).map fun es => valD es k
def mNGetO (i : Nat) (mb : MV) : MV := fun ro τ => if hasN ro τ i = true then (mb ro τ).bind fun p => p.1.er.bind fun kd => (keyN kd).bind fun k => (lookN ro p.2 i k).bind fun o => o.map fun d => (rd d, p.2) else none
end
def mNGetOr (i : Nat) (l : ML) : MV := fun ro τ => if hasN ro τ i = true then (l ro τ).bind fun p => (stL p.1).bind fun ds => match ds with
  | [kd, x] => (keyN kd).bind fun k => (lookN ro p.2 i k).map fun o => (rd (o.getD x), p.2)
  | _ => none
  else none
end Tl

namespace Tl
open PySem PySem.Spec PyProof.Rows L2
section
variable {X : Cx} {Pr : List Nat}
/-- d[k] = e -/
def putDN : T → NK → D → Option T
  | .dn es, k, d => if es.length < 16000000 then some (.dn (putE es k d)) else none
  | _, _, _ => none
def mSetN (x : Nat) (me mi : MV) : MS := fun s => (tget s.ow x).bind fun _ => (me ⟨s.fz, []⟩ s.ow).bind fun p => p.1.st.bind fun d => (mi ⟨s.fz, []⟩ p.2).bind fun q => q.1.st.bind fun kd => (keyN kd).bind fun i => (tget q.2 x).bind fun t => (putDN t i d).map fun t' => .nx ⟨s.fz, tset q.2 x t'⟩
end
def entriesN : List D → Option (List (NK × D))
  | [] => some []
  | .tuple [k, d] :: r => (keyN k).bind fun k => (entriesN r).map ((k, d) :: ·)
  | _ => none
section
variable {X : Cx}
end
section
variable {K : PySem.W.Frag}
def gDictN : List R → Option R
  | [x] => x.lst?.bind fun ds => (entriesN ds).map fun es => .val (.dn (mergeE [] es))
  | _ => none
def gLenN : List R → Option R
  | [x] => x.er.bind fun d => (ndOf d).map fun es => rInt (es.length : Nat)
  | _ => none
theorem RepN.keys {F : Hp} : ∀ {kvs : List (NK × Addr × V)} {es : List (D × D)}, RepN K F kvs es → RepL K F (kvs.map fun x => V.ref x.2.1) (es.map (·.1))
  | _, _, .nil => .nil
  | _, _, .cons _ r _ t => .cons r (RepN.keys t)
/-- as a thing whose keys are kept: a dict that is seen counts -/
def R.sn : R → Option D
  | .vw (.dn es) => T.fz (.dn es)
  | x => x.st
def gListN : List R → Option R
  | [x] => x.sn.bind fun d => (ndOf d).bind fun es => if es.length ≤ 16000000 then some (.val (.fl (es.map (·.1)))) else none
  | _ => none
end
section
variable {X : Cx} {Pr : List Nat}
/-- the slot's dict locked and frozen, for good -/
def mFzN (i : Nat) : SS → Option SS := fun s => match tget s.ow i with
  | some (.dn es) => some ⟨fset s.fz i (some (.dict ((.none, .bool true) :: ndD es))), tdel s.ow i⟩
  | _ => some s
/-- the keys of a dict that was locked and frozen -/
def lkOf : D → Option (List (D × D))
  | .dict ((.none, .bool true) :: es) => some es
  | _ => none
def iNk (m : MV) : MI := fun ro τ => (m ro τ).bind fun p => p.1.st.bind fun d => (lkOf d).bind fun es => if es.length ≤ 16000000 then some (es.map (·.1), p.2) else none
end
end Tl

namespace Tl
open PySem PySem.Spec PyProof.Rows L2
@[simp] theorem r_mDNewN (ro : Ro) (τ : Tau) : mDNewN ro τ = some (.val (.dn []), τ) := rfl
@[simp] theorem fz_dn (es : List (NK × D)) : T.fz (.dn es) = some (.dict ((.none, .none) :: ndD es)) := rfl
@[simp] theorem hole_dn (es : List (NK × D)) : isHole (.dn es) = false := rfl
@[simp] theorem dnOf_dn (es : List (NK × D)) : dnOf (.dn es) = some es := rfl
@[simp] theorem ndOf_n (es : List (D × D)) : ndOf (.dict ((.none, .none) :: es)) = some es := rfl
@[simp] theorem ndOf_l (es : List (D × D)) : ndOf (.dict ((.none, .bool true) :: es)) = some es := rfl
@[simp] theorem lkOf_l (es : List (D × D)) : lkOf (.dict ((.none, .bool true) :: es)) = some es := rfl
@[simp] theorem nk_none : nk .none = some .none := rfl
@[simp] theorem nk_int (i : Int) : nk (.int i) = some (.num i) := rfl
@[simp] def nkK (ks : List NK) : Option NK := some (.tup ks)
@[simp] theorem nk_tup (ds : List D) : nk (.tuple ds) = bd (nkL ds) nkK := bd_om fun a => rfl
@[simp] theorem nkL_nil : nkL [] = some [] := rfl
@[simp] def nkLK2 (k : NK) (ks : List NK) : Option (List NK) := some (k :: ks)
@[simp] def nkLK (ds : List D) (k : NK) : Option (List NK) := bd (nkL ds) (nkLK2 k)
@[simp] theorem nkL_cons (d : D) (ds : List D) : nkL (d :: ds) = bd (nk d) (nkLK ds) := bd_of fun a => bd_om fun b => rfl
@[simp] def keyNK (k : NK) : Option NK := if okN k = true then some k else none
@[simp] theorem okN_tup' (ks : List NK) : okN (.tup ks) = (tfreeL ks && decide ((NestedKey.tup ks).depth ≤ 8)) := rfl
@[simp] theorem tfree_num (i : Int) : tfree (.num i) = true := rfl
@[simp] theorem tfree_none : tfree .none = true := rfl
@[simp] theorem tfree_tup (ks : List NK) : tfree (.tup ks) = tfreeL ks := rfl
@[simp] theorem tfreeL_nil : tfreeL [] = true := rfl
@[simp] theorem tfreeL_cons (k : NK) (ks : List NK) : tfreeL (k :: ks) = (tfree k && tfreeL ks) := rfl
@[simp] theorem depth_num (i : Int) : (NestedKey.num i).depth = 0 := rfl
@[simp] theorem depth_none : NestedKey.none.depth = 0 := rfl
@[simp] theorem depth_tup (ks : List NK) : (NestedKey.tup ks).depth = NestedKey.depthAll ks + 1 := rfl
@[simp] theorem depthAll_nil : NestedKey.depthAll [] = 0 := rfl
@[simp] theorem depthAll_cons (k : NK) (ks : List NK) : NestedKey.depthAll (k :: ks) = max k.depth (NestedKey.depthAll ks) := rfl
@[simp] theorem valD_nd' (es : List (NK × D)) (k : NK) (h : tfree k = true) : valD (ndD es) k = valK es k := valD_nd es h
@[simp] def ninK2 (es : List (D × D)) (k : NK) : Option D := some (.bool (valD es k).isSome)
@[simp] def ninK (kd : D) (es : List (D × D)) : Option D := bd (keyN kd) (ninK2 es)
@[simp] theorem p_nin (kd x : D) : pNIn [kd, x] = bd (ndOf x) (ninK kd) := bd_of fun a => bd_om fun b => rfl
@[simp] def nninK2 (es : List (D × D)) (k : NK) : Option D := some (.bool !(valD es k).isSome)
@[simp] def nninK (kd : D) (es : List (D × D)) : Option D := bd (keyN kd) (nninK2 es)
@[simp] theorem p_nnin (kd x : D) : pNNotIn [kd, x] = bd (ndOf x) (nninK kd) := bd_of fun a => bd_om fun b => rfl
@[simp] def ngetK2 (es : List (D × D)) (k : NK) : Option D := valD es k
@[simp] def ngetK (kd : D) (es : List (D × D)) : Option D := bd (keyN kd) (ngetK2 es)
@[simp] theorem p_nget (kd x : D) : pNGet [x, kd] = bd (ndOf x) (ngetK kd) := bd_of fun a => bd_of fun b => rfl
@[simp] def hasK (fz : Fz) (i : Nat) : Option T → Bool
  | some (.dn _) => true
  | some _ => false
  | none => match fget fz i with
    | some d => (ndOf d).isSome
    | none => false
@[simp] theorem r_hasN (fz : Fz) (vw τ : Tau) (i : Nat) : hasN ⟨fz, vw⟩ τ i = hasK fz i (tget τ i) := by
  unfold hasN
  cases tget τ i with
  | none => rfl
  | some t => cases t <;> rfl
@[simp] def lookF (k : NK) (es : List (D × D)) : Option (Option D) := some (valD es k)
@[simp] def lookF0 (k : NK) (d : D) : Option (Option D) := bd (ndOf d) (lookF k)
@[simp] def lookNK (fz : Fz) (i : Nat) (k : NK) : Option T → Option (Option D)
  | some (.dn es) => some (valK es k)
  | some _ => none
  | none => bd (fget fz i) (lookF0 k)
@[simp] theorem r_lookN (fz : Fz) (vw τ : Tau) (i : Nat) (k : NK) : lookN ⟨fz, vw⟩ τ i k = lookNK fz i k (tget τ i) := by
  unfold lookN
  cases tget τ i with
  | none => exact bd_of fun a => bd_om fun b => rfl
  | some t => cases t <;> rfl
@[simp] def ngK6 (τ : Tau) (d : D) : Option (R × Tau) := some (rd d, τ)
@[simp] def ngK5 (τ : Tau) (o : Option D) : Option (R × Tau) := bd o (ngK6 τ)
@[simp] def ngK3 (i : Nat) (ro : Ro) (τ : Tau) (k : NK) : Option (R × Tau) := bd (lookN ro τ i k) (ngK5 τ)
@[simp] def ngK2 (i : Nat) (ro : Ro) (τ : Tau) (kd : D) : Option (R × Tau) := bd (keyN kd) (ngK3 i ro τ)
@[simp] def ngK1 (i : Nat) (ro : Ro) : R × Tau → Option (R × Tau)
  | (r, τ) => bd r.er (ngK2 i ro τ)
@[simp] def ngK0 (i : Nat) (mb : MV) (ro : Ro) (τ : Tau) : Bool → Option (R × Tau)
  | true => bd (mb ro τ) (ngK1 i ro)
  | false => none
@[simp] theorem r_mNGetO (i : Nat) (mb : MV) (ro : Ro) (τ : Tau) : mNGetO i mb ro τ = ngK0 i mb ro τ (hasN ro τ i) := by
  unfold mNGetO
  cases hasN ro τ i with
  | false => rfl
  | true => exact bd_of fun a => bd_of fun b => bd_of fun c => bd_of fun d => bd_om fun e => rfl
/-- d.get(k, x) -/
@[simp] def gorK5 (τ : Tau) (x : D) (o : Option D) : Option (R × Tau) := some (rd (o.getD x), τ)
@[simp] def gorK4 (i : Nat) (ro : Ro) (τ : Tau) (x : D) (k : NK) : Option (R × Tau) := bd (lookN ro τ i k) (gorK5 τ x)
@[simp] def gorK3 (i : Nat) (ro : Ro) (τ : Tau) : List D → Option (R × Tau)
  | [kd, x] => bd (keyN kd) (gorK4 i ro τ x)
  | _ => none
@[simp] def gorK2 (i : Nat) (ro : Ro) : List R × Tau → Option (R × Tau)
  | (rs, τ) => bd (stL rs) (gorK3 i ro τ)
@[simp] def gorK1 (i : Nat) (l : ML) (ro : Ro) (τ : Tau) : Bool → Option (R × Tau)
  | true => bd (l ro τ) (gorK2 i ro)
  | false => none
@[simp] theorem r_mNGetOr (i : Nat) (l : ML) (ro : Ro) (τ : Tau) : mNGetOr i l ro τ = gorK1 i l ro τ (hasN ro τ i) := by
  unfold mNGetOr
  cases hasN ro τ i with
  | false => rfl
  | true =>
    refine bd_of fun a => bd_of fun b => ?_
    match b with
    | [] => rfl
    | [_] => rfl
    | [kd, x] => exact bd_of fun k => bd_om fun o => rfl
    | _ :: _ :: _ :: _ => rfl
/-- d[k] = e -/
@[simp] theorem r_putDN (es : List (NK × D)) (k : NK) (d : D) : putDN (.dn es) k d = if es.length < 16000000 then some (.dn (putE es k d)) else none := rfl
@[simp] def snK7 (x : Nat) (fz : Fz) (τ : Tau) (u : T) : Option Out := some (.nx ⟨fz, tset τ x u⟩)
@[simp] def snK6 (x : Nat) (fz : Fz) (τ : Tau) (d : D) (k : NK) (t : T) : Option Out := bd (putDN t k d) (snK7 x fz τ)
@[simp] def snK5 (x : Nat) (fz : Fz) (τ : Tau) (d : D) (k : NK) : Option Out := bd (tget τ x) (snK6 x fz τ d k)
@[simp] def snK4 (x : Nat) (fz : Fz) (τ : Tau) (d : D) (kd : D) : Option Out := bd (keyN kd) (snK5 x fz τ d)
@[simp] def snK3 (x : Nat) (fz : Fz) (d : D) : R × Tau → Option Out
  | (r, τ) => bd r.st (snK4 x fz τ d)
@[simp] def snK2 (x : Nat) (mi : MV) (fz : Fz) (τ : Tau) (d : D) : Option Out := bd (mi ⟨fz, []⟩ τ) (snK3 x fz d)
@[simp] def snK1 (x : Nat) (mi : MV) (fz : Fz) : R × Tau → Option Out
  | (r, τ) => bd r.st (snK2 x mi fz τ)
@[simp] def snK0 (x : Nat) (me mi : MV) (fz : Fz) (τ : Tau) (_ : T) : Option Out := bd (me ⟨fz, []⟩ τ) (snK1 x mi fz)
@[simp] theorem r_mSetN (x : Nat) (me mi : MV) (fz : Fz) (τ : Tau) : mSetN x me mi ⟨fz, τ⟩ = bd (tget τ x) (snK0 x me mi fz τ) :=
  bd_of fun a => bd_of fun b => bd_of fun c => bd_of fun d => bd_of fun e => bd_of fun f => bd_of fun g => bd_om fun h => rfl
/-- dict(..), len, list -/
@[simp] def gdnK (es : List (NK × D)) : Option R := some (.val (.dn (mergeE [] es)))
@[simp] def gdnK0 (ds : List D) : Option R := bd (entriesN ds) gdnK
@[simp] theorem r_gDictN (x : R) : gDictN [x] = bd x.lst? gdnK0 := bd_of fun a => bd_om fun b => rfl
@[simp] def glnK (es : List (D × D)) : Option R := some (rInt (es.length : Nat))
@[simp] def glnK0 (d : D) : Option R := bd (ndOf d) glnK
@[simp] theorem r_gLenN (x : R) : gLenN [x] = bd x.er glnK0 := bd_of fun a => bd_om fun b => rfl
@[simp] def gliNK (es : List (D × D)) : Option R := if es.length ≤ 16000000 then some (.val (.fl (es.map (·.1)))) else none
@[simp] def gliNK0 (d : D) : Option R := bd (ndOf d) gliNK
@[simp] theorem sn_val (t : T) : R.sn (.val t) = t.fz := rfl
@[simp] theorem sn_vwl (d : D) : R.sn (.vw (.leaf d)) = some d := rfl
@[simp] theorem sn_vwn (es : List (NK × D)) : R.sn (.vw (.dn es)) = T.fz (.dn es) := rfl
@[simp] theorem r_gListN (x : R) : gListN [x] = bd x.sn gliNK0 := bd_of fun a => bd_of fun b => rfl
/-- walks -/
@[simp] def inkK (τ : Tau) (es : List (D × D)) : Option (List D × Tau) := if es.length ≤ 16000000 then some (es.map (·.1), τ) else none
@[simp] def inkK1 (τ : Tau) (d : D) : Option (List D × Tau) := bd (lkOf d) (inkK τ)
@[simp] def inkK0 : R × Tau → Option (List D × Tau)
  | (r, τ) => bd r.st (inkK1 τ)
@[simp] theorem r_iNk (m : MV) (ro : Ro) (τ : Tau) : iNk m ro τ = bd (m ro τ) inkK0 := bd_of fun a => bd_of fun b => bd_of fun c => rfl
@[simp] def fzNK (i : Nat) (fz : Fz) (τ : Tau) : Option T → Option SS
  | some (.dn es) => some ⟨fset fz i (some (.dict ((.none, .bool true) :: ndD es))), tdel τ i⟩
  | _ => some ⟨fz, τ⟩
@[simp] theorem r_mFzN (i : Nat) (fz : Fz) (τ : Tau) : mFzN i ⟨fz, τ⟩ = fzNK i fz τ (tget τ i) := by
  unfold mFzN
  show (match tget τ i with
    | some (.dn es) => _
    | _ => _) = _
  cases tget τ i with
  | none => rfl
  | some t => cases t <;> rfl
@[simp] theorem nd_nil : ndD [] = [] := rfl
@[simp] theorem nd_cons (p : NK × D) (es : List (NK × D)) : ndD (p :: es) = (p.1.data, p.2) :: ndD es := rfl
end Tl

namespace Tl
open PySem PySem.Spec PyProof.Rows L2
section
variable {X : Cx} {pos : Pos}
/-- {k: v} -/
def mDisp1N (mk mv : MV) : MV := fun ro τ => (mk ro τ).bind fun p => p.1.st.bind fun kd => (mv ro p.2).bind fun q => q.1.st.bind fun d => (keyN kd).map fun k => (.val (.dn [(k, d)]), q.2)
@[simp] def d1nK4 (τ : Tau) (d : D) (k : NK) : Option (R × Tau) := some (.val (.dn [(k, d)]), τ)
@[simp] def d1nK3 (kd : D) (τ : Tau) (d : D) : Option (R × Tau) := bd (keyN kd) (d1nK4 τ d)
@[simp] def d1nK2 (kd : D) : R × Tau → Option (R × Tau)
  | (r, τ) => bd r.st (d1nK3 kd τ)
@[simp] def d1nK1 (mv : MV) (ro : Ro) (τ : Tau) (kd : D) : Option (R × Tau) := bd (mv ro τ) (d1nK2 kd)
@[simp] def d1nK0 (mv : MV) (ro : Ro) : R × Tau → Option (R × Tau)
  | (r, τ) => bd r.st (d1nK1 mv ro τ)
@[simp] theorem r_mDisp1N (mk mv : MV) (ro : Ro) (τ : Tau) : mDisp1N mk mv ro τ = bd (mk ro τ) (d1nK0 mv ro) := bd_of fun a => bd_of fun b => bd_of fun c => bd_of fun d => bd_om fun e => rfl
end
end Tl

namespace Tl
open PySem PySem.Spec PyProof.Rows L2
def rngS : List Int → Option (List D)
  | [i, j, c] => if c = 2 ∧ (-8000000 ≤ i ∧ i ≤ 8000000) ∧ -8000000 ≤ j ∧ j ≤ 8000000 then some (rangeD i c ((j - i + 1) / 2).toNat) else none
  | _ => none
def iRngS (l : ML) : MI := fun ro τ => (l ro τ).bind fun p => (asInts p.1).bind fun ns => (rngS ns).map fun ds => (ds, p.2)
section
variable {X : Cx} {tg : Expr} {p pos : Pos}
end
@[simp] def rgSK3 (τ : Tau) (ds : List D) : Option (List D × Tau) := some (ds, τ)
@[simp] def rgSK2 (τ : Tau) (ns : List Int) : Option (List D × Tau) := bd (rngS ns) (rgSK3 τ)
@[simp] def rgSK : List R × Tau → Option (List D × Tau)
  | (rs, τ) => bd (asInts rs) (rgSK2 τ)
@[simp] theorem r_iRngS (l : ML) (ro : Ro) (τ : Tau) : iRngS l ro τ = bd (l ro τ) rgSK := bd_of fun a => bd_of fun b => bd_om fun c => rfl
@[simp] theorem rngS3 (i j c : Int) : rngS [i, j, c] = if c = 2 ∧ (-8000000 ≤ i ∧ i ≤ 8000000) ∧ -8000000 ≤ j ∧ j ≤ 8000000 then some (rangeD i c ((j - i + 1) / 2).toNat) else none := rfl
end Tl

namespace L2
open PySem PySem.Spec PyProof.Rows
section
variable {X : Cx}
def rCountD (K : PySem.W.Frag) : V → List V → Hp → VK → Prop := fun x xs H Q => ∃ (a : Addr) (y : V) (d : PyData) (ds : List PyData), x = V.ref a ∧ xs = [y] ∧ Dp K H (V.ref a) (.list ds) ∧ Dp K H y d ∧ PyData.plainAll ds = true ∧ d.plain = true ∧ PyData.depthAll ds ≤ 60 ∧ Q (.int ((ds.countP fun z => PyData.eqv z d : Nat) : Int)) H
theorem mt_countD (hu : X.A.units + 65 < cLine) : MtR X "list.count" (rCountD X.K) := by
  intro pins s σ H x xs v us Q I rx rxs h
  obtain ⟨a, y, d, ds, rfl, rfl, hl, hy, pl, pd, dd, q⟩ := h
  cases rx
  cases rxs with
  | cons ry rt =>
    rename_i uy ut
    cases rt
    obtain ⟨bs, r1⟩ := Dp.reads I d y uy hy ry
    cases hl with
    | lst hs ha =>
      obtain ⟨its, rv, hl, _⟩ := I.list hs
      obtain ⟨as, rs⟩ := Dp.readsAll I ds _ its ha rv
      exact PySem.SeqAt.count_list_data hl.isList (as := as) rs r1 pl pd (by
        have := Nat.min_le_left (PyData.depthAll ds) d.depth
        omega) ⟨.int _, H, I.tok _, ⟨s.toks, rfl⟩, q⟩
end
end L2
namespace Tl
open PySem PySem.Spec PyProof.Rows L2
def pCount : List D → Option D
  | [.list ds, d] => if SeqAt.shaped (.list ds) = true ∧ SeqAt.shaped d = true ∧ PyData.plainAll ds = true ∧ d.plain = true ∧ PyData.depthAll ds ≤ 60 then some (.int ((ds.countP fun z => PyData.eqv z d : Nat) : Int)) else none
  | _ => none
theorem vr_count {K : PySem.W.Frag} : VR K (fun vs H Q => ∃ x xs, vs = x :: xs ∧ rCountD K x xs H Q) (gp pCount) := VR.plain fun ds d e H vs Q r k => by
  match ds, e with
  | [.list es, a], e =>
    have e' : (if SeqAt.shaped (.list es) = true ∧ SeqAt.shaped a = true ∧ PyData.plainAll es = true ∧ a.plain = true ∧ PyData.depthAll es ≤ 60 then some (PyData.int ((es.countP fun z => PyData.eqv z a : Nat) : Int)) else none) = some d := e
    by_cases q : SeqAt.shaped (.list es) = true ∧ SeqAt.shaped a = true ∧ PyData.plainAll es = true ∧ a.plain = true ∧ PyData.depthAll es ≤ 60
    · rw [if_pos q] at e'
      cases e'
      obtain ⟨v, w, rfl, r1, r2⟩ := r.two
      have d1 := r1.dp _ (shaped_lay q.1)
      have d2 := r2.dp a (shaped_lay q.2.1)
      have hv : ∃ p, v = .ref p := by
        cases r1 with
        | lst hh _ _ => exact ⟨_, rfl⟩
      obtain ⟨p, rfl⟩ := hv
      exact ⟨_, _, rfl, p, w, a, es, rfl, rfl, d1, d2, q.2.2.1, q.2.2.2.1, q.2.2.2.2, k _ fun F => .int _⟩
    · rw [if_neg q] at e'
      cases e'
  | [], e => cases e
  | [_], e => simp [pCount] at e
  | _ :: _ :: _ :: _, e => simp [pCount] at e
  | [.none, _], e => cases e
  | [.bool _, _], e => cases e
  | [.int _, _], e => cases e
  | [.str _, _], e => cases e
  | [.tuple _, _], e => cases e
  | [.dict _, _], e => cases e
@[simp] theorem p_count (ds : List D) (d : D) : pCount [.list ds, d] = if SeqAt.shaped (.list ds) = true ∧ SeqAt.shaped d = true ∧ PyData.plainAll ds = true ∧ d.plain = true ∧ PyData.depthAll ds ≤ 60 then some (.int ((ds.countP fun z => PyData.eqv z d : Nat) : Int)) else none := rfl
end Tl

namespace Tl
open PySem PySem.Spec PyProof.Rows L2
def andI (a b : Int) : Int := ((a.toNat &&& b.toNat : Nat) : Int)
def orI (a b : Int) : Int := ((a.toNat ||| b.toNat : Nat) : Int)
@[simp] theorem andI_nat (a b : Nat) : andI (a : Int) (b : Int) = ((a &&& b : Nat) : Int) := rfl
@[simp] theorem orI_nat (a b : Nat) : orI (a : Int) (b : Int) = ((a ||| b : Nat) : Int) := rfl
end Tl

namespace Tl
open PySem PySem.Spec PyProof.Rows L2
section
variable {X : L2.Cx} {K : PySem.W.Frag} {F F' B H : Hp}
def gIxT : List R → Option R
  | [.val (.tup ts), .val (.leaf (.int i))] => (atI ts i).map .val
  | rs => gIx rs
end
@[simp] theorem r_gIxT (ts : List T) (i : Int) : gIxT [.val (.tup ts), .val (.leaf (.int i))] = (atI ts i).map .val := rfl
end Tl

namespace Tl
open PySem PySem.Spec PyProof.Rows L2
section
variable {X : Cx} {Pr : List Nat} {st1 st2 : Stmt} {sts : List Stmt} {c o1 o2 ev rows ix : Expr} {pos pos2 : Pos} {x1 x2 y : Nat} {mc : MB} {mp1 mp2 : MP} {me mi : MV}
/-- the store by the second name: the tree u of slot x stands behind glass, its part at the place is is the value of slot y -/
def mAlSt (x : Nat) (u : T) (is : List Int) (w : T) (me mi : MV) : MS := fun s => (me ⟨s.fz, [(x, u)]⟩ s.ow).bind fun p => p.1.st.bind fun d => (mi ⟨s.fz, [(x, u)]⟩ p.2).bind fun r => (asI r.1).bind fun i =>
  (gPut i w [d]).bind fun z => (setP u is z.2).map fun u' => .nx ⟨s.fz, tset r.2 x u'⟩
/-- y = a[..] if c else b[..] : then what follows -/
def mAls (mc : MB) (x1 : Nat) (mp1 : MP) (x2 : Nat) (mp2 : MP) (y : Nat) (k : Nat → T → List Int → T → MS) : MS := fun s => (mc ⟨s.fz, []⟩ s.ow).bind fun p => if p.1 = true then
    (tget p.2 x1).bind fun u => (mp1 u ⟨s.fz, [(x1, u)]⟩ (tset p.2 x1 .hole)).bind fun q => k x1 u q.1.1 q.1.2 ⟨fset s.fz y none, tdel q.2 y⟩
  else (tget p.2 x2).bind fun u => (mp2 u ⟨s.fz, [(x2, u)]⟩ (tset p.2 x2 .hole)).bind fun q => k x2 u q.1.1 q.1.2 ⟨fset s.fz y none, tdel q.2 y⟩
/-- .. the slot must be there -/
def mAl2 (y : Nat) (m : MS) : MS := fun s => if y < s.fz.length then m s else none
/-- the second name let go -/
def mAlNo (x : Nat) (u : T) : MS := fun s => some (.nx ⟨s.fz, tset s.ow x u⟩)
/-- y = a[..] if c else b[..]; if d: y[k] = e -/
def mAlIf (mt : MB) (x : Nat) (u : T) (is : List Int) (w : T) (me mi : MV) : MS := fun s => (mt ⟨s.fz, [(x, u)]⟩ s.ow).bind fun p => if p.1 = true then mAlSt x u is w me mi ⟨s.fz, p.2⟩ else mAlNo x u ⟨s.fz, p.2⟩
end
abbrev AlK := Nat → T → List Int → T → MS
@[simp] def alK0 (m : MS) (s : SS) : Bool → Option Out
  | true => m s
  | false => none
@[simp] theorem r_mAl2 (y : Nat) (m : MS) (fz : Fz) (τ : Tau) : mAl2 y m ⟨fz, τ⟩ = alK0 m ⟨fz, τ⟩ (decide (y < fz.length)) := by
  unfold mAl2
  by_cases q : y < fz.length
  · simp [q]
  · simp [q]
@[simp] def alsK4 (x y : Nat) (k : AlK) (fz : Fz) (u : T) : (List Int × T) × Tau → Option Out
  | ((is, w), τ) => k x u is w ⟨fset fz y none, tdel τ y⟩
@[simp] def alsK3 (x : Nat) (mp : MP) (y : Nat) (k : AlK) (fz : Fz) (τ : Tau) (u : T) : Option Out := bd (mp u ⟨fz, [(x, u)]⟩ (tset τ x .hole)) (alsK4 x y k fz u)
@[simp] def alsK2 (x1 : Nat) (mp1 : MP) (x2 : Nat) (mp2 : MP) (y : Nat) (k : AlK) (fz : Fz) (τ : Tau) : Bool → Option Out
  | true => bd (tget τ x1) (alsK3 x1 mp1 y k fz τ)
  | false => bd (tget τ x2) (alsK3 x2 mp2 y k fz τ)
@[simp] def alsK (x1 : Nat) (mp1 : MP) (x2 : Nat) (mp2 : MP) (y : Nat) (k : AlK) (fz : Fz) : Bool × Tau → Option Out
  | (b, τ) => alsK2 x1 mp1 x2 mp2 y k fz τ b
@[simp] theorem r_mAls (mc : MB) (x1 : Nat) (mp1 : MP) (x2 : Nat) (mp2 : MP) (y : Nat) (k : AlK) (fz : Fz) (τ : Tau) : mAls mc x1 mp1 x2 mp2 y k ⟨fz, τ⟩ = bd (mc ⟨fz, []⟩ τ) (alsK x1 mp1 x2 mp2 y k fz) := bd_of fun a => by
  obtain ⟨b, τ'⟩ := a
  cases b with
  | true =>
    rw [if_pos rfl]
    exact bd_of fun u => bd_of fun q => rfl
  | false =>
    rw [if_neg Bool.false_ne_true]
    exact bd_of fun u => bd_of fun q => rfl
@[simp] def asK5 (x : Nat) (u : T) (is : List Int) (w : T) (fz : Fz) (d : D) (τ : Tau) (i : Int) : Option Out := bd (gPut i w [d]) (spK7 x fz u is τ)
@[simp] def asK4 (x : Nat) (u : T) (is : List Int) (w : T) (fz : Fz) (d : D) : R × Tau → Option Out
  | (r, τ) => bd (asI r) (asK5 x u is w fz d τ)
@[simp] def asK3 (x : Nat) (u : T) (is : List Int) (w : T) (mi : MV) (fz : Fz) (τ : Tau) (d : D) : Option Out := bd (mi ⟨fz, [(x, u)]⟩ τ) (asK4 x u is w fz d)
@[simp] def asK2 (x : Nat) (u : T) (is : List Int) (w : T) (mi : MV) (fz : Fz) : R × Tau → Option Out
  | (r, τ) => bd r.st (asK3 x u is w mi fz τ)
@[simp] theorem r_mAlSt (x : Nat) (u : T) (is : List Int) (w : T) (me mi : MV) (fz : Fz) (τ : Tau) : mAlSt x u is w me mi ⟨fz, τ⟩ = bd (me ⟨fz, [(x, u)]⟩ τ) (asK2 x u is w mi fz) :=
  bd_of fun a => bd_of fun b => bd_of fun c => bd_of fun d => bd_of fun e => bd_om fun f => rfl
@[simp] theorem r_mAlNo (x : Nat) (u : T) (fz : Fz) (τ : Tau) : mAlNo x u ⟨fz, τ⟩ = some (.nx ⟨fz, tset τ x u⟩) := rfl
@[simp] def aiK2 (x : Nat) (u : T) (is : List Int) (w : T) (me mi : MV) (fz : Fz) (τ : Tau) : Bool → Option Out
  | true => mAlSt x u is w me mi ⟨fz, τ⟩
  | false => mAlNo x u ⟨fz, τ⟩
@[simp] def aiK (x : Nat) (u : T) (is : List Int) (w : T) (me mi : MV) (fz : Fz) : Bool × Tau → Option Out
  | (b, τ) => aiK2 x u is w me mi fz τ b
@[simp] theorem r_mAlIf (mt : MB) (x : Nat) (u : T) (is : List Int) (w : T) (me mi : MV) (fz : Fz) (τ : Tau) : mAlIf mt x u is w me mi ⟨fz, τ⟩ = bd (mt ⟨fz, [(x, u)]⟩ τ) (aiK x u is w me mi fz) := bd_of fun a => by
  obtain ⟨b, τ'⟩ := a
  cases b with
  | true => rfl
  | false => rfl
end Tl

namespace Tl
open PySem PySem.Spec PyProof.Rows L2
def mForT (y x : Nat) (ml mh : MO) (body : MS) : MS := fun s => (tget s.ow y).bind fun u => (ml ⟨s.fz, [(y, u)]⟩ (tset s.ow y .hole)).bind fun p => (mh ⟨s.fz, [(y, u)]⟩ p.2).bind fun q => match u, p.1, q.1 with
  | .tup (t0 :: ts), some 1, none => (forOL x body ts.length 0 ts ⟨s.fz, q.2⟩).bind fun r => endO y (.tup (t0 :: r.1)) r.2
  | _, _, _ => none
section
variable {X : Cx} {Pr : List Nat}
end
@[simp] def ftK4 (y : Nat) (t0 : T) : List T × Out → Option Out
  | (ts, o2) => endO y (.tup (t0 :: ts)) o2
@[simp] theorem r_mForT (y x : Nat) (ml mh : MO) (body : MS) (fz : Fz) (τ : Tau) : mForT y x ml mh body ⟨fz, τ⟩ = bd (tget τ y) fun u => bd (ml ⟨fz, [(y, u)]⟩ (tset τ y .hole)) fun p => bd (mh ⟨fz, [(y, u)]⟩ p.2) fun q => match u, p.1, q.1 with
  | .tup (t0 :: ts), some 1, none => bd (forOL x body ts.length 0 ts ⟨fz, q.2⟩) (ftK4 y t0)
  | _, _, _ => none := rfl
end Tl

namespace Tl
open PySem PySem.Spec PyProof.Rows L2
section
variable {K : PySem.W.Frag}
abbrev MIV := Ro → Tau → Option (List T × Tau)
def lcLoopV (x : Nat) (vs : List Nat) (me : MV) (fw : Fz) (vw : Tau) : List T → List D → Tau → Option (List D × Tau)
  | [], acc, τ => some (acc, τ)
  | t :: ts, acc, τ => (me ⟨fw, (x, t) :: vw⟩ τ).bind fun q => q.1.st.bind fun y => lcLoopV x vs me fw vw ts (acc ++ [y]) (tout vs q.2)
def mLcV (x : Nat) (vs : List Nat) (mi : MIV) (me : MV) : MV := fun ro τ => (mi ro τ).bind fun p => if x < ro.fz.length then (lcLoopV x vs me (fwipe ro.fz vs) (tout vs ro.vw) p.1 [] (tout vs p.2)).map fun q => (.val (.fl q.1), q.2) else none
theorem OwnL.at {F H : Hp} : ∀ {xs : List V} {ts : List T} {A : List Addr} {i : Nat} {v : V} {t : T}, OwnL K F H xs ts A → xs[i]? = some v → ts[i]? = some t → ∃ B, Own K F H v t B
  | _, _, _, i, v, t, .nil, e, _ => by cases e
  | _, _, _, 0, v, t, .cons o _, e, e' => by
    cases e
    cases e'
    exact ⟨_, o⟩
  | _, _, _, i + 1, v, t, .cons _ l, e, e' => OwnL.at l e e'
end
section
variable {X : Cx} {scope : Scope} {elt tg iter : Expr} {own : List (Str × Nat)} {pos : Pos} {mi : MIV} {me : MV}
/-- y, an owned list of owned things -/
def iSeeV (y : Nat) : MIV := fun ro τ => (tget ro.vw y).bind fun u => match u with
  | .ls ts => some (ts, τ)
  | _ => none
/-- y[1:], y an owned tuple -/
def iCutV (y : Nat) (ml mh : MO) : MIV := fun ro τ => (tget ro.vw y).bind fun u => (ml ro τ).bind fun p => (mh ro p.2).bind fun q => match u, p.1, q.1 with
  | .tup (_ :: ts), some 1, none => some (ts, q.2)
  | _, _, _ => none
end
@[simp] theorem r_iSeeV (y : Nat) (ro : Ro) (τ : Tau) : iSeeV y ro τ = bd (tget ro.vw y) fun u => match u with
  | .ls ts => some (ts, τ)
  | _ => none := rfl
@[simp] theorem r_iCutV (y : Nat) (ml mh : MO) (ro : Ro) (τ : Tau) : iCutV y ml mh ro τ = bd (tget ro.vw y) fun u => bd (ml ro τ) fun p => bd (mh ro p.2) fun q => match u, p.1, q.1 with
  | .tup (_ :: ts), some 1, none => some (ts, q.2)
  | _, _, _ => none := rfl
@[simp] def lcvK2 : List D × Tau → Option (R × Tau)
  | (ds, τ) => some (.val (.fl ds), τ)
@[simp] theorem r_mLcV (x : Nat) (vs : List Nat) (mi : MIV) (me : MV) (fz : Fz) (vw τ : Tau) : mLcV x vs mi me ⟨fz, vw⟩ τ = bd (mi ⟨fz, vw⟩ τ) fun p => if x < fz.length then bd (lcLoopV x vs me (fwipe fz vs) (tout vs vw) p.1 [] (tout vs p.2)) lcvK2 else none := bd_of fun a => by
  by_cases q : x < fz.length
  · rw [if_pos q, if_pos q]
    cases lcLoopV x vs me (fwipe fz vs) (tout vs vw) a.1 [] (tout vs a.2) <;> rfl
  · rw [if_neg q, if_neg q]
end Tl

namespace Tl
open PySem PySem.Spec PyProof.Rows L2
/-- the class of a caught exception -/
def xcls : D → Option Str
  | .dict ((.none, .str c) :: _) => some c
  | _ => none
/-- what is asked of classes: (a class, another one, whether the first is the other one or below it) -/
abbrev Kin := List (Str × Str × Bool)
def kinB (R : Kin) (c c' : Str) : Option Bool := (R.find? fun p => decide (p.1 = c) && decide (p.2.1 = c')).map (·.2.2)
structure KinOk (K : PySem.W.Frag) (R : Kin) : Prop where
  ok : ∀ p ∈ R, ∀ C C', PySem.W.nsIn K mainGlobals p.1 = some (some (.ref C)) → PySem.W.nsIn K mainGlobals p.2.1 = some (some (.ref C')) → PySem.W.kitOne K (.ref C) (.ref C') = some p.2.2
section
variable {K : PySem.W.Frag} {H : Hp}
theorem kin_of {R : Kin} (h : KinOk K R) {c c' : Str} {b : Bool} (e : kinB R c c' = some b) {C C' : Addr} (h1 : PySem.W.nsIn K mainGlobals c = some (some (.ref C))) (h2 : PySem.W.nsIn K mainGlobals c' = some (some (.ref C'))) : PySem.W.kitOne K (.ref C) (.ref C') = some b := by
  obtain ⟨p, e1, e2⟩ := Option.map_eq_some_iff.mp e
  have m := List.mem_of_find?_eq_some e1
  have q := List.find?_some e1
  simp only [Bool.and_eq_true, decide_eq_true_iff] at q
  obtain ⟨rfl, rfl⟩ := q
  rw [← e2]
  exact h.ok p m C C' h1 h2
theorem repK_none {F : Hp} : ∀ {kvs : List (Key × V)} {es : List (D × D)}, RepK K F kvs es → ∀ p ∈ es, p.1 ≠ .none
  | _, _, .nil, _, m => nomatch m
  | _, _, .cons (k := k) (d := d) r t, p, m => by
    rcases List.mem_cons.mp m with rfl | m
    · cases k <;> exact fun z => nomatch z
    · exact repK_none t p m
theorem xcls_ty {v : V} {d : D} {c : Str} (r : Rep K H v d) (e : xcls d = some c) : ∃ C, TyZ K H v (.ref C) ∧ XcC K C ∧ PySem.W.nsIn K mainGlobals c = some (some (.ref C)) := by
  cases r with
  | @dk a kvs es h1 h2 =>
    cases h2 with
    | nil => cases e
    | @cons k v vs d ds r t => cases k <;> cases e
  | dn => cases e
  | dl => cases e
  | xc h1 k n =>
    cases e
    exact ⟨_, .xc h1 k, k, n⟩
  | xf h1 k n g r =>
    cases e
    exact ⟨_, .xf h1 k g, k, n⟩
  | non => cases e
  | bl => cases e
  | int => cases e
  | str => cases e
  | lst => cases e
  | tup => cases e
end
section
variable {X : Cx} {e : Expr} {m : MV} {p pos cp tp : Pos} {kk : Nat} {c : Str} {R : Kin}
/-- isinstance(x, C), x a caught exception -/
def mIsx (R : Kin) (c : Str) (m : MV) : MV := fun ro τ => (m ro τ).bind fun q => q.1.er.bind fun d => (xcls d).bind fun c0 => (kinB R c0 c).map fun b => (rBool b, q.2)
/-- a class of the program, by its name -/
structure ClsN (X : Cx) (c : Str) : Prop where
  ok : ∃ C, X.mg c = some (.ref C) ∧ PySem.W.nsIn X.K mainGlobals c = some (some (.ref C))
theorem er_isx (hR : KinOk X.K R) (hc : ClsN X c) (h : ER X e m) (hgc : Gl X c) (hm : X.mg "isinstance" = none) (hg : Gl X "isinstance" := by rfl) (hv : bootBuiltins "isinstance" = some (.builtin "isinstance") := by decide +kernel) (hdb : (c == ("__debug__" : Str)) = false := by decide)
    (h1 : starEach [e, .Name c cp] X.env = (false, eval e X.env) :: starEach [.Name c cp] X.env := by rfl) (h2 : starEach [.Name c cp] X.env = (false, eval (.Name c cp) X.env) :: starEach [] X.env := by rfl) (hpl : (backTo pos (starEach [.Name c cp] X.env)).any (·.1) = false := by rfl) :
    ER X (.Call (.Name "isinstance" p) [e, .Name c cp] [] pos) (mIsx R c m) := ⟨fun ro τ r τ' em F B H σ A Q a k => by
  obtain ⟨⟨z, τ1⟩, e1, em⟩ := Option.bind_eq_some_iff.mp em
  obtain ⟨d, e2, em⟩ := Option.bind_eq_some_iff.mp em
  obtain ⟨c0, e3, em⟩ := Option.bind_eq_some_iff.mp em
  obtain ⟨b, e4, em⟩ := Option.map_eq_some_iff.mp em
  cases em
  obtain ⟨C, hmg, hns⟩ := hc.ok
  refine wE (pe_callB call_isiZ hg hm hv (pa_cons peW (pa_cons (pe_glob hgc hmg (v := .ref C) rfl hdb) pa_nil h2) h1) (by decide) (by decide) h1 hpl) (h.run ro τ z _ e1 F B H σ A _ a fun F1 H1 v A1 A2 g1 c1 o1 t1 => ?_)
  have rv : Rep X.K H1 v d := o1.rep c1.fh c1.bh (fun _ _ _ q => q) e2
  obtain ⟨C0, ty, _, hn0⟩ := xcls_ty rv e3
  exact ⟨v, .ref C, .ref C0, .ref C, b, rfl, .own C, ty, kin_of hR e4 hn0 hns, k F1 H1 _ [] A2 (g1.trans (Go.less fun _ m => List.mem_append_right _ m)) c1.right (.leaf (.bl _)) t1⟩⟩
/-- names of the program's own classes in a row -/
inductive NamesX (X : Cx) : List Expr → List Str → List Addr → Prop where
  | nil : NamesX X [] [] []
  | cons {c : Str} {p : Pos} {C : Addr} {es : List Expr} {cs : List Str} {Cs : List Addr} : Gl X c → X.mg c = some (.ref C) → PySem.W.nsIn X.K mainGlobals c = some (some (.ref C)) → (c == ("__debug__" : Str)) = false →
      starEach (.Name c p :: es) X.env = (false, eval (.Name c p) X.env) :: starEach es X.env → NamesX X es cs Cs → NamesX X (.Name c p :: es) (c :: cs) (C :: Cs)
theorem namesX_pa : ∀ {es : List Expr} {cs : List Str} {Cs : List Addr}, NamesX X es cs Cs → PA X es fun σ H Q => Q (Cs.map V.ref) H
  | _, _, _, .nil => pa_nil
  | _, _, _, .cons (C := C) hg hm _ hd hs t => pa_cons (pe_glob hg hm (v := .ref C) rfl hd) (namesX_pa t) hs
structure ClsNs (X : Cx) (es : List Expr) (cs : List Str) : Prop where
  ok : ∃ Cs, NamesX X es cs Cs
theorem clsNs_nil : ClsNs X [] [] := ⟨[], .nil⟩
theorem clsNs_cons {es : List Expr} {cs : List Str} (hc : ClsN X c) (t : ClsNs X es cs) (hgc : Gl X c := by rfl) (hdb : (c == ("__debug__" : Str)) = false := by decide) (hs : starEach (.Name c cp :: es) X.env = (false, eval (.Name c cp) X.env) :: starEach es X.env := by rfl) : ClsNs X (.Name c cp :: es) (c :: cs) := by
  obtain ⟨C, h1, h2⟩ := hc.ok
  obtain ⟨Cs, h⟩ := t.ok
  exact ⟨C :: Cs, .cons hgc h1 h2 hdb hs h⟩
/-- one of them -/
def anyIn (R : Kin) (c0 : Str) : List Str → Option Bool
  | [] => some false
  | c :: cs => (kinB R c0 c).bind fun b => if b = true then some true else anyIn R c0 cs
theorem kitAny_in {K : PySem.W.Frag} (hR : KinOk K R) {c0 : Str} {C0 : Addr} (h0 : PySem.W.nsIn K mainGlobals c0 = some (some (.ref C0))) : ∀ {cs : List Str} {Cs : List Addr} {b : Bool}, Paired (fun c C => PySem.W.nsIn K mainGlobals c = some (some (.ref C))) cs Cs → anyIn R c0 cs = some b → PySem.W.kitAny K (.ref C0) (Cs.map Value.ref) = some b
  | _, _, _, .nil, e => e
  | _, _, b, .cons (a := c) (l₁ := cs) (b := C) (l₂ := Cs) h t, e => by
    obtain ⟨q, e1, e2⟩ := Option.bind_eq_some_iff.mp (show (kinB R c0 c).bind _ = some b from e)
    have k := kin_of hR e1 h0 h
    show (match PySem.W.kitOne K (.ref C0) (.ref C) with
      | some true => some true
      | some false => PySem.W.kitAny K (.ref C0) (Cs.map Value.ref)
      | none => none) = some b
    rw [k]
    cases q with
    | true => exact e2
    | false => exact kitAny_in hR h0 t e2
theorem namesX_ns : ∀ {es : List Expr} {cs : List Str} {Cs : List Addr}, NamesX X es cs Cs → Paired (fun c C => PySem.W.nsIn X.K mainGlobals c = some (some (.ref C))) cs Cs ∧ Paired ClsV (Cs.map V.ref) (Cs.map Value.ref) ∧ Cs.length = es.length
  | _, _, _, .nil => ⟨.nil, .nil, rfl⟩
  | _, _, _, .cons _ _ h _ _ t => ⟨.cons h (namesX_ns t).1, .cons (.own _) (namesX_ns t).2.1, congrArg (· + 1) (namesX_ns t).2.2⟩
def mIsxT (R : Kin) (cs : List Str) (m : MV) : MV := fun ro τ => (m ro τ).bind fun q => q.1.er.bind fun d => (xcls d).bind fun c0 => (anyIn R c0 cs).map fun b => (rBool b, q.2)
theorem er_isxT {cs : List Str} {c1 : Expr} {es : List Expr} (hR : KinOk X.K R) (hc : ClsNs X (c1 :: es) cs) (hl : (c1 :: es).length ≤ 100) (h : ER X e m) (hm : X.mg "isinstance" = none) (hg : Gl X "isinstance" := by rfl) (hv : bootBuiltins "isinstance" = some (.builtin "isinstance") := by decide +kernel)
    (h1 : starEach [e, .Tuple (c1 :: es) kk tp] X.env = (false, eval e X.env) :: starEach [.Tuple (c1 :: es) kk tp] X.env := by rfl) (h2 : starEach [.Tuple (c1 :: es) kk tp] X.env = (false, eval (.Tuple (c1 :: es) kk tp) X.env) :: starEach [] X.env := by rfl) (hpl : (backTo pos (starEach [.Tuple (c1 :: es) kk tp] X.env)).any (·.1) = false := by rfl) :
    ER X (.Call (.Name "isinstance" p) [e, .Tuple (c1 :: es) kk tp] [] pos) (mIsxT R cs m) := ⟨fun ro τ r τ' em F B H σ A Q a k => by
  obtain ⟨⟨z, τ1⟩, e1, em⟩ := Option.bind_eq_some_iff.mp em
  obtain ⟨d, e2, em⟩ := Option.bind_eq_some_iff.mp em
  obtain ⟨c0, e3, em⟩ := Option.bind_eq_some_iff.mp em
  obtain ⟨b, e4, em⟩ := Option.map_eq_some_iff.mp em
  cases em
  obtain ⟨Cs, hn⟩ := hc.ok
  obtain ⟨n1, n2, n3⟩ := namesX_ns hn
  refine wE (pe_callB call_isiTZ hg hm hv (pa_cons peW (pa_cons (pe_tup (namesX_pa hn)) pa_nil h2) h1) (by decide) (by decide) h1 hpl) (h.run ro τ z _ e1 F B H σ A _ a fun F1 H1 v A1 A2 g1 c1 o1 t1 => ?_)
  have rv : Rep X.K H1 v d := o1.rep c1.fh c1.bh (fun _ _ _ q => q) e2
  refine ⟨by rw [sizeLine_eq, List.length_map, n3]; omega, fun p hp => ?_⟩
  obtain ⟨g2, c2⟩ := c1.right.newF (o := .tup (Cs.map V.ref)) hp
  have sm : Same H1 (upd H1 p (.tup (Cs.map V.ref))) := fun b u z => by
    rw [upd_ne (ne_of_none z hp)]
    exact z
  obtain ⟨C0, ty, _, hn0⟩ := xcls_ty (rv.mono sm) e3
  refine ⟨v, p, Cs.map V.ref, .ref C0, Cs.map Value.ref, b, rfl, upd_same, n2, ty, kitAny_in hR hn0 n1 e4, ?_⟩
  exact k _ _ _ [] A2 ((g1.trans (Go.less fun _ m => List.mem_append_right _ m)).trans g2) c2 (.leaf (.bl _)) (t1.stay g2.ff fun b m w q => sm b w q)⟩
/-- isinstance(x, ValueError) -/
def mIsxV (m : MV) : MV := fun ro τ => (m ro τ).bind fun q => q.1.er.bind fun d => (xcls d).map fun _ => (rBool true, q.2)
theorem er_isxV (h : ER X e m) (hm : X.mg "isinstance" = none) (hmv : X.mg "ValueError" = none) (hgv : Gl X "ValueError" := by rfl) (hg : Gl X "isinstance" := by rfl) (hv : bootBuiltins "isinstance" = some (.builtin "isinstance") := by decide +kernel) (hvv : bootBuiltins "ValueError" = some (.type "ValueError") := by decide +kernel)
    (h1 : starEach [e, .Name "ValueError" cp] X.env = (false, eval e X.env) :: starEach [.Name "ValueError" cp] X.env := by rfl) (h2 : starEach [.Name "ValueError" cp] X.env = (false, eval (.Name "ValueError" cp) X.env) :: starEach [] X.env := by rfl) (hpl : (backTo pos (starEach [.Name "ValueError" cp] X.env)).any (·.1) = false := by rfl) :
    ER X (.Call (.Name "isinstance" p) [e, .Name "ValueError" cp] [] pos) (mIsxV m) := ⟨fun ro τ r τ' em F B H σ A Q a k => by
  obtain ⟨⟨z, τ1⟩, e1, em⟩ := Option.bind_eq_some_iff.mp em
  obtain ⟨d, e2, em⟩ := Option.bind_eq_some_iff.mp em
  obtain ⟨c0, e3, em⟩ := Option.map_eq_some_iff.mp em
  cases em
  refine wE (pe_callB call_isiZ hg hm hv (pa_cons peW (pa_cons (pe_bltn hgv hmv hvv (v := .ty "ValueError") rfl (by decide) (by decide)) pa_nil h2) h1) (by decide) (by decide) h1 hpl) (h.run ro τ z _ e1 F B H σ A _ a fun F1 H1 v A1 A2 g1 c1 o1 t1 => ?_)
  have rv : Rep X.K H1 v d := o1.rep c1.fh c1.bh (fun _ _ _ q => q) e2
  obtain ⟨C0, ty, xc, hn0⟩ := xcls_ty rv e3
  exact ⟨v, .ty "ValueError", .ref C0, .type "ValueError", true, rfl, .ty _, ty, xc.ve, k F1 H1 _ [] A2 (g1.trans (Go.less fun _ m => List.mem_append_right _ m)) c1.right (.leaf (.bl _)) t1⟩⟩
/-- x.f, x a caught exception -/
def xfld (f : Str) (cs : List Str) : D → Option D
  | .dict [(.none, .str c), (.str g, d)] => if g = f ∧ c ∈ cs then some d else none
  | _ => none
def mXf (f : Str) (cs : List Str) (m : MV) : MV := fun ro τ => (m ro τ).bind fun q => q.1.st.bind fun d => (xfld f cs d).map fun z => (rd z, q.2)
/-- the classes of which f is no attribute -/
structure NoAt (K : PySem.W.Frag) (f : Str) (cs : List Str) : Prop where
  ok : ∀ c ∈ cs, ∀ C, PySem.W.nsIn K mainGlobals c = some (some (.ref C)) → PySem.W.findIn K (.ref C) f = some none
/-- the field of a caught exception, over the heap -/
def tXfH (K : PySem.W.Frag) (f : Str) (te : TE) : TE := fun σ H Q => te σ H fun x H1 => ∃ (a C dx : Addr) (v : V), x = .ref a ∧ H1 a = some (xcO a C (some dx)) ∧ H1 dx = some (.xd [(f, v)]) ∧ XcC K C ∧ PySem.W.findIn K (.ref C) f = some none ∧ Q v H1
theorem pe_xfH {f : Str} {te : TE} (he : PE X e te) (hb : attributeBase e f X.env (eval e X.env) = eval e X.env) : PE X (.Attribute e f pos) (tXfH X.K f te) := by
  refine ⟨fun pins s σ H Q I h => ?_⟩
  refine attr_of hb (thn (he.run pins s σ H _ I h) fun u s1 hh => ?_)
  obtain ⟨x, H1, I1, rx, a, C, dx, v, ex, ea, eg, k, hno, q⟩ := hh
  subst ex
  obtain rfl : u = Value.ref a := rx
  obtain ⟨⟨oe, vs, h1, h2, h3, h4⟩, _⟩ := (show ObjOk X.prog X.w H1 s1.heap a (xcO a C (some dx)) from I1.hok a _ ea)
  obtain ⟨mA, hns, hr⟩ := (show ObjOk X.prog X.w H1 s1.heap dx (.xd [(f, v)]) from I1.hok dx _ eg)
  obtain ⟨od, ho, hl⟩ := lookIn_ns hns
  have l : List.lookup f [(f, v)] = some v := by simp [List.lookup]
  obtain ⟨u, hu, ru⟩ := RelO.some_of (v := v) (o := mA f) (by rw [← l]; exact hr f)
  have J : PySem.W.InstAt s1.heap a oe C (some od) := ⟨h1, h2, by unfold PySem.W.notCls; rw [h4] <;> rfl, by rw [h3]; exact ho⟩
  exact HandSPX.exc_get I1.kIn J k.ga k.gg k.ex (PySem.W.findObj_own k.hd hno rfl (by rw [hl, hu])) (handed_of ru) ⟨v, H1, I1.tok _, ru, q⟩
theorem er_xf {f : Str} {cs : List Str} (hF : NoAt X.K f cs) (h : ER X e m) (hb : attributeBase e f X.env (eval e X.env) = eval e X.env := by rfl) : ER X (.Attribute e f pos) (mXf f cs m) := ⟨fun ro τ r τ' em F B H σ A Q a kk => by
  obtain ⟨⟨z, τ1⟩, e1, em⟩ := Option.bind_eq_some_iff.mp em
  obtain ⟨d, e2, em⟩ := Option.bind_eq_some_iff.mp em
  obtain ⟨y, e3, em⟩ := Option.map_eq_some_iff.mp em
  cases em
  refine wE (pe_xfH peW hb) (h.run ro τ z _ e1 F B H σ A _ a fun F1 H1 v A1 A2 g1 c1 o1 t1 => ?_)
  obtain ⟨F2, g2, c2, s2, rv⟩ := o1.freeze c1 e2
  match d, e3, rv with
  | .dict [(.none, .str c), (.str g, x)], e3, rv =>
    have e3 : (if g = f ∧ c ∈ cs then some x else none) = some y := e3
    by_cases q : g = f ∧ c ∈ cs
    · rw [if_pos q] at e3
      cases e3
      obtain ⟨rfl, mc⟩ := q
      cases rv with
      | dk h1 h2 => exact absurd rfl (repK_none h2 _ List.mem_cons_self)
      | xf h1 k n gg r => exact ⟨_, _, _, _, rfl, c2.fh _ _ h1, c2.fh _ _ gg, k, hF.ok c mc _ n, kk F2 H1 _ [] A2 (g1.trans g2) c2 (.leaf r) (t1.stay s2 fun _ _ _ q => q)⟩
    · rw [if_neg q] at e3
      cases e3⟩
end
end Tl

namespace Tl
open PySem PySem.Spec PyProof.Rows L2
/-- how a piece ends that may raise -/
inductive OX where
  | o (o : Out)
  | xc (c : Str) (fs : List (Str × D)) (s : SS)
abbrev MSX := SS → Option OX
/-- an exception in the air: its class, its dict -/
def XcAt (K : PySem.W.Frag) (F : Hp) (c : Str) (fs : List (Str × D)) (cls : Value) (d : Option Addr) : Prop :=
  ∃ C, cls = .ref C ∧ XcC K C ∧ PySem.W.nsIn K mainGlobals c = some (some (.ref C)) ∧ ((fs = [] ∧ d = none) ∨ ∃ f x dx v, fs = [(f, x)] ∧ d = some dx ∧ F dx = some (.xd [(f, v)]) ∧ Rep K F v x)
theorem XcAt.mono {K : PySem.W.Frag} {F F' : Hp} {c : Str} {fs : List (Str × D)} {cls : Value} {d : Option Addr} (h : XcAt K F c fs cls d) (s : Same F F') : XcAt K F' c fs cls d := by
  obtain ⟨C, e, k, n, h⟩ := h
  refine ⟨C, e, k, n, ?_⟩
  rcases h with h | ⟨f, x, dx, v, h1, h2, h3, h4⟩
  · exact .inl h
  · exact .inr ⟨f, x, dx, v, h1, h2, s _ _ h3, h4.mono s⟩
def OXOk (K : PySem.W.Frag) (Pr : List Nat) (F H : Hp) (σ : L2.St) (A : List Addr) (D : Ends) (W : WX) : OX → Prop
  | .o o => OutOk K Pr F H σ A D o
  | .xc c fs s => ∀ (F' H' : Hp) (σ' : L2.St) (A' : List Addr) (cls : Value) (d : Option Addr), Go F H A F' H' A' → SAt K F' H' σ' s A' → Agree Pr σ σ' → XcAt K F' c fs cls d → W cls d σ' H'
theorem OXOk.behind {K : PySem.W.Frag} {Pr : List Nat} {F H F1 H1 : Hp} {σ σ1 : L2.St} {A A1 : List Addr} {D : Ends} {W : WX} {o : OX} (k : OXOk K Pr F H σ A D W o) (g : Go F H A F1 H1 A1) (e : Agree Pr σ σ1) : OXOk K Pr F1 H1 σ1 A1 D W o := by
  cases o with
  | o o => exact OutOk.behind k g e
  | xc c fs s => exact fun F' H' σ' A' cls d g' a e' x => k F' H' σ' A' cls d (g.trans g') a (fun i m => (e' i m).trans (e i m)) x
structure SXV (X : Cx) (Pr : List Nat) (t : TS) (m : MSX) : Prop where
  run : ∀ (W : WX), Takes X W → ∀ (s : SS) (o : OX), m s = some o → ∀ (F H : Hp) (σ : L2.St) (A : List Addr) (D : Ends), SAt X.K F H σ s A → OXOk X.K Pr F H σ A D W o → t D σ H
abbrev SX (X : Cx) (Pr : List Nat) (st : Stmt) (m : MSX) : Prop := SXV X Pr (wpS X st) m
abbrev SXs (X : Cx) (Pr : List Nat) (st : List Stmt) (m : MSX) : Prop := SXV X Pr (wpB X st) m
section
variable {X : Cx} {Pr : List Nat} {st : Stmt} {sts : List Stmt} {e : Expr} {pos : Pos} {i : Nat}
theorem wpS_nox {D : Ends} {σ : L2.St} {H : Hp} (h : wpS X.nox st D σ H) : wpS X st D σ H := fun pins s I =>
  wpAny_mono (h pins s (I.wish _)) (fun _ _ q => q.unwish) fun _ _ z => False.elim z
theorem wpT_nox {σ : L2.St} {H : Hp} {Q : Bool → Hp → Prop} (h : wpT X.nox e σ H Q) : wpT X e σ H Q := wT (PT.nox ptW) h
theorem wpE_nox {σ : L2.St} {H : Hp} {Q : VK} (h : wpE X.nox e σ H Q) : wpE X e σ H Q := wE (PE.nox peW) h
theorem tr_nox {m : MB} (h : TR X.nox e m) : TR X e m := ⟨fun ro τ r τ' em F B H σ A Q a k => wpT_nox (h.run ro τ r τ' em F B H σ A Q a k)⟩
theorem er_nox {m : MV} (h : ER X.nox e m) : ER X e m := ⟨fun ro τ r τ' em F B H σ A Q a k => wpE_nox (h.run ro τ r τ' em F B H σ A Q a k)⟩
/-- a plain statement -/
def oX (m : MS) : MSX := fun s => (m s).map .o
theorem sx_o {m : MS} (h : SR X.nox Pr st m) : SX X Pr st (oX m) := ⟨fun W tk s o em F H σ A D a k => by
  obtain ⟨o1, e1, e2⟩ := Option.map_eq_some_iff.mp em
  subst e2
  exact wpS_nox (h.run s o1 e1 F H σ A D a k)⟩
def mSeqX (m n : MSX) : MSX := fun s => (m s).bind fun o => match o with
  | .o (.nx s') => n s'
  | .o o => some (.o o)
  | .xc c fs s' => some (.xc c fs s')
def mNxX : MSX := fun s => some (.o (.nx s))
theorem sx_nil : SXs X Pr [] mNxX := ⟨fun W tk s o em F H σ A D a k => by
  cases em
  exact wB pss_nil (k F H σ A Go.refl a Agree.refl)⟩
theorem sx_cons {m n : MSX} (h : SX X Pr st m) (t : SXs X Pr sts n) : SXs X Pr (st :: sts) (mSeqX m n) := ⟨fun W tk s o em F H σ A D a k => by
  obtain ⟨o1, e1, em⟩ := Option.bind_eq_some_iff.mp em
  refine wB (pss_cons psW pssW) (h.run W tk s o1 e1 F H σ A _ a ?_)
  cases o1 with
  | xc c fs s1 =>
    cases em
    exact k
  | o o1 =>
    cases o1 with
    | nx s1 => exact fun F' H' σ' A' g' a' e' => t.run W tk s1 o em F' H' σ' A' D a' (k.behind g' e')
    | rt t s1 =>
      cases em
      exact k
    | bk s1 =>
      cases em
      exact k
    | ct s1 =>
      cases em
      exact k⟩
def mIfX (c : MXB) (m n : MSX) : MSX := fun s => (c s).bind fun p => if p.1 = true then m p.2 else n p.2
theorem sx_if {c : Expr} {as bs : List Stmt} {mc : MB} {m n : MSX} (hc : TR X.nox c mc) (h : SXs X Pr as m) (h' : SXs X Pr bs n) : SX X Pr (.If c as bs pos) (mIfX (mXB mc) m n) := ⟨fun W tk s o em F H σ A D a k => by
  obtain ⟨⟨b, s1⟩, e1, em⟩ := Option.bind_eq_some_iff.mp em
  refine wS (ps_if ptW pssW pssW) ((xb (tr_nox hc)).run s b s1 e1 F H σ A _ a fun F1 H1 A1 g1 a1 => ?_)
  cases b with
  | true =>
    rw [if_pos rfl] at em ⊢
    exact h.run W tk s1 o em F1 H1 σ A1 D a1 (k.behind g1 Agree.refl)
  | false =>
    rw [if_neg Bool.false_ne_true] at em ⊢
    exact h'.run W tk s1 o em F1 H1 σ A1 D a1 (k.behind g1 Agree.refl)⟩
def forLX (ws : List Nat) (mt : MG) (body : MSX) : List D → SS → Option OX
  | [], s => some (.o (.nx s))
  | d :: ds, s => (mt d s.fz).bind fun fz => (body ⟨fz, tout ws s.ow⟩).bind fun o => match o with
    | .o (.nx s1) => forLX ws mt body ds s1
    | .o (.ct s1) => forLX ws mt body ds s1
    | .o (.bk s1) => some (.o (.nx s1))
    | .o (.rt t s1) => some (.o (.rt t s1))
    | .xc c fs s1 => some (.xc c fs s1)
def mForX (ws : List Nat) (mi : MXI) (mt : MG) (body : MSX) : MSX := fun s => (mi s).bind fun p => forLX ws mt body p.1 p.2
theorem sx_for {ws : List Nat} {tg iter : Expr} {body : List Stmt} {mi : MI} {mt : MG} {mb : MSX} (hp : PassesOwn (model X.prog X.w) X.A X.env X.xe) (hc : X.calm = true) (hi : IR X tg iter mi) (hg : GR X tg ws mt) (hb : SXs X Pr body mb)
    (hw : ∀ j ∈ ws, j ∉ Pr := by decide) (hs : ∀ x, foldedSetIterable iter X.env x = pure x := by intro _; rfl) : SX X Pr (.For tg iter body [] pos) (mForX ws (mXI mi) mt mb) := ⟨fun W tk s o em F H σ A D a k => by
  obtain ⟨⟨ds, s1⟩, e1, em⟩ := Option.bind_eq_some_iff.mp em
  refine wS (ps_for hp hc piW pgW pssW hs) ((xi hi).run s ds s1 e1 F H σ A _ a fun F1 H1 A1 J g1 a1 src => ?_)
  have k1 := k.behind g1 (Agree.refl (σ := σ))
  refine ⟨fun i m σi Hi => m = ds.length - i ∧ i ≤ ds.length ∧ ∃ (Fi : Hp) (si : SS) (Ai : List Addr), forLX ws mt mb (ds.drop i) si = some o ∧ Go F1 H1 A1 Fi Hi Ai ∧ SAt X.K Fi Hi σi si Ai ∧ Agree Pr σ σi,
    ⟨ds.length, by omega, Nat.zero_le _, F1, s1, A1, em, Go.refl, a1, Agree.refl⟩, ?_⟩
  rintro i m σi Hi ⟨rfl, hi', Fi, si, Ai, el, gi, ai, ag⟩
  have ki := k1.behind gi ag
  by_cases hlt : i < ds.length
  · refine .inr ?_
    have ei : ds[i]? = some ds[i] := List.getElem?_eq_getElem hlt
    refine ⟨src.go Fi Hi gi.ff ai.cn.fh same_noH i _ ei, fun σ' H' => ∃ (Fi : Hp) (si : SS) (Ai : List Addr), forLX ws mt mb (ds.drop (i + 1)) si = some o ∧ Go F1 H1 A1 Fi H' Ai ∧ SAt X.K Fi H' σ' si Ai ∧ Agree Pr σ σ',
      fun σ' H' q => ⟨ds.length - (i + 1), by omega, rfl, hlt, q⟩, fun x H2 y => ?_⟩
    obtain ⟨F2, w1, rx⟩ := src.yld Fi Hi gi.ff ai.cn.fh same_noH i _ ei x H2 y
    obtain ⟨g2, c2⟩ := w1 noH Ai ai.cn
    have stand : ∀ (b : Addr) (u : HO), Hi b = some u → H2 b = some u := fun b u q => (w1 noH [] ⟨ai.cn.fh, same_noH, .nil, (fun _ z => nomatch z), (fun _ z => nomatch z), (fun _ z => nomatch z)⟩).1.keep b u (fun z => nomatch z) q
    have t2 := ai.ow.stay g2.ff fun b _ u q => stand b u q
    rw [List.drop_eq_getElem_cons hlt] at el
    obtain ⟨fz, f1, el⟩ := Option.bind_eq_some_iff.mp el
    obtain ⟨ob, f2, el⟩ := Option.bind_eq_some_iff.mp el
    refine hg.run _ _ fz f1 F2 H2 σi x _ rx c2.fh (ai.fz.mono g2.ff) fun σ2 o2 l2 k2 => ?_
    obtain ⟨A3, t3, n3, s3⟩ := t2.offs c2.nd ws k2
    have ag2 : Agree Pr σi σ2 := fun j m => k2 j fun z => hw j z m
    have g3 : Go Fi Hi Ai F2 H2 A3 := g2.trans (Go.less s3)
    refine hb.run W tk _ ob f2 F2 H2 σ2 A3 _ ⟨c2.sub n3 s3, o2, t3⟩ ?_
    have k2' := ki.behind g3 ag2
    cases ob with
    | xc c fs s4 =>
      cases el
      exact k2'
    | o ob =>
      cases ob with
      | nx s4 => exact fun F' H' σ' A' g' a' e' => ⟨F', s4, A', el, (gi.trans g3).trans g', a', fun j m => ((e' j m).trans (ag2 j m)).trans (ag j m)⟩
      | ct s4 => exact fun F' H' σ' A' g' a' e' => ⟨F', s4, A', el, (gi.trans g3).trans g', a', fun j m => ((e' j m).trans (ag2 j m)).trans (ag j m)⟩
      | bk s4 =>
        cases el
        exact fun F' H' σ' A' g' a' e' => k2' F' H' σ' A' g' a' e'
      | rt t s4 =>
        cases el
        exact fun F' H' σ' v A1 A2 g' c o f t e' => k2' F' H' σ' v A1 A2 g' c o f t e'
  · have e : i = ds.length := by omega
    subst e
    rw [List.drop_length] at el
    cases el
    exact .inl ⟨src.stop Fi Hi gi.ff ai.cn.fh same_noH _ (Nat.le_refl _), ki Fi Hi σi Ai Go.refl ai Agree.refl⟩⟩
end
end Tl

namespace Tl
open PySem PySem.Spec PyProof.Rows L2
/-- what a def tells: a result, or an exception; what its owned arguments are behind it -/
abbrev MFX := List T → Option ((T × List T) ⊕ (Str × List (Str × D) × List T))
def FxOk (K : PySem.W.Frag) (F H : Hp) (A : List Addr) (vs : List V) (Q : VK) (E : XK) : (T × List T) ⊕ (Str × List (Str × D) × List T) → Prop
  | .inl (r, ts') => ∀ (F' H' : Hp) (v : V) (A1 A2 : List Addr), Go F H A F' H' (A1 ++ A2) → Cn F' noH H' (A1 ++ A2) → Own K F' H' v r A1 → OwnL K F' H' vs ts' A2 → Q v H'
  | .inr (c, fs, ts') => ∀ (F' H' : Hp) (cls : Value) (d : Option Addr) (A2 : List Addr), Go F H A F' H' A2 → Cn F' noH H' A2 → OwnL K F' H' vs ts' A2 → XcAt K F' c fs cls d → E cls d H'
def spXM (K : PySem.W.Frag) (n : Nat) (m : MFX) : Sp := fun vs H Q E => vs.length = n ∧ ∃ (F : Hp) (A : List Addr) (ts : List T) (o : (T × List T) ⊕ (Str × List (Str × D) × List T)), Cn F noH H A ∧ OwnL K F H vs ts A ∧ m ts = some o ∧ FxOk K F H A vs Q E o
def fnXK (ks : List Bool) (ts : List T) : OX → Option ((T × List T) ⊕ (Str × List (Str × D) × List T))
  | .o (.nx s) => (outT 0 ks ts s.ow).map fun ts' => .inl (.leaf .none, ts')
  | .o (.rt t s) => (outT 0 ks ts s.ow).map fun ts' => .inl (t, ts')
  | .xc c fs s => (outT 0 ks ts s.ow).map fun ts' => .inr (c, fs, ts')
  | _ => none
def mFnX (ks : List Bool) (n : Nat) (body : MSX) : MFX := fun ts => (inFz ks ts).bind fun fz => (body ⟨fz ++ List.replicate (n - ks.length) none, inTau 0 ks ts⟩).bind fun o => fnXK ks ts o
structure FmX (P : Program) (w : World) (K : PySem.W.Frag) (mg : Str → Option Value) (base : Heap) (k : Nat) (x : Str) (n : Nat) (m : MFX) : Prop where
  ex : ∃ (f : Addr) (fd : FuncData) (ps : List Str), FnG P w K mg base (L2.CX P w) k f fd ps (spXM K n m) ∧ mg x = some (.ref f) ∧ PySem.W.keepIn K (.ref f) = true ∧ Binds K fd ps []
section
variable {P : Program} {w : World} {K : PySem.W.Frag} {mg : Str → Option Value} {base : Heap}
theorem fmx_of {x qual : Str} {st : Stmt} {f : Addr} {fd : FuncData} {N ps : List Str} {k : Nat} (F : Fun K x qual st f fd) (S : FnScope N ps (defScope st)) (ks : List Bool) (hk : ks.length = ps.length)
    {mb : MSX} (body : ∀ (cdv : Value) (Ar : Around) (up : List Env) (s : Shared) (H : Hp) (E : XK), RmG k (Ar.deeper (envOfC qual (defScope st) s.heap.objs.size f cdv)) →
      SXs (cxOf (L2.CX P w) P w K mg base N qual (defScope st) f cdv Ar up s H E) (outP 0 ks) (defBody st) mb) : FnG P w K mg base (L2.CX P w) (k + 1) f fd ps (spXM K ps.length (mFnX ks N.length mb)) := by
  refine defG F S (fun vs H Q E h => h.1) fun cdv Ar up s H vs Q E hr h => ?_
  obtain ⟨hl, Fz0, A, ts, o0, c, o, em, kk⟩ := h
  obtain ⟨fz, e1, em⟩ := Option.bind_eq_some_iff.mp em
  obtain ⟨out, e2, em⟩ := Option.bind_eq_some_iff.mp em
  obtain ⟨l1, l2, l3⟩ := inFz_ok o e1
  have hN : ps.length ≤ N.length := by
    have := congrArg List.length S.pre
    rw [List.length_take] at this
    omega
  have slen : (L2.start N vs).length = N.length := by
    unfold L2.start
    rw [List.length_append, List.length_map, List.length_replicate]
    omega
  have sat : ∀ i v, vs[i]? = some v → (L2.start N vs)[i]? = some (some v) := fun i v q => by
    have hi : i < vs.length := (List.getElem?_eq_some_iff.mp q).1
    unfold L2.start
    rw [List.getElem?_append_left (by rw [List.length_map]; exact hi), List.getElem?_map, q]
    rfl
  have fok : FzOk K Fz0 (L2.start N vs) (fz ++ List.replicate (N.length - ks.length) none) := by
    refine ⟨by rw [List.length_append, List.length_replicate, slen]; omega, fun i d q => ?_⟩
    obtain ⟨v, q1, q2⟩ := l3 i d (fgetA q)
    exact ⟨v, sat i v q1, q2⟩
  have tok : TauOk K Fz0 H (L2.start N vs) (inTau 0 ks ts) A := inTau_ok 0 o e1 fun i v q => by
    rw [Nat.zero_add]
    exact sat i v q
  have outs : ∀ {F' H' : Hp} {σ' : L2.St} {τ : Tau} {A2 : List Addr} {ts' : List T}, Same Fz0 F' → TauOk K F' H' σ' τ A2 → A2.Nodup → Agree (outP 0 ks) (L2.start N vs) σ' → outT 0 ks ts τ = some ts' →
      ∃ A3, OwnL K F' H' vs ts' A3 ∧ A3.Nodup ∧ ∀ a ∈ A3, a ∈ A2 := fun {F' H' σ' τ A2 ts'} g t nd ag eo => by
    exact outT_ok 0 o g e1 t nd (fun i u q m => by
      rw [Nat.zero_add] at m ⊢
      rw [ag i m]
      exact sat i u q) eo
  refine (body cdv Ar up s H E hr).run (fun cls d _ H => E cls d H) (takes_of rfl rfl rfl rfl) _ out e2 Fz0 H (L2.start N vs) A _ ⟨c, fok, tok⟩ ?_
  cases out with
  | xc c' fs s1 =>
    obtain ⟨t1, e3, e4⟩ := Option.map_eq_some_iff.mp em
    subst e4
    exact fun F' H' σ' A' cls d g a' ag x => by
      obtain ⟨A3, o3, n3, s3⟩ := outs g.ff a'.ow a'.cn.nd ag e3
      exact kk F' H' cls d A3 (g.trans (Go.less s3)) (a'.cn.sub n3 s3) o3 x
  | o out =>
    have back : ∀ {F' H' : Hp} {σ' : L2.St} {τ : Tau} {A1 A2 : List Addr} {v : V} {r0 : T} {ts' : List T}, Go Fz0 H A F' H' (A1 ++ A2) → Cn F' noH H' (A1 ++ A2) → Own K F' H' v r0 A1 → TauOk K F' H' σ' τ A2 → Agree (outP 0 ks) (L2.start N vs) σ' →
        o0 = .inl (r0, ts') → outT 0 ks ts τ = some ts' → Q v H' := fun {F' H' σ' τ A1 A2 v r0 ts'} g c' ov t ag er eo => by
      subst er
      obtain ⟨A3, o3, n3, s3⟩ := outs g.ff t c'.right.nd ag eo
      have sub : ∀ a ∈ A1 ++ A3, a ∈ A1 ++ A2 := fun a m => (List.mem_append.mp m).elim (fun z => List.mem_append_left _ z) fun z => List.mem_append_right _ (s3 a z)
      have nd : (A1 ++ A3).Nodup := List.nodup_append.mpr ⟨c'.left.nd, n3, fun a m b m' e => c'.apart a m (e ▸ s3 b m')⟩
      exact kk F' H' v A1 A3 (g.trans (Go.less sub)) (c'.sub nd sub) ov o3
    cases out with
    | nx s1 =>
      obtain ⟨t1, e3, e4⟩ := Option.map_eq_some_iff.mp em
      exact fun F' H' σ' A' g a' ag => back (A1 := []) (A2 := A') g a'.cn (.leaf .non) a'.ow ag e4.symm e3
    | rt t s1 =>
      obtain ⟨t1, e3, e4⟩ := Option.map_eq_some_iff.mp em
      exact fun F' H' σ' v A1 A2 g c' ov f' t' ag => back g c' ov t' ag e4.symm e3
    | bk s1 => cases em
    | ct s1 => cases em
theorem fmx_mk {x : Str} {st : Stmt} {N ps : List Str} {k : Nat} (D : Dn K mg x st ps) (S : FnScope N ps (defScope st)) (ks : List Bool) (hk : ks.length = ps.length)
    {mb : MSX} (body : ∀ (f : Addr) (cdv : Value) (Ar : Around) (up : List Env) (s : Shared) (H : Hp) (E : XK), RmG k (Ar.deeper (envOfC x (defScope st) s.heap.objs.size f cdv)) →
      SXs (cxOf (L2.CX P w) P w K mg base N x (defScope st) f cdv Ar up s H E) (outP 0 ks) (defBody st) mb) : FmX P w K mg base (k + 1) x ps.length (mFnX ks N.length mb) := by
  obtain ⟨f, fd, F, b, hm⟩ := D
  exact ⟨f, fd, ps, fmx_of F S ks hk (body f), hm, F.kp, b⟩
end
abbrev MVX := Ro → Tau → Option ((R × Tau) ⊕ (Str × List (Str × D) × Tau))
def EXOk (K : PySem.W.Frag) (F B H : Hp) (σ : L2.St) (A : List Addr) (Q : VK) (W : WX) : (R × Tau) ⊕ (Str × List (Str × D) × Tau) → Prop
  | .inl (r, τ') => ∀ (F' H' : Hp) (v : V) (A1 A2 : List Addr), Go F H A F' H' (A1 ++ A2) → Cn F' B H' (A1 ++ A2) → ROk K F' B H' r v A1 → TauOk K F' H' σ τ' A2 → Q v H'
  | .inr (c, fs, τ') => ∀ (F' H' : Hp) (cls : Value) (d : Option Addr) (A2 : List Addr), Go F H A F' H' A2 → Cn F' B H' A2 → TauOk K F' H' σ τ' A2 → XcAt K F' c fs cls d → W cls d σ H'
structure EX (X : Cx) (e : Expr) (m : MVX) : Prop where
  run : ∀ (W : WX), Takes X W → ∀ (ro : Ro) (τ : Tau) (o : (R × Tau) ⊕ (Str × List (Str × D) × Tau)), m ro τ = some o → ∀ (F B H : Hp) (σ : L2.St) (A : List Addr) (Q : VK), At X.K F B H σ ro τ A → EXOk X.K F B H σ A Q W o → wpE X e σ H Q
section
variable {X : Cx} {cx : CXT} {n : Nat} {f : Addr} {fd : FuncData} {ps : List Str} {sp : Sp} {E : L2.St → XK}
theorem callGS {pins : List (Addr × Obj)} {σ : L2.St} {H : Hp} {s : Shared} {Q : VK} {us : List Value} {vs : List V} (F : FnG X.prog X.w X.K X.mg X.base cx n f fd ps sp) (hr : RmG n X.A) (hb : Binds X.K fd ps []) (hx : PassesAt cx X σ (E σ))
    (I : Inv X pins σ H s) (r : Vals vs us) (h : sp vs H Q (E σ)) : wpAny (model X.prog X.w) X.A (call (.ref f) us) (EP X pins σ Q) X.xe s := by
  have hl : us.length = ps.length := r.length.symm.trans (F.len _ _ _ _ h)
  have hb' := hb s us I.kIn (by rw [List.append_nil]; exact hl)
  rw [List.append_nil] at hb'
  have run := F.go X.A X.stack s H ⟨us, []⟩ us vs Q (E σ) hr I.env0 hb' r h
  refine wpAny_call (codeAny_mono run fun res s' hq => ?_)
  match res, hq with
  | .error e, hq => exact hx pins H s e s' I hq
  | .ok (.ret u), hq => exact I.after hq
  | .ok .next, hq => exact hq.elim
  | .ok .brk, hq => exact hq.elim
  | .ok .cont, hq => exact hq.elim
variable {x : Str} {p pos : Pos} {e : Expr} {es : List Expr} {t : TA}
theorem peCallGS (F : FnG X.prog X.w X.K X.mg X.base cx n f fd ps sp) (hr : RmG n X.A) (hg : Gl X x) (hm : X.mg x = some (.ref f)) (hk : PySem.W.keepIn X.K (.ref f) = true) (hb : Binds X.K fd ps []) (hx : ∀ σ, PassesAt cx X σ (E σ)) (ha : PA X (e :: es) t)
    (hdb : (x == ("__debug__" : Str)) = false) (he : starEach (e :: es) X.env = (false, eval e X.env) :: starEach es X.env) (hpl : (backTo pos (starEach es X.env)).any (·.1) = false) :
    PE X (.Call (.Name x p) (e :: es) [] pos) fun σ H Q => t σ H fun vs H1 => sp vs H1 Q (E σ) :=
  ⟨fun pins s σ H Q I h => wpAny_Call_Name_kw (ld_glob I hg hm (PySem.W.callWith_K (h₀ := X.base) I.ok.mod.kin hk (thn (ha.run pos pins s σ H _ I h) fun us s1 ⟨vs, H1, I1, r, q⟩ => ⟨I1.kIn, callGS F hr hb (hx σ) I1 r q⟩) he hpl) hdb)⟩
end
def callXK (cs : List CArg) (τ2 : Tau) : (T × List T) ⊕ (Str × List (Str × D) × List T) → Option ((R × Tau) ⊕ (Str × List (Str × D) × Tau))
  | .inl (z, ts') => (backT cs ts' τ2).map fun τ3 => .inl (.val z, τ3)
  | .inr (c, fs, ts') => (backT cs ts' τ2).map fun τ3 => .inr (c, fs, τ3)
def mCallX (m : MFX) (l : MCA) : MVX := fun ro τ => (l ro τ).bind fun p => (buildT p.1 p.2).bind fun q => (m q.1).bind fun z => callXK p.1 q.2 z
section
variable {X : Cx} {e : Expr} {es : List Expr} {x : Str} {p pos : Pos} {k n : Nat} {m : MFX} {l : MCA}
theorem ex_call (c : FmX X.prog X.w X.K X.mg X.base k x n m) {j : Nat} (hr : RmG j X.A) (ha : CA X false (e :: es) l) (hkj : k ≤ j := by decide) (hn : (e :: es).length = n := by rfl) (hg : Gl X x := by rfl) (hdb : (x == ("__debug__" : Str)) = false := by decide)
    (he : starEach (e :: es) X.env = (false, eval e X.env) :: starEach es X.env := by rfl) (hpl : (backTo pos (starEach es X.env)).any (·.1) = false := by rfl) : EX X (.Call (.Name x p) (e :: es) [] pos) (mCallX m l) := ⟨fun W tk ro τ o em F B H σ A Q a kk => by
  obtain ⟨f, fd, ps, G, hm, hk, hb⟩ := c.ex
  obtain ⟨⟨cs, τ1⟩, e1, em⟩ := Option.bind_eq_some_iff.mp em
  obtain ⟨⟨ts, τ2⟩, e2, em⟩ := Option.bind_eq_some_iff.mp em
  obtain ⟨z, e3, em⟩ := Option.bind_eq_some_iff.mp em
  refine wE (peCallGS (E := WE W) G (hr.mono hkj) hg hm hk hb (fun σ => passAt tk σ) paW hdb he hpl) (ha.run ro τ cs τ1 e1 F B H σ A _ a fun F1 H1 vs A0 A1 g1 c1 o1 t1 => ?_)
  have hl : vs.length = n := o1.length.trans ((ha.len _ _ _ _ e1).trans hn)
  obtain ⟨A2, A3, o2, t2, n2, s2⟩ := buildT_ok o1 t1 c1.nd e2
  have c2 := c1.sub n2 s2
  have cB : ∀ {F4 H4 : Hp} {Ae : List Addr}, Go F1 H1 A2 F4 H4 Ae → Cn F4 noH H4 Ae → Cn F4 B H4 Ae := fun {F4 H4 Ae} g4 c4 => by
    refine ⟨c4.fh, same_of (B := B) g4 c2.bh c2.left.ba, c4.nd, c4.fa, fun b m => ?_, c4.ha⟩
    cases q : B b with
    | none => rfl
    | some o =>
      rcases g4.sub b m with z | z
      · rw [c2.left.ba b z] at q
        cases q
      · rw [c2.bh b o q] at z
        cases z
  refine ⟨hl, F1, A2, ts, z, ⟨c2.fh, same_noH, c2.left.nd, c2.left.fa, fun _ _ => rfl, c2.left.ha⟩, o2, e3, ?_⟩
  match z, em with
  | .inl (z, ts'), em =>
    obtain ⟨τ3, e4, em⟩ := Option.map_eq_some_iff.mp (show (backT cs ts' τ2).map (fun τ3 => Sum.inl (R.val z, τ3)) = some o from em)
    subst em
    intro F4 H4 v A4 A5 g4 c4 o4 os4
    obtain ⟨g5, c5⟩ := Go.framedR c2 g4 (cB g4 c4)
    have t3 := t2.stay g4.ff fun b m w q => g4.keep b w (fun z => c2.apart b z m) q
    rw [List.append_assoc] at g5 c5
    obtain ⟨A6, t6, n6, s6⟩ := backT_ok o1 os4 t3 c5.right.nd e4
    have sub : ∀ b ∈ A4 ++ A6, b ∈ A4 ++ (A5 ++ A3) := fun b m => (List.mem_append.mp m).elim (fun z => List.mem_append_left _ z) fun z => List.mem_append_right _ (s6 b z)
    have nd : (A4 ++ A6).Nodup := List.nodup_append.mpr ⟨c5.left.nd, n6, fun b m b' m' q => c5.apart b m (q ▸ s6 b' m')⟩
    exact kk F4 H4 v A4 A6 (((g1.trans (Go.less s2)).trans g5).trans (Go.less sub)) (c5.sub nd sub) o4 t6
  | .inr (c', fs, ts'), em =>
    obtain ⟨τ3, e4, em⟩ := Option.map_eq_some_iff.mp (show (backT cs ts' τ2).map (fun τ3 => Sum.inr (c', fs, τ3)) = some o from em)
    subst em
    intro F4 H4 cls d A5 g4 c4 os4 xx
    obtain ⟨g5, c5⟩ := Go.framedR c2 g4 (cB g4 c4)
    have t3 := t2.stay g4.ff fun b m w q => g4.keep b w (fun z => c2.apart b z m) q
    obtain ⟨A6, t6, n6, s6⟩ := backT_ok o1 os4 t3 c5.nd e4
    exact kk F4 H4 cls d A6 (((g1.trans (Go.less s2)).trans g5).trans (Go.less s6)) (c5.sub n6 s6) t6 xx⟩
end
end Tl

namespace Tl
open PySem PySem.Spec PyProof.Rows L2
abbrev ZX := (T × SS) ⊕ (Str × List (Str × D) × SS)
def mXVk (fz : Fz) : (R × Tau) ⊕ (Str × List (Str × D) × Tau) → Option ZX
  | .inl (.val x, τ) => some (.inl (x, ⟨fz, τ⟩))
  | .inl (.vw (.leaf d), τ) => some (.inl (.leaf d, ⟨fz, τ⟩))
  | .inl _ => none
  | .inr (c, fs, τ) => some (.inr (c, fs, ⟨fz, τ⟩))
def mXV (m : MVX) : SS → Option ZX := fun s => (m ⟨s.fz, []⟩ s.ow).bind (mXVk s.fz)
def ZXOk (K : PySem.W.Frag) (F H : Hp) (σ : L2.St) (A : List Addr) (Q : VK) (W : WX) : ZX → Prop
  | .inl (x, s') => ∀ (F' H' : Hp) (v : V) (A1 A2 : List Addr), Go F H A F' H' (A1 ++ A2) → Cn F' noH H' (A1 ++ A2) → Own K F' H' v x A1 → FzOk K F' σ s'.fz → TauOk K F' H' σ s'.ow A2 → Q v H'
  | .inr (c, fs, s') => ∀ (F' H' : Hp) (cls : Value) (d : Option Addr) (A2 : List Addr), Go F H A F' H' A2 → SAt K F' H' σ s' A2 → XcAt K F' c fs cls d → W cls d σ H'
section
variable {X : Cx} {Pr : List Nat} {st : Stmt} {e : Expr} {pos : Pos} {i : Nat} {m : MVX} {W : WX}
theorem xvx (h : EX X e m) (tk : Takes X W) {s : SS} {z : ZX} (em : mXV m s = some z) {F H : Hp} {σ : L2.St} {A : List Addr} {Q : VK} (a : SAt X.K F H σ s A) (k : ZXOk X.K F H σ A Q W z) : wpE X e σ H Q := by
  obtain ⟨o, e1, em⟩ := Option.bind_eq_some_iff.mp em
  refine h.run W tk _ _ o e1 F noH H σ A Q a.at_ ?_
  match o, em with
  | .inl (.val x, τ), em =>
    cases em
    exact fun F' H' v A1 A2 g c o t => k F' H' v A1 A2 g c o (a.fz.mono g.ff) t
  | .inl (.vw (.leaf d), τ), em =>
    cases em
    exact fun F' H' v A1 A2 g c o t => k F' H' v A1 A2 g c (o.solid (.inr ⟨d, rfl, rfl⟩)) (a.fz.mono g.ff) t
  | .inr (c, fs, τ), em =>
    cases em
    exact fun F' H' cls d A2 g c t x => k F' H' cls d A2 g ⟨c, a.fz.mono g.ff, t⟩ x
def mDoX (m : MVX) : MSX := fun s => (mXV m s).map fun z => match z with
  | .inl (_, s') => .o (.nx s')
  | .inr (c, fs, s') => .xc c fs s'
def mRetX (m : MVX) : MSX := fun s => (mXV m s).map fun z => match z with
  | .inl (x, s') => .o (.rt x s')
  | .inr (c, fs, s') => .xc c fs s'
def mSetX (i : Nat) (m : MVX) : MSX := fun s => (mXV m s).bind fun z => match z with
  | .inl (x, s') => x.fz.map fun d => .o (.nx ⟨fset s'.fz i (some d), tdel s'.ow i⟩)
  | .inr (c, fs, s') => some (.xc c fs s')
theorem sx_set (p : PS X st (tAsg (wpE X e) (gName i))) (h : EX X e m) (hi : i ∉ Pr := by decide) : SX X Pr st (mSetX i m) := ⟨fun W tk s o em F H σ A D a k => by
  obtain ⟨z, e1, em⟩ := Option.bind_eq_some_iff.mp em
  refine wS p (xvx h tk e1 a ?_)
  match z, em with
  | .inl (x, s'), em =>
    obtain ⟨d, e2, em⟩ := Option.map_eq_some_iff.mp em
    subst em
    intro F1 H1 v A1 A2 g1 c1 o1 f1 t1
    obtain ⟨g2, c2, s2, h2⟩ := c1.freeze
    obtain ⟨A3, t3, n3, s3⟩ := (t1.stay s2 fun _ _ _ q => q).setD c2.nd i v
    exact k _ H1 _ A3 ((g1.trans g2).trans (Go.less s3)) ⟨c2.sub n3 s3, (f1.mono s2).set (Own.rep s2 o1 h2 e2) i, t3⟩ (agree_set hi)
  | .inr (c, fs, s'), em =>
    cases em
    exact fun F' H' cls d A2 g b x => k F' H' σ A2 cls d g b Agree.refl x⟩
end
theorem adopt {X : Cx} {pins : List (Addr × Obj)} {σ : L2.St} {H : Hp} {s : Shared} {a C : Addr} {d : Option Addr} {oe : Obj} {vs : Array Value} (I : Inv X pins σ H s) (ha : s.heap.get? a = some oe) (hc : oe.cls = .ref C) (hd : oe.dict = d) (hv : oe.data = .fields vs)
    (na : H a = none) (nL : a ≠ X.env.locals) (n0 : X.s_0.heap.get? a = none) (np : ∀ p ∈ X.pn ++ pins, p.1 ≠ a) : Inv X pins σ (upd H a (xcO a C d)) s := by
  have ne : ∀ {b : Addr} {u : HO}, H b = some u → b ≠ a := fun {b u} q z => by
    rw [z, na] at q
    cases q
  refine ⟨I.ok, I.os, I.bare, ⟨I.base.keep, I.base.slot, fun b o e n hx => ?_, I.base.there, fun b xs e => ?_, fun b o v e => ?_, fun b ps e => ?_⟩, I.loc, I.cell, ?_, fun x c e => ?_, fun p hp => ?_, fun b ob e => ?_, I.len⟩
  · rw [upd_ne fun z => by rw [z, n0] at e; cases e]
    exact I.base.free b o e n hx
  · have q := I.base.tups b xs e
    rw [upd_ne (ne q)]
    exact q
  · have q := I.base.frzs b o v e
    rw [upd_ne (ne q)]
    exact q
  · obtain ⟨more, q⟩ := I.base.tbls b ps e
    exact ⟨more, by rw [upd_ne (ne q)]; exact q⟩
  · rw [upd_ne nL.symm]
    exact I.free
  · rw [upd_ne fun z => ?_]
    · exact I.freeC x c e
    · obtain ⟨v, o, ho, hd'⟩ := I.cell x c e
      rw [z, ha] at ho
      cases ho
      rw [hv] at hd'
      cases hd'
  · obtain ⟨p1, p2, p3⟩ := I.pin p hp
    exact ⟨p1, by rw [upd_ne (np p hp)]; exact p2, p3⟩
  · by_cases q : b = a
    · subst q
      rw [upd_same] at e
      cases e
      exact ⟨⟨oe, vs, ha, hc, hd, hv⟩, ⟨_, ha⟩, fun h1 h2 z k => by
        obtain ⟨oe', vs', z1, z2⟩ := z
        exact ⟨oe', vs', k _ z1, z2⟩⟩
    · rw [upd_ne q] at e
      exact (I.hok b ob e).stay (fun c v _ z => z) (fun c z => by rw [upd_ne (ne z)]; exact z) fun c xs z => by rw [upd_ne (ne z)]; exact z
/-- what except C as n: v = n wishes of an exception of the body -/
def wKp (K : PySem.W.Frag) (c : Value) (i j : Nat) (D : Ends) : WX := fun cls d σ H =>
  ∃ C, cls = .ref C ∧ PySem.W.exmOne K cls c = some true ∧ ∀ a, H a = none → D.nx (((σ.set i (some (.ref a))).set j (some (.ref a))).set i none) (upd H a (xcO a C d))
section
variable {X : Cx} {x n : Str} {c : Value} {i j : Nat} {body : List Stmt} {b₀ : Stmt} {np pos pos' : Pos}
theorem ps_try_keep (hs : X.stack = X.env :: X.outer) (hf : X.env.frame = some X.env.locals) (hex : X.ex = []) (hN : X.N.Nodup) (hi : X.N[i]? = some n) (hln : X.env.kindOf n = some .local) (hc : Names X x c)
    (hsu : ∀ (a : Addr) (pn : List (Addr × Obj)), PS (X.suite a pn) b₀ (tAsg (tVar i) (gName j))) :
    PS X (.Try body [.ExceptHandler (some (.Name x np)) (some n) [b₀] pos'] [] [] pos) (fun D σ H => ∀ (pn : List (Addr × Obj)) (xe : Value → Shared → Prop), Takes (X.tr pn xe) (wKp X.K c i j D) → PassesOwn (model X.prog X.w) X.A X.env xe → wpB (X.tr pn xe) body D σ H) := by
  refine ⟨fun pins s σ H D I h => ?_⟩
  have ok := I.ok
  have hfr : X.A.frames = some (X.env :: X.outer) := by rw [ok.frames, hs]
  have hloc : Loc X.env.scope n := .inl hln
  refine wpAny_Try_except ?_
  refine wpAny_mono (h (X.pn ++ pins) (fun e s₁ => wpAny (model X.prog X.w) X.A (noteFrame e X.env) (fun _ s₂ => wpAny (model X.prog X.w) X.A (setFlight e none) (fun _ s₃ =>
    wpAny (model X.prog X.w) X.A (handleBy e X.env [.ExceptHandler (some (.Name x np)) (some n) [b₀] pos']) (SP X pins D) X.xe s₃) X.xe s₂) X.xe s₁) (fun u s' xx => ?_) PassesOwn.looking [] s (I.toTry _)) (fun f s1 hsp => ?_) (fun e s1 he => he)
  · obtain ⟨a, B, sI, pins', σ', H', cls, d, rfl, J', nb, up, sky, na, os, ag, C, ec, hb1, hyes⟩ := xx
    subst ec
    have J : Inv X pins σ' H' sI := J'.ofTry ok
    have sky' : Sky B (X.env :: X.outer) a (Zc (.ref C) d) X.env.locals s'.heap := by rw [← hs]; exact sky
    show wpAny (model X.prog X.w) X.A (noteFrame (.ref a) X.env) _ _ _
    refine Sky.land Zc.steady hfr hf sky' fun h3 fl3 up3 => ?_
    have J3 : Inv X pins σ' H' { s' with heap := h3 } := J.landed nb fl3.1 (up.trans up3) os ag
    obtain ⟨oe3, vs3, he3, hz3, hd3⟩ := fl3.there
    have notFr : ∀ {h : Heap} {o : Obj} {vs : Array Value}, h.FunFrames B (X.env :: X.outer) → h.get? a = some o → o.data = .fields vs → a ∉ frs (X.env :: X.outer) := fun {h o vs} ff e dd hm => by
      obtain ⟨_, o', e', hnf⟩ := ff.mem hm
      rw [e] at e'; cases e'
      exact hnf _ dd
    have nfr := notFr fl3.2.2.1 he3 hd3
    have nL : a ≠ X.env.locals := fun z => nfr (List.mem_filterMap.mpr ⟨X.env, List.mem_cons_self, by rw [hf, z]⟩)
    have nF : a ∉ X.fs := fun hm => by
      obtain ⟨e, he, q⟩ := List.mem_filterMap.mp hm
      exact nfr (List.mem_filterMap.mpr ⟨e, List.mem_cons_of_mem _ he, q⟩)
    have Ba : B.get? a = none := fl3.2.1
    have nI : sI.heap.get? a = none := by
      cases q : sI.heap.get? a with
      | none => rfl
      | some o =>
        have z := nb a o q (by rw [hs]; exact nfr)
        rw [Ba] at z
        cases z
    have n0 : X.s_0.heap.get? a = none := by
      cases q : X.s_0.heap.get? a with
      | none => rfl
      | some o =>
        obtain ⟨o', z⟩ := J.base.there a o q (by rw [hex]; exact fun z => nomatch z)
        rw [nI] at z
        cases z
    have npn : ∀ p ∈ X.pn ++ pins, p.1 ≠ a := fun p hp z => by
      have q := (J.pin p hp).1
      rw [z, nI] at q
      cases q
    have S3 := J3.suite he3 hd3 na nL nF
    refine wpAny_handleBy_cons (codeAny_handlers_test ?_) (by intro q; cases q)
    have LT : PySem.W.Looks (model X.prog X.w) h3 (typeOf (.ref a)) (.ref C) := fun A Q E s k q => wpAny_typeOf_ref (k _ _ he3) (by rw [hz3.1]; exact q)
    have LM := PySem.W.exm_one (M := model X.prog X.w) (J3.kIn) LT hb1
    have test : ∀ {Q : Value → Shared → Prop} {E : Value → Shared → Prop}, Q c { s' with heap := h3 } → wpAny (model X.prog X.w) (X.A.mark (some (.ref a))) (eval (.Name x np) X.env) Q E { s' with heap := h3 } := fun {Q E} q => by
      obtain ⟨hg, hdbg, hm | ⟨hm, hv, hnn⟩⟩ := hc
      · exact ld_glob (X := X.suite a ((a, oe3) :: (X.pn ++ pins))) S3 hg hm q hdbg
      · exact ld_blt (X := X.suite a ((a, oe3) :: (X.pn ++ pins))) S3 hg hm hv q hnn hdbg
    refine test (LM.here ?_)
    refine codeAny_handlers_suite_as ?_
    refine HandSPX.lands_againZ fl3 fun h4 fl4 up4 => ?_
    have J4 : Inv X pins σ' H' { s' with heap := h4 } := J.landed nb fl4.1 ((up.trans up3).trans up4) os ag
    obtain ⟨oe4, vs4, he4, hz4, hd4⟩ := fl4.there
    have S4 := J4.suite he4 hd4 na nL nF
    refine store_ok (X := X.suite a ((a, oe4) :: (X.pn ++ pins))) (v := .ref a) S4 hN hi hloc rfl (fun s5 S5 => ?_) (.inr hln)
    have hlt : i < σ'.length := by
      rw [J.len]
      exact (List.getElem?_eq_some_iff.mp hi).1
    refine wpAny_mono ((pss_one (hsu a ((a, oe4) :: (X.pn ++ pins)))).run [] s5 _ H' { nx := fun σ6 H6 => σ6 = (σ'.set i (some (.ref a))).set j (some (.ref a)) ∧ H6 = H', rt := fun _ _ => False, bk := fun _ _ => False, ct := fun _ _ => False } S5
      ⟨.ref a, by rw [List.getElem?_set_self hlt], rfl, rfl⟩) (fun f s6 hsp => ?_) (fun _ _ z => False.elim z)
    cases f with
    | next =>
      obtain ⟨σ6, H6, S6, rfl, rfl⟩ := hsp
      have K6 := S6.unsuite ok
      have P6 := (S6.pin (a, oe4) (by exact List.mem_append_left _ List.mem_cons_self)).1
      exact gone_ok (adopt K6 P6 hz4.1 hz4.2 hd4 na nL n0 npn) hN hi hln fun s7 J7 => ⟨_, _, J7, hyes a na⟩
    | brk =>
      obtain ⟨_, _, _, z⟩ := hsp
      exact False.elim z
    | cont =>
      obtain ⟨_, _, _, z⟩ := hsp
      exact False.elim z
    | ret u =>
      obtain ⟨_, _, _, _, _, z⟩ := hsp
      exact False.elim z
  · cases f with
    | next =>
      obtain ⟨σ', H', J', q⟩ := hsp
      exact wpAny_execs_nil ⟨σ', H', J'.ofTry ok, q⟩
    | brk =>
      obtain ⟨σ', H', J', q⟩ := hsp
      exact ⟨σ', H', J'.ofTry ok, q⟩
    | cont =>
      obtain ⟨σ', H', J', q⟩ := hsp
      exact ⟨σ', H', J'.ofTry ok, q⟩
    | ret u =>
      obtain ⟨v, σ', H', J', r, q⟩ := hsp
      exact ⟨v, σ', H', J'.ofTry ok, r, q⟩
end
/-- the classes that except C catches -/
structure CatOk (K : PySem.W.Frag) (c0 : Str) (cs : List Str) : Prop where
  ok : ∀ c ∈ cs, ∀ C C0, PySem.W.nsIn K mainGlobals c = some (some (.ref C)) → PySem.W.nsIn K mainGlobals c0 = some (some (.ref C0)) → PySem.W.exmOne K (.ref C) (.ref C0) = some true
def xcD (c : Str) (fs : List (Str × D)) : D := .dict ((.none, .str c) :: fs.map fun p => (.str p.1, p.2))
def mTryK (cs : List Str) (i j : Nat) (mb : MSX) : MS := fun s => (mb s).bind fun o => match o with
  | .o o => some o
  | .xc c fs s' => if c ∈ cs then some (.nx ⟨fset (fset s'.fz j (some (xcD c fs))) i none, tdel (tdel s'.ow j) i⟩) else none
theorem XcAt.rep {K : PySem.W.Frag} {F : Hp} {c : Str} {fs : List (Str × D)} {cls : Value} {d : Option Addr} {a C : Addr} (h : XcAt K F c fs cls d) (e : cls = .ref C) (na : F a = none) : Rep K (upd F a (xcO a C d)) (.ref a) (xcD c fs) := by
  obtain ⟨C', ec, k, n, h⟩ := h
  rw [ec] at e
  cases e
  have s : Same F (upd F a (xcO a C d)) := fun b u q => by
    rw [upd_ne fun z => by rw [z, na] at q; cases q]
    exact q
  rcases h with ⟨rfl, rfl⟩ | ⟨f, x, dx, v, rfl, rfl, h3, h4⟩
  · exact .xc upd_same k n
  · exact .xf upd_same k n (s _ _ h3) (h4.mono s)
section
variable {X : Cx} {Pr : List Nat} {x n : Str} {i j : Nat} {body : List Stmt} {b₀ : Stmt} {np pos pos' : Pos} {cs : List Str} {mb : MSX}
theorem FzOk.unset {K : PySem.W.Frag} {F : Hp} {σ : L2.St} {fz : Fz} (o : FzOk K F σ fz) (i : Nat) : FzOk K F (σ.set i none) (fset fz i none) := by
  refine ⟨by rw [fset_length, List.length_set]; exact o.1, fun j e h => ?_⟩
  by_cases q : j = i
  · subst q
    cases fget_set_same h
  · rw [fget_set_ne q] at h
    obtain ⟨u, h1, h2⟩ := o.2 j e h
    exact ⟨u, by rw [List.getElem?_set_ne (fun z => q z.symm)]; exact h1, h2⟩
theorem sr_tryK (hC : ClsN X x) (hcs : CatOk X.K x cs) (hN : X.N.Nodup) (hb : ∀ (pn : List (Addr × Obj)) (xe : Value → Shared → Prop), PassesOwn (model X.prog X.w) X.A X.env xe → SXs (X.tr pn xe) Pr body mb) (hsu : ∀ (a : Addr) (pn : List (Addr × Obj)), PS (X.suite a pn) b₀ (tAsg (tVar i) (gName j)))
    (hi : X.N[i]? = some n := by rfl) (hln : X.env.kindOf n = some .local := by rfl) (hi' : i ∉ Pr := by decide) (hj' : j ∉ Pr := by decide) (hs : X.stack = X.env :: X.outer := by rfl) (hf : X.env.frame = some X.env.locals := by rfl) (hex : X.ex = [] := by rfl) (hg : Gl X x := by rfl) (hdb : (x == ("__debug__" : Str)) = false := by decide) :
    SR X Pr (.Try body [.ExceptHandler (some (.Name x np)) (some n) [b₀] pos'] [] [] pos) (mTryK cs i j mb) := ⟨fun s o em F H σ A D a k => by
  obtain ⟨o1, e1, em⟩ := Option.bind_eq_some_iff.mp em
  obtain ⟨C0, hm, hns⟩ := hC.ok
  refine wS (ps_try_keep (c := .ref C0) hs hf hex hN hi hln ⟨hg, hdb, .inl hm⟩ hsu) fun pn xe tk hp => ?_
  refine (hb pn xe hp).run _ tk s o1 e1 F H σ A D a ?_
  match o1, em with
  | .o o2, em =>
    cases em
    exact k
  | .xc c fs s', em =>
    have em : (if c ∈ cs then some (Out.nx ⟨fset (fset s'.fz j (some (xcD c fs))) i none, tdel (tdel s'.ow j) i⟩) else none) = some o := em
    by_cases q : c ∈ cs
    · rw [if_pos q] at em
      cases em
      intro F' H' σ' A' cls d g a' ag xx
      obtain ⟨C, ec, _, nC, _⟩ := id xx
      refine ⟨C, ec, by rw [ec]; exact hcs.ok c q C C0 nC hns, fun p na => ?_⟩
      obtain ⟨g2, c2⟩ := a'.cn.newF (o := xcO p C d) na
      have fa : F' p = none := Same.free a'.cn.fh na
      have sm : Same F' (upd F' p (xcO p C d)) := g2.ff
      have sh : Same H' (upd H' p (xcO p C d)) := fun b u z => by
        rw [upd_ne fun y => by rw [y, na] at z; cases z]
        exact z
      have t1 := a'.ow.stay g2.ff fun b _ u z => sh b u z
      have t1i : ∃ A3, TauOk X.K (upd F' p (xcO p C d)) (upd H' p (xcO p C d)) (((σ'.set i (some (.ref p))).set j (some (.ref p))).set i none) (tdel (tdel s'.ow j) i) A3 ∧ A3.Nodup ∧ ∀ b ∈ A3, b ∈ A' := by
        obtain ⟨A3, t3, n3, s3⟩ := t1.del j c2.nd
        obtain ⟨A4, t4, n4, s4⟩ := t3.del i n3
        exact ⟨A4, t4.move fun p m => by
          have q1 := (tdel_sub m).2
          have q2 := (tdel_sub (tdel_sub m).1).2
          rw [List.getElem?_set_ne fun z => q1 z.symm, List.getElem?_set_ne fun z => q2 z.symm, List.getElem?_set_ne fun z => q1 z.symm], n4, fun b m => s3 b (s4 b m)⟩
      obtain ⟨A3, t3, n3, s3⟩ := t1i
      have r := xx.rep ec fa
      have f1 : FzOk X.K (upd F' p (xcO p C d)) (((σ'.set i (some (.ref p))).set j (some (.ref p))).set i none) (fset (fset s'.fz j (some (xcD c fs))) i none) := by
        have e : ((σ'.set i (some (V.ref p))).set j (some (.ref p))).set i none = (σ'.set j (some (.ref p))).set i none := by
          by_cases z : i = j
          · subst z
            rw [List.set_set, List.set_set]
          · rw [List.set_comm _ _ z, List.set_set]
        rw [e]
        exact ((a'.fz.mono sm).set r j).unset i
      refine k _ _ _ A3 ((g.trans g2).trans (Go.less s3)) ⟨c2.sub n3 s3, f1, t3⟩ fun b m => ?_
      rw [List.getElem?_set_ne fun z => hi' (by rw [z]; exact m), List.getElem?_set_ne fun z => hj' (by rw [z]; exact m), List.getElem?_set_ne fun z => hi' (by rw [z]; exact m)]
      exact ag b m
    · rw [if_neg q] at em
      cases em⟩
end
end Tl

namespace Tl
open PySem PySem.Spec PyProof.Rows L2
/-- what the written part says of the class whose __init__ is called by name -/
structure LeC (K : PySem.W.Frag) (mg : Str → Option Value) (b : Str) : Prop where
  ex : ∃ CL, mg b = some (.ref CL) ∧ PySem.W.specialIn K (.ref CL) "__getattribute__" = some (some (.builtin "type.__getattribute__")) ∧ PySem.W.readsIn K CL (.type "type") = true ∧ PySem.W.findCls K (.ref CL) (.type "type") "__init__" = some (.val (.builtin "ValueError.__init__"))
section
variable {X : Cx} {o e : Expr} {es : List Expr} {to te : TE} {ta : TA} {f b : Str} {p p' p1 p2 pos : Pos}
/-- B.__init__(self, ..), B a class of the program -/
theorem pe_leinit {pl : Sem Bool} (L : LeC X.K X.mg b) (ha : PA X (e :: es) ta) (hg : Gl X b := by rfl) (hdb : (b == ("__debug__" : Str)) = false := by decide)
    (hc : eval (.Call (.Attribute (.Name b p1) "__init__" p2) (e :: es) [] pos) X.env = (do
      let ov ← eval (.Name b p1) X.env
      standAt p2.atName
      let (f, first) ← holding [ov] (getMethod ov "__init__" pl)
      callWith pos f first (backTo pos (starEach (e :: es) X.env)) (backToKw pos (keywordEach [] X.env))) := by rfl)
    (he : starEach (e :: es) X.env = (false, eval e X.env) :: starEach es X.env := by rfl) (hpl : (backTo pos (starEach es X.env)).any (·.1) = false := by rfl) :
    PE X (.Call (.Attribute (.Name b p1) "__init__" p2) (e :: es) [] pos) (tVeI X.K ta) := by
  obtain ⟨CL, hm, h1, h2, h3⟩ := L.ex
  refine ⟨fun pins s σ H Q I h => ?_⟩
  refine PySem.W.methodCall_KW (ld_glob I hg hm ?_ hdb) hc
  refine PySem.W.method_cls I.kIn h1 ?_
  refine PySem.W.cls_value I.kIn h2 h3 (by decide +kernel) ?_
  show wpAny _ _ (callWith pos (Value.builtin "ValueError.__init__") [] (backTo pos (starEach (e :: es) X.env)) []) _ _ _
  refine PyProof.Rows.callWith_method1 (thn (ha.run pos pins _ σ H _ (I.tok _) h) fun us s1 ⟨vs, H1, I1, r1, a, C, ws, ev, hl, T, ea, q⟩ => ?_) he hpl
  subst ev
  cases r1 with
  | @cons _ u0 _ ur ra rw' =>
    obtain rfl : u0 = Value.ref a := ra
    have hlen : ur.length ≤ sizeLine := by
      rw [← Paired.length rw', sizeLine_eq]
      omega
    exact oinit_ok T I1 ea hlen fun s' J => ⟨.non, H1, J, rfl, q⟩
end
/-- what such an __init__ does: it keeps what is handed in as its field -/
def spI (K : PySem.W.Frag) (f : Str) : Sp := fun vs H Q E => ∃ (a C : Addr) (y : V), vs = [.ref a, y] ∧ OexC K C ∧ H a = some (exo a C none) ∧ PySem.W.findIn K (.ref C) f = some none ∧
  ∀ dx, H dx = none → dx ≠ a → Q .non (upd (upd H dx (exd dx [(f, y)])) a (exo a C (some dx)))
section
variable {P : Program} {w : World} {K : PySem.W.Frag} {mg : Str → Option Value} {base : Heap}
theorem init_fn {qual f y m : Str} {st : Stmt} {fI : Addr} {fd : FuncData} {k : Nat} (F : L2.Fun K "__init__" qual st fI fd) (S : FnScope ["self", y] ["self", y] (defScope st))
    (h : ∀ cdv A up s H E, ∃ t u, PS (cxOf (L2.CX P w) P w K mg base ["self", y] qual (defScope st) fI cdv A up s H E) t (tDrop (tVeI K (tCons (tVar 0) (tCons (tC (.str m)) tNil)))) ∧ PS (cxOf (L2.CX P w) P w K mg base ["self", y] qual (defScope st) fI cdv A up s H E) u (tOst K f (tVar 0) (tVar 1)) ∧ defBody st = [t, u]) :
    FnOk P w K mg base (L2.CX P w) (k + 1) fI fd ["self", y] (spI K f) := by
  refine F.okX S (fun vs H Q E h => by obtain ⟨a, C, y, rfl, _⟩ := h; rfl) fun cdv A up s H vs Q E hr hs => ?_
  obtain ⟨t, u, ht, hu, hb⟩ := h cdv A up s H E
  rw [hb]
  refine ⟨_, pss_cons ht (pss_one hu), ?_⟩
  obtain ⟨a, C, y', rfl, T, ea, hno, q⟩ := hs
  refine ⟨.ref a, rfl, a, C, [.str m], rfl, by show 1 ≤ 1000; decide, T, ea, ?_⟩
  exact ⟨y', rfl, .ref a, rfl, a, C, rfl, T, hno, .inl ⟨ea, fun dx hd ne => q dx hd ne⟩⟩
end
/-- a class with an __init__ that keeps a field -/
structure Ri (P : Program) (w : World) (K : PySem.W.Frag) (mg : Str → Option Value) (base : Heap) (k : Nat) (c f : Str) : Prop where
  ex : ∃ (C fI : Addr) (fd : FuncData) (y : Str), mg c = some (.ref C) ∧ PySem.W.nsIn K mainGlobals c = some (some (.ref C)) ∧ XcC K C ∧ OexC K C ∧ PySem.W.findIn K (.ref C) "__init__" = some (some (.ref fI)) ∧ PySem.W.typeIn K (.ref fI) = some (.type "function") ∧
    PySem.W.findIn K (.ref C) f = some none ∧ FnOk P w K mg base (L2.CX P w) k fI fd ["self", y] (spI K f) ∧ Binds K fd ["self", y] []
section
variable {X : Cx} {Pr : List Nat} {x m f : Str} {j k : Nat} {p p2 pos pos' : Pos} {e : Expr}
def mRz (x : Str) : MSX := fun s => some (.xc x [] s)
def mRi (x f : Str) (m : MX) : MSX := fun s => (m s).bind fun p => p.1.fz.map fun d => .xc x [(f, d)] p.2
theorem sx_ri {mv : MV} (c : Ri X.prog X.w X.K X.mg X.base k x f) {i : Nat} (hr : RmG i X.A) (h : ER X.nox e mv) (hki : k + 1 ≤ i := by decide) (hc : X.calm = true := by rfl) (hg : Gl X x := by rfl) (hdb : (x == ("__debug__" : Str)) = false := by decide)
    (he : starEach [e] X.env = (false, eval e X.env) :: starEach [] X.env := by rfl) (hpl : (backTo pos (starEach [] X.env)).any (·.1) = false := by rfl) : SX X Pr (.Raise (some (.Call (.Name x p) [e] [] pos)) none pos') (mRi x f (mX mv)) := ⟨fun W tk s o em F H σ A D a kk => by
  obtain ⟨⟨z, s1⟩, e1, em⟩ := Option.bind_eq_some_iff.mp em
  obtain ⟨d, e2, em⟩ := Option.map_eq_some_iff.mp em
  cases em
  obtain ⟨C, fI, fd, y, h1, h2, h3, h4, h5, h6, h7, h8, h9⟩ := c.ex
  refine wS (ps_raise hc tk (pmk_oex (dvs := []) (ds := []) h4 h5 h6 h8 (hr.mono hki).rm h9 .nil passL hg h1 (pa_cons peW pa_nil he) hdb he hpl)) ?_
  refine (xv (er_nox h)).run s z s1 e1 F H σ A _ a fun F1 H1 v A1 A2 g1 c1 o1 f1 t1 => ?_
  obtain ⟨g2, c2, s2, hh⟩ := c1.freeze
  have rv := Own.rep s2 o1 hh e2
  have t2 := t1.stay s2 fun _ _ _ q => q
  refine ⟨by show 1 ≤ 1000; decide, fun q hq => ⟨q, C, v, rfl, h4, upd_same, h7, fun dx hd ne => ⟨rfl, dx, [(f, v)], upd_same, ?_, ?_, ?_⟩⟩⟩
  · rw [upd_ne ne, upd_same]
  · rw [upd_ne ne] at hd
    exact hd
  · rw [upd_ne ne] at hd
    have eH : upd (del (upd (upd (upd H1 q (exo q C none)) dx (exd dx [(f, v)])) q (exo q C (some dx))) q) dx (.xd [(f, v)]) = upd H1 dx (.xd [(f, v)]) := by
      funext b
      by_cases hb : b = dx
      · rw [hb, upd_same, upd_same]
      · rw [upd_ne hb, upd_ne hb]
        by_cases hq' : b = q
        · rw [hq', del_same, hq]
        · rw [del_ne hq', upd_ne hq', upd_ne hb, upd_ne hq']
    rw [eH]
    obtain ⟨g3, c3⟩ := c2.newF (o := .xd [(f, v)]) hd
    have sh : Same H1 (upd H1 dx (.xd [(f, v)])) := fun b u z => by
      rw [upd_ne fun y => by rw [y, hd] at z; cases z]
      exact z
    exact kk _ _ σ A2 (.ref C) (some dx) ((g1.trans g2).trans g3) ⟨c3, (f1.mono s2).mono g3.ff, t2.stay g3.ff fun b _ u z => sh b u z⟩ Agree.refl ⟨C, rfl, h3, h2, .inr ⟨f, d, dx, v, rfl, rfl, upd_same, rv.mono g3.ff⟩⟩⟩
end
end Tl

namespace Tl
open PySem PySem.Spec PyProof.Rows L2
def clsNames : List Str := ["LaneError", "NoStep", "NoTrain", "NoWay", "BadText", "BadTrain", "BadStep"]
def xcNames : List Str := ["NoStep", "NoTrain", "NoWay", "BadText", "BadTrain", "BadStep"]
def kb (c c' : Str) : Bool := c == c' || c' == "LaneError"
def krAll : Kin := clsNames.flatMap fun c => clsNames.map fun c' => (c, c', kb c c')
section
variable {K : PySem.W.Frag} {mg : Str → Option Value} {h : Heap}
theorem kin_all {al : List (Str × Addr)} (hn : ∀ p ∈ al, PySem.W.nsIn K mainGlobals p.1 = some (some (.ref p.2))) (hc : al.map (·.1) = clsNames)
    (chk : (al.all fun p => al.all fun q => PySem.W.kitOne K (.ref p.2) (.ref q.2) == some (kb p.1 q.1)) = true) : KinOk K krAll := ⟨fun p hp C C' h1 h2 => by
  obtain ⟨c, m1, hp⟩ := List.mem_flatMap.mp hp
  obtain ⟨c', m2, rfl⟩ := List.mem_map.mp hp
  rw [← hc] at m1 m2
  obtain ⟨q1, k1, e1⟩ := List.mem_map.mp m1
  obtain ⟨q2, k2, e2⟩ := List.mem_map.mp m2
  have a1 := hn q1 k1
  have a2 := hn q2 k2
  rw [e1] at a1
  rw [e2] at a2
  have z1 := a1.symm.trans h1
  have z2 := a2.symm.trans h2
  have y1 : q1.2 = C := by injection z1 with z1; injection z1 with z1; injection z1
  have y2 : q2.2 = C' := by injection z2 with z2; injection z2 with z2; injection z2
  have := List.all_eq_true.mp (List.all_eq_true.mp chk q1 k1) q2 k2
  rw [y1, y2, e1, e2] at this
  exact eq_of_beq this⟩
theorem cat_all {c0 : Str} {C0 : Addr} {al : List (Str × Addr)} (h0 : PySem.W.nsIn K mainGlobals c0 = some (some (.ref C0))) (hn : ∀ p ∈ al, PySem.W.nsIn K mainGlobals p.1 = some (some (.ref p.2)))
    (chk : (al.all fun p => PySem.W.exmOne K (.ref p.2) (.ref C0) == some true) = true) : CatOk K c0 (al.map (·.1)) := ⟨fun c m C C' h1 h2 => by
  obtain ⟨q1, k1, e1⟩ := List.mem_map.mp m
  have a1 := hn q1 k1
  rw [e1] at a1
  have z1 := a1.symm.trans h1
  have z2 := h0.symm.trans h2
  have y1 : q1.2 = C := by injection z1 with z1; injection z1 with z1; injection z1
  have y2 : C0 = C' := by injection z2 with z2; injection z2 with z2; injection z2
  have := List.all_eq_true.mp chk q1 k1
  rw [y1, y2] at this
  exact eq_of_beq this⟩
theorem noat_all {f : Str} {al : List (Str × Addr)} (hn : ∀ p ∈ al, PySem.W.nsIn K mainGlobals p.1 = some (some (.ref p.2)))
    (chk : (al.all fun p => PySem.W.findIn K (.ref p.2) f == some none) = true) : NoAt K f (al.map (·.1)) := ⟨fun c m C h1 => by
  obtain ⟨q1, k1, e1⟩ := List.mem_map.mp m
  have a1 := hn q1 k1
  rw [e1] at a1
  have z1 := a1.symm.trans h1
  have y1 : q1.2 = C := by injection z1 with z1; injection z1 with z1; injection z1
  have := List.all_eq_true.mp chk q1 k1
  rw [y1] at this
  exact eq_of_beq this⟩
theorem ns_nil : ∀ p ∈ ([] : List (Str × Addr)), PySem.W.nsIn K mainGlobals p.1 = some (some (.ref p.2)) := fun _ m => nomatch m
theorem ns_cons {c : Str} {C : Addr} {al : List (Str × Addr)} (h : PySem.W.nsIn K mainGlobals c = some (some (.ref C))) (t : ∀ p ∈ al, PySem.W.nsIn K mainGlobals p.1 = some (some (.ref p.2))) : ∀ p ∈ (c, C) :: al, PySem.W.nsIn K mainGlobals p.1 = some (some (.ref p.2)) := fun p m => by
  rcases List.mem_cons.mp m with rfl | m
  · exact h
  · exact t p m
theorem xc_mk {C : Addr} (h1 : (PySem.W.clsIn K C).isSome = true) (h2 : PySem.W.findIn K (.ref C) "__getattribute__" = some (some (.builtin "BaseException.__getattribute__"))) (h3 : PySem.W.findIn K (.ref C) "__getattr__" = some none)
    (h4 : PySem.W.subIn K (.ref C) (.type "BaseException") = some true) (h5 : PySem.W.hasDictIn K C = true) (h6 : PySem.W.findIn K (.ref C) "__class__" = some (some (.builtin "object.__class__")))
    (h7 : PySem.W.specialIn K (.builtin "object.__class__") "__get__" = some (some (.builtin "getset_descriptor.__get__"))) (h8 : PySem.W.takesIn K (.builtin "object.__class__") = some true) (h9 : PySem.W.mroIn K C (.type "object") = some true)
    (h10 : (btsX.all fun n => PySem.W.kitOne K (.ref C) (.type n) == some false) = true) (h11 : PySem.W.kitOne K (.ref C) (.type "ValueError") = some true) : XcC K C :=
  ⟨h1, h2, h3, h4, h5, h6, h7, h8, h9, fun n m => eq_of_beq (List.all_eq_true.mp h10 n m), h11⟩
end
/-- a class with an own __init__, as the program's text has it -/
structure RiZ (K : PySem.W.Frag) (mg : Str → Option Value) (c f y qual : Str) (st : Stmt) : Prop where
  ex : ∃ (C fI : Addr) (fd : FuncData), mg c = some (.ref C) ∧ PySem.W.nsIn K mainGlobals c = some (some (.ref C)) ∧ XcC K C ∧ OexC K C ∧ PySem.W.findIn K (.ref C) "__init__" = some (some (.ref fI)) ∧ PySem.W.typeIn K (.ref fI) = some (.type "function") ∧
    PySem.W.findIn K (.ref C) f = some none ∧ L2.Fun K "__init__" qual st fI fd ∧ Binds K fd ["self", y] []
theorem riz_mk {K : PySem.W.Frag} {h : Heap} {mg : Str → Option Value} {c f y qual : Str} {st : Stmt} {C fI : Addr} {oc : Value} {od an : Option Addr} {osl : Array (Option Value)} {kV doc pm cdv ct : Value} (X : K.In h) (G : h.Ns mainGlobals mg)
    (n : PySem.W.nsIn K mainGlobals c = some (some (.ref C))) (xc : XcC K C) (ox : OexC K C) (i : PySem.W.findIn K (.ref C) "__init__" = some (some (.ref fI))) (t : PySem.W.typeIn K (.ref fI) = some (.type "function")) (nf : PySem.W.findIn K (.ref C) f = some none)
    (l : K.lookup fI = some ⟨oc, od, .func (PySem.W.fnOf "__init__" qual (defArgs st) (defBody st) (defScope st) .none kV doc pm an cdv ct), osl⟩) (cc : PySem.W.codeIn K cdv qual = true) (k : PySem.W.keepIn K (.ref fI) = true)
    (b : ∀ (kV doc pm : Value) (an : Option Addr) (cdv ct : Value) (us : List Value), us.length = 2 → bindArgs (PySem.W.fnOf "__init__" qual (defArgs st) (defBody st) (defScope st) .none kV doc pm an cdv ct) ⟨us, []⟩ = pure ((["self", y] : List Str).zip us)) : RiZ K mg c f y qual st := by
  have F := fun_mk l cc k
  exact ⟨C, fI, _, PySem.W.mg_of X G n, n, xc, ox, i, t, nf, F, F.binds b⟩
theorem ri_of {P : Program} {w : World} {K : PySem.W.Frag} {mg : Str → Option Value} {base : Heap} {k : Nat} {c f y m qual : Str} {st : Stmt} (R : RiZ K mg c f y qual st) (S : FnScope ["self", y] ["self", y] (defScope st))
    (h : ∀ fI cdv A up s H E, ∃ t u, defBody st = [t, u] ∧ PS (cxOf (L2.CX P w) P w K mg base ["self", y] qual (defScope st) fI cdv A up s H E) t (tDrop (tVeI K (tCons (tVar 0) (tCons (tC (.str m)) tNil)))) ∧ PS (cxOf (L2.CX P w) P w K mg base ["self", y] qual (defScope st) fI cdv A up s H E) u (tOst K f (tVar 0) (tVar 1))) :
    Ri P w K mg base (k + 1) c f := by
  obtain ⟨C, fI, fd, h1, h2, h3, h4, h5, h6, h7, h8, h9⟩ := R.ex
  exact ⟨C, fI, fd, y, h1, h2, h3, h4, h5, h6, h7, init_fn h8 S (fun cdv A up s H E => let ⟨t, u, e, p, q⟩ := h fI cdv A up s H E; ⟨t, u, p, q, e⟩), h9⟩
theorem oex_mk {K : PySem.W.Frag} {C : Addr} {nm q : Str} {N : Addr} {bs bm : List Value} {sn : List Str} {sub : List Value} {ab : Bool} {col : Option Bool} {dd : Option Addr} {k0 k1 k2 k3 k5 : Option Value}
    (h1 : K.lookup C = some (excClassObj nm q C N bs bm true sn sub ab col dd k0 k1 k2 k3 k5 "ValueError.__new__")) (h2 : PySem.HandSPX.refsVE bm = true) (h3 : PySem.W.findIn K (.ref C) "__setattr__" = some (some (.builtin "object.__setattr__")))
    (h4 : PySem.W.subIn K (.ref C) (.type "BaseException") = some true) (h5 : PySem.W.typeIn K (.ref C) = some (.type "type")) (h6 : PySem.W.keepIn K (.ref C) = true) : OexC K C :=
  ⟨⟨nm, q, N, bs, bm, sn, sub, ab, col, dd, k0, k1, k2, k3, k5, h1, h2⟩, h3, h4, h5, h6⟩
end Tl

namespace Tl
open PySem PySem.Spec PyProof.Rows L2
@[simp] def oXK (o : Out) : Option OX := some (.o o)
@[simp] theorem r_oX (m : MS) (s : SS) : oX m s = bd (m s) oXK := bd_om fun a => rfl
@[simp] def seqXK (n : MSX) : OX → Option OX
  | .o (.nx s) => n s
  | .o (.rt t s) => some (.o (.rt t s))
  | .o (.bk s) => some (.o (.bk s))
  | .o (.ct s) => some (.o (.ct s))
  | .xc c fs s => some (.xc c fs s)
@[simp] theorem r_mSeqX (m n : MSX) (s : SS) : mSeqX m n s = bd (m s) (seqXK n) := bd_of fun o => by
  cases o with
  | xc c fs s => rfl
  | o o => cases o <;> rfl
@[simp] theorem r_mNxX (s : SS) : mNxX s = some (.o (.nx s)) := rfl
def ifXK (m n : MSX) : Bool × SS → Option OX
  | (true, s) => m s
  | (false, s) => n s
@[simp] theorem ifXK_t (m n : MSX) (s : SS) : ifXK m n (true, s) = m s := rfl
@[simp] theorem ifXK_f (m n : MSX) (s : SS) : ifXK m n (false, s) = n s := rfl
@[simp] theorem r_mIfX (c : MXB) (m n : MSX) (s : SS) : mIfX c m n s = bd (c s) (ifXK m n) := bd_of fun a => by
  obtain ⟨b, s⟩ := a
  cases b <;> rfl
@[simp] theorem r_mRz (x : Str) (s : SS) : mRz x s = some (.xc x [] s) := rfl
@[simp] def riK2 (x f : Str) (s : SS) (d : D) : Option OX := some (.xc x [(f, d)] s)
@[simp] def riK (x f : Str) : T × SS → Option OX
  | (t, s) => bd t.fz (riK2 x f s)
@[simp] theorem r_mRi (x f : Str) (m : MX) (s : SS) : mRi x f m s = bd (m s) (riK x f) := bd_of fun a => bd_om fun d => rfl
@[simp] theorem r_mXV (m : MVX) (fz : Fz) (τ : Tau) : mXV m ⟨fz, τ⟩ = bd (m ⟨fz, []⟩ τ) (mXVk fz) := rfl
@[simp] theorem mXVk_val (fz : Fz) (x : T) (τ : Tau) : mXVk fz (.inl (.val x, τ)) = some (.inl (x, ⟨fz, τ⟩)) := rfl
@[simp] theorem mXVk_xc (fz : Fz) (c : Str) (fs : List (Str × D)) (τ : Tau) : mXVk fz (.inr (c, fs, τ)) = some (.inr (c, fs, ⟨fz, τ⟩)) := rfl
@[simp] def doXK : ZX → Option OX
  | .inl (_, s') => some (.o (.nx s'))
  | .inr (c, fs, s') => some (.xc c fs s')
@[simp] theorem r_mDoX (m : MVX) (s : SS) : mDoX m s = bd (mXV m s) doXK := bd_om fun z => by
  match z with
  | .inl _ => rfl
  | .inr _ => rfl
@[simp] def retXK : ZX → Option OX
  | .inl (t, s') => some (.o (.rt t s'))
  | .inr (c, fs, s') => some (.xc c fs s')
@[simp] theorem r_mRetX (m : MVX) (s : SS) : mRetX m s = bd (mXV m s) retXK := bd_om fun z => by
  match z with
  | .inl _ => rfl
  | .inr _ => rfl
@[simp] def setXK2 (i : Nat) (s : SS) (d : D) : Option OX := some (.o (.nx ⟨fset s.fz i (some d), tdel s.ow i⟩))
@[simp] def setXK (i : Nat) : ZX → Option OX
  | .inl (t, s') => bd t.fz (setXK2 i s')
  | .inr (c, fs, s') => some (.xc c fs s')
@[simp] theorem r_mSetX (i : Nat) (m : MVX) (s : SS) : mSetX i m s = bd (mXV m s) (setXK i) := bd_of fun z => by
  match z with
  | .inl _ => exact bd_om fun d => rfl
  | .inr _ => rfl
@[simp] theorem forLX_nil (ws : List Nat) (mt : MG) (body : MSX) (s : SS) : forLX ws mt body [] s = some (.o (.nx s)) := rfl
@[simp] def forXK (ws : List Nat) (mt : MG) (body : MSX) : List D × SS → Option OX
  | (ds, s) => forLX ws mt body ds s
@[simp] theorem r_mForX (ws : List Nat) (mi : MXI) (mt : MG) (body : MSX) (s : SS) : mForX ws mi mt body s = bd (mi s) (forXK ws mt body) := bd_of fun a => rfl
@[simp] def tryKK (cs : List Str) (i j : Nat) : OX → Option Out
  | .o o => some o
  | .xc c fs s' => if c ∈ cs then some (.nx ⟨fset (fset s'.fz j (some (xcD c fs))) i none, tdel (tdel s'.ow j) i⟩) else none
@[simp] theorem r_mTryK (cs : List Str) (i j : Nat) (mb : MSX) (s : SS) : mTryK cs i j mb s = bd (mb s) (tryKK cs i j) := bd_of fun o => by cases o <;> rfl
@[simp] def callXK3 (z : T) (τ : Tau) : Option ((R × Tau) ⊕ (Str × List (Str × D) × Tau)) := some (.inl (.val z, τ))
@[simp] def callXK4 (c : Str) (fs : List (Str × D)) (τ : Tau) : Option ((R × Tau) ⊕ (Str × List (Str × D) × Tau)) := some (.inr (c, fs, τ))
@[simp] def callXK2 (cs : List CArg) (τ : Tau) : (T × List T) ⊕ (Str × List (Str × D) × List T) → Option ((R × Tau) ⊕ (Str × List (Str × D) × Tau))
  | .inl (z, ts) => bd (backT cs ts τ) (callXK3 z)
  | .inr (c, fs, ts) => bd (backT cs ts τ) (callXK4 c fs)
@[simp] def callXK1 (f : MFX) (cs : List CArg) : List T × Tau → Option ((R × Tau) ⊕ (Str × List (Str × D) × Tau))
  | (ts, τ) => bd (f ts) (callXK2 cs τ)
@[simp] def callXK0 (f : MFX) : List CArg × Tau → Option ((R × Tau) ⊕ (Str × List (Str × D) × Tau))
  | (cs, τ) => bd (buildT cs τ) (callXK1 f cs)
@[simp] theorem r_mCallX (f : MFX) (l : MCA) (ro : Ro) (τ : Tau) : mCallX f l ro τ = bd (l ro τ) (callXK0 f) := bd_of fun a => bd_of fun b => bd_of fun c => by
  match c with
  | .inl (z, ts) => exact bd_om fun d => rfl
  | .inr (c, fs, ts) => exact bd_om fun d => rfl
@[simp] def fnXK3 (t : T) (ts : List T) : Option ((T × List T) ⊕ (Str × List (Str × D) × List T)) := some (.inl (t, ts))
@[simp] def fnXK4 (c : Str) (fs : List (Str × D)) (ts : List T) : Option ((T × List T) ⊕ (Str × List (Str × D) × List T)) := some (.inr (c, fs, ts))
@[simp] def fnXK2 (ks : List Bool) (ts : List T) : OX → Option ((T × List T) ⊕ (Str × List (Str × D) × List T))
  | .o (.rt t s) => bd (outT 0 ks ts s.ow) (fnXK3 t)
  | .o (.nx s) => bd (outT 0 ks ts s.ow) (fnXK3 (.leaf .none))
  | .xc c fs s => bd (outT 0 ks ts s.ow) (fnXK4 c fs)
  | .o (.bk _) => none
  | .o (.ct _) => none
@[simp] def fnXK0 (ks : List Bool) (n : Nat) (body : MSX) (ts : List T) (fz : Fz) : Option ((T × List T) ⊕ (Str × List (Str × D) × List T)) := bd (body ⟨fz ++ List.replicate (n - ks.length) none, inTau 0 ks ts⟩) (fnXK2 ks ts)
@[simp] theorem r_mFnX (ks : List Bool) (n : Nat) (body : MSX) (ts : List T) : mFnX ks n body ts = bd (inFz ks ts) (fnXK0 ks n body ts) := bd_of fun fz => bd_of fun o => by
  cases o with
  | xc c fs s => exact bd_om fun a => rfl
  | o o =>
    cases o with
    | rt t s => exact bd_om fun a => rfl
    | nx s => exact bd_om fun a => rfl
    | bk s => rfl
    | ct s => rfl
@[simp] def isxK2 (kr : Kin) (c : Str) (τ : Tau) (c0 : Str) : Option (R × Tau) := (kinB kr c0 c).map fun b => (rBool b, τ)
@[simp] def isxK1 (kr : Kin) (c : Str) (τ : Tau) (d : D) : Option (R × Tau) := bd (xcls d) (isxK2 kr c τ)
@[simp] def isxK (kr : Kin) (c : Str) : R × Tau → Option (R × Tau)
  | (r, τ) => bd r.er (isxK1 kr c τ)
@[simp] theorem r_mIsx (kr : Kin) (c : Str) (m : MV) (ro : Ro) (τ : Tau) : mIsx kr c m ro τ = bd (m ro τ) (isxK kr c) := bd_of fun a => bd_of fun d => bd_of fun z => rfl
@[simp] def isxTK2 (kr : Kin) (cs : List Str) (τ : Tau) (c0 : Str) : Option (R × Tau) := (anyIn kr c0 cs).map fun b => (rBool b, τ)
@[simp] def isxTK1 (kr : Kin) (cs : List Str) (τ : Tau) (d : D) : Option (R × Tau) := bd (xcls d) (isxTK2 kr cs τ)
@[simp] def isxTK (kr : Kin) (cs : List Str) : R × Tau → Option (R × Tau)
  | (r, τ) => bd r.er (isxTK1 kr cs τ)
@[simp] theorem r_mIsxT (kr : Kin) (cs : List Str) (m : MV) (ro : Ro) (τ : Tau) : mIsxT kr cs m ro τ = bd (m ro τ) (isxTK kr cs) := bd_of fun a => bd_of fun d => bd_of fun z => rfl
@[simp] def isxVK2 (τ : Tau) (c0 : Str) : Option (R × Tau) := some (rBool true, τ)
@[simp] def isxVK1 (τ : Tau) (d : D) : Option (R × Tau) := bd (xcls d) (isxVK2 τ)
@[simp] def isxVK : R × Tau → Option (R × Tau)
  | (r, τ) => bd r.er (isxVK1 τ)
@[simp] theorem r_mIsxV (m : MV) (ro : Ro) (τ : Tau) : mIsxV m ro τ = bd (m ro τ) isxVK := bd_of fun a => bd_of fun d => bd_om fun z => rfl
@[simp] def xfK2 (τ : Tau) (d : D) : Option (R × Tau) := some (rd d, τ)
@[simp] def xfK1 (f : Str) (cs : List Str) (τ : Tau) (d : D) : Option (R × Tau) := bd (xfld f cs d) (xfK2 τ)
@[simp] def xfK (f : Str) (cs : List Str) : R × Tau → Option (R × Tau)
  | (r, τ) => bd r.st (xfK1 f cs τ)
@[simp] theorem r_mXf (f : Str) (cs : List Str) (m : MV) (ro : Ro) (τ : Tau) : mXf f cs m ro τ = bd (m ro τ) (xfK f cs) := bd_of fun a => bd_of fun d => bd_om fun z => rfl
@[simp] theorem xcls_xcD (c : Str) (fs : List (Str × D)) : xcls (xcD c fs) = some c := rfl
/-- where nothing is raised the raising mirror does as the plain one -/
abbrev LiftX (m : MS) (n : MSX) : Prop := ∀ s o, m s = some o → n s = some (.o o)
theorem lift_o {m : MS} : LiftX m (oX m) := fun s o h => by simp [h]
theorem lift_never {n : MSX} : LiftX mNever n := fun s o h => absurd (show (none : Option Out) = some o from h) (fun z => nomatch z)
theorem lift_nx : LiftX mNx mNxX := fun s o h => by cases h; rfl
theorem lift_seq {m m' : MS} {n n' : MSX} (a : LiftX m n) (b : LiftX m' n') : LiftX (mSeq m m') (mSeqX n n') := fun s o h => by
  obtain ⟨o1, e1, h⟩ := Option.bind_eq_some_iff.mp h
  rw [r_mSeqX, a s o1 e1]
  cases o1 with
  | nx s1 => exact b s1 o h
  | rt t s1 => cases h; rfl
  | bk s1 => cases h; rfl
  | ct s1 => cases h; rfl
theorem lift_if {c : MXB} {m m' : MS} {n n' : MSX} (a : LiftX m n) (b : LiftX m' n') : LiftX (mIfS c m m') (mIfX c n n') := fun s o h => by
  obtain ⟨⟨t, s1⟩, e1, h⟩ := Option.bind_eq_some_iff.mp h
  rw [r_mIfX, e1]
  cases t with
  | true => exact a s1 o h
  | false => exact b s1 o h
theorem lift_forL {ws : List Nat} {mt : MG} {m : MS} {n : MSX} (a : LiftX m n) : ∀ (ds : List D) (s : SS) (o : Out), forL ws mt m ds s = some o → forLX ws mt n ds s = some (.o o)
  | [], s, o, h => by
    cases h
    rfl
  | d :: ds, s, o, h => by
    obtain ⟨fz, e1, h⟩ := Option.bind_eq_some_iff.mp h
    obtain ⟨o1, e2, h⟩ := Option.bind_eq_some_iff.mp h
    show (mt d s.fz).bind _ = _
    rw [e1]
    show (n ⟨fz, tout ws s.ow⟩).bind _ = _
    rw [a _ _ e2]
    cases o1 with
    | nx s1 => exact lift_forL a ds s1 o h
    | ct s1 => exact lift_forL a ds s1 o h
    | rt t s1 => cases h; rfl
    | bk s1 => cases h; rfl
theorem lift_for {ws : List Nat} {mi : MXI} {mt : MG} {m : MS} {n : MSX} (a : LiftX m n) : LiftX (mFor ws mi mt m) (mForX ws mi mt n) := fun s o h => by
  obtain ⟨⟨ds, s1⟩, e1, h⟩ := Option.bind_eq_some_iff.mp h
  rw [r_mForX, e1]
  exact lift_forL a ds s1 o h
theorem lift_fn {ks : List Bool} {k : Nat} {m : MS} {n : MSX} (a : LiftX m n) {ts ts' : List T} {r : T} (h : mFn ks k m ts = some (r, ts')) : mFnX ks k n ts = some (.inl (r, ts')) := by
  obtain ⟨fz, e1, h⟩ := Option.bind_eq_some_iff.mp h
  obtain ⟨o, e2, h⟩ := Option.bind_eq_some_iff.mp h
  rw [r_mFnX, e1]
  show bd (n _) _ = _
  rw [a _ _ e2]
  cases o with
  | rt t s1 =>
    obtain ⟨u, e3, h⟩ := Option.map_eq_some_iff.mp h
    cases h
    simp [e3]
  | nx s1 =>
    obtain ⟨u, e3, h⟩ := Option.map_eq_some_iff.mp h
    cases h
    simp [e3]
  | bk s1 => cases h
  | ct s1 => cases h
/-- x-pieces -/
theorem seqX_nx {m n : MSX} {s s' : SS} (h : m s = some (.o (.nx s'))) : mSeqX m n s = n s' := by simp [h]
theorem seqX_xc {m n : MSX} {s s' : SS} {c : Str} {fs : List (Str × D)} (h : m s = some (.xc c fs s')) : mSeqX m n s = some (.xc c fs s') := by simp [h]
end Tl

namespace La
open PySem PySem.Spec PyProof.Rows L2 Tl
def b_number_word : MS := (mSeq (mIfS (mXB (mOrB (mNotB (mTst (mChain fLe fLe (mC (.int 1)) (mOp gLen (mCons (mVar 0) mNil)) (mC (.int 6))))) (mNotB (mTru (mOp gAll (mCons (mLc [1] (iTxt (mVar 0)) (gtN 1) mYes (mBin (gp pInS) (mVar 1) (mC (.str "0123456789")))) mNil)))))) (mSeq (mRet (mX (mC .none))) mNx) mNx) (mSeq (mIfS (mXB (mAndB (mBinB (gp pEq) (mBin gIx (mVar 0) (mC (.int 0))) (mC (.str "0"))) (mBinB (gp pNe) (mVar 0) (mC (.str "0"))))) (mSeq (mRet (mX (mC .none))) mNx) mNx) (mSeq (mRet (mX (mOp (gp pIntS) (mCons (mVar 0) mNil)))) mNx)))
def m_number_word : MF := mFn [false] 2 b_number_word
def b_number_words : MS := (mSeq (mSet 2 (mX (mLc [3] (iSeq (mVar 0)) (gtN 3) mYes (mCall m_number_word (cCons (mVar 3) cNil))))) (mSeq (mIfS (mXB (mOrB (mBinB (gp pNe) (mOp gLen (mCons (mVar 2) mNil)) (mVar 1)) (mBinB gIn (mC .none) (mVar 2)))) (mSeq (mRet (mX (mC .none))) mNx) mNx) (mSeq (mRet (mX (mVar 2))) mNx)))
def m_number_words : MF := mFn [false, false] 4 b_number_words
def b_net_text : MS := (mSeq (mAsg [1, 2] (gtT (gtCons (gtN 1) (gtCons (gtN 2) gtNil))) (mX (mVar 0))) (mSeq (mSetO 3 (mX (mOp gLstD (mCons (mBin gAdd (mC (.str "houses ")) (mOp (gp pStr) (mCons (mVar 1) mNil))) mNil)))) (mSeq (mFor [4, 5, 6] (mXI (iSeq (mVar 2))) (gtT (gtCons (gtN 4) (gtCons (gtN 5) (gtCons (gtN 6) gtNil)))) (mSeq (mDo (mX (mMut 3 gAppend (mCons (mOp gJoin (mTxt2 (mC (.str " ")) (mOp gLstD (mCons (mC (.str "lane")) (mCons (mOp (gp pStr) (mCons (mVar 4) mNil)) (mCons (mOp (gp pStr) (mCons (mVar 5) mNil)) (mCons (mOp (gp pStr) (mCons (mVar 6) mNil)) mNil))))))) mNil)))) mNx)) (mSeq (mRet (mX (mBr 3 (mOp gJoin (mTxt2 (mC (.str "\n")) (mSee 3)))))) mNx))))
def m_net_text : MF := mFn [false] 7 b_net_text
def b_houses_from : MS := (mSeq (mSet 1 (mX (mOp gSplit (mTxt2 (mVar 0) (mC (.str " ")))))) (mSeq (mSet 2 (mX (mCall m_number_words (cCons (mCut (mVar 1) (oSome (mC (.int 1))) oNone) (cCons (mC (.int 1)) cNil))))) (mSeq (mIfS (mXB (mOrB (mBinB (gp pNe) (mBin gIx (mVar 1) (mC (.int 0))) (mC (.str "houses"))) (mOrB (mBinB (gp pIsN) (mVar 2) (mC .none)) (mBinB gLt (mBin gIx (mVar 2) (mC (.int 0))) (mC (.int 1)))))) (mSeq (mRet (mX (mC .none))) mNx) mNx) (mSeq (mRet (mX (mBin gIx (mVar 2) (mC (.int 0))))) mNx))))
def m_houses_from : MF := mFn [false] 3 b_houses_from
def b_lane_from : MS := (mSeq (mSet 2 (mX (mOp gSplit (mTxt2 (mVar 0) (mC (.str " ")))))) (mSeq (mSet 3 (mX (mCall m_number_words (cCons (mCut (mVar 2) (oSome (mC (.int 1))) oNone) (cCons (mC (.int 3)) cNil))))) (mSeq (mIfS (mXB (mOrB (mBinB (gp pNe) (mBin gIx (mVar 2) (mC (.int 0))) (mC (.str "lane"))) (mBinB (gp pIsN) (mVar 3) (mC .none)))) (mSeq (mRet (mX (mC .none))) mNx) mNx) (mSeq (mAsg [4, 5, 6] (gtT (gtCons (gtN 4) (gtCons (gtN 5) (gtCons (gtN 6) gtNil)))) (mX (mVar 3))) (mSeq (mIfS (mXB (mOrB (mBinB gGe (mVar 4) (mVar 1)) (mOrB (mBinB gGe (mVar 5) (mVar 1)) (mOrB (mBinB (gp pEq) (mVar 4) (mVar 5)) (mBinB gLt (mVar 6) (mC (.int 1))))))) (mSeq (mRet (mX (mC .none))) mNx) mNx) (mSeq (mRet (mX (mOp gTupD (mCons (mVar 4) (mCons (mVar 5) (mCons (mVar 6) mNil)))))) mNx))))))
def m_lane_from : MF := mFn [false, false] 7 b_lane_from
def b_net_from : MS := (mSeq (mSet 1 (mX (mOp gSplit (mTxt2 (mVar 0) (mC (.str "\n")))))) (mSeq (mSet 2 (mX (mCall m_houses_from (cCons (mBin gIx (mVar 1) (mC (.int 0))) cNil)))) (mSeq (mIfS (mXB (mBinB (gp pIsN) (mVar 2) (mC .none))) (mSeq mNever mNx) mNx) (mSeq (mSetO 3 (mX (mOp gLstD mNil))) (mSeq (mFor [4, 5] (mXI (iEnumM (mCut (mVar 1) (oSome (mC (.int 1))) oNone))) (gtT (gtCons (gtN 4) (gtCons (gtN 5) gtNil))) (mSeq (mSet 6 (mX (mCall m_lane_from (cCons (mVar 5) (cCons (mVar 2) cNil))))) (mSeq (mIfS (mXB (mBinB (gp pIsN) (mVar 6) (mC .none))) (mSeq mNever mNx) mNx) (mSeq (mDo (mX (mMut 3 gAppend (mCons (mVar 6) mNil)))) mNx)))) (mSeq (mRet (mX (mOp gTupT (mCons (mVar 2) (mCons (mTk 3) mNil))))) mNx))))))
def m_net_from : MF := mFn [false] 7 b_net_from
def bx_net_from : MSX := (mSeqX (oX (mSet 1 (mX (mOp gSplit (mTxt2 (mVar 0) (mC (.str "\n"))))))) (mSeqX (oX (mSet 2 (mX (mCall m_houses_from (cCons (mBin gIx (mVar 1) (mC (.int 0))) cNil))))) (mSeqX (mIfX (mXB (mBinB (gp pIsN) (mVar 2) (mC .none))) (mSeqX (mRi "BadText" "row" (mX (mC (.int 0)))) mNxX) mNxX) (mSeqX (oX (mSetO 3 (mX (mOp gLstD mNil)))) (mSeqX (mForX [4, 5] (mXI (iEnumM (mCut (mVar 1) (oSome (mC (.int 1))) oNone))) (gtT (gtCons (gtN 4) (gtCons (gtN 5) gtNil))) (mSeqX (oX (mSet 6 (mX (mCall m_lane_from (cCons (mVar 5) (cCons (mVar 2) cNil)))))) (mSeqX (mIfX (mXB (mBinB (gp pIsN) (mVar 6) (mC .none))) (mSeqX (mRi "BadText" "row" (mX (mBin gAdd (mVar 4) (mC (.int 1))))) mNxX) mNxX) (mSeqX (oX (mDo (mX (mMut 3 gAppend (mCons (mVar 6) mNil))))) mNxX)))) (mSeqX (oX (mRet (mX (mOp gTupT (mCons (mVar 2) (mCons (mTk 3) mNil)))))) mNxX))))))
def x_net_from : MFX := mFnX [false] 7 bx_net_from
def b_law_cell_at : MS := (mSeq (mRet (mX (mBr 0 (mIf (mBrB 0 (mBinB gLt (mVar 1) (mOp gLen (mCons (mSee 0) mNil)))) (mBin gIx (mSee 0) (mVar 1)) (mC (.int 0)))))) mNx)
def m_law_cell_at : MF := mFn [true, false] 2 b_law_cell_at
def b_law_tape : MS := (mSeq (mSet 2 (mX (mCall m_law_cell_at (cIo 0 (cCons (mVar 1) cNil))))) (mSeq (mRet (mX (mOp gLstD (mCons (mBin gMul (mOp (gp pAbs) (mCons (mVar 2) mNil)) (mOp (gp pInt) (mCons (mBin gGe (mOp (gp pAbs) (mCons (mVar 2) mNil)) (mBin gPow (mC (.int 10)) (mC (.int 18)))) mNil))) (mCons (mBin gMod (mBin gMul (mBin gAdd (mBin gAdd (mBin gMod (mVar 2) (mC (.int 2147483647))) (mBin gMul (mC (.int 6907)) (mVar 1))) (mC (.int 29))) (mC (.int 48271))) (mC (.int 2147483629))) (mCons (mC (.int 0)) mNil)))))) mNx))
def m_law_tape : MF := mFn [true, false] 3 b_law_tape
def b_law_take : MS := (mSeq (mIfS (mXB (mBrB 0 (mBinB gGt (mBin gIx (mSee 0) (mC (.int 0))) (mC (.int 0))))) (mSeq (mSet 2 (mX (mBr 0 (mBin gMod (mBin gIx (mSee 0) (mC (.int 0))) (mVar 1))))) (mSeq (mSetP 0 pHere (mBr 0 (mBin gDiv (mBin gIx (mSee 0) (mC (.int 0))) (mVar 1))) (mC (.int 0))) (mSeq (mRet (mX (mVar 2))) mNx))) mNx) (mSeq (mSetP 0 pHere (mBr 0 (mBin gAdd (mBin gIx (mSee 0) (mC (.int 2))) (mC (.int 1)))) (mC (.int 2))) (mSeq (mSet 3 (mX (mBr 0 (mBin gMod (mBin gMul (mBin gAdd (mBin gIx (mSee 0) (mC (.int 1))) (mBin gMul (mC (.int 39373)) (mBin gIx (mSee 0) (mC (.int 2))))) (mBin gAdd (mC (.int 48271)) (mBin gIx (mSee 0) (mC (.int 2))))) (mC (.int 2147483647)))))) (mSeq (mSetP 0 pHere (mBr 0 (mBin gMod (mBin gAdd (mBin gMul (mVar 3) (mBin gAdd (mBin gMod (mVar 3) (mC (.int 40009))) (mC (.int 7)))) (mBin gIx (mSee 0) (mC (.int 2)))) (mC (.int 2147483629)))) (mC (.int 1))) (mSeq (mRet (mX (mBr 0 (mBin gMod (mBin gDiv (mBin gMod (mBin gMul (mBin gIx (mSee 0) (mC (.int 1))) (mBin gAdd (mBin gMod (mBin gIx (mSee 0) (mC (.int 1))) (mC (.int 1009))) (mC (.int 3)))) (mC (.int 998244353))) (mC (.int 7))) (mVar 1))))) mNx)))))
def m_law_take : MF := mFn [true, false] 4 b_law_take
def b_law_room : MS := (mSeq (mRet (mX (mBin gIx (mOp gLstD (mCons (mC (.int 1)) (mCons (mC (.int 2)) (mCons (mBin gAdd (mC (.int 1)) (mCall m_law_take (cIo 0 (cCons (mC (.int 4)) cNil)))) mNil)))) (mCall m_law_take (cIo 0 (cCons (mC (.int 3)) cNil)))))) mNx)
def m_law_room : MF := mFn [true] 1 b_law_room
def b_law_net : MS := (mSeq (mSet 1 (mX (mCall m_law_take (cIo 0 (cCons (mC (.int 4)) cNil))))) (mSeq (mSet 2 (mX (mBin (gp pEq) (mCall m_law_take (cIo 0 (cCons (mC (.int 8)) cNil))) (mC (.int 0))))) (mSeq (mSet 3 (mX (mIf (mTru (mVar 2)) (mBin gAdd (mC (.int 7)) (mCall m_law_take (cIo 0 (cCons (mC (.int 6)) cNil)))) (mBin gAdd (mC (.int 2)) (mCall m_law_take (cIo 0 (cCons (mC (.int 5)) cNil))))))) (mSeq (mSetO 4 (mX (mOp gLstD mNil))) (mSeq (mIfS (mXB (mBinB (gp pEq) (mVar 1) (mC (.int 0)))) (mSeq (mSet 5 (mX (mBin gAdd (mC (.int 1)) (mCall m_law_take (cIo 0 (cCons (mC (.int 2)) cNil)))))) (mSeq (mFor [6] (mXI (iRng (mCons (mVar 3) mNil))) (gtN 6) (mSeq (mDo (mX (mMut 4 gExtend (mCons (mLc [8] (iRng (mCons (mVar 5) mNil)) (gtN 8) mYes (mOp gTupD (mCons (mVar 6) (mCons (mBin gMod (mBin gAdd (mVar 6) (mC (.int 1))) (mVar 3)) (mCons (mCall m_law_room (cIo 0 cNil)) mNil))))) mNil)))) mNx)) mNx)) mNx) (mSeq (mIfS (mXB (mBinB (gp pEq) (mVar 1) (mC (.int 1)))) (mSeq (mFor [6] (mXI (iRng (mCons (mC (.int 1)) (mCons (mVar 3) mNil)))) (gtN 6) (mSeq (mSet 7 (mX (mCall m_law_take (cIo 0 (cCons (mVar 6) cNil))))) (mSeq (mDo (mX (mMut 4 gExtend (mCons (mOp gLstD (mCons (mOp gTupD (mCons (mVar 6) (mCons (mVar 7) (mCons (mCall m_law_room (cIo 0 cNil)) mNil)))) (mCons (mOp gTupD (mCons (mVar 7) (mCons (mVar 6) (mCons (mCall m_law_room (cIo 0 cNil)) mNil)))) mNil))) mNil)))) mNx))) mNx) mNx) (mSeq (mFor [8] (mXI (iRng (mCons (mCall m_law_take (cIo 0 (cCons (mC (.int 12)) cNil))) mNil))) (gtN 8) (mSeq (mSet 9 (mX (mCall m_law_take (cIo 0 (cCons (mVar 3) cNil))))) (mSeq (mSet 10 (mX (mBin gMod (mBin gAdd (mBin gAdd (mVar 9) (mC (.int 1))) (mCall m_law_take (cIo 0 (cCons (mBin Tl.gSub (mVar 3) (mC (.int 1))) cNil)))) (mVar 3)))) (mSeq (mDo (mX (mMut 4 gInsert (mCons (mCall m_law_take (cIo 0 (cCons (mBr 4 (mBin gAdd (mOp gLen (mCons (mSee 4) mNil)) (mC (.int 1)))) cNil))) (mCons (mOp gTupD (mCons (mVar 9) (mCons (mVar 10) (mCons (mCall m_law_room (cIo 0 cNil)) mNil)))) mNil))))) (mSeq (mIfS (mXB (mBinB (gp pEq) (mVar 1) (mC (.int 1)))) (mSeq (mDo (mX (mMut 4 gAppend (mCons (mOp gTupD (mCons (mVar 10) (mCons (mVar 9) (mCons (mCall m_law_room (cIo 0 cNil)) mNil)))) mNil)))) mNx) mNx) mNx))))) (mSeq (mRet (mX (mOp gTupD (mCons (mVar 3) (mCons (mBr 4 (mCut (mSee 4) oNone (oSome (mIf (mTru (mVar 2)) (mC (.int 40)) (mC (.int 16)))))) mNil))))) mNx))))))))
def m_law_net : MF := mFn [true] 11 b_law_net
def b_law_same (r : MF) : MS := (mSeq (mIfS (mXB (mTru (mIsi2 isListD isTupD (mVar 1)))) (mSeq (mIfS (mXB (mOrB (mBinB (gp pNe) (mIsi isListD (mVar 0)) (mIsi isListD (mVar 1))) (mBinB (gp pNe) (mIsi isTupD (mVar 0)) (mIsi isTupD (mVar 1))))) (mSeq (mRet (mX (mC (.bool false)))) mNx) mNx) (mSeq (mIfS (mXB (mBinB (gp pNe) (mOp gLen (mCons (mVar 0) mNil)) (mOp gLen (mCons (mVar 1) mNil)))) (mSeq (mRet (mX (mC (.bool false)))) mNx) mNx) (mSeq (mRet (mX (mOp gAll (mCons (mLc [2, 3] (iZipM (mVar 0) (mVar 1)) (gtT (gtCons (gtN 2) (gtCons (gtN 3) gtNil))) mYes (mCall r (cCons (mVar 2) (cCons (mVar 3) cNil)))) mNil)))) mNx))) mNx) (mSeq (mIfS (mXB (mOrB (mBinB (gp pIsN) (mVar 1) (mC .none)) (mTru (mIsi isStrD (mVar 1))))) (mSeq (mRet (mX (mAnd (mBin (gp pEq) (mVar 0) (mVar 1)) (mBin (gp pEq) (mIsi isStrD (mVar 0)) (mIsi isStrD (mVar 1)))))) mNx) mNx) (mSeq (mIfS (mXB (mTru (mIsi isBoolD (mVar 1)))) (mSeq (mRet (mX (mAnd (mIsi isBoolD (mVar 0)) (mBin (gp pEq) (mVar 0) (mVar 1))))) mNx) mNx) (mSeq (mRet (mX (mAnd (mIsi isIntD (mVar 0)) (mAnd (mNot (mIsi isBoolD (mVar 0))) (mBin (gp pEq) (mVar 0) (mVar 1)))))) mNx))))
def m_law_same : Nat → MF
  | 0 => mFn [false, false] 4 fun _ => none
  | j + 1 => mFn [false, false] 4 (b_law_same (m_law_same j))
def b_law_rows_otherwise : MS := (mSeq (mSetO 2 (mX (mOp gSplit (mTxt2 (mVar 1) (mC (.str "\n")))))) (mSeq (mPar 3 4 (mCons (mCall m_law_take (cIo 0 (cCons (mBr 2 (mOp gLen (mCons (mSee 2) mNil))) cNil))) (mCons (mCall m_law_take (cIo 0 (cCons (mBr 2 (mOp gLen (mCons (mSee 2) mNil))) cNil))) mNil))) (mSeq (mSet 5 (mX (mCall m_law_take (cIo 0 (cCons (mC (.int 4)) cNil))))) (mSeq (mIfS (mXB (mBinB (gp pEq) (mVar 5) (mC (.int 0)))) (mSeq (mDo (mX (mMut 2 gInsert (mCons (mVar 4) (mCons (mBr 2 (mBin gIx (mSee 2) (mVar 3))) mNil))))) mNx) (mSeq (mIfS (mXB (mBinB (gp pEq) (mVar 5) (mC (.int 1)))) (mSeq (mDo (mX (mMut 2 gPopAt (mCons (mVar 3) mNil)))) mNx) (mSeq (mIfS (mXB (mBinB (gp pEq) (mVar 5) (mC (.int 2)))) (mSeq (mDo (mX (mMut 2 gInsert (mCons (mVar 4) (mCons (mC (.str "")) mNil))))) mNx) (mSeq (mSetP2 2 pHere (mVar 3) 2 pHere (mVar 4) (mOp gTupD (mCons (mBr 2 (mBin gIx (mSee 2) (mVar 4))) (mCons (mBr 2 (mBin gIx (mSee 2) (mVar 3))) mNil)))) mNx)) mNx)) mNx)) (mSeq (mRet (mX (mBr 2 (mOp gJoin (mTxt2 (mC (.str "\n")) (mSee 2)))))) mNx)))))
def m_law_rows_otherwise : MF := mFn [true, false] 6 b_law_rows_otherwise
def b_law_spoilt_k63 : MS := (mSeq (mSet 2 (mX (mC (.str " !\"#$&'()*+,-./0123456789:;<=>?@ABCDEFGHIJKLMNOPQRSTUVWXYZ[\\]^_`abcdefghijklmnopqrstuvwxyz{|}~")))) (mSeq (mSet 3 (mX (mCall m_law_take (cIo 0 (cCons (mBin gAdd (mOp gLen (mCons (mVar 1) mNil)) (mC (.int 1))) cNil))))) (mSeq (mSet 4 (mX (mBin gIx (mBin gAdd (mVar 2) (mC (.str "\n"))) (mCall m_law_take (cIo 0 (cCons (mC (.int 95)) cNil)))))) (mSeq (mSet 5 (mX (mCall m_law_take (cIo 0 (cCons (mC (.int 9)) cNil))))) (mSeq (mIfS (mXB (mBinB gLt (mVar 5) (mC (.int 2)))) (mSeq (mRet (mX (mBin gAdd (mBin gAdd (mCut (mVar 1) oNone (oSome (mVar 3))) (mVar 4)) (mCut (mVar 1) (oSome (mBin gAdd (mVar 3) (mC (.int 1)))) oNone)))) mNx) mNx) (mSeq (mIfS (mXB (mBinB gLt (mVar 5) (mC (.int 4)))) (mSeq (mRet (mX (mBin gAdd (mBin gAdd (mCut (mVar 1) oNone (oSome (mVar 3))) (mVar 4)) (mCut (mVar 1) (oSome (mVar 3)) oNone)))) mNx) mNx) (mSeq (mIfS (mXB (mBinB (gp pEq) (mVar 5) (mC (.int 4)))) (mSeq (mRet (mX (mBin gAdd (mCut (mVar 1) oNone (oSome (mVar 3))) (mCut (mVar 1) (oSome (mBin gAdd (mVar 3) (mC (.int 1)))) oNone)))) mNx) mNx) (mSeq (mIfS (mXB (mBinB (gp pEq) (mVar 5) (mC (.int 5)))) (mSeq (mPar 6 7 (mCons (mCut (mVar 1) (oSome (mVar 3)) (oSome (mBin gAdd (mVar 3) (mC (.int 1))))) (mCons (mCut (mVar 1) (oSome (mBin gAdd (mVar 3) (mC (.int 1)))) (oSome (mBin gAdd (mVar 3) (mC (.int 2))))) mNil))) (mSeq (mRet (mX (mBin gAdd (mBin gAdd (mBin gAdd (mCut (mVar 1) oNone (oSome (mVar 3))) (mVar 7)) (mVar 6)) (mCut (mVar 1) (oSome (mBin gAdd (mVar 3) (mC (.int 2)))) oNone)))) mNx)) mNx) (mSeq (mIfS (mXB (mBinB (gp pEq) (mVar 5) (mC (.int 6)))) (mSeq (mRet (mX (mCut (mVar 1) oNone (oSome (mVar 3))))) mNx) mNx) (mSeq (mRet (mX (mCall m_law_rows_otherwise (cIo 0 (cCons (mVar 1) cNil))))) mNx))))))))))
def m_law_spoilt_k63 : MF := mFn [true, false] 8 b_law_spoilt_k63
def b_law_net_text : MS := (mSeq (mSetO 1 (mX (mOp gLstD (mCons (mBin gAdd (mC (.str "houses ")) (mOp (gp pStr) (mCons (mBin gIx (mVar 0) (mC (.int 0))) mNil))) mNil)))) (mSeq (mFor [2, 3, 4] (mXI (iSeq (mBin gIx (mVar 0) (mC (.int 1))))) (gtT (gtCons (gtN 2) (gtCons (gtN 3) (gtCons (gtN 4) gtNil)))) (mSeq (mDo (mX (mMut 1 gAppend (mCons (mBin gAdd (mBin gAdd (mBin gAdd (mBin gAdd (mBin gAdd (mC (.str "lane ")) (mOp (gp pStr) (mCons (mVar 2) mNil))) (mC (.str " "))) (mOp (gp pStr) (mCons (mVar 3) mNil))) (mC (.str " "))) (mOp (gp pStr) (mCons (mVar 4) mNil))) mNil)))) mNx)) (mSeq (mRet (mX (mBr 1 (mOp gJoin (mTxt2 (mC (.str "\n")) (mSee 1)))))) mNx)))
def m_law_net_text : MF := mFn [false] 5 b_law_net_text
def b_law_number : MS := (mSeq (mIfS (mXB (mOrB (mNotB (mTst (mChain fLt fLt (mC (.int 0)) (mOp gLen (mCons (mVar 0) mNil)) (mC (.int 7))))) (mOrB (mTru (mOp gAny (mCons (mLc [1] (iTxt (mVar 0)) (gtN 1) mYes (mBin (gp pNotInS) (mVar 1) (mC (.str "0123456789")))) mNil))) (mBinB (gp pNe) (mOp (gp pStr) (mCons (mOp (gp pIntS) (mCons (mVar 0) mNil)) mNil)) (mVar 0))))) (mSeq (mRet (mX (mUn (gp pNeg) (mC (.int 1))))) mNx) mNx) (mSeq (mRet (mX (mOp (gp pIntS) (mCons (mVar 0) mNil)))) mNx))
def m_law_number : MF := mFn [false] 2 b_law_number
def b_law_numbers : MS := (mSeq (mSet 2 (mX (mOp gSplit (mTxt2 (mVar 0) (mC (.str " ")))))) (mSeq (mSet 3 (mX (mLc [4] (iSeq (mCut (mVar 2) (oSome (mC (.int 1))) oNone)) (gtN 4) mYes (mCall m_law_number (cCons (mVar 4) cNil))))) (mSeq (mRet (mX (mIf (mAndB (mBinB (gp pEq) (mBin gIx (mVar 2) (mC (.int 0))) (mVar 1)) (mBinB gNotIn (mUn (gp pNeg) (mC (.int 1))) (mVar 3))) (mVar 3) (mOp gLstD mNil)))) mNx)))
def m_law_numbers : MF := mFn [false, false] 5 b_law_numbers
def b_law_net_read : MS := (mSeq (mSet 1 (mX (mOp gSplit (mTxt2 (mVar 0) (mC (.str "\n")))))) (mSeq (mSet 2 (mX (mCall m_law_numbers (cCons (mBin gIx (mVar 1) (mC (.int 0))) (cCons (mC (.str "houses")) cNil))))) (mSeq (mIfS (mXB (mOrB (mBinB (gp pNe) (mOp gLen (mCons (mVar 2) mNil)) (mC (.int 1))) (mBinB gLt (mBin gIx (mVar 2) (mC (.int 0))) (mC (.int 1))))) (mSeq (mRet (mX (mC (.int 0)))) mNx) mNx) (mSeq (mSetO 3 (mX (mOp gLstD mNil))) (mSeq (mFor [4, 5] (mXI (iEnumM (mCut (mVar 1) (oSome (mC (.int 1))) oNone))) (gtT (gtCons (gtN 4) (gtCons (gtN 5) gtNil))) (mSeq (mSet 6 (mX (mCall m_law_numbers (cCons (mVar 5) (cCons (mC (.str "lane")) cNil))))) (mSeq (mIfS (mXB (mOrB (mBinB (gp pNe) (mOp gLen (mCons (mVar 6) mNil)) (mC (.int 3))) (mOrB (mBinB gGe (mOp gMax (mCons (mCut (mVar 6) oNone (oSome (mC (.int 2)))) mNil)) (mBin gIx (mVar 2) (mC (.int 0)))) (mOrB (mBinB (gp pEq) (mBin gIx (mVar 6) (mC (.int 0))) (mBin gIx (mVar 6) (mC (.int 1)))) (mBinB gLt (mBin gIx (mVar 6) (mC (.int 2))) (mC (.int 1))))))) (mSeq (mRet (mX (mBin gAdd (mVar 4) (mC (.int 1))))) mNx) mNx) (mSeq (mDo (mX (mMut 3 gAppend (mCons (mOp gTuple (mCons (mVar 6) mNil)) mNil)))) mNx)))) (mSeq (mPre (mFz 3) (mRet (mX (mOp gTupD (mCons (mBin gIx (mVar 2) (mC (.int 0))) (mCons (mVar 3) mNil)))))) mNx))))))
def m_law_net_read : MF := mFn [false] 7 b_law_net_read
def b_law_word_k62 : MS := (mSeq (mSet 1 (mX (mOp gLstD (mCons (mIsx krAll "BadText" (mVar 0)) (mCons (mIsx krAll "BadTrain" (mVar 0)) (mCons (mIsx krAll "BadStep" (mVar 0)) mNil)))))) (mSeq (mSet 1 (mX (mBin gAdd (mVar 1) (mOp gLstD (mCons (mIsx krAll "NoWay" (mVar 0)) (mCons (mIsxT krAll ["NoStep", "NoTrain"] (mVar 0)) mNil)))))) (mSeq (mIfS (mXB (mOrB (mBinB (gp pNe) (mLM (gp pCount) (mVar 1) (mCons (mC (.bool true)) mNil)) (mC (.int 1))) (mOrB (mTru (mBin gIx (mVar 1) (mC (.int 4)))) (mNotB (mTru (mIsxV (mVar 0))))))) (mSeq (mRet (mX (mOp gTupD (mCons (mC (.str "other")) (mCons (mC (.int 0)) mNil))))) mNx) mNx) (mSeq (mSet 2 (mX (mBin gIx (mOp gLstD (mCons (mC (.str "text")) (mCons (mC (.str "train")) (mCons (mC (.str "step")) (mCons (mC (.str "way")) mNil))))) (mLM (gp pIndex) (mVar 1) (mCons (mC (.bool true)) mNil))))) (mSeq (mRet (mX (mIf (mBinB (gp pEq) (mVar 2) (mC (.str "way"))) (mOp gTupD (mCons (mVar 2) (mCons (mC (.int 0)) mNil))) (mOp gTupD (mCons (mVar 2) (mCons (mXf "row" ["BadText", "BadTrain", "BadStep"] (mVar 0)) mNil)))))) mNx)))))
def m_law_word_k62 : MF := mFn [false] 3 b_law_word_k62
def b_law_right_k63 : MS := (mSeq (mSet 1 (mX (mCall m_law_net_read (cCons (mVar 0) cNil)))) (mSeq (mAsg [2, 3] (gtT (gtCons (gtN 2) (gtCons (gtN 3) gtNil))) (mX (mOp gTupD (mCons (mC .none) (mCons (mC .none) mNil))))) (mSeq (mTryK xcNames 4 3 (mSeqX (mSetX 2 (mCallX x_net_from (cCons (mVar 0) cNil))) mNxX)) (mSeq (mIfS (mXB (mBinB (gp pNotN) (mVar 3) (mC .none))) (mSeq (mRet (mX (mAnd (mIsi isIntD (mVar 1)) (mCall (m_law_same 60) (cCons (mCall m_law_word_k62 (cCons (mVar 3) cNil)) (cCons (mOp gTupD (mCons (mC (.str "text")) (mCons (mVar 1) mNil))) cNil)))))) mNx) mNx) (mSeq (mRet (mX (mAnd (mIsi isTupD (mVar 1)) (mAnd (mCall (m_law_same 60) (cCons (mVar 2) (cCons (mVar 1) cNil))) (mBin (gp pEq) (mCall m_net_text (cCons (mVar 2) cNil)) (mVar 0)))))) mNx)))))
def m_law_right_k63 : MF := mFn [false] 5 b_law_right_k63
def b_law_k63 : MS := (mSeq (mFor [1] (mXI (iRng (mCons (mBr 0 (mBin gAdd (mC (.int 1)) (mOp (gp pMin2) (mCons (mC (.int 8)) (mCons (mOp gLen (mCons (mSee 0) mNil)) mNil))))) mNil))) (gtN 1) (mSeq (mSetO 2 (mX (mCall m_law_tape (cIo 0 (cCons (mVar 1) cNil))))) (mSeq (mSet 3 (mX (mLook m_law_net_text (cSee (mCall m_law_net (cIo 2 cNil)) cNil)))) (mSeq (mFor [4] (mXI (iRng (mCons (mC (.int 8)) mNil))) (gtN 4) (mSeq (mSet 5 (mX (mCall m_law_spoilt_k63 (cIo 2 (cCons (mVar 3) cNil))))) (mSeq (mIfS (mXB (mBinB (gp pEq) (mCall m_law_take (cIo 2 (cCons (mC (.int 4)) cNil))) (mC (.int 0)))) (mSeq (mSet 5 (mX (mCall m_law_spoilt_k63 (cIo 2 (cCons (mVar 5) cNil))))) mNx) mNx) (mSeq (mIfS (mXB (mNotB (mTru (mCall m_law_right_k63 (cCons (mVar 5) cNil))))) (mSeq (mRet (mX (mC (.bool false)))) mNx) mNx) mNx)))) (mSeq (mIfS (mXB (mOrB (mNotB (mTru (mCall m_law_right_k63 (cCons (mVar 3) cNil)))) (mTru (mIsi isIntD (mCall m_law_net_read (cCons (mVar 3) cNil)))))) (mSeq (mRet (mX (mC (.bool false)))) mNx) mNx) mNx))))) (mSeq (mRet (mX (mC (.bool true)))) mNx))
def m_law_k63 : MF := mFn [true] 6 b_law_k63
end La
namespace Tl
open PySem PySem.Spec PyProof.Rows L2
mutual
def sz : D → Nat
  | .int _ => 40
  | .list xs => szAll xs
  | .tuple xs => szAll xs
  | _ => 0
def szAll : List D → Nat
  | [] => 0
  | x :: xs => sz x + 1 + szAll xs
end
@[simp] theorem shaped_int (i : Int) : SeqAt.shaped (.int i) = true := rfl
@[simp] theorem shaped_bool (i : Bool) : SeqAt.shaped (.bool i) = true := rfl
@[simp] theorem shaped_none : SeqAt.shaped .none = true := rfl
@[simp] theorem eqv_int (i j : Int) : PyData.eqv (.int i) (.int j) = decide (i = j) := by
  by_cases h : i = j <;> simp [PyData.eqv, h]
@[simp] theorem eqv_bool (i j : Bool) : PyData.eqv (.bool i) (.bool j) = (i == j) := by simp [PyData.eqv]
theorem forL_inv {ws : List Nat} {mt : MG} {body : MS} (Inv : List D → SS → Prop) (step : ∀ d ds s, Inv (d :: ds) s → ∃ fz s', mt d s.fz = some fz ∧ (body ⟨fz, tout ws s.ow⟩ = some (.nx s') ∨ body ⟨fz, tout ws s.ow⟩ = some (.ct s')) ∧ Inv ds s') :
    ∀ ds s, Inv ds s → ∃ s', forL ws mt body ds s = some (.nx s') ∧ Inv [] s'
  | [], s, h => ⟨s, rfl, h⟩
  | d :: ds, s, h => by
    obtain ⟨fz, s1, e1, e2, h1⟩ := step d ds s h
    obtain ⟨s', e3, h3⟩ := forL_inv Inv step ds s1 h1
    refine ⟨s', ?_, h3⟩
    show (mt d s.fz).bind _ = _
    rw [e1]
    show (body ⟨fz, tout ws s.ow⟩).bind _ = _
    rcases e2 with e2 | e2 <;> (rw [e2]; exact e3)
theorem lc_inv {vs : List Nat} {mt : MG} {mc : MB} {me : MV} {fw : Fz} {vw : Tau} (Inv : List D → List D → Tau → Prop)
    (step : ∀ d ds acc τ, Inv (d :: ds) acc τ → ∃ fz b τ1, mt d fw = some fz ∧ mc ⟨fz, vw⟩ τ = some (b, τ1) ∧ (b = false ∧ Inv ds acc (tout vs τ1) ∨ b = true ∧ ∃ r τ2 y, me ⟨fz, vw⟩ τ1 = some (r, τ2) ∧ r.st = some y ∧ Inv ds (acc ++ [y]) (tout vs τ2))) :
    ∀ ds acc τ, Inv ds acc τ → ∃ acc' τ', lcLoop vs mt mc me fw vw ds acc τ = some (acc', τ') ∧ Inv [] acc' τ'
  | [], acc, τ, h => ⟨acc, τ, rfl, h⟩
  | d :: ds, acc, τ, h => by
    obtain ⟨fz, b, τ1, e1, e2, e3⟩ := step d ds acc τ h
    rcases e3 with ⟨rfl, h1⟩ | ⟨rfl, r, τ2, y, e4, e5, h1⟩
    · obtain ⟨acc', τ', e6, h6⟩ := lc_inv Inv step ds acc _ h1
      refine ⟨acc', τ', ?_, h6⟩
      show (mt d fw).bind _ = _
      rw [e1]
      show (mc ⟨fz, vw⟩ τ).bind _ = _
      rw [e2]
      exact e6
    · obtain ⟨acc', τ', e6, h6⟩ := lc_inv Inv step ds (acc ++ [y]) _ h1
      refine ⟨acc', τ', ?_, h6⟩
      show (mt d fw).bind _ = _
      rw [e1]
      show (mc ⟨fz, vw⟩ τ).bind _ = _
      rw [e2]
      show (me ⟨fz, vw⟩ τ1).bind _ = _
      rw [e4]
      show r.st.bind _ = _
      rw [e5]
      exact e6
theorem rangeD_mem {lo : Int} {n : Nat} {d : D} (h : d ∈ rangeD lo 1 n) : ∃ i : Int, d = .int i ∧ lo ≤ i ∧ i < lo + n := by
  obtain ⟨i, h1, h2⟩ := List.mem_map.mp h
  have := List.mem_range.mp h1
  exact ⟨lo + (i : Nat) * 1, h2.symm, by omega, by omega⟩
theorem cutD_sub {xs : List D} {lo hi : Option Int} {d : D} (h : d ∈ cutD xs lo hi) : d ∈ xs := List.mem_of_mem_drop (List.mem_of_mem_take h)
theorem forL_of {ws : List Nat} {mt : MG} {body : MS} {ds : List D} {s : SS} {x : Option Out} (h : forL ws mt body ds s = x) (Inv : List D → SS → Prop) (i : Inv ds s)
    (step : ∀ d ds s, Inv (d :: ds) s → ∃ fz s', mt d s.fz = some fz ∧ (body ⟨fz, tout ws s.ow⟩ = some (.nx s') ∨ body ⟨fz, tout ws s.ow⟩ = some (.ct s')) ∧ Inv ds s') : ∃ s', x = some (.nx s') ∧ Inv [] s' := by
  obtain ⟨s', e, k⟩ := forL_inv Inv step ds s i
  exact ⟨s', h.symm.trans e, k⟩
theorem lc_of {vs : List Nat} {mt : MG} {mc : MB} {me : MV} {fw : Fz} {vw : Tau} {ds acc : List D} {τ : Tau} {x : Option (List D × Tau)} (h : lcLoop vs mt mc me fw vw ds acc τ = x) (Inv : List D → List D → Tau → Prop) (i : Inv ds acc τ)
    (step : ∀ d ds acc τ, Inv (d :: ds) acc τ → ∃ fz b τ1, mt d fw = some fz ∧ mc ⟨fz, vw⟩ τ = some (b, τ1) ∧ (b = false ∧ Inv ds acc (tout vs τ1) ∨ b = true ∧ ∃ r τ2 y, me ⟨fz, vw⟩ τ1 = some (r, τ2) ∧ r.st = some y ∧ Inv ds (acc ++ [y]) (tout vs τ2))) :
    ∃ acc' τ', x = some (acc', τ') ∧ Inv [] acc' τ' := by
  obtain ⟨a, t, e, k⟩ := lc_inv Inv step ds acc τ i
  exact ⟨a, t, h.symm.trans e, k⟩
@[simp] theorem isL_l (ds : List D) : isListD (.list ds) = true := rfl
@[simp] theorem isL_t (ds : List D) : isListD (.tuple ds) = false := rfl
@[simp] theorem isL_n : isListD .none = false := rfl
@[simp] theorem isL_b (b : Bool) : isListD (.bool b) = false := rfl
@[simp] theorem isL_i (b : Int) : isListD (.int b) = false := rfl
@[simp] theorem isL_s (b : Str) : isListD (.str b) = false := rfl
@[simp] theorem isT_l (ds : List D) : isTupD (.list ds) = false := rfl
@[simp] theorem isT_t (ds : List D) : isTupD (.tuple ds) = true := rfl
@[simp] theorem isT_n : isTupD .none = false := rfl
@[simp] theorem isT_b (b : Bool) : isTupD (.bool b) = false := rfl
@[simp] theorem isT_i (b : Int) : isTupD (.int b) = false := rfl
@[simp] theorem isT_s (b : Str) : isTupD (.str b) = false := rfl
@[simp] theorem isS_l (ds : List D) : isStrD (.list ds) = false := rfl
@[simp] theorem isS_t (ds : List D) : isStrD (.tuple ds) = false := rfl
@[simp] theorem isS_n : isStrD .none = false := rfl
@[simp] theorem isS_b (b : Bool) : isStrD (.bool b) = false := rfl
@[simp] theorem isS_i (b : Int) : isStrD (.int b) = false := rfl
@[simp] theorem isS_s (b : Str) : isStrD (.str b) = true := rfl
@[simp] theorem isB_l (ds : List D) : isBoolD (.list ds) = false := rfl
@[simp] theorem isB_t (ds : List D) : isBoolD (.tuple ds) = false := rfl
@[simp] theorem isB_n : isBoolD .none = false := rfl
@[simp] theorem isB_b (b : Bool) : isBoolD (.bool b) = true := rfl
@[simp] theorem isB_i (b : Int) : isBoolD (.int b) = false := rfl
@[simp] theorem isB_s (b : Str) : isBoolD (.str b) = false := rfl
@[simp] theorem isI_l (ds : List D) : isIntD (.list ds) = false := rfl
@[simp] theorem isI_t (ds : List D) : isIntD (.tuple ds) = false := rfl
@[simp] theorem isI_n : isIntD .none = false := rfl
@[simp] theorem isI_b (b : Bool) : isIntD (.bool b) = true := rfl
@[simp] theorem isI_i (b : Int) : isIntD (.int b) = true := rfl
@[simp] theorem isI_s (b : Str) : isIntD (.str b) = false := rfl
@[simp] theorem nn_n : isNone .none = true := rfl
@[simp] theorem nn_l (ds : List D) : isNone (.list ds) = false := rfl
@[simp] theorem nn_t (ds : List D) : isNone (.tuple ds) = false := rfl
@[simp] theorem nn_b (b : Bool) : isNone (.bool b) = false := rfl
@[simp] theorem nn_i (b : Int) : isNone (.int b) = false := rfl
@[simp] theorem nn_s (b : Str) : isNone (.str b) = false := rfl
@[simp] theorem eqv_none : PyData.eqv .none .none = true := by simp [PyData.eqv]
@[simp] theorem eqv_str (a b : Str) : PyData.eqv (.str a) (.str b) = (a == b) := by simp [PyData.eqv]
theorem zipD_self_mem : ∀ {ds : List D} {p : D}, p ∈ zipD ds ds → ∃ d ∈ ds, p = .tuple [d, d]
  | [], _, m => nomatch m
  | d :: ds, p, m => by
    rcases List.mem_cons.mp (show p ∈ .tuple [d, d] :: zipD ds ds from m) with e | m
    · exact ⟨d, List.mem_cons_self, e⟩
    · obtain ⟨d', m', e⟩ := zipD_self_mem m
      exact ⟨d', List.mem_cons_of_mem _ m', e⟩
theorem depthAll_le : ∀ {ds : List D} {d : D}, d ∈ ds → d.depth ≤ PyData.depthAll ds
  | x :: xs, d, m => by
    rw [PyData.depthAll]
    rcases List.mem_cons.mp m with e | m
    · subst e
      omega
    · have := depthAll_le m
      omega
theorem layAll_mem : ∀ {ds : List D} {d : D}, PyData.canLayAll0 ds = true → d ∈ ds → d.canLay0 = true
  | x :: xs, d, h, m => by
    have h' : x.canLay0 = true ∧ PyData.canLayAll0 xs = true := by simpa [PyData.canLayAll0] using h
    rcases List.mem_cons.mp m with e | m
    · subst e
      exact h'.1
    · exact layAll_mem h'.2 m
end Tl

namespace La
open PySem PySem.Spec PyProof.Rows L2 Tl
def s_number_word_1 : MS := (mIfS (mXB (mOrB (mNotB (mTst (mChain fLe fLe (mC (.int 1)) (mOp gLen (mCons (mVar 0) mNil)) (mC (.int 6))))) (mNotB (mTru (mOp gAll (mCons (mLc [1] (iTxt (mVar 0)) (gtN 1) mYes (mBin (gp pInS) (mVar 1) (mC (.str "0123456789")))) mNil)))))) (mSeq (mRet (mX (mC .none))) mNx) mNx)
def s_number_word_2 : MS := (mIfS (mXB (mAndB (mBinB (gp pEq) (mBin gIx (mVar 0) (mC (.int 0))) (mC (.str "0"))) (mBinB (gp pNe) (mVar 0) (mC (.str "0"))))) (mSeq (mRet (mX (mC .none))) mNx) mNx)
def s_number_word_3 : MS := (mRet (mX (mOp (gp pIntS) (mCons (mVar 0) mNil))))
theorem pieces_number_word : b_number_word = (mSeq s_number_word_1 (mSeq s_number_word_2 (mSeq s_number_word_3 mNx))) := rfl
def s_number_words_1 : MS := (mSet 2 (mX (mLc [3] (iSeq (mVar 0)) (gtN 3) mYes (mCall m_number_word (cCons (mVar 3) cNil)))))
def s_number_words_2 : MS := (mIfS (mXB (mOrB (mBinB (gp pNe) (mOp gLen (mCons (mVar 2) mNil)) (mVar 1)) (mBinB gIn (mC .none) (mVar 2)))) (mSeq (mRet (mX (mC .none))) mNx) mNx)
def s_number_words_3 : MS := (mRet (mX (mVar 2)))
theorem pieces_number_words : b_number_words = (mSeq s_number_words_1 (mSeq s_number_words_2 (mSeq s_number_words_3 mNx))) := rfl
def s_net_text_1 : MS := (mAsg [1, 2] (gtT (gtCons (gtN 1) (gtCons (gtN 2) gtNil))) (mX (mVar 0)))
def s_net_text_2 : MS := (mSetO 3 (mX (mOp gLstD (mCons (mBin gAdd (mC (.str "houses ")) (mOp (gp pStr) (mCons (mVar 1) mNil))) mNil))))
def s_net_text_3b_1 : MS := (mDo (mX (mMut 3 gAppend (mCons (mOp gJoin (mTxt2 (mC (.str " ")) (mOp gLstD (mCons (mC (.str "lane")) (mCons (mOp (gp pStr) (mCons (mVar 4) mNil)) (mCons (mOp (gp pStr) (mCons (mVar 5) mNil)) (mCons (mOp (gp pStr) (mCons (mVar 6) mNil)) mNil))))))) mNil))))
abbrev s_net_text_3b : MS := (mSeq s_net_text_3b_1 mNx)
def s_net_text_3 : MS := (mFor [4, 5, 6] (mXI (iSeq (mVar 2))) (gtT (gtCons (gtN 4) (gtCons (gtN 5) (gtCons (gtN 6) gtNil)))) s_net_text_3b)
def s_net_text_4 : MS := (mRet (mX (mBr 3 (mOp gJoin (mTxt2 (mC (.str "\n")) (mSee 3))))))
theorem pieces_net_text : b_net_text = (mSeq s_net_text_1 (mSeq s_net_text_2 (mSeq s_net_text_3 (mSeq s_net_text_4 mNx)))) := rfl
def s_houses_from_1 : MS := (mSet 1 (mX (mOp gSplit (mTxt2 (mVar 0) (mC (.str " "))))))
def s_houses_from_2 : MS := (mSet 2 (mX (mCall m_number_words (cCons (mCut (mVar 1) (oSome (mC (.int 1))) oNone) (cCons (mC (.int 1)) cNil)))))
def s_houses_from_3 : MS := (mIfS (mXB (mOrB (mBinB (gp pNe) (mBin gIx (mVar 1) (mC (.int 0))) (mC (.str "houses"))) (mOrB (mBinB (gp pIsN) (mVar 2) (mC .none)) (mBinB gLt (mBin gIx (mVar 2) (mC (.int 0))) (mC (.int 1)))))) (mSeq (mRet (mX (mC .none))) mNx) mNx)
def s_houses_from_4 : MS := (mRet (mX (mBin gIx (mVar 2) (mC (.int 0)))))
theorem pieces_houses_from : b_houses_from = (mSeq s_houses_from_1 (mSeq s_houses_from_2 (mSeq s_houses_from_3 (mSeq s_houses_from_4 mNx)))) := rfl
def s_lane_from_1 : MS := (mSet 2 (mX (mOp gSplit (mTxt2 (mVar 0) (mC (.str " "))))))
def s_lane_from_2 : MS := (mSet 3 (mX (mCall m_number_words (cCons (mCut (mVar 2) (oSome (mC (.int 1))) oNone) (cCons (mC (.int 3)) cNil)))))
def s_lane_from_3 : MS := (mIfS (mXB (mOrB (mBinB (gp pNe) (mBin gIx (mVar 2) (mC (.int 0))) (mC (.str "lane"))) (mBinB (gp pIsN) (mVar 3) (mC .none)))) (mSeq (mRet (mX (mC .none))) mNx) mNx)
def s_lane_from_4 : MS := (mAsg [4, 5, 6] (gtT (gtCons (gtN 4) (gtCons (gtN 5) (gtCons (gtN 6) gtNil)))) (mX (mVar 3)))
def s_lane_from_5 : MS := (mIfS (mXB (mOrB (mBinB gGe (mVar 4) (mVar 1)) (mOrB (mBinB gGe (mVar 5) (mVar 1)) (mOrB (mBinB (gp pEq) (mVar 4) (mVar 5)) (mBinB gLt (mVar 6) (mC (.int 1))))))) (mSeq (mRet (mX (mC .none))) mNx) mNx)
def s_lane_from_6 : MS := (mRet (mX (mOp gTupD (mCons (mVar 4) (mCons (mVar 5) (mCons (mVar 6) mNil))))))
theorem pieces_lane_from : b_lane_from = (mSeq s_lane_from_1 (mSeq s_lane_from_2 (mSeq s_lane_from_3 (mSeq s_lane_from_4 (mSeq s_lane_from_5 (mSeq s_lane_from_6 mNx)))))) := rfl
def s_net_from_1 : MS := (mSet 1 (mX (mOp gSplit (mTxt2 (mVar 0) (mC (.str "\n"))))))
def s_net_from_2 : MS := (mSet 2 (mX (mCall m_houses_from (cCons (mBin gIx (mVar 1) (mC (.int 0))) cNil))))
def s_net_from_3 : MS := (mIfS (mXB (mBinB (gp pIsN) (mVar 2) (mC .none))) (mSeq mNever mNx) mNx)
def s_net_from_4 : MS := (mSetO 3 (mX (mOp gLstD mNil)))
def s_net_from_5b_1 : MS := (mSet 6 (mX (mCall m_lane_from (cCons (mVar 5) (cCons (mVar 2) cNil)))))
def s_net_from_5b_2 : MS := (mIfS (mXB (mBinB (gp pIsN) (mVar 6) (mC .none))) (mSeq mNever mNx) mNx)
def s_net_from_5b_3 : MS := (mDo (mX (mMut 3 gAppend (mCons (mVar 6) mNil))))
abbrev s_net_from_5b : MS := (mSeq s_net_from_5b_1 (mSeq s_net_from_5b_2 (mSeq s_net_from_5b_3 mNx)))
def s_net_from_5 : MS := (mFor [4, 5] (mXI (iEnumM (mCut (mVar 1) (oSome (mC (.int 1))) oNone))) (gtT (gtCons (gtN 4) (gtCons (gtN 5) gtNil))) s_net_from_5b)
def s_net_from_6 : MS := (mRet (mX (mOp gTupT (mCons (mVar 2) (mCons (mTk 3) mNil)))))
theorem pieces_net_from : b_net_from = (mSeq s_net_from_1 (mSeq s_net_from_2 (mSeq s_net_from_3 (mSeq s_net_from_4 (mSeq s_net_from_5 (mSeq s_net_from_6 mNx)))))) := rfl
def s_law_net_text_1 : MS := (mSetO 1 (mX (mOp gLstD (mCons (mBin gAdd (mC (.str "houses ")) (mOp (gp pStr) (mCons (mBin gIx (mVar 0) (mC (.int 0))) mNil))) mNil))))
def s_law_net_text_2b_1 : MS := (mDo (mX (mMut 1 gAppend (mCons (mBin gAdd (mBin gAdd (mBin gAdd (mBin gAdd (mBin gAdd (mC (.str "lane ")) (mOp (gp pStr) (mCons (mVar 2) mNil))) (mC (.str " "))) (mOp (gp pStr) (mCons (mVar 3) mNil))) (mC (.str " "))) (mOp (gp pStr) (mCons (mVar 4) mNil))) mNil))))
abbrev s_law_net_text_2b : MS := (mSeq s_law_net_text_2b_1 mNx)
def s_law_net_text_2 : MS := (mFor [2, 3, 4] (mXI (iSeq (mBin gIx (mVar 0) (mC (.int 1))))) (gtT (gtCons (gtN 2) (gtCons (gtN 3) (gtCons (gtN 4) gtNil)))) s_law_net_text_2b)
def s_law_net_text_3 : MS := (mRet (mX (mBr 1 (mOp gJoin (mTxt2 (mC (.str "\n")) (mSee 1))))))
theorem pieces_law_net_text : b_law_net_text = (mSeq s_law_net_text_1 (mSeq s_law_net_text_2 (mSeq s_law_net_text_3 mNx))) := rfl
end La

namespace Tl
open PySem PySem.Spec PyProof.Rows L2
abbrev natD (n : Nat) : D := .int n
def optD : Option Nat → D
  | none => .none
  | some n => .int n
@[simp] theorem atI_nat {α : Type} (xs : List α) (j : Nat) : L2.atI xs (j : Int) = xs[j]? := by
  unfold L2.atI
  by_cases h : j < xs.length
  · unfold ixN
    rw [if_pos (by omega), if_pos (by omega)]
    show xs[((j : Int)).toNat]? = _
    rw [Int.toNat_natCast]
  · unfold ixN
    rw [if_pos (by omega), if_neg (by omega), List.getElem?_eq_none (by omega)]
    rfl
@[simp] theorem atI_zero {α : Type} (a : α) (l : List α) : L2.atI (a :: l) 0 = some a := atI_nat (a :: l) 0
@[simp] theorem atI_one {α : Type} (a b : α) (l : List α) : L2.atI (a :: b :: l) 1 = some b := atI_nat (a :: b :: l) 1
@[simp] theorem atI_two {α : Type} (a b c : α) (l : List α) : L2.atI (a :: b :: c :: l) 2 = some c := atI_nat (a :: b :: c :: l) 2
@[simp] theorem atI_three {α : Type} (a b c d : α) (l : List α) : L2.atI (a :: b :: c :: d :: l) 3 = some d := atI_nat (a :: b :: c :: d :: l) 3
theorem ixN_of {n : Nat} {i : Int} (h : 0 ≤ i) (h' : i < n) : ixN n i = some i.toNat := by
  unfold ixN
  rw [if_pos h, if_pos h']
theorem ixN_nat {n j : Nat} (h : j < n) : ixN n (j : Int) = some j := by
  rw [ixN_of (by omega) (by omega), Int.toNat_natCast]
theorem seq_nat {n j : Nat} (h : j < n) : seqIndex? (j : Int) n = some j := by
  have q : ¬ ((j : Int) < 0) := by omega
  unfold seqIndex?
  simp [q, h]
theorem rangeD_nat (n : Nat) : rangeD 0 1 n = (List.range n).map natD := by
  unfold rangeD
  refine List.map_congr_left fun i _ => ?_
  simp
/-- the places of those that are so -/
def spots {α : Type} (p : α → Bool) (xs : List α) : List Nat := ((xs.zipIdx).filter fun q => p q.1).map (·.2)
theorem lc_typ {α : Type} {vs : List Nat} {mt : MG} {mc : MB} {me : MV} {fw : Fz} {vw : Tau} {τ : Tau} {x : Option (List D × Tau)} {e : α → D} {xs : List α} {acc : List D} (h : lcLoop vs mt mc me fw vw (xs.map e) acc τ = x) (p : α → Bool) (f : α → D) (hτ : tout vs τ = τ)
    (hm : ∀ a ∈ xs, ∃ fz, mt (e a) fw = some fz ∧ mc ⟨fz, vw⟩ τ = some (p a, τ) ∧ (p a = true → ∃ r, me ⟨fz, vw⟩ τ = some (r, τ) ∧ r.st = some (f a))) : x = some (acc ++ (xs.filter p).map f, τ) := by
  subst h
  induction xs generalizing acc with
  | nil => simp [lcLoop]
  | cons d ds ih =>
    obtain ⟨fz, e1, e2, e3⟩ := hm d List.mem_cons_self
    have ih := fun acc => ih (acc := acc) fun d m => hm d (List.mem_cons_of_mem _ m)
    show (mt (e d) fw).bind _ = _
    rw [e1]
    show (mc ⟨fz, vw⟩ τ).bind _ = _
    rw [e2]
    cases q : p d with
    | false =>
      show lcLoop vs mt mc me fw vw (ds.map e) acc (tout vs τ) = _
      rw [hτ, ih, List.filter_cons_of_neg (by rw [q]; exact Bool.false_ne_true)]
    | true =>
      obtain ⟨r, e4, e5⟩ := e3 q
      show (me ⟨fz, vw⟩ τ).bind _ = _
      rw [e4]
      show r.st.bind _ = _
      rw [e5]
      show lcLoop vs mt mc me fw vw (ds.map e) (acc ++ [f d]) (tout vs τ) = _
      rw [hτ, ih, List.filter_cons_of_pos q]
      simp
/-- without a condition -/
theorem lc_typM {α : Type} {vs : List Nat} {mt : MG} {me : MV} {fw : Fz} {vw : Tau} {τ : Tau} {x : Option (List D × Tau)} {e : α → D} {xs : List α} {acc : List D} (h : lcLoop vs mt mYes me fw vw (xs.map e) acc τ = x) (f : α → D) (hτ : tout vs τ = τ)
    (hm : ∀ a ∈ xs, ∃ fz, mt (e a) fw = some fz ∧ ∃ r, me ⟨fz, vw⟩ τ = some (r, τ) ∧ r.st = some (f a)) : x = some (acc ++ xs.map f, τ) := by
  have := lc_typ h (fun _ => true) f hτ fun a m => by
    obtain ⟨fz, e1, e2⟩ := hm a m
    exact ⟨fz, e1, rfl, fun _ => e2⟩
  rw [this, List.filter_eq_self.mpr fun _ _ => rfl]
/-- .. by what holds of what is left -/
theorem for_inv {α : Type} {ws : List Nat} {mt : MG} {body : MS} {e : α → D} {xs : List α} {s : SS} {x : Option Out} (h : forL ws mt body (xs.map e) s = x) (Inv : List α → SS → Prop) (i : Inv xs s)
    (step : ∀ a as s, Inv (a :: as) s → ∃ fz, mt (e a) s.fz = some fz ∧ ∃ s', (body ⟨fz, tout ws s.ow⟩ = some (.nx s') ∨ body ⟨fz, tout ws s.ow⟩ = some (.ct s')) ∧ Inv as s') : ∃ s', x = some (.nx s') ∧ Inv [] s' := by
  subst h
  induction xs generalizing s with
  | nil => exact ⟨s, rfl, i⟩
  | cons a xs ih =>
    obtain ⟨fz, e1, s1, e2, h1⟩ := step a xs s i
    obtain ⟨s', e3, h3⟩ := ih h1
    refine ⟨s', ?_, h3⟩
    show (mt (e a) s.fz).bind _ = _
    rw [e1]
    show (body ⟨fz, tout ws s.ow⟩).bind _ = _
    rcases e2 with e2 | e2 <;> (rw [e2]; exact e3)
/-- the loop over the first numbers -/
theorem for_rng {ws : List Nat} {mt : MG} {body : MS} {n : Nat} {s : SS} {x : Option Out} (h : forL ws mt body (rangeD 0 1 n) s = x) (Inv : Nat → SS → Prop) (i : Inv 0 s)
    (step : ∀ k s, k < n → Inv k s → ∃ fz, mt (.int k) s.fz = some fz ∧ ∃ s', (body ⟨fz, tout ws s.ow⟩ = some (.nx s') ∨ body ⟨fz, tout ws s.ow⟩ = some (.ct s')) ∧ Inv (k + 1) s') : ∃ s', x = some (.nx s') ∧ Inv n s' := by
  rw [rangeD_nat] at h
  obtain ⟨s', e, k, hk, q, hi⟩ := for_inv h (fun as s => ∃ k, k + as.length = n ∧ as = (List.range n).drop k ∧ Inv k s) ⟨0, by simp, by simp, i⟩ (by
    rintro a as s ⟨k, hk, q, hi⟩
    rw [List.length_cons] at hk
    have hkn : k < (List.range n).length := by rw [List.length_range]; omega
    rw [List.drop_eq_getElem_cons hkn] at q
    injection q with q1 q2
    rw [List.getElem_range] at q1
    subst q1
    obtain ⟨fz, e1, s', e2, e3⟩ := step a s (by omega) hi
    exact ⟨fz, e1, s', e2, a + 1, by omega, q2, e3⟩)
  have : k = n := by simpa using hk
  subst this
  exact ⟨s', e, hi⟩
theorem lay_nats : ∀ (Q : List Nat), PyData.canLayAll0 (Q.map natD) = true ∧ PyData.depthAll (Q.map natD) = 0
  | [] => ⟨rfl, by simp [PyData.depthAll]⟩
  | q :: Q => by
    obtain ⟨a, b⟩ := lay_nats Q
    exact ⟨by simpa [PyData.canLayAll0, PyData.canLay0] using a, by simp [PyData.depthAll, PyData.depth] at b ⊢; exact b⟩
@[simp] theorem shaped_nats (Q : List Nat) : SeqAt.shaped (.list (Q.map natD)) = true := by
  obtain ⟨a, b⟩ := lay_nats Q
  unfold SeqAt.shaped
  simp only [PyData.canLay0, PyData.depth, a, b]
  rfl
@[simp] theorem shaped_natsT (Q : List Nat) : SeqAt.shaped (.tuple (Q.map natD)) = true := by
  obtain ⟨a, b⟩ := lay_nats Q
  unfold SeqAt.shaped
  simp only [PyData.canLay0, PyData.depth, a, b]
  rfl
theorem any_nats (x : Nat) : ∀ (Q : List Nat), ((Q.map natD).any fun z => PyData.eqv z (.int x)) = decide (x ∈ Q)
  | [] => rfl
  | q :: Q => by
    rw [List.map_cons, List.any_cons, any_nats x Q, eqv_int]
    by_cases h : x = q
    · subst h
      simp
    · have h' : ¬ ((q : Int) = x) := by omega
      simp [h, h']
@[simp] theorem any_nats' (x : Nat) (Q : List Nat) : (Q.any ((fun z => PyData.eqv z (.int x)) ∘ natD)) = decide (x ∈ Q) := by
  rw [← any_nats x Q, List.any_map]
@[simp] theorem eqv_list (a b : List D) : PyData.eqv (.list a) (.list b) = PyData.eqvAll a b := by simp [PyData.eqv]
@[simp] theorem eqv_tuple (a b : List D) : PyData.eqv (.tuple a) (.tuple b) = PyData.eqvAll a b := by simp [PyData.eqv]
@[simp] theorem eqvAll_nn : PyData.eqvAll [] [] = true := by simp [PyData.eqvAll]
@[simp] theorem eqvAll_cn (a : D) (as : List D) : PyData.eqvAll (a :: as) [] = false := by simp [PyData.eqvAll]
@[simp] theorem eqvAll_nc (a : D) (as : List D) : PyData.eqvAll [] (a :: as) = false := by simp [PyData.eqvAll]
@[simp] theorem eqvAll_cc (a b : D) (as bs : List D) : PyData.eqvAll (a :: as) (b :: bs) = (PyData.eqv a b && PyData.eqvAll as bs) := by simp [PyData.eqvAll]
@[simp] theorem eqvAll_nil (as : List D) : PyData.eqvAll as [] = as.isEmpty := by cases as <;> simp
@[simp] theorem shaped_nil : SeqAt.shaped (.list []) = true := rfl
@[simp] theorem shaped_nilT : SeqAt.shaped (.tuple []) = true := rfl
@[simp] theorem eqv_ni (i : Int) : PyData.eqv .none (.int i) = false := by simp [PyData.eqv]
@[simp] theorem eqv_in (i : Int) : PyData.eqv (.int i) .none = false := by simp [PyData.eqv]
@[simp] def tMinK3 (ns : List Int) : Option R := ns.min?.map rInt
@[simp] def tMinK2 (ds : List D) : Option R := bd (intsD ds) tMinK3
def tMinK : Bool × List D → Option R
  | (true, ds) => tMinK2 ds
  | (false, _) => none
@[simp] theorem r_gMin (r : R) : gMin [r] = bd r.its tMinK := bd_of fun a => by
  obtain ⟨b, ds⟩ := a
  cases b <;> rfl
@[simp] def tMaxK3 (ns : List Int) : Option R := ns.max?.map rInt
@[simp] def tMaxK2 (ds : List D) : Option R := bd (intsD ds) tMaxK3
def tMaxK : Bool × List D → Option R
  | (true, ds) => tMaxK2 ds
  | (false, _) => none
@[simp] theorem r_gMax (r : R) : gMax [r] = bd r.its tMaxK := bd_of fun a => by
  obtain ⟨b, ds⟩ := a
  cases b <;> rfl
@[simp] theorem erase_map {α β : Type} (f : α → β) : ∀ (l : List α) (n : Nat), (l.map f).eraseIdx n = (l.eraseIdx n).map f
  | [], _ => rfl
  | _ :: _, 0 => rfl
  | a :: l, n + 1 => by
    show f a :: (l.map f).eraseIdx n = _
    rw [erase_map f l n]
    rfl
/-- a thing that may be owned yet -/
def Opt (base : Tau) (k : Nat) (τ : Tau) : Prop := τ = base ∨ ∃ u, τ = base ++ [(k, u)]
theorem Opt.no {base : Tau} {k : Nat} : Opt base k base := .inl rfl
mutual
theorem eqv_self : ∀ d : D, d.canLay0 = true → PyData.eqv d d = true
  | .none, _ => by simp
  | .bool _, _ => by simp
  | .int _, _ => by simp
  | .str _, _ => by simp
  | .dict _, h => by cases h
  | .list xs, h => by
    rw [eqv_list]
    exact eqvAll_self xs (by simpa [PyData.canLay0] using h)
  | .tuple xs, h => by
    rw [eqv_tuple]
    exact eqvAll_self xs (by simpa [PyData.canLay0] using h)
theorem eqvAll_self : ∀ ds : List D, PyData.canLayAll0 ds = true → PyData.eqvAll ds ds = true
  | [], _ => by simp
  | d :: ds, h => by
    have h' : d.canLay0 = true ∧ PyData.canLayAll0 ds = true := by simpa [PyData.canLayAll0] using h
    rw [eqvAll_cc, eqv_self d h'.1, eqvAll_self ds h'.2]
    rfl
end
end Tl

namespace La
open PySem PySem.Spec PyProof.Rows L2 Tl TL
/-- the number that signs write -/
def numV (l : List Nat) : Option Nat :=
  if (1 ≤ l.length ∧ l.length ≤ 6) ∧ (l.all fun c => decide (48 ≤ c ∧ c ≤ 57)) = true ∧ (l.head? = some 48 → l = [48]) then some (NumText.digitsVal l) else none
def optN : Option Nat → D
  | none => .none
  | some n => .int (n : Nat)
theorem tl_figs : tl ("0123456789" : Str) = [48, 49, 50, 51, 52, 53, 54, 55, 56, 57] := by decide +kernel
theorem in_figs (c : Nat) : decide (c ∈ tl ("0123456789" : Str)) = decide (48 ≤ c ∧ c ≤ 57) := by
  rw [tl_figs]
  refine decide_eq_decide.mpr ?_
  simp only [List.mem_cons, List.not_mem_nil, or_false]
  omega
theorem boolsD_all (f : Nat → Bool) (l : List Nat) : boolsD (l.map fun c => PyData.bool (f c)) = some (l.map f) := by
  induction l with
  | nil => rfl
  | cons a l ih =>
    rw [List.map_cons, List.map_cons]
    show (boolsD (l.map fun c => PyData.bool (f c))).map _ = _
    rw [ih]
    rfl
theorem str_eq_iff (a b : Str) : (a = b) ↔ tl a = tl b := ⟨fun h => by rw [h], ext_tl⟩
theorem tl_zero : tl ("0" : Str) = [48] := by decide +kernel
theorem beq_tl (a b : Str) : (a == b) = decide (tl a = tl b) := by
  rw [Bool.eq_iff_iff, beq_iff_eq, decide_eq_true_iff, str_eq_iff]
theorem head_at {l : List Nat} {c : Nat} {r : List Nat} (h : l = c :: r) : L2.atI l 0 = some c := by
  subst h
  have : ixN (c :: r).length 0 = some 0 := by simp [ixN]
  unfold L2.atI
  rw [this]
  rfl
theorem shS {s : Str} (h : PyData.strOk s = true) : SeqAt.shaped (.str s) = true := by
  unfold SeqAt.shaped
  rw [Bool.and_eq_true]
  exact ⟨h, decide_eq_true (by show (0 : Nat) ≤ 64; omega)⟩
theorem number_word_ok (s : Str) (hs : s.length ≤ 10000000) (hk : PyData.strOk s = true) : m_number_word [.leaf (.str s)] = some (.leaf (optN (numV (tl s))), [.leaf (.str s)]) := by
  have hl := len_tl s
  have e0 : s.length ≤ 16000000 := by omega
  have f1 : s_number_word_1 ⟨[some (.str s), none], []⟩ = if (1 ≤ s.length ∧ s.length ≤ 6) ∧ ((tl s).all fun c => decide (48 ≤ c ∧ c ≤ 57)) = true then some (.nx ⟨[some (.str s), none], []⟩) else some (.rt (.leaf .none) ⟨[some (.str s), none], []⟩) := by
    generalize hG : s_number_word_1 _ = y
    by_cases q1 : 1 ≤ s.length ∧ s.length ≤ 6
    · have i1 : (1 : Int) ≤ (s.length : Int) := by omega
      have i2 : (s.length : Int) ≤ 6 := by omega
      simp [s_number_word_1, e0, fLe, i1, i2] at hG
      generalize hC : lcLoop _ _ _ _ _ _ _ _ _ = z at hG
      obtain rfl := lc_typM (e := fun c => PyData.str ⟨#[c]⟩) (xs := tl s) hC (fun c => .bool (decide (48 ≤ c ∧ c ≤ 57))) rfl fun c m => by
        have hi := in_figs c
        have hp := p_inS c ("0123456789" : Str)
        unfold tl at hi
        rw [hi] at hp
        exact ⟨_, by simp; rfl, rd (.bool (decide (48 ≤ c ∧ c ≤ 57))), by simp [hp], rfl⟩
      have b1 := boolsD_all (fun c => decide (48 ≤ c ∧ c ≤ 57)) (tl s)
      generalize (tl s).map (fun c => PyData.bool (decide (48 ≤ c ∧ c ≤ 57))) = Z at *
      rw [← hG]
      have b2 : Tl.allB ((tl s).map fun c => decide (48 ≤ c ∧ c ≤ 57)) = (tl s).all fun c => decide (48 ≤ c ∧ c ≤ 57) := by
        unfold Tl.allB
        rw [List.all_map]
        rfl
      generalize (tl s).map (fun c => decide (48 ≤ c ∧ c ≤ 57)) = Z' at *
      cases q : (tl s).all fun c => decide (48 ≤ c ∧ c ≤ 57) with
      | true =>
        rw [q] at b2
        simp [b1, b2, q1]
      | false =>
        rw [q] at b2
        simp [b1, b2, q1]
    · rw [if_neg fun h => q1 h.1, ← hG]
      by_cases i1 : (1 : Int) ≤ (s.length : Int)
      · have i2 : ¬ (s.length : Int) ≤ 6 := by omega
        simp [s_number_word_1, e0, fLe, i1, i2]
      · simp [s_number_word_1, e0, fLe, i1]
  by_cases q : (1 ≤ s.length ∧ s.length ≤ 6) ∧ ((tl s).all fun c => decide (48 ≤ c ∧ c ≤ 57)) = true
  · rw [if_pos q] at f1
    obtain ⟨⟨q1, q2⟩, q3⟩ := q
    have ad : NumText.AllDigits (tl s) := fun c m => by
      have := List.all_eq_true.mp q3 c m
      exact of_decide_eq_true this
    have ne : tl s ≠ [] := fun e => by
      rw [e] at hl
      simp at hl
      omega
    obtain ⟨c, r, hr⟩ : ∃ c r, tl s = c :: r := by
      cases e : tl s with
      | nil => exact absurd e ne
      | cons c r => exact ⟨c, r, rfl⟩
    have hat : L2.atI s.cps.toList 0 = some c := head_at hr
    have c1 : ((⟨#[c]⟩ : Str) == ("0" : Str)) = decide (c = 48) := by
      rw [beq_tl, tl_zero]
      refine decide_eq_decide.mpr ⟨fun h => ?_, fun h => by rw [h]⟩
      have h : [c] = [48] := h
      exact (List.cons.inj h).1
    have c2 : (s == ("0" : Str)) = decide (tl s = [48]) := by rw [beq_tl, tl_zero]
    have hix : gIx [rd (.str s), rd (.int 0)] = some (rd (.str ⟨#[c]⟩)) := by
      show (if s.length ≤ 16000000 then (L2.atI s.cps.toList 0).map fun c => rd (.str ⟨#[c]⟩) else none) = _
      rw [if_pos e0, hat]
      rfl
    have h48 : 48 ≤ c ∧ c ≤ 57 := ad c (by rw [hr]; exact List.mem_cons_self)
    have s1 : SeqAt.shaped (.str ⟨#[c]⟩) = true := shS (by
      have : decide (c < 1114112) = true := decide_eq_true (by omega)
      simp [PyData.strOk, this])
    have s2 : SeqAt.shaped (.str (Str.ofString "0")) = true := shS (by decide +kernel)
    have s3 := shS hk
    have f2 : s_number_word_2 ⟨[some (.str s), none], []⟩ = if c = 48 ∧ tl s ≠ [48] then some (.rt (.leaf .none) ⟨[some (.str s), none], []⟩) else some (.nx ⟨[some (.str s), none], []⟩) := by
      by_cases z : c = 48
      · subst z
        by_cases w : tl s = [48]
        · simp [s_number_word_2, hix, c1, c2, w, s1, s2, s3]
        · simp [s_number_word_2, hix, c1, c2, w, s1, s2, s3]
      · simp [s_number_word_2, hix, c1, c2, z, s1, s2, s3]
    have hh : (tl s).head? = some 48 ↔ c = 48 := by rw [hr]; simp
    by_cases z : c = 48 ∧ tl s ≠ [48]
    · rw [if_pos z] at f2
      have : numV (tl s) = none := by
        unfold numV
        rw [if_neg fun h => z.2 (h.2.2 (hh.mpr z.1))]
      rw [this]
      simp [m_number_word, pieces_number_word, f1, f2, optN]
    · rw [if_neg z] at f2
      have : numV (tl s) = some (NumText.digitsVal (tl s)) := by
        unfold numV
        rw [if_pos ⟨⟨by omega, by omega⟩, q3, fun h => by
          by_cases w : tl s = [48]
          · exact w
          · exact absurd ⟨hh.mp h, w⟩ z⟩]
      rw [this]
      have e3 : intText? s = some ((NumText.digitsVal (tl s) : Nat) : Int) := intText_digits ad ne (by omega)
      have l3 : s.length ≤ 640 := by omega
      have f3 : s_number_word_3 ⟨[some (.str s), none], []⟩ = some (.rt (.leaf (optN (some (NumText.digitsVal (tl s))))) ⟨[some (.str s), none], []⟩) := by
        simp [s_number_word_3, l3, e3, optN]
      simp [m_number_word, pieces_number_word, f1, f2, f3]
  · rw [if_neg q] at f1
    have : numV (tl s) = none := by
      unfold numV
      rw [if_neg fun h => q ⟨by rw [hl]; exact h.1, h.2.1⟩]
    rw [this]
    simp [m_number_word, pieces_number_word, f1, optN]
/-- the numbers that words write -/
def numsV : List (List Nat) → Option (List Nat)
  | [] => some []
  | w :: ws => (numV w).bind fun n => (numsV ws).map (n :: ·)
def optNs : Option (List Nat) → D
  | none => .none
  | some ns => .list (ns.map natD)
structure OkW (ws : List Str) : Prop where
  len : ws.length ≤ 10000000
  one : ∀ w ∈ ws, w.length ≤ 10000000 ∧ PyData.strOk w = true
theorem numsV_some : ∀ (ws : List (List Nat)), (numsV ws).isSome = true → ws.map (fun w => optN (numV w)) = ((numsV ws).getD []).map natD ∧ ∀ w ∈ ws, (numV w).isSome = true
  | [], _ => ⟨rfl, fun _ m => nomatch m⟩
  | w :: ws, h => by
    cases e : numV w with
    | none =>
      have : numsV (w :: ws) = none := by
        show (numV w).bind _ = none
        rw [e]
        rfl
      rw [this] at h
      cases h
    | some n =>
      have e2 : numsV (w :: ws) = (numsV ws).map (n :: ·) := by
        show (numV w).bind _ = _
        rw [e]
        rfl
      rw [e2] at h ⊢
      cases e3 : numsV ws with
      | none =>
        rw [e3] at h
        cases h
      | some ns =>
        obtain ⟨i1, i2⟩ := numsV_some ws (by rw [e3]; rfl)
        rw [e3] at i1
        refine ⟨?_, fun u m => ?_⟩
        · rw [List.map_cons, i1, e]
          rfl
        · rcases List.mem_cons.mp m with rfl | m
          · rw [e]
            rfl
          · exact i2 u m
theorem numsV_none : ∀ (ws : List (List Nat)), numsV ws = none → ∃ w ∈ ws, numV w = none
  | [], h => by cases h
  | w :: ws, h => by
    cases e : numV w with
    | none => exact ⟨w, List.mem_cons_self, e⟩
    | some n =>
      have e2 : numsV (w :: ws) = (numsV ws).map (n :: ·) := by
        show (numV w).bind _ = _
        rw [e]
        rfl
      rw [e2] at h
      cases e3 : numsV ws with
      | none =>
        obtain ⟨u, m, z⟩ := numsV_none ws e3
        exact ⟨u, List.mem_cons_of_mem _ m, z⟩
      | some ns =>
        rw [e3] at h
        cases h
theorem lay_optN (l : List (Option Nat)) : PyData.canLayAll0 (l.map optN) = true ∧ PyData.depthAll (l.map optN) = 0 := by
  induction l with
  | nil => exact ⟨rfl, rfl⟩
  | cons a l ih =>
    have e1 : PyData.canLayAll0 ((a :: l).map optN) = (PyData.canLay0 (optN a) && PyData.canLayAll0 (l.map optN)) := rfl
    have e2 : PyData.depthAll ((a :: l).map optN) = max (PyData.depth (optN a)) (PyData.depthAll (l.map optN)) := rfl
    rw [e1, e2, ih.1, ih.2]
    cases a <;> exact ⟨rfl, rfl⟩
theorem shaped_optN (l : List (Option Nat)) : SeqAt.shaped (.list (l.map optN)) = true := by
  unfold SeqAt.shaped
  obtain ⟨h1, h2⟩ := lay_optN l
  rw [Bool.and_eq_true]
  refine ⟨h1, decide_eq_true ?_⟩
  show PyData.depthAll (l.map optN) + 1 ≤ 64
  rw [h2]
  decide
theorem any_optN (l : List (Option Nat)) : ((l.map optN).any fun z => PyData.eqv z .none) = l.any (·.isNone) := by
  rw [List.any_map]
  congr 1
  funext a
  cases a <;> rfl
theorem number_words_ok (ws : List Str) (many : Nat) (ok : OkW ws) : m_number_words [.leaf (.list (ws.map PyData.str)), .leaf (natD many)] = some (.leaf (optNs (if ws.length = many then numsV (ws.map tl) else none)), [.leaf (.list (ws.map PyData.str)), .leaf (natD many)]) := by
  have f1 : s_number_words_1 ⟨[some (.list (ws.map PyData.str)), some (natD many), none, none], []⟩ = some (.nx ⟨[some (.list (ws.map PyData.str)), some (natD many), some (.list (ws.map fun w => optN (numV (tl w)))), none], []⟩) := by
    generalize hG : s_number_words_1 _ = y
    generalize hW : ws.map PyData.str = W at *
    simp [s_number_words_1] at hG
    rw [← hW] at hG
    generalize hC : lcLoop _ _ _ _ _ _ _ _ _ = z at hG
    obtain rfl := lc_typM (e := PyData.str) (xs := ws) hC (fun w => optN (numV (tl w))) rfl fun w m => by
      have := number_word_ok w (ok.one w m).1 (ok.one w m).2
      exact ⟨_, by simp; rfl, rd (optN (numV (tl w))), by simp [this], rfl⟩
    rw [← hG, hW]
    generalize ws.map (fun w => optN (numV (tl w))) = Z
    simp
  have sh := shaped_optN (ws.map fun w => numV (tl w))
  have an := any_optN (ws.map fun w => numV (tl w))
  have ln : (ws.map fun w => optN (numV (tl w))).length = ws.length := List.length_map _
  rw [List.map_map] at sh an
  have an2 : (ws.map fun w => numV (tl w)).any (·.isNone) = (numsV (ws.map tl)).isNone := by
    rw [List.any_map]
    cases e : numsV (ws.map tl) with
    | none =>
      obtain ⟨w, m, z⟩ := numsV_none _ e
      obtain ⟨u, mu, rfl⟩ := List.mem_map.mp m
      exact List.any_eq_true.mpr ⟨u, mu, by show (numV (tl u)).isNone = true; rw [z]; rfl⟩
    | some ns =>
      obtain ⟨_, i2⟩ := numsV_some _ (by rw [e]; rfl)
      refine List.any_eq_false.mpr fun u mu => ?_
      have := i2 (tl u) (List.mem_map_of_mem mu)
      show ¬ (numV (tl u)).isNone = true
      cases h : numV (tl u) with
      | none => rw [h] at this; cases this
      | some n => simp
  rw [an2] at an
  have sh : SeqAt.shaped (.list (ws.map fun w => optN (numV (tl w)))) = true := sh
  have an : ((ws.map fun w => optN (numV (tl w))).any fun z => PyData.eqv z .none) = (numsV (ws.map tl)).isNone := an
  have f2 : s_number_words_2 ⟨[some (.list (ws.map PyData.str)), some (natD many), some (.list (ws.map fun w => optN (numV (tl w)))), none], []⟩ = if ws.length ≠ many ∨ (numsV (ws.map tl)).isNone = true then some (.rt (.leaf .none) ⟨[some (.list (ws.map PyData.str)), some (natD many), some (.list (ws.map fun w => optN (numV (tl w)))), none], []⟩) else some (.nx ⟨[some (.list (ws.map PyData.str)), some (natD many), some (.list (ws.map fun w => optN (numV (tl w)))), none], []⟩) := by
    generalize ws.map (fun w => optN (numV (tl w))) = Z at *
    generalize ws.map PyData.str = W at *
    by_cases q : ws.length = many
    · subst q
      cases h : (numsV (ws.map tl)).isNone with
      | true =>
        rw [h] at an
        simp [s_number_words_2, ln, sh, an]
      | false =>
        rw [h] at an
        simp [s_number_words_2, ln, sh, an]
    · have q' : ¬ (ws.length : Int) = (many : Int) := by omega
      simp [s_number_words_2, ln, q, q']
  by_cases q : ws.length ≠ many ∨ (numsV (ws.map tl)).isNone = true
  · rw [if_pos q] at f2
    have : (if ws.length = many then numsV (ws.map tl) else none) = none := by
      rcases q with q | q
      · rw [if_neg q]
      · split
        · exact Option.isNone_iff_eq_none.mp q
        · rfl
    rw [this]
    generalize ws.map (fun w => optN (numV (tl w))) = Z at *
    generalize ws.map PyData.str = W at *
    simp [m_number_words, pieces_number_words, f1, f2, optNs]
  · rw [if_neg q] at f2
    have q1 : ws.length = many := Classical.byContradiction fun z => q (.inl z)
    obtain ⟨ns, hn⟩ : ∃ ns, numsV (ws.map tl) = some ns := by
      cases e : numsV (ws.map tl) with
      | none => exact absurd (.inr (by rw [e]; rfl)) q
      | some ns => exact ⟨ns, rfl⟩
    obtain ⟨i1, _⟩ := numsV_some (ws.map tl) (by rw [hn]; rfl)
    rw [hn, List.map_map] at i1
    have i1 : ws.map (fun w => optN (numV (tl w))) = ns.map natD := i1
    rw [if_pos q1, hn]
    rw [i1] at f1 f2
    generalize ws.map PyData.str = W at *
    show _ = some (T.leaf (.list (ns.map natD)), _)
    generalize ns.map natD = Z at *
    simp [m_number_words, pieces_number_words, f1, f2, s_number_words_3]
end La

namespace La
open PySem PySem.Spec PyProof.Rows L2 Tl
/-- the tape: what is left, the seed, the count; n more draws are covered -/
def Tp (n : Nat) (t : T) : Prop := ∃ a b : Int, ∃ c : Nat, t = .fl [.int a, .int b, .int c] ∧ 0 ≤ a ∧ 0 ≤ b ∧ b < 2147483629 ∧ c + n ≤ 1152921504606846976
@[simp] theorem ixN3_0 : ixN 3 0 = some 0 := by decide
@[simp] theorem ixN3_1 : ixN 3 1 = some 1 := by decide
@[simp] theorem ixN3_2 : ixN 3 2 = some 2 := by decide
theorem take_ok {n : Nat} {t : T} {m : Int} (h : Tp (n + 1) t) (h0 : 0 < m) (h1 : m < 1073741824) : ∃ (v : Int) (t' : T), m_law_take [t, .leaf (.int m)] = some (.leaf (.int v), [t', .leaf (.int m)]) ∧ 0 ≤ v ∧ v < m ∧ Tp n t' := by
  obtain ⟨a, b, c, rfl, ha, hb, hb', hc⟩ := h
  by_cases q : 0 < a
  · refine ⟨a % m, .fl [.int (a / m), .int b, .int c], ?_, Int.emod_nonneg _ (by omega), Int.emod_lt_of_pos _ h0, a / m, b, c, rfl, Int.ediv_nonneg ha (by omega), hb, hb', by omega⟩
    simp [m_law_take, b_law_take, q, h0, h1, L2.atI]
  · have k1 : okMul (b + 39373 * ((c : Int) + 1)) (48271 + ((c : Int) + 1)) = true := okMul_r (by omega) (by omega)
    generalize hw : (b + 39373 * ((c : Int) + 1)) * (48271 + ((c : Int) + 1)) = w at *
    have hu := emod_b w 2147483647 (by omega)
    generalize he : w % 2147483647 = u at *
    have k2 : okMul u (u % 40009 + 7) = true := okMul_l (by omega) (by omega)
    have hz := emod_b (u * (u % 40009 + 7) + ((c : Int) + 1)) 2147483629 (by omega)
    generalize hx : (u * (u % 40009 + 7) + ((c : Int) + 1)) % 2147483629 = z at *
    have k3 : okMul z (z % 1009 + 3) = true := okMul_l (by omega) (by omega)
    have hv := emod_b (z * (z % 1009 + 3) % 998244353 / 7) m h0
    refine ⟨z * (z % 1009 + 3) % 998244353 / 7 % m, .fl [.int a, .int z, .int (c + 1)], ?_, hv.1, hv.2, a, z, c + 1, rfl, ha, hz.1, hz.2, by omega⟩
    simp [m_law_take, b_law_take, q, h0, h1, L2.atI, k1, k2, k3, hw, he, hx]
theorem Tp.mono {m n : Nat} {t : T} (h : Tp n t) (l : m ≤ n) : Tp m t := by
  obtain ⟨a, b, c, e, h1, h2, h3, h4⟩ := h
  exact ⟨a, b, c, e, h1, h2, h3, by omega⟩
theorem atI_ofNat {α : Type} {xs : List α} {j : Nat} : L2.atI xs (j : Int) = xs[j]? := by
  unfold L2.atI
  by_cases h : j < xs.length
  · unfold ixN
    rw [if_pos (by omega), if_pos (by omega)]
    show xs[((j : Int)).toNat]? = _
    rw [Int.toNat_natCast]
  · unfold ixN
    rw [if_pos (by omega), if_neg (by omega), List.getElem?_eq_none (by omega)]
    rfl
theorem cell_ok (ns : List Int) (k : Nat) : ∃ v : Int, m_law_cell_at [.scr (ns.map .int), .leaf (.int k)] = some (.leaf (.int v), [.scr (ns.map .int), .leaf (.int k)]) := by
  by_cases q : k < ns.length
  · have e : (ns.map PyData.int)[k]? = some (.int ns[k]) := by
      rw [List.getElem?_map, List.getElem?_eq_getElem q]
      rfl
    refine ⟨ns[k], ?_⟩
    simp [m_law_cell_at, b_law_cell_at, q, atI_ofNat, -List.getElem?_map, e]
  · refine ⟨0, ?_⟩
    simp [m_law_cell_at, b_law_cell_at, q]
/-- the draws that a tape covers -/
def big : Nat := 1152921504606846976
theorem tape_ok (ns : List Int) (k : Nat) : ∃ t : T, m_law_tape [.scr (ns.map .int), .leaf (.int k)] = some (t, [.scr (ns.map .int), .leaf (.int k)]) ∧ Tp big t := by
  obtain ⟨v, e⟩ := cell_ok ns k
  have hz := emod_b ((v % 2147483647 + 6907 * k + 29) * 48271) 2147483629 (by omega)
  have hp : (10 : Int) ^ 18 = 1000000000000000000 := by decide
  have hn : 0 ≤ (if v < 0 then -v else v) := by split <;> omega
  generalize hw : (if v < 0 then -v else v) = w at *
  have k1 : okMul w (if (decide (1000000000000000000 ≤ w)) = true then 1 else 0) = true := by
    split
    · exact okMul_r (by omega) (by omega)
    · exact okMul_r (by omega) (by omega)
  refine ⟨.fl [.int (w * (if (decide (1000000000000000000 ≤ w)) = true then 1 else 0)), .int ((v % 2147483647 + 6907 * k + 29) * 48271 % 2147483629), .int 0], ?_, _, _, 0, rfl, ?_, hz.1, hz.2, Nat.le_refl _⟩
  · simp [m_law_tape, b_law_tape, e, hw, okPow, hp] at k1 ⊢
    simp [k1]
  · split <;> omega
theorem room_ok {n : Nat} {t : T} (h : Tp (n + 2) t) : ∃ (r : Int) (t' : T), m_law_room [t] = some (.leaf (.int r), [t']) ∧ 1 ≤ r ∧ r ≤ 4 ∧ Tp n t' := by
  obtain ⟨v, t1, e1, l1, u1, h1⟩ := take_ok (n := n + 1) (m := 4) h (by omega) (by omega)
  obtain ⟨w, t2, e2, l2, u2, h2⟩ := take_ok (n := n) (m := 3) h1 (by omega) (by omega)
  have c : w = 0 ∨ w = 1 ∨ w = 2 := by omega
  rcases c with rfl | rfl | rfl
  · exact ⟨1, t2, by simp [m_law_room, b_law_room, e1, e2, L2.atI], by omega, by omega, h2⟩
  · exact ⟨2, t2, by simp [m_law_room, b_law_room, e1, e2, L2.atI], by omega, by omega, h2⟩
  · exact ⟨1 + v, t2, by simp [m_law_room, b_law_room, e1, e2, L2.atI], by omega, by omega, h2⟩
end La

namespace La
open PySem PySem.Spec PyProof.Rows L2 Tl
/-- a lane of a net of h houses -/
def laneOk (h : Int) (d : D) : Prop := ∃ b e r : Int, d = .tuple [.int b, .int e, .int r] ∧ 0 ≤ b ∧ b < h ∧ 0 ≤ e ∧ e < h ∧ 1 ≤ r ∧ r ≤ 4 ∧ b ≠ e
def LN (h : Int) (ds : List D) : Prop := ∀ d ∈ ds, laneOk h d
theorem LN.app {h : Int} {xs ys : List D} (a : LN h xs) (b : LN h ys) : LN h (xs ++ ys) := fun d m => (List.mem_append.mp m).elim (a d) (b d)
theorem LN.one {h b e r : Int} (h1 : 0 ≤ b) (h2 : b < h) (h3 : 0 ≤ e) (h4 : e < h) (h5 : 1 ≤ r) (h6 : r ≤ 4) (h7 : b ≠ e) : LN h [.tuple [.int b, .int e, .int r]] := fun d m => by
  rw [List.mem_singleton.mp m]
  exact ⟨b, e, r, rfl, h1, h2, h3, h4, h5, h6, h7⟩
theorem emod_ne {b k h : Int} (h0 : 0 ≤ b) (h1 : b < h) (k0 : 1 ≤ k) (k1 : k < h) : (b + k) % h ≠ b := by
  by_cases q : b + k < h
  · rw [Int.emod_eq_of_lt (by omega) q]
    omega
  · have e : (b + k) % h = b + k - h := by
      rw [show b + k = b + k - h + h by omega, Int.add_emod_right, Int.emod_eq_of_lt (by omega) (by omega)]
      omega
    rw [e]
    omega
theorem LN.nil {h : Int} : LN h [] := fun _ m => nomatch m
/-- the state within _law_net; a: what stands in slot 5 -/
def NS (n m : Nat) (way : Int) (great : Bool) (h : Int) (a : Option D) (s : SS) : Prop := ∃ (t : T) (ls : List D) (b c d e f : Option D), s = ⟨[none, some (.int way), some (.bool great), some (.int h), none, a, b, c, d, e, f], [(0, t), (4, .fl ls)]⟩ ∧ Tp n t ∧ LN h ls ∧ ls.length ≤ m
def Is (h : Int) (ds : List D) : Prop := ∀ d ∈ ds, ∃ i : Int, d = .int i ∧ 0 ≤ i ∧ i < h
theorem cutD_le (xs : List D) (k : Nat) : (Tl.cutD xs none (some (k : Int))).length ≤ k := by
  unfold Tl.cutD
  rw [List.length_take]
  refine Nat.le_trans (Nat.min_le_left _ _) ?_
  refine Nat.le_trans (Nat.sub_le _ _) ?_
  rw [HT.sIx_nat]
  exact Nat.min_le_left _ _
theorem net_ok {n : Nat} {t : T} (h0 : Tp (n + 400) t) : ∃ (h : Int) (ls : List D) (t' : T), m_law_net [t] = some (.leaf (.tuple [.int h, .list ls]), [t']) ∧ 2 ≤ h ∧ h ≤ 12 ∧ LN h ls ∧ ls.length ≤ 40 ∧ Tp n t' := by
  obtain ⟨way, t1, e1, l1, u1, h1⟩ := take_ok (n := n + 399) (m := 4) h0 (by omega) (by omega)
  obtain ⟨gr, t2, e2, l2, u2, h2⟩ := take_ok (n := n + 398) (m := 8) h1 (by omega) (by omega)
  -- how many houses
  obtain ⟨h, t3, e3, l3, u3, h3⟩ : ∃ (h : Int) (t3 : T), (mIf (mTru (mVar 2)) (mBin gAdd (mC (.int 7)) (mCall m_law_take (cIo 0 (cCons (mC (.int 6)) cNil)))) (mBin gAdd (mC (.int 2)) (mCall m_law_take (cIo 0 (cCons (mC (.int 5)) cNil))))) ⟨[none, some (.int way), some (.bool (decide (gr = 0))), none, none, none, none, none, none, none, none], []⟩ [(0, t2)] = some (rInt h, [(0, t3)]) ∧ 2 ≤ h ∧ h ≤ 12 ∧ Tp (n + 397) t3 := by
    by_cases q : gr = 0
    · obtain ⟨v, t3, e3, l3, u3, h3⟩ := take_ok (n := n + 397) (m := 6) h2 (by omega) (by omega)
      exact ⟨7 + v, t3, by simp [q, e3], by omega, by omega, h3⟩
    · obtain ⟨v, t3, e3, l3, u3, h3⟩ := take_ok (n := n + 397) (m := 5) h2 (by omega) (by omega)
      exact ⟨2 + v, t3, by simp [q, e3], by omega, by omega, h3⟩
  simp at e3
  simp [m_law_net, b_law_net, e1, e2, e3]
  generalize hA : ifsK _ _ _ = y
  obtain ⟨s1, rfl, a1, i1⟩ : ∃ s1, y = some (.nx s1) ∧ ∃ a, NS (n + 300) 24 way (decide (gr = 0)) h a s1 := by
    subst hA
    by_cases w0 : way = 0
    · subst w0
      obtain ⟨mv, t4, e4, l4, u4, h4⟩ := take_ok (n := n + 396) (m := 2) h3 (by omega) (by omega)
      simp [e4]
      rw [if_pos (by omega)]
      simp
      generalize hF : forL _ _ _ _ _ = x
      obtain ⟨s', rfl, i⟩ := forL_of hF (fun ds s => NS (n + 300 + 4 * ds.length) (24 - 2 * ds.length) 0 (decide (gr = 0)) h (some (.int (1 + mv))) s ∧ ds.length ≤ 12 ∧ Is h ds)
        ⟨⟨t4, [], _, _, _, _, _, rfl, h4.mono (by rw [rangeD_len]; omega), LN.nil, by simp⟩, by rw [rangeD_len]; omega, fun d m => by
          obtain ⟨i, e, q1, q2⟩ := rangeD_mem m
          exact ⟨i, e, q1, by omega⟩⟩ (by
        rintro d ds s ⟨⟨t, ls, b, c, d', e, f, rfl, ht, hl, hm⟩, hd, hr⟩
        obtain ⟨i, rfl, i0, i1⟩ := hr _ List.mem_cons_self
        rw [List.length_cons] at ht hm hd
        simp
        rw [if_pos (by omega)]
        simp
        generalize hL : lcLoop _ _ _ _ _ _ _ _ _ = x
        obtain ⟨acc, τ, rfl, t', rfl, j1, j2, j3⟩ := lc_of hL (fun ds' acc τ => ∃ t', τ = [(0, t'), (4, .fl ls)] ∧ Tp (n + 300 + 4 * ds.length + 2 * ds'.length) t' ∧ LN h acc ∧ acc.length + ds'.length ≤ 2)
          ⟨t, rfl, ht.mono (by rw [rangeD_len]; omega), LN.nil, by rw [rangeD_len]; simp; omega⟩ (by
          rintro d2 ds2 acc τ ⟨t', rfl, j1, j2, j3⟩
          rw [List.length_cons] at j1 j3
          obtain ⟨r, t5, e5, r1, r2, h5⟩ := room_ok (n := n + 300 + 4 * ds.length + 2 * ds2.length) (t := t') (j1.mono (by omega))
          have z := emod_b (i + 1) h (by omega)
          have hp : 0 < h := by omega
          refine ⟨_, true, _, rfl, rfl, .inr ⟨rfl, _, _, _, by simp [e5, hp]; exact ⟨rfl, rfl⟩, rfl, t5, rfl, h5, j2.app (LN.one i0 i1 z.1 z.2 r1 r2 (emod_ne i0 i1 (Int.le_refl 1) (by omega)).symm), by simp; omega⟩⟩)
        simp at j3
        have q : ls.length + acc.length ≤ 16000000 := by omega
        simp [q]
        refine ⟨?_, by omega, fun d m => hr d (List.mem_cons_of_mem _ m)⟩
        exact ⟨t', ls ++ acc, _, _, _, _, _, rfl, by simpa using j1, hl.app j2, by rw [List.length_append]; omega⟩)
      obtain ⟨i, _⟩ := i
      exact ⟨_, rfl, _, by simpa using i⟩
    · exact ⟨_, by simp [w0], none, t3, [], none, none, none, none, none, rfl, h3.mono (by omega), LN.nil, by simp⟩
  clear hA
  simp
  obtain ⟨t4, ls4, b4, c4, d4, e4, f4, rfl, h4, hl4, hm4⟩ := i1
  simp
  generalize hA : ifsK _ _ _ = y
  obtain ⟨s2, rfl, a2, i2⟩ : ∃ s2, y = some (.nx s2) ∧ ∃ a, NS (n + 200) 50 way (decide (gr = 0)) h a s2 := by
    subst hA
    by_cases w0 : way = 1
    · subst w0
      simp
      rw [if_pos (by omega)]
      simp
      generalize hF : forL _ _ _ _ _ = x
      obtain ⟨s', rfl, i⟩ := forL_of hF (fun ds s => NS (n + 200 + 6 * ds.length) (50 - 2 * ds.length) 1 (decide (gr = 0)) h a1 s ∧ ds.length ≤ 12 ∧ ∀ d ∈ ds, ∃ i : Int, d = .int i ∧ 1 ≤ i ∧ i < h)
        ⟨⟨t4, ls4, _, _, _, _, _, rfl, h4.mono (by rw [rangeD_len]; omega), hl4, by rw [rangeD_len]; omega⟩, by rw [rangeD_len]; omega, fun d m => by
          obtain ⟨i, e, q1, q2⟩ := rangeD_mem m
          exact ⟨i, e, q1, by omega⟩⟩ (by
        rintro d ds s ⟨⟨t, ls, b, c, d', e, f, rfl, ht, hl, hm⟩, hd, hr⟩
        obtain ⟨i, rfl, i0, i1⟩ := hr _ List.mem_cons_self
        rw [List.length_cons] at ht hm hd
        obtain ⟨v, t5, q5, lv, uv, h5⟩ := take_ok (n := n + 200 + 6 * ds.length + 4) (m := i) (ht.mono (by omega)) (by omega) (by omega)
        obtain ⟨r, t6, q6, r1, r2, h6⟩ := room_ok (n := n + 200 + 6 * ds.length + 2) h5
        obtain ⟨r', t7, q7, r1', r2', h7⟩ := room_ok (n := n + 200 + 6 * ds.length) h6
        have q : ls.length + 2 ≤ 16000000 := by omega
        simp [q5, q6, q7, q]
        refine ⟨?_, by omega, fun d m => hr d (List.mem_cons_of_mem _ m)⟩
        exact ⟨t7, _, _, _, _, _, _, rfl, h7, hl.app ((LN.one (by omega) i1 lv (by omega) r1 r2 (by omega)).app (LN.one lv (by omega) (by omega) i1 r1' r2' (by omega))), by simp; omega⟩)
      obtain ⟨i, _⟩ := i
      exact ⟨_, rfl, _, by simpa using i⟩
    · exact ⟨_, by simp [w0], a1, t4, ls4, b4, c4, d4, e4, f4, rfl, h4.mono (by omega), hl4, by omega⟩
  clear hA
  simp
  obtain ⟨t5, ls5, b5, c5, d5, e5, f5, rfl, h5, hl5, hm5⟩ := i2
  obtain ⟨tn, t6, e6, l6, u6, h6⟩ := take_ok (n := n + 199) (m := 12) h5 (by omega) (by omega)
  simp [e6]
  rw [if_pos (by omega)]
  simp
  generalize hF : forL _ _ _ _ _ = x
  obtain ⟨s', rfl, i⟩ := forL_of hF (fun ds s => NS (n + 8 * ds.length) (100 - 2 * ds.length) way (decide (gr = 0)) h a2 s ∧ ds.length ≤ 12)
    ⟨⟨t6, ls5, _, _, _, _, _, rfl, h6.mono (by rw [rangeD_len]; omega), hl5, by rw [rangeD_len]; omega⟩, by rw [rangeD_len]; omega⟩ (by
    rintro d ds s ⟨⟨t, ls, b, c, d', e, f, rfl, ht, hl, hm⟩, hd⟩
    rw [List.length_cons] at ht hm hd
    obtain ⟨bg, t8, q8, lb, ub, h8⟩ := take_ok (n := n + 8 * ds.length + 7) (m := h) (ht.mono (by omega)) (by omega) (by omega)
    obtain ⟨v, t9, q9, lv, uv, h9⟩ := take_ok (n := n + 8 * ds.length + 6) (m := h - 1) h8 (by omega) (by omega)
    have z := emod_b (bg + 1 + v) h (by omega)
    have ne : (bg + 1 + v) % h ≠ bg := by
      rw [Int.add_assoc]
      exact emod_ne lb ub (by omega) (by omega)
    generalize hw : (bg + 1 + v) % h = en at *
    obtain ⟨pl, t10, q10, lp, up, h10⟩ := take_ok (n := n + 8 * ds.length + 5) (m := (ls.length : Int) + 1) h9 (by omega) (by omega)
    obtain ⟨r, t11, q11, r1, r2, h11⟩ := room_ok (n := n + 8 * ds.length + 3) h10
    obtain ⟨r', t12, q12, r1', r2', h12⟩ := room_ok (n := n + 8 * ds.length + 1) h11
    have hp : 0 < h := by omega
    have q : ls.length < 16000000 := by omega
    have q' : pl ≤ 16000000 := by omega
    have hin : LN h (ls.take pl.toNat ++ [.tuple [.int bg, .int en, .int r]] ++ ls.drop pl.toNat) := (LN.app (fun d m => hl d (List.mem_of_mem_take m)) (LN.one lb ub z.1 z.2 r1 r2 ne.symm)).app fun d m => hl d (List.mem_of_mem_drop m)
    have hln : (ls.take pl.toNat ++ [.tuple [.int bg, .int en, .int r]] ++ ls.drop pl.toNat : List D).length = ls.length + 1 := by
      simp only [List.length_append, List.length_take, List.length_drop, List.length_singleton]
      omega
    generalize hG : (ls.take pl.toNat ++ [.tuple [.int bg, .int en, .int r]] ++ ls.drop pl.toNat : List D) = G at *
    have q'' : G.length < 16000000 := by omega
    by_cases w1 : way = 1
    · simp [w1, q8, q9, q10, q11, q12, hp, hw, q, q', lp, hG, q'', -List.append_assoc]
      refine ⟨⟨t12, _, _, _, _, _, _, rfl, h12.mono (by omega), hin.app (LN.one z.1 z.2 lb ub r1' r2' ne), by rw [List.length_append, hln, List.length_singleton]; omega⟩, by omega⟩
    · simp [w1, q8, q9, q10, q11, q12, hp, hw, q, q', lp, hG, -List.append_assoc]
      refine ⟨⟨t11, _, _, _, _, _, _, rfl, h11.mono (by omega), hin, by omega⟩, by omega⟩)
  obtain ⟨⟨t7, ls7, b7, c7, d7, e7, f7, rfl, h7, hl7, hm7⟩, _⟩ := i
  by_cases g0 : gr = 0
  · refine ⟨h, _, t7, by simp [g0], l3, u3, fun d m => hl7 d (cutD_sub m), cutD_le ls7 40, by simpa using h7⟩
  · refine ⟨h, _, t7, by simp [g0], l3, u3, fun d m => hl7 d (cutD_sub m), Nat.le_trans (cutD_le ls7 16) (by omega), by simpa using h7⟩
end La

namespace Tl
open PySem PySem.Spec PyProof.Rows L2
end Tl

namespace Tl
open PySem PySem.Spec PyProof.Rows L2
/-- what may be shown: so deep, of such a weight -/
structure Shw (n w : Nat) (d : D) : Prop where
  lay : d.canLay0 = true
  sh : d.showable = true
  shr : d.intsShort 40 = true
  dp : d.depth ≤ n
  wt : d.weight ≤ w
structure ShwL (n w : Nat) (ds : List D) : Prop where
  lay : PyData.canLayAll0 ds = true
  sh : PyData.showableAll ds = true
  shr : PyData.intsShortAll 40 ds = true
  dp : PyData.depthAll ds ≤ n
  wt : PyData.weightAll ds ≤ w
theorem Shw.mono {n w n' w' : Nat} {d : D} (h : Shw n w d) (l : n ≤ n') (l' : w ≤ w') : Shw n' w' d := ⟨h.lay, h.sh, h.shr, Nat.le_trans h.dp l, Nat.le_trans h.wt l'⟩
theorem ShwL.mono {n w n' w' : Nat} {d : List D} (h : ShwL n w d) (l : n ≤ n') (l' : w ≤ w') : ShwL n' w' d := ⟨h.lay, h.sh, h.shr, Nat.le_trans h.dp l, Nat.le_trans h.wt l'⟩
theorem ShwL.nil {n w : Nat} : ShwL n w [] := ⟨rfl, rfl, rfl, by simp [PyData.depthAll], by simp [PyData.weightAll]⟩
theorem ShwL.cons {n w v : Nat} {d : D} {ds : List D} (h : Shw n w d) (k : ShwL n v ds) : ShwL n (w + 1 + v) (d :: ds) := by
  refine ⟨by simp [PyData.canLayAll0, h.lay, k.lay], by simp [PyData.showableAll, h.sh, k.sh], by simp [PyData.intsShortAll, h.shr, k.shr], ?_, ?_⟩
  · have := h.dp
    have := k.dp
    rw [PyData.depthAll]
    omega
  · have := h.wt
    have := k.wt
    rw [PyData.weightAll]
    omega
theorem ShwL.app {n w v : Nat} : ∀ {ds es : List D}, ShwL n w ds → ShwL n v es → ShwL n (w + v) (ds ++ es)
  | [], es, _, k => k.mono (Nat.le_refl _) (Nat.le_add_left _ _)
  | d :: ds, es, h, k => by
    have h1 : d.canLay0 = true ∧ PyData.canLayAll0 ds = true := by simpa [PyData.canLayAll0] using h.lay
    have h2 : d.showable = true ∧ PyData.showableAll ds = true := by simpa [PyData.showableAll] using h.sh
    have h3 : d.intsShort 40 = true ∧ PyData.intsShortAll 40 ds = true := by simpa [PyData.intsShortAll] using h.shr
    have h4 := h.dp
    have h5 := h.wt
    rw [PyData.depthAll] at h4
    rw [PyData.weightAll] at h5
    have a : Shw n d.weight d := ⟨h1.1, h2.1, h3.1, by omega, Nat.le_refl _⟩
    have b : ShwL n (w - d.weight - 1) ds := ⟨h1.2, h2.2, h3.2, by omega, by omega⟩
    exact (ShwL.cons a (ShwL.app b k)).mono (Nat.le_refl _) (by omega)
theorem Shw.list {n w : Nat} {ds : List D} (h : ShwL n w ds) : Shw (n + 1) w (.list ds) := ⟨by simpa [PyData.canLay0] using h.lay, by simpa [PyData.showable] using h.sh, by simpa [PyData.intsShort] using h.shr, by rw [PyData.depth]; have := h.dp; omega, by simpa [PyData.weight] using h.wt⟩
theorem Shw.tuple {n w : Nat} {ds : List D} (h : ShwL n w ds) : Shw (n + 1) w (.tuple ds) := ⟨by simpa [PyData.canLay0] using h.lay, by simpa [PyData.showable] using h.sh, by simpa [PyData.intsShort] using h.shr, by rw [PyData.depth]; have := h.dp; omega, by simpa [PyData.weight] using h.wt⟩
theorem Shw.none {n w : Nat} : Shw n w .none := ⟨rfl, rfl, rfl, by simp [PyData.depth], by simp [PyData.weight]⟩
theorem Shw.bool {n w : Nat} {b : Bool} : Shw n w (.bool b) := ⟨rfl, rfl, rfl, by simp [PyData.depth], by simp [PyData.weight]⟩
theorem Shw.str {n w : Nat} {s : Str} (h : PyData.strOk s = true) (l : s.length ≤ w) : Shw n w (.str s) := ⟨h, rfl, rfl, by simp [PyData.depth], by rw [PyData.weight]; exact l⟩
/-- a number of at most thirty figures -/
def lgI (i : Int) : Bool := decide (-1000000000000000000000000000000 < i ∧ i < 1000000000000000000000000000000)
theorem Shw.int {n : Nat} {i : Int} (h : lgI i = true) : Shw n 100 (.int i) := by
  have h2 : -1000000000000000000000000000000 < i ∧ i < 1000000000000000000000000000000 := of_decide_eq_true h
  have hl : i.natAbs.log2 < 100 := by
    by_cases q : i.natAbs = 0
    · rw [q]
      decide
    · exact (Nat.log2_lt q).mpr (by omega)
  refine ⟨rfl, by simp only [PyData.showable]; exact decide_eq_true (by omega), ?_, by simp [PyData.depth], ?_⟩
  · have e30 : (10 : Nat) ^ 30 = 1000000000000000000000000000000 := by decide
    have := int_text_length_le10 (a := i) (k := 30) (by decide) (by rw [e30]; omega)
    simp only [PyData.intsShort, decide_eq_true_eq]
    show (Str.ofString (toString i)).length ≤ 40
    rw [PySem.ofString_length]
    omega
  · simp only [PyData.weight]
    split <;> omega
theorem ShwL.mem {n w : Nat} : ∀ {ds : List D} {d : D}, ShwL n w ds → d ∈ ds → Shw n w d
  | e :: ds, d, h, m => by
    have h1 : e.canLay0 = true ∧ PyData.canLayAll0 ds = true := by simpa [PyData.canLayAll0] using h.lay
    have h2 : e.showable = true ∧ PyData.showableAll ds = true := by simpa [PyData.showableAll] using h.sh
    have h3 : e.intsShort 40 = true ∧ PyData.intsShortAll 40 ds = true := by simpa [PyData.intsShortAll] using h.shr
    have h4 := h.dp
    have h5 := h.wt
    rw [PyData.depthAll] at h4
    rw [PyData.weightAll] at h5
    rcases List.mem_cons.mp m with e | m
    · subst e
      exact ⟨h1.1, h2.1, h3.1, by omega, by omega⟩
    · exact ShwL.mem (ds := ds) ⟨h1.2, h2.2, h3.2, by omega, by omega⟩ m
theorem Shw.ok {n w : Nat} {d : D} (h : Shw n w d) (hn : n ≤ 150) (hw : w ≤ 300000) : okShow d = true := by
  have := PyData.shown_le 40 (by decide) d (PyData.leavesShort_of_canLay0 40 d h.lay h.shr)
  have := h.wt
  have := h.dp
  unfold okShow
  simp only [h.lay, h.sh, Bool.true_and, Bool.and_eq_true, decide_eq_true_eq]
  exact ⟨by omega, by omega⟩
theorem Shw.shaped {n w : Nat} {d : D} (h : Shw n w d) (hn : n ≤ 64) : SeqAt.shaped d = true := by
  have := h.dp
  unfold SeqAt.shaped
  simp only [h.lay, Bool.true_and, decide_eq_true_eq]
  omega
end Tl

namespace La
open PySem PySem.Spec PyProof.Rows L2 Tl
def netD (h : Int) (ls : List D) : D := .tuple [.int h, .list ls]
@[simp] theorem ix_net0 (h : Int) (ls : List D) : gIx [.val (.leaf (netD h ls)), .val (.leaf (.int 0))] = some (rInt h) := by
  have e : ixN 2 0 = some 0 := by decide
  simp [netD, L2.atI, e]
@[simp] theorem ix_net1 (h : Int) (ls : List D) : gIx [.val (.leaf (netD h ls)), .val (.leaf (.int 1))] = some (rd (.list ls)) := by
  have e : ixN 2 1 = some 1 := by decide
  simp [netD, L2.atI, e]
@[simp] theorem its_net (h : Int) (ls : List D) : (rd (netD h ls)).its = some (false, [.int h, .list ls]) := rfl
@[simp] theorem str_net (h : Int) (ls : List D) : strOf (netD h ls) = (netD h ls).shown := rfl
end La

namespace La
open PySem PySem.Spec PyProof.Rows L2 Tl
structure Lane where
  b : Nat
  e : Nat
  r : Nat
def laneD (l : Lane) : D := .tuple [.int l.b, .int l.e, .int l.r]
def netT (h : Nat) (L : List Lane) : D := .tuple [.int h, .list (L.map laneD)]
/-- the lanes of a net of h houses -/
def Ln (h : Nat) (L : List Lane) : Prop := ∀ l ∈ L, l.b < h ∧ l.e < h ∧ 1 ≤ l.r ∧ l.r ≤ 4 ∧ l.b ≠ l.e
theorem LN.typ {h : Nat} : ∀ {ls : List D}, LN h ls → ∃ L, ls = L.map laneD ∧ Ln h L
  | [], _ => ⟨[], rfl, fun _ m => nomatch m⟩
  | d :: ls, hl => by
    obtain ⟨L, e, hL⟩ := LN.typ (ls := ls) fun d m => hl d (List.mem_cons_of_mem _ m)
    obtain ⟨b, en, r, rfl, h1, h2, h3, h4, h5, h6, h7⟩ := hl d List.mem_cons_self
    refine ⟨⟨b.toNat, en.toNat, r.toNat⟩ :: L, ?_, fun l m => ?_⟩
    · rw [List.map_cons, ← e]
      congr 1
      show PyData.tuple _ = PyData.tuple _
      rw [Int.toNat_of_nonneg h1, Int.toNat_of_nonneg h3, Int.toNat_of_nonneg (by omega)]
    · rcases List.mem_cons.mp m with rfl | m
      · show b.toNat < h ∧ en.toNat < h ∧ 1 ≤ r.toNat ∧ r.toNat ≤ 4 ∧ b.toNat ≠ en.toNat
        omega
      · exact hL l m
theorem Ln.ln {h : Nat} {L : List Lane} (hL : Ln h L) : LN h (L.map laneD) := fun d m => by
  obtain ⟨l, ml, rfl⟩ := List.mem_map.mp m
  have := hL l ml
  exact ⟨l.b, l.e, l.r, rfl, by omega, by omega, by omega, by omega, by omega, by omega, by omega⟩
theorem netT_ok {n : Nat} {t : T} (h0 : Tp (n + 400) t) : ∃ (h : Nat) (L : List Lane) (t' : T), m_law_net [t] = some (.leaf (netT h L), [t']) ∧ 2 ≤ h ∧ h ≤ 12 ∧ Ln h L ∧ L.length ≤ 40 ∧ Tp n t' := by
  obtain ⟨h, ls, t', e, h1, h2, h3, h4, h5⟩ := net_ok h0
  obtain ⟨H, rfl⟩ : ∃ H : Nat, h = H := ⟨h.toNat, by omega⟩
  obtain ⟨L, rfl, hL⟩ := h3.typ
  exact ⟨H, L, t', e, by omega, by omega, hL, by simpa using h4, h5⟩
@[simp] theorem ix_netT0 (h : Nat) (L : List Lane) : gIx [.val (.leaf (netT h L)), .val (.leaf (.int 0))] = some (rInt h) := by
  simp [netT]
@[simp] theorem ix_netT1 (h : Nat) (L : List Lane) : gIx [.val (.leaf (netT h L)), .val (.leaf (.int 1))] = some (rd (.list (L.map laneD))) := by
  simp [netT]
@[simp] theorem its_netT (h : Nat) (L : List Lane) : (rd (netT h L)).its = some (false, [.int h, .list (L.map laneD)]) := rfl
@[simp] theorem str_netT (h : Nat) (L : List Lane) : strOf (netT h L) = (netT h L).shown := rfl
@[simp] theorem ix_lane0 (l : Lane) : gIx [.val (.leaf (laneD l)), .val (.leaf (.int 0))] = some (rInt l.b) := by
  simp [laneD]
@[simp] theorem ix_lane1 (l : Lane) : gIx [.val (.leaf (laneD l)), .val (.leaf (.int 1))] = some (rInt l.e) := by
  simp [laneD]
@[simp] theorem ix_lane2 (l : Lane) : gIx [.val (.leaf (laneD l)), .val (.leaf (.int 2))] = some (rInt l.r) := by
  simp [laneD]
@[simp] theorem gt_lane (m1 m2 m3 : MG) (l : Lane) (fz : Fz) : gtT (gtCons m1 (gtCons m2 (gtCons m3 gtNil))) (laneD l) fz = gtT (gtCons m1 (gtCons m2 (gtCons m3 gtNil))) (.tuple [.int l.b, .int l.e, .int l.r]) fz := rfl
theorem lay_lanes : ∀ (L : List Lane), PyData.canLayAll0 (L.map laneD) = true ∧ PyData.depthAll (L.map laneD) ≤ 1
  | [] => ⟨rfl, by simp [PyData.depthAll]⟩
  | l :: L => by
    obtain ⟨a, b⟩ := lay_lanes L
    exact ⟨by simp [PyData.canLayAll0, laneD, PyData.canLay0] at a ⊢; exact a, by simp [PyData.depthAll, PyData.depth, laneD] at b ⊢; omega⟩
@[simp] theorem shaped_lanes (L : List Lane) : SeqAt.shaped (.list (L.map laneD)) = true := by
  obtain ⟨a, b⟩ := lay_lanes L
  unfold SeqAt.shaped
  have c : PyData.canLay0 (.list (L.map laneD)) = true := by simpa [PyData.canLay0] using a
  rw [c]
  have d : PyData.depth (.list (L.map laneD)) = PyData.depthAll (L.map laneD) + 1 := by rw [PyData.depth]
  rw [d, Bool.true_and, decide_eq_true_eq]
  omega
@[simp] theorem eqv_lanes (L : List Lane) : PyData.eqvAll (L.map laneD) (L.map laneD) = true := eqvAll_self _ (lay_lanes L).1
theorem Ln.filter {h : Nat} {L : List Lane} (hL : Ln h L) (p : Lane → Bool) : Ln h (L.filter p) := fun l m => hL l (List.mem_filter.mp m).1
theorem lay_netT (h : Nat) (L : List Lane) : (netT h L).canLay0 = true ∧ (netT h L).depth ≤ 3 := by
  obtain ⟨a, b⟩ := lay_lanes L
  refine ⟨by simp only [netT, PyData.canLay0, PyData.canLayAll0, a, Bool.and_self], ?_⟩
  simp only [netT, PyData.depth, PyData.depthAll]
  omega
@[simp] theorem shaped_netT (h : Nat) (L : List Lane) : SeqAt.shaped (netT h L) = true := by
  obtain ⟨a, b⟩ := lay_netT h L
  unfold SeqAt.shaped
  rw [a, Bool.true_and, decide_eq_true_eq]
  omega
@[simp] theorem eqv_netT (h : Nat) (L : List Lane) : PyData.eqv (netT h L) (netT h L) = true := eqv_self _ (lay_netT h L).1
end La

namespace Tl
open PySem PySem.Spec PyProof.Rows L2
end Tl
namespace La
open PySem PySem.Spec PyProof.Rows L2 Tl
def natsT (Q : List Nat) : D := .tuple (Q.map natD)
abbrev rowD (h : Nat) (W : Nat → Nat → List Nat) (x : Nat) : List D := (List.range h).map fun g => natsT (W x g)
abbrev tabD (h : Nat) (W : Nat → Nat → List Nat) : D := .list ((List.range h).map fun x => .list (rowD h W x))
def wayT (h : Nat) (L : List Lane) (W : Nat → Nat → List Nat) : T := .tup [.ls ((List.range h).map fun x => .fl (rowD h W x)), .ls (L.map fun l => .fl (rowD h W l.e))]
def wayD (h : Nat) (L : List Lane) (W : Nat → Nat → List Nat) : D := .tuple [tabD h W, .list (L.map fun l => .list (rowD h W l.e))]
@[simp] theorem ix_way0 (h : Nat) (L : List Lane) (W : Nat → Nat → List Nat) : gIx [.val (.leaf (wayD h L W)), .val (.leaf (.int 0))] = some (rd (tabD h W)) := by
  simp [wayD]
@[simp] theorem ix_way1 (h : Nat) (L : List Lane) (W : Nat → Nat → List Nat) : gIx [.val (.leaf (wayD h L W)), .val (.leaf (.int 1))] = some (rd (.list (L.map fun l => .list (rowD h W l.e)))) := by
  simp [wayD]
@[simp] theorem hole_way (h : Nat) (L : List Lane) (W : Nat → Nat → List Nat) : isHole (wayT h L W) = false := rfl
end La

namespace Tl
open PySem PySem.Spec PyProof.Rows L2
end Tl
namespace La
open PySem PySem.Spec PyProof.Rows L2 Tl
theorem shaped_nats (S : List Nat) : SeqAt.shaped (.list (S.map natD)) = true := by
  obtain ⟨a, b⟩ := lay_nats S
  unfold SeqAt.shaped
  have c : PyData.canLay0 (.list (S.map natD)) = true := by simpa [PyData.canLay0] using a
  rw [c, PyData.depth, b]
  rfl
end La

namespace Tl
open PySem PySem.Spec PyProof.Rows L2
end Tl
namespace La
open PySem PySem.Spec PyProof.Rows L2 Tl
/-- .. while it is being drawn; I: the houses that are served -/
structure ToI (h : Nat) (L : List Lane) (g : Nat) (I : List Nat) (W : Nat → List Nat) : Prop where
  nd : I.Nodup
  lt : ∀ x ∈ I, x < h
  mem : g ∈ I
  sub : ∀ x, (W x).Sublist (spots (fun l => l.b == x) L)
  iff : ∀ x, W x ≠ [] ↔ x ∈ I ∧ x ≠ g
  rk : ∃ R : Nat → Nat, (∀ x ∈ I, R x < I.length) ∧ ∀ x k, k ∈ W x → ∃ l, L[k]? = some l ∧ R l.e < R x ∧ l.e ∈ I
theorem ToI.start {h g : Nat} {L : List Lane} (hg : g < h) : ToI h L g [g] (fun _ => []) where
  nd := by simp
  lt := by simp [hg]
  mem := by simp
  sub := fun x => List.nil_sublist _
  iff := fun x => by simp
  rk := ⟨fun _ => 0, by simp, fun x k m => by cases m⟩
theorem ToI.len {h g : Nat} {L : List Lane} {I : List Nat} {W : Nat → List Nat} (i : ToI h L g I W) : I.length ≤ h := by
  have := List.Nodup.length_le_of_subset i.nd (l₂ := List.range h) fun x m => List.mem_range.mpr (i.lt x m)
  simpa using this
end La

namespace La
open PySem PySem.Spec PyProof.Rows L2 Tl
end La

namespace La
open PySem PySem.Spec PyProof.Rows L2 Tl
/-- a walk of so many lanes leads from x to the goal -/
def Rch (L : List Lane) (g : Nat) : Nat → Nat → Prop
  | 0, x => x = g
  | k + 1, x => ∃ l ∈ L, l.b = x ∧ Rch L g k l.e
abbrev Lab (T : List (Option Nat)) (x k : Nat) : Prop := T[x]? = some (some k)
structure IsDist (h : Nat) (L : List Lane) (g : Nat) (T : List (Option Nat)) : Prop where
  len : T.length = h
  ok : ∀ x k, Lab T x k → Rch L g k x ∧ ∀ j, j < k → ¬ Rch L g j x
  no : ∀ x, T[x]? = some none → ∀ k, ¬ Rch L g k x
theorem Lab.uniq {T : List (Option Nat)} {x j k : Nat} (a : Lab T x j) (b : Lab T x k) : j = k := by
  have : some (some j) = some (some k) := a.symm.trans b
  simpa using this
theorem Lab.lt {T : List (Option Nat)} {x k : Nat} (a : Lab T x k) : x < T.length := (List.getElem?_eq_some_iff.mp a).1
theorem IsDist.uniq {h g : Nat} {L : List Lane} {T U : List (Option Nat)} (a : IsDist h L g T) (b : IsDist h L g U) : T = U := by
  refine List.ext_getElem (a.len.trans b.len.symm) fun x h1 h2 => ?_
  have e1 : T[x]? = some T[x] := List.getElem?_eq_getElem h1
  have e2 : U[x]? = some U[x] := List.getElem?_eq_getElem h2
  cases p : T[x] with
  | none =>
    cases q : U[x] with
    | none => rfl
    | some k =>
      rw [p] at e1
      rw [q] at e2
      exact absurd (b.ok x k e2).1 (a.no x e1 k)
  | some j =>
    rw [p] at e1
    cases q : U[x] with
    | none =>
      rw [q] at e2
      exact absurd (a.ok x j e1).1 (b.no x e2 j)
    | some k =>
      rw [q] at e2
      obtain ⟨a1, a2⟩ := a.ok x j e1
      obtain ⟨b1, b2⟩ := b.ok x k e2
      have n1 : ¬ j < k := fun z => b2 j z a1
      have n2 : ¬ k < j := fun z => a2 k z b1
      rw [show j = k by omega]
theorem dist_of {h g : Nat} {L : List Lane} {T : List (Option Nat)} (len : T.length = h) (a : Lab T g 0) (b : ∀ x k, Lab T x k → k = 0 ∧ x = g ∨ ∃ l ∈ L, l.b = x ∧ ∃ j, Lab T l.e j ∧ k = j + 1)
    (c : ∀ l ∈ L, ∀ k, Lab T l.e k → ∃ j, Lab T l.b j ∧ j ≤ k + 1) : IsDist h L g T := by
  have h1 : ∀ k x, Rch L g k x → ∃ j, Lab T x j ∧ j ≤ k := by
    intro k
    induction k with
    | zero =>
      intro x r
      have r : x = g := r
      subst r
      exact ⟨0, a, Nat.le_refl _⟩
    | succ k ih =>
      rintro x ⟨l, m, rfl, r⟩
      obtain ⟨j, hj, lj⟩ := ih _ r
      obtain ⟨i, hi, li⟩ := c l m j hj
      exact ⟨i, hi, by omega⟩
  have h2 : ∀ k x, Lab T x k → Rch L g k x := by
    intro k
    induction k with
    | zero =>
      intro x e
      rcases b x 0 e with ⟨_, q⟩ | ⟨l, m, q, j, _, z⟩
      · exact q
      · omega
    | succ k ih =>
      intro x e
      rcases b x _ e with ⟨z, q⟩ | ⟨l, m, q, j, hj, z⟩
      · omega
      · have : j = k := by omega
        subst this
        exact ⟨l, m, q, ih _ hj⟩
  refine ⟨len, fun x k e => ⟨h2 k x e, fun j l r => ?_⟩, fun x e k r => ?_⟩
  · obtain ⟨i, hi, li⟩ := h1 j x r
    have := hi.uniq e
    omega
  · obtain ⟨i, hi, li⟩ := h1 k x r
    have hi' : T[x]? = some (some i) := hi
    rw [e] at hi'
    cases hi'
theorem lab_set {T : List (Option Nat)} {x y j k : Nat} (n : T[x]? = some none) : Lab (T.set x (some k)) y j ↔ Lab T y j ∨ y = x ∧ j = k := by
  show (T.set x (some k))[y]? = _ ↔ _
  rw [List.getElem?_set]
  by_cases q : x = y
  · subst q
    have hl : x < T.length := (List.getElem?_eq_some_iff.mp n).1
    rw [if_pos rfl, if_pos hl]
    constructor
    · intro e
      injection e with e
      injection e with e
      exact .inr ⟨rfl, e.symm⟩
    · rintro (e | ⟨_, e⟩)
      · have e : T[x]? = some (some j) := e
        rw [n] at e
        cases e
      · rw [e]
  · rw [if_neg q]
    constructor
    · exact .inl
    · rintro (e | ⟨e, _⟩)
      · exact e
      · exact absurd e.symm q
structure Bi (h : Nat) (L : List Lane) (g : Nat) (T : List (Option Nat)) (Q : List Nat) : Prop where
  len : T.length = h
  a : Lab T g 0
  b : ∀ x k, Lab T x k → k = 0 ∧ x = g ∨ ∃ l ∈ L, l.b = x ∧ ∃ j, Lab T l.e j ∧ k = j + 1
  q : ∀ x ∈ Q, ∃ k, Lab T x k
  srt : Q.Pairwise fun x y => ∀ j k, Lab T x j → Lab T y k → j ≤ k
  top : ∀ x, Q.head? = some x → ∀ k, Lab T x k → ∀ y j, Lab T y j → j ≤ k + 1
  dn : ∀ l ∈ L, ∀ k, Lab T l.e k → l.e ∈ Q ∨ ∃ j, Lab T l.b j ∧ j ≤ k + 1
/-- within the turn of x, of label d, these lanes being left -/
structure Bj (h : Nat) (L : List Lane) (g x d : Nat) (rem : List Nat) (T : List (Option Nat)) (Q : List Nat) : Prop where
  len : T.length = h
  a : Lab T g 0
  b : ∀ x k, Lab T x k → k = 0 ∧ x = g ∨ ∃ l ∈ L, l.b = x ∧ ∃ j, Lab T l.e j ∧ k = j + 1
  q : ∀ x ∈ Q, ∃ k, Lab T x k ∧ d ≤ k
  hx : Lab T x d
  srt : Q.Pairwise fun x y => ∀ j k, Lab T x j → Lab T y k → j ≤ k
  top : ∀ y j, Lab T y j → j ≤ d + 1
  dn : ∀ l ∈ L, ∀ k, Lab T l.e k → l.e ∈ Q ∨ (l.e = x ∧ ∃ n ∈ rem, L[n]? = some l) ∨ ∃ j, Lab T l.b j ∧ j ≤ k + 1
theorem Bi.start {h g : Nat} {L : List Lane} (hg : g < h) : Bi h L g ((List.replicate h none).set g (some 0)) [g] := by
  have n : (List.replicate h (none : Option Nat))[g]? = some none := by simp [hg]
  have z : ∀ x k, Lab ((List.replicate h none).set g (some 0)) x k ↔ x = g ∧ k = 0 := by
    intro x k
    rw [lab_set n]
    constructor
    · rintro (e | e)
      · have e : (List.replicate h (none : Option Nat))[x]? = some (some k) := e
        rw [List.getElem?_replicate] at e
        split at e <;> cases e
      · exact e
    · exact .inr
  refine ⟨by simp, (z _ _).mpr ⟨rfl, rfl⟩, fun x k e => ?_, fun x m => ?_, by simp, fun x e k q y j r => ?_, fun l m k e => ?_⟩
  · obtain ⟨e1, e2⟩ := (z _ _).mp e
    exact .inl ⟨e2, e1⟩
  · rw [List.mem_singleton.mp m]
    exact ⟨0, (z _ _).mpr ⟨rfl, rfl⟩⟩
  · have := (z _ _).mp r
    omega
  · exact .inl (by rw [((z _ _).mp e).1]; exact List.mem_singleton.mpr rfl)
theorem Bj.put {h g x d n : Nat} {L : List Lane} {rem : List Nat} {T : List (Option Nat)} {Q : List Nat} {l : Lane} (i : Bj h L g x d (n :: rem) T Q) (hn : L[n]? = some l) (he : l.e = x) (hb : T[l.b]? = some none) :
    Bj h L g x d rem (T.set l.b (some (d + 1))) (Q ++ [l.b]) := by
  have st : ∀ {y j}, Lab T y j → Lab (T.set l.b (some (d + 1))) y j := fun e => (lab_set hb).mpr (.inl e)
  have nw : Lab (T.set l.b (some (d + 1))) l.b (d + 1) := (lab_set hb).mpr (.inr ⟨rfl, rfl⟩)
  have old : ∀ {y j k}, Lab T y j → Lab (T.set l.b (some (d + 1))) y k → Lab T y k := fun {y j k} a e => by
    have := (st a).uniq e
    rw [← this]
    exact a
  have tp : ∀ y j, Lab (T.set l.b (some (d + 1))) y j → j ≤ d + 1 := fun y j e => by
    rcases (lab_set hb).mp e with e | ⟨_, e⟩
    · exact i.top y j e
    · omega
  refine ⟨by rw [List.length_set]; exact i.len, st i.a, fun y k e => ?_, fun y m => ?_, st i.hx, ?_, tp, fun l' m j e => ?_⟩
  · rcases (lab_set hb).mp e with e | ⟨e1, e2⟩
    · rcases i.b y k e with z | ⟨l', m, z, j, hj, e⟩
      · exact .inl z
      · exact .inr ⟨l', m, z, j, st hj, e⟩
    · exact .inr ⟨l, List.mem_of_getElem? hn, e1.symm, d, by rw [he]; exact st i.hx, e2⟩
  · rcases List.mem_append.mp m with m | m
    · obtain ⟨k, hk, lk⟩ := i.q y m
      exact ⟨k, st hk, lk⟩
    · rw [List.mem_singleton.mp m]
      exact ⟨d + 1, nw, Nat.le_succ _⟩
  · refine List.pairwise_append.mpr ⟨List.Pairwise.imp_of_mem (fun {y z} my mz r j k e1 e2 => ?_) i.srt, List.pairwise_singleton _ _, fun y my z mz j k e1 e2 => ?_⟩
    · obtain ⟨j', hj, _⟩ := i.q y my
      obtain ⟨k', hk, _⟩ := i.q z mz
      exact r j k (old hj e1) (old hk e2)
    · rw [List.mem_singleton.mp mz] at e2
      have := tp _ _ e1
      have := e2.uniq nw
      omega
  · rcases (lab_set hb).mp e with e | ⟨e1, e2⟩
    · rcases i.dn l' m j e with z | ⟨z, n', m', e'⟩ | ⟨k, z, zk⟩
      · exact .inl (List.mem_append_left _ z)
      · rcases List.mem_cons.mp m' with q | q
        · rw [q, hn] at e'
          cases e'
          rw [he] at e
          have := e.uniq i.hx
          exact .inr (.inr ⟨d + 1, nw, by omega⟩)
        · exact .inr (.inl ⟨z, n', q, e'⟩)
      · exact .inr (.inr ⟨k, st z, zk⟩)
    · exact .inl (List.mem_append_right _ (by rw [e1]; exact List.mem_singleton.mpr rfl))
theorem Bi.fin {h g : Nat} {L : List Lane} {T : List (Option Nat)} (i : Bi h L g T []) : IsDist h L g T :=
  dist_of i.len i.a i.b fun l m k e => (i.dn l m k e).resolve_left (fun z => nomatch z)
end La

namespace La
open PySem PySem.Spec PyProof.Rows L2 Tl
@[simp] theorem optD_n : optD none = .none := rfl
@[simp] theorem optD_s (n : Nat) : optD (some n) = .int n := rfl
end La

namespace La
open PySem PySem.Spec PyProof.Rows L2 Tl
theorem many_le : ∀ (n : Nat) (T : List (Option Nat)), (∀ j, j < n → some j ∈ T) → n ≤ T.length
  | 0, _, _ => Nat.zero_le _
  | n + 1, T, h => by
    have m := h n (Nat.lt_succ_self n)
    have ih := many_le n (T.erase (some n)) fun j l => (List.mem_erase_of_ne (by intro e; cases e; omega)).mpr (h j (by omega))
    have := List.length_erase_of_mem m
    have := List.length_pos_of_mem m
    omega
theorem Rch.least {L : List Lane} {g x : Nat} : ∀ {j : Nat}, Rch L g j x → ∃ k, k ≤ j ∧ Rch L g k x ∧ ∀ i, i < k → ¬ Rch L g i x := by
  intro j
  induction j using Nat.strongRecOn with
  | ind j ih =>
    intro r
    by_cases q : ∃ i, i < j ∧ Rch L g i x
    · obtain ⟨i, l, r'⟩ := q
      obtain ⟨k, a, b, c⟩ := ih i l r'
      exact ⟨k, by omega, b, c⟩
    · exact ⟨j, Nat.le_refl _, r, fun i l r' => q ⟨i, l, r'⟩⟩
theorem IsDist.below {h g : Nat} {L : List Lane} {T : List (Option Nat)} (i : IsDist h L g T) (hL : Ln h L) (hg : g < h) : ∀ k x, Lab T x k → ∀ j, j ≤ k → ∃ y, Lab T y j := by
  intro k
  induction k with
  | zero =>
    intro x e j l
    rw [show j = 0 by omega]
    exact ⟨x, e⟩
  | succ k ih =>
    intro x e j l
    by_cases q : j = k + 1
    · rw [q]
      exact ⟨x, e⟩
    · obtain ⟨r, mi⟩ := i.ok x _ e
      obtain ⟨ln, m, rfl, r'⟩ := r
      have hl : ln.e < T.length := by rw [i.len]; exact (hL ln m).2.1
      have e1 : T[ln.e]? = some T[ln.e] := List.getElem?_eq_getElem hl
      cases z : T[ln.e] with
      | none =>
        rw [z] at e1
        exact absurd r' (i.no _ e1 k)
      | some k' =>
        rw [z] at e1
        obtain ⟨r2, mi2⟩ := i.ok _ k' e1
        have n1 : ¬ k < k' := fun l => mi2 k l r'
        have n2 : ¬ k' < k := fun l => mi (k' + 1) (by omega) ⟨ln, m, rfl, r2⟩
        have : k' = k := by omega
        subst this
        exact ih _ e1 j (by omega)
theorem IsDist.lt {h g x k : Nat} {L : List Lane} {T : List (Option Nat)} (i : IsDist h L g T) (hL : Ln h L) (hg : g < h) (e : Lab T x k) : k < h := by
  have := many_le (k + 1) T fun j l => by
    obtain ⟨y, hy⟩ := i.below hL hg k x e j (by omega)
    exact List.mem_of_getElem? hy
  rw [i.len] at this
  omega
theorem Rch.lt {h g : Nat} {L : List Lane} (hL : Ln h L) (hg : g < h) {m x : Nat} (r : Rch L g m x) : x < h := by
  cases m with
  | zero =>
    have r : x = g := r
    rw [r]
    exact hg
  | succ m =>
    obtain ⟨l, m, rfl, _⟩ := r
    exact (hL l m).1
theorem IsDist.someAt {h g x : Nat} {L : List Lane} {T : List (Option Nat)} (i : IsDist h L g T) (hx : x < h) {k : Nat} (r : Rch L g k x) : ∃ j, Lab T x j ∧ j ≤ k := by
  have hl : x < T.length := by rw [i.len]; exact hx
  have e1 : T[x]? = some T[x] := List.getElem?_eq_getElem hl
  cases w : T[x] with
  | none =>
    rw [w] at e1
    exact absurd r (i.no x e1 k)
  | some j =>
    rw [w] at e1
    refine ⟨j, e1, ?_⟩
    have := (i.ok x j e1).2 k
    by_cases q : k < j
    · exact absurd r (this q)
    · omega
end La

namespace La
open PySem PySem.Spec PyProof.Rows L2 Tl
theorem Rch.zero {L : List Lane} {g x : Nat} : Rch L g 0 x ↔ x = g := Iff.rfl
end La

namespace La
open PySem PySem.Spec PyProof.Rows L2 Tl
def labOf (T : List (Option Nat)) (x : Nat) : Option Nat := T[x]?.join
def endsOf (L : List Lane) (T : List (Option Nat)) (x : Nat) : List Nat := (L.filter fun l => l.b == x && (labOf T l.e).isSome).map fun l => (labOf T l.e).getD 0
theorem labOf_some {T : List (Option Nat)} {x k : Nat} : labOf T x = some k ↔ Lab T x k := by
  unfold labOf
  cases h : T[x]? with
  | none =>
    simp
    intro e
    have e : T[x]? = some (some k) := e
    rw [h] at e
    cases e
  | some o =>
    simp
    show o = some k ↔ T[x]? = some (some k)
    rw [h]
    simp
theorem mem_ends {L : List Lane} {T : List (Option Nat)} {x k : Nat} : k ∈ endsOf L T x ↔ ∃ l ∈ L, l.b = x ∧ Lab T l.e k := by
  unfold endsOf
  simp only [List.mem_map, List.mem_filter, Bool.and_eq_true, beq_iff_eq]
  constructor
  · rintro ⟨l, ⟨m, e, s⟩, q⟩
    obtain ⟨j, hj⟩ := Option.isSome_iff_exists.mp s
    rw [hj] at q
    simp at q
    subst q
    exact ⟨l, m, e, labOf_some.mp hj⟩
  · rintro ⟨l, m, e, q⟩
    have := labOf_some.mpr q
    exact ⟨l, ⟨m, e, by rw [this]; rfl⟩, by rw [this]; rfl⟩
/-- each house's number by those behind its lanes -/
theorem IsDist.least {h g x : Nat} {L : List Lane} {T : List (Option Nat)} (i : IsDist h L g T) (hL : Ln h L) (hx : x < h) (n : x ≠ g) : labOf T x = (endsOf L T x).min?.map (· + 1) := by
  have hl : x < T.length := by rw [i.len]; exact hx
  have e1 : T[x]? = some T[x] := List.getElem?_eq_getElem hl
  have step : ∀ k, Lab T x k → ∃ k', k = k' + 1 ∧ ∃ j, j ≤ k' ∧ j ∈ endsOf L T x := by
    intro k e
    obtain ⟨r, mi⟩ := i.ok x k e
    cases k with
    | zero => exact absurd r n
    | succ k =>
      obtain ⟨l, m, q, r'⟩ := r
      obtain ⟨j, hj, lj⟩ := i.someAt (hL l m).2.1 r'
      exact ⟨k, rfl, j, lj, mem_ends.mpr ⟨l, m, q, hj⟩⟩
  cases q : (endsOf L T x).min? with
  | none =>
    have e : endsOf L T x = [] := List.min?_eq_none_iff.mp q
    cases w : T[x] with
    | none => simp [labOf, e1, w]
    | some k =>
      rw [w] at e1
      obtain ⟨_, _, j, _, m⟩ := step k e1
      rw [e] at m
      cases m
  | some m =>
    obtain ⟨h1, h2⟩ := List.min?_eq_some_iff.mp q
    obtain ⟨l, ml, e, hm⟩ := mem_ends.mp h1
    obtain ⟨k, hk, lk⟩ := i.someAt (k := m + 1) hx ⟨l, ml, e, (i.ok _ _ hm).1⟩
    obtain ⟨k', e', j, lj, mj⟩ := step k hk
    have := h2 j mj
    rw [labOf_some.mpr hk]
    simp
    omega
end La

namespace La
open PySem PySem.Spec PyProof.Rows L2 Tl
def atB {α : Type} (q : α → Bool) (xs : List α) (i : Nat) : Bool := (xs[i]?).elim false q
end La

namespace La
open PySem PySem.Spec PyProof.Rows L2 Tl
end La

namespace La
open PySem PySem.Spec PyProof.Rows L2 Tl TL
theorem spl_c (s : Nat) (acc r : List Nat) (c : Nat) : spl [s] 0 acc (c :: r) = if c = s then acc :: spl [s] 0 [] r else spl [s] 0 (acc ++ [c]) r := by
  by_cases q : c = s
  · subst q
    have : pre [c] (c :: r) = true := by simp [pre]
    rw [if_pos rfl, spl_hit this]
    rfl
  · have : pre [s] (c :: r) = false := by simp [pre, q]
    rw [if_neg q, spl_miss this]
/-- the parts of a text between signs s -/
def cutL (s : Nat) (l : List Nat) : List (List Nat) := spl [s] 0 [] l
theorem spl_facts (s : Nat) : ∀ (l acc : List Nat), (spl [s] 0 acc l).length ≤ l.length + 1 ∧ (∀ w ∈ spl [s] 0 acc l, w.length ≤ acc.length + l.length ∧ ∀ c ∈ w, c ∈ acc ∨ c ∈ l) ∧ spl [s] 0 acc l ≠ []
  | [], acc => by
    rw [spl_nil]
    refine ⟨by simp, fun w m => ?_, by simp⟩
    rw [List.mem_singleton.mp m]
    exact ⟨by simp, fun c m => .inl m⟩
  | c :: r, acc => by
    rw [spl_c]
    by_cases q : c = s
    · rw [if_pos q]
      obtain ⟨h1, h2, h3⟩ := spl_facts s r []
      refine ⟨by simp only [List.length_cons]; omega, fun w m => ?_, by simp⟩
      rcases List.mem_cons.mp m with rfl | m
      · exact ⟨by omega, fun c m => .inl m⟩
      · obtain ⟨a, b⟩ := h2 w m
        simp only [List.length_nil, List.length_cons] at a ⊢
        exact ⟨by omega, fun c m => by
          rcases b c m with z | z
          · cases z
          · exact .inr (List.mem_cons_of_mem _ z)⟩
    · rw [if_neg q]
      obtain ⟨h1, h2, h3⟩ := spl_facts s r (acc ++ [c])
      refine ⟨by simp only [List.length_cons]; omega, fun w m => ?_, h3⟩
      obtain ⟨a, b⟩ := h2 w m
      simp only [List.length_append, List.length_cons, List.length_nil] at a ⊢
      exact ⟨by omega, fun c m => by
        rcases b c m with z | z
        · rcases List.mem_append.mp z with z | z
          · exact .inl z
          · exact .inr (by rw [List.mem_singleton.mp z]; exact List.mem_cons_self)
        · exact .inr (List.mem_cons_of_mem _ z)⟩
/-- a text that is short enough and of true signs -/
structure OkT (s : Str) : Prop where
  len : s.length ≤ 9000000
  sig : PyData.strOk s = true
theorem strOk_iff (s : Str) : PyData.strOk s = true ↔ ∀ c ∈ tl s, c < 0x110000 := by
  unfold PyData.strOk tl
  rw [Array.all_eq_true_iff_forall_mem]
  constructor
  · intro h c m
    exact of_decide_eq_true (h c (by simpa using m))
  · intro h c m
    exact decide_eq_true (h c (by simpa using m))
theorem split_tl {x y : Str} {s : Nat} (hy : tl y = [s]) (hs : s < 256) : (Txt.split x y).map tl = cutL s (tl x) := by
  unfold cutL
  rw [← hy]
  refine split_spl x y (by rw [hy]; simp) (kind_ok ?_)
  rw [Array.all_eq_true_iff_forall_mem]
  intro c m
  have : c ∈ tl y := by simpa [tl] using m
  rw [hy] at this
  rw [List.mem_singleton.mp this]
  exact decide_eq_true hs
theorem split_part {x y : Str} {s : Nat} (hy : tl y = [s]) (hs : s < 256) (ok : OkT x) : (Txt.split x y).length ≤ x.length + 1 ∧ (∀ w ∈ Txt.split x y, w.length ≤ x.length ∧ OkT w) ∧ Txt.split x y ≠ [] := by
  have e := split_tl (x := x) hy hs
  obtain ⟨h1, h2, h3⟩ := spl_facts s (tl x) []
  have hx := len_tl x
  have e' : (Txt.split x y).map tl = spl [s] 0 [] (tl x) := e
  rw [← e'] at h1 h2 h3
  refine ⟨by rw [List.length_map] at h1; omega, fun w m => ?_, fun z => h3 (by rw [z]; rfl)⟩
  obtain ⟨a, b⟩ := h2 (tl w) (List.mem_map_of_mem m)
  have hw := len_tl w
  have lw : w.length ≤ x.length := by simp only [List.length_nil] at a; omega
  refine ⟨lw, ⟨by have := ok.len; omega, (strOk_iff w).mpr fun c m => ?_⟩⟩
  rcases b c m with z | z
  · cases z
  · exact (strOk_iff x).mp ok.sig c z
theorem okSplit_ok {x y : Str} {s : Nat} (hy : tl y = [s]) (hs : s < 256) (ok : OkT x) : okSplit x y = true := by
  obtain ⟨h1, _, _⟩ := split_part hy hs ok
  have := ok.len
  have hl : y.length = 1 := by rw [len_tl, hy]; rfl
  unfold okSplit
  rw [hl]
  simp only [Bool.and_eq_true, decide_eq_true_iff]
  exact ⟨⟨rfl, by omega⟩, by omega⟩
theorem tl_sp : tl (" " : Str) = [32] := by decide +kernel
theorem tl_nl : tl ("\n" : Str) = [10] := by decide +kernel
theorem cut_from (Q : List D) (k : Nat) : Tl.cutD Q (some (k : Int)) none = Q.drop k := by
  unfold Tl.cutD
  rw [HT.sIx_nat, HT.sIx_none]
  by_cases q : k ≤ Q.length
  · rw [Nat.min_eq_left q, List.take_of_length_le (by rw [List.length_drop]; omega)]
  · rw [Nat.min_eq_right (by omega), List.drop_of_length_le (Nat.le_refl _), List.drop_of_length_le (by omega)]
    simp
/-- what a first row tells -/
def housesR (l : List Nat) : Option Nat :=
  match cutL 32 l with
  | w :: ws => if w = tl ("houses" : Str) then (match numsV ws with
    | some [n] => if 1 ≤ n then some n else none
    | _ => none) else none
  | [] => none
theorem shStr {s : Str} (ok : OkT s) : SeqAt.shaped (.str s) = true := shS ok.sig
theorem numsV_len : ∀ {ws : List (List Nat)} {ns : List Nat}, numsV ws = some ns → ns.length = ws.length
  | [], ns, h => by
    cases h
    rfl
  | w :: ws, ns, h => by
    obtain ⟨n, e1, e2⟩ := Option.bind_eq_some_iff.mp (show (numV w).bind _ = some ns from h)
    obtain ⟨ms, e3, e4⟩ := Option.map_eq_some_iff.mp e2
    subst e4
    rw [List.length_cons, List.length_cons, numsV_len e3]
theorem houses_from_ok (row : Str) (ok : OkT row) : m_houses_from [.leaf (.str row)] = some (.leaf (optN (housesR (tl row))), [.leaf (.str row)]) := by
  have es := split_tl (x := row) tl_sp (by decide)
  have ek := okSplit_ok tl_sp (by decide) ok
  obtain ⟨h1, h2, h3⟩ := split_part (x := row) tl_sp (by decide) ok
  have hl := ok.len
  generalize hW : Txt.split row (" " : Str) = ws at *
  obtain ⟨w, r, rfl⟩ : ∃ w r, ws = w :: r := by
    cases ws with
    | nil => exact absurd rfl h3
    | cons w r => exact ⟨w, r, rfl⟩
  have e2 := number_words_ok r 1 ⟨by simp only [List.length_cons] at h1; omega, fun u m => by
    have := (h2 u (List.mem_cons_of_mem _ m)).2
    exact ⟨by have := this.len; omega, this.sig⟩⟩
  have c1 : Tl.cutD ((w :: r).map PyData.str) (some (1 : Int)) none = r.map PyData.str := cut_from ((w :: r).map PyData.str) 1
  have sw := shStr (h2 w List.mem_cons_self).2
  have sh : SeqAt.shaped (.str (Str.ofString "houses")) = true := shS (by decide +kernel)
  have bq : (w == Str.ofString "houses") = decide (tl w = tl ("houses" : Str)) := beq_tl _ _
  have iw : L2.atI ((w :: r).map PyData.str) 0 = some (.str w) := by
    have : ixN ((w :: r).map PyData.str).length 0 = some 0 := by simp [ixN]
    unfold L2.atI
    rw [this]
    rfl
  have eR : housesR (tl row) = if tl w = tl ("houses" : Str) then (match (if r.length = 1 then numsV (r.map tl) else none) with
    | some [n] => if 1 ≤ n then some n else none
    | _ => none) else none := by
    unfold housesR
    rw [← es]
    show (if tl w = tl ("houses" : Str) then (match numsV (r.map tl) with
      | some [n] => if 1 ≤ n then some n else none
      | _ => none) else none) = _
    split
    · by_cases q : r.length = 1
      · rw [if_pos q]
      · rw [if_neg q]
        cases e : numsV (r.map tl) with
        | none => rfl
        | some ns =>
          have := numsV_len e
          rw [List.length_map] at this
          match ns, this with
          | [], _ => rfl
          | [n], z => exact absurd z.symm q
          | _ :: _ :: _, _ => rfl
    · rfl
  have f1 : s_houses_from_1 ⟨[some (.str row), none, none], []⟩ = some (.nx ⟨[some (.str row), some (.list ((w :: r).map PyData.str)), none], []⟩) := by
    simp [s_houses_from_1, ek, hW]
  have n1 : natD 1 = .int 1 := rfl
  rw [n1] at e2
  have f2 : s_houses_from_2 ⟨[some (.str row), some (.list ((w :: r).map PyData.str)), none], []⟩ = some (.nx ⟨[some (.str row), some (.list ((w :: r).map PyData.str)), some (optNs (if r.length = 1 then numsV (r.map tl) else none))], []⟩) := by
    generalize (w :: r).map PyData.str = W at *
    generalize r.map PyData.str = W2 at *
    simp [s_houses_from_2, c1, e2]
  rw [eR]
  have hN1 : ∀ ns, (if r.length = 1 then numsV (r.map tl) else none) = some ns → ∃ n, ns = [n] := fun ns e => by
    by_cases q : r.length = 1
    · rw [if_pos q] at e
      have := numsV_len e
      rw [List.length_map, q] at this
      match ns, this with
      | [n], _ => exact ⟨n, rfl⟩
    · rw [if_neg q] at e
      cases e
  generalize hN : (if r.length = 1 then numsV (r.map tl) else none) = N at *
  generalize (w :: r).map PyData.str = W at *
  have ixW : gIx [rd (.list W), rd (.int 0)] = some (rd (.str w)) := by
    show (L2.atI W 0).map rd = _
    rw [iw]
    rfl
  by_cases qw : tl w = tl ("houses" : Str)
  · rw [if_pos qw]
    have bq : (w == Str.ofString "houses") = true := by rw [bq, qw]; simp
    cases N with
    | none =>
      have f3 : s_houses_from_3 ⟨[some (.str row), some (.list W), some (optNs none)], []⟩ = some (.rt (.leaf .none) ⟨[some (.str row), some (.list W), some (optNs none)], []⟩) := by
        simp [s_houses_from_3, ixW, sw, sh, bq, optNs]
      simp [m_houses_from, pieces_houses_from, f1, f2, f3, optN]
    | some ns =>
      obtain ⟨n, rfl⟩ := hN1 ns rfl
      have eN : optNs (some [n]) = .list [.int (n : Nat)] := rfl
      rw [eN] at f2
      by_cases q1 : 1 ≤ n
      · have i1 : ¬ (n : Int) < 1 := by omega
        have f3 : s_houses_from_3 ⟨[some (.str row), some (.list W), some (.list [.int (n : Nat)])], []⟩ = some (.nx ⟨[some (.str row), some (.list W), some (.list [.int (n : Nat)])], []⟩) := by
          simp [s_houses_from_3, ixW, sw, sh, bq, i1]
        simp [m_houses_from, pieces_houses_from, f1, f2, f3, s_houses_from_4, optN, q1]
      · have i1 : (n : Int) < 1 := by omega
        have f3 : s_houses_from_3 ⟨[some (.str row), some (.list W), some (.list [.int (n : Nat)])], []⟩ = some (.rt (.leaf .none) ⟨[some (.str row), some (.list W), some (.list [.int (n : Nat)])], []⟩) := by
          simp [s_houses_from_3, ixW, sw, sh, bq, i1]
        simp [m_houses_from, pieces_houses_from, f1, f2, f3, optN, q1]
  · rw [if_neg qw]
    have bq : (w == Str.ofString "houses") = false := by rw [bq]; exact decide_eq_false qw
    have f3 : s_houses_from_3 ⟨[some (.str row), some (.list W), some (optNs N)], []⟩ = some (.rt (.leaf .none) ⟨[some (.str row), some (.list W), some (optNs N)], []⟩) := by
      simp [s_houses_from_3, ixW, sw, sh, bq]
    simp [m_houses_from, pieces_houses_from, f1, f2, f3, optN]
/-- what a lane's row tells -/
def laneR (h : Nat) (l : List Nat) : Option Lane :=
  match cutL 32 l with
  | w :: ws => if w = tl ("lane" : Str) then (match numsV ws with
    | some [b, e, r] => if b < h ∧ e < h ∧ b ≠ e ∧ 1 ≤ r then some ⟨b, e, r⟩ else none
    | _ => none) else none
  | [] => none
def optL : Option Lane → D
  | none => .none
  | some l => laneD l
theorem lane_from_ok (row : Str) (h : Nat) (ok : OkT row) : m_lane_from [.leaf (.str row), .leaf (natD h)] = some (.leaf (optL (laneR h (tl row))), [.leaf (.str row), .leaf (natD h)]) := by
  have es := split_tl (x := row) tl_sp (by decide)
  have ek := okSplit_ok tl_sp (by decide) ok
  obtain ⟨h1, h2, h3⟩ := split_part (x := row) tl_sp (by decide) ok
  have hl := ok.len
  generalize hW : Txt.split row (" " : Str) = ws at *
  obtain ⟨w, r, rfl⟩ : ∃ w r, ws = w :: r := by
    cases ws with
    | nil => exact absurd rfl h3
    | cons w r => exact ⟨w, r, rfl⟩
  have e2 := number_words_ok r 3 ⟨by simp only [List.length_cons] at h1; omega, fun u m => by
    have := (h2 u (List.mem_cons_of_mem _ m)).2
    exact ⟨by have := this.len; omega, this.sig⟩⟩
  have c1 : Tl.cutD ((w :: r).map PyData.str) (some (1 : Int)) none = r.map PyData.str := cut_from ((w :: r).map PyData.str) 1
  have sw := shStr (h2 w List.mem_cons_self).2
  have sh : SeqAt.shaped (.str (Str.ofString "lane")) = true := shS (by decide +kernel)
  have bq : (w == Str.ofString "lane") = decide (tl w = tl ("lane" : Str)) := beq_tl _ _
  have iw : L2.atI ((w :: r).map PyData.str) 0 = some (.str w) := by
    have : ixN ((w :: r).map PyData.str).length 0 = some 0 := by simp [ixN]
    unfold L2.atI
    rw [this]
    rfl
  have eR : laneR h (tl row) = if tl w = tl ("lane" : Str) then (match (if r.length = 3 then numsV (r.map tl) else none) with
    | some [b, e, r] => if b < h ∧ e < h ∧ b ≠ e ∧ 1 ≤ r then some ⟨b, e, r⟩ else none
    | _ => none) else none := by
    unfold laneR
    rw [← es]
    show (if tl w = tl ("lane" : Str) then (match numsV (r.map tl) with
      | some [b, e, r] => if b < h ∧ e < h ∧ b ≠ e ∧ 1 ≤ r then some (⟨b, e, r⟩ : Lane) else none
      | _ => none) else none) = _
    split
    · by_cases q : r.length = 3
      · rw [if_pos q]
      · rw [if_neg q]
        cases e : numsV (r.map tl) with
        | none => rfl
        | some ns =>
          have := numsV_len e
          rw [List.length_map] at this
          match ns, this with
          | [], _ => rfl
          | [_], _ => rfl
          | [_, _], _ => rfl
          | [_, _, _], z => exact absurd z.symm q
          | _ :: _ :: _ :: _ :: _, _ => rfl
    · rfl
  have f1 : s_lane_from_1 ⟨[some (.str row), some (natD h), none, none, none, none, none], []⟩ = some (.nx ⟨[some (.str row), some (natD h), some (.list ((w :: r).map PyData.str)), none, none, none, none], []⟩) := by
    simp [s_lane_from_1, ek, hW]
  have n1 : natD 3 = .int 3 := rfl
  rw [n1] at e2
  have f2 : s_lane_from_2 ⟨[some (.str row), some (natD h), some (.list ((w :: r).map PyData.str)), none, none, none, none], []⟩ = some (.nx ⟨[some (.str row), some (natD h), some (.list ((w :: r).map PyData.str)), some (optNs (if r.length = 3 then numsV (r.map tl) else none)), none, none, none], []⟩) := by
    generalize (w :: r).map PyData.str = W at *
    generalize r.map PyData.str = W2 at *
    simp [s_lane_from_2, c1, e2]
  rw [eR]
  have hN1 : ∀ ns, (if r.length = 3 then numsV (r.map tl) else none) = some ns → ∃ a b c, ns = [a, b, c] := fun ns e => by
    by_cases q : r.length = 3
    · rw [if_pos q] at e
      have := numsV_len e
      rw [List.length_map, q] at this
      match ns, this with
      | [a, b, c], _ => exact ⟨a, b, c, rfl⟩
    · rw [if_neg q] at e
      cases e
  generalize hN : (if r.length = 3 then numsV (r.map tl) else none) = N at *
  generalize (w :: r).map PyData.str = W at *
  have ixW : gIx [rd (.list W), rd (.int 0)] = some (rd (.str w)) := by
    show (L2.atI W 0).map rd = _
    rw [iw]
    rfl
  by_cases qw : tl w = tl ("lane" : Str)
  · rw [if_pos qw]
    have bq : (w == Str.ofString "lane") = true := by rw [bq, qw]; simp
    cases N with
    | none =>
      have f3 : s_lane_from_3 ⟨[some (.str row), some (natD h), some (.list W), some (optNs none), none, none, none], []⟩ = some (.rt (.leaf .none) ⟨[some (.str row), some (natD h), some (.list W), some (optNs none), none, none, none], []⟩) := by
        simp [s_lane_from_3, ixW, sw, sh, bq, optNs]
      simp [m_lane_from, pieces_lane_from, f1, f2, f3, optL]
    | some ns =>
      obtain ⟨a, b, c, rfl⟩ := hN1 ns rfl
      have eN : optNs (some [a, b, c]) = .list [.int (a : Nat), .int (b : Nat), .int (c : Nat)] := rfl
      rw [eN] at f2
      have f3 : s_lane_from_3 ⟨[some (.str row), some (natD h), some (.list W), some (.list [.int (a : Nat), .int (b : Nat), .int (c : Nat)]), none, none, none], []⟩ = some (.nx ⟨[some (.str row), some (natD h), some (.list W), some (.list [.int (a : Nat), .int (b : Nat), .int (c : Nat)]), none, none, none], []⟩) := by
        simp [s_lane_from_3, ixW, sw, sh, bq]
      have f4 : s_lane_from_4 ⟨[some (.str row), some (natD h), some (.list W), some (.list [.int (a : Nat), .int (b : Nat), .int (c : Nat)]), none, none, none], []⟩ = some (.nx ⟨[some (.str row), some (natD h), some (.list W), some (.list [.int (a : Nat), .int (b : Nat), .int (c : Nat)]), some (.int (a : Nat)), some (.int (b : Nat)), some (.int (c : Nat))], []⟩) := by
        simp [s_lane_from_4]
      have f5 : s_lane_from_5 ⟨[some (.str row), some (natD h), some (.list W), some (.list [.int (a : Nat), .int (b : Nat), .int (c : Nat)]), some (.int (a : Nat)), some (.int (b : Nat)), some (.int (c : Nat))], []⟩ = if a < h ∧ b < h ∧ a ≠ b ∧ 1 ≤ c then some (.nx ⟨[some (.str row), some (natD h), some (.list W), some (.list [.int (a : Nat), .int (b : Nat), .int (c : Nat)]), some (.int (a : Nat)), some (.int (b : Nat)), some (.int (c : Nat))], []⟩) else some (.rt (.leaf .none) ⟨[some (.str row), some (natD h), some (.list W), some (.list [.int (a : Nat), .int (b : Nat), .int (c : Nat)]), some (.int (a : Nat)), some (.int (b : Nat)), some (.int (c : Nat))], []⟩) := by
        have i1 : ((h : Int) ≤ (a : Int)) = ¬ a < h := by simp
        have i2 : ((h : Int) ≤ (b : Int)) = ¬ b < h := by simp
        have i3 : ((a : Int) = (b : Int)) = (a = b) := propext (by omega)
        have i4 : ((c : Int) < 1) = ¬ 1 ≤ c := propext (by omega)
        by_cases q1 : a < h
        · by_cases q2 : b < h
          · by_cases q3 : a = b
            · simp [s_lane_from_5, i1, i2, i3, i4, q1, q2, q3]
            · by_cases q4 : 1 ≤ c
              · simp [s_lane_from_5, i1, i2, i3, i4, q1, q2, q3, q4]
              · simp [s_lane_from_5, i1, i2, i3, i4, q1, q2, q3, q4]
          · simp [s_lane_from_5, i1, i2, i3, i4, q1, q2]
        · simp [s_lane_from_5, i1, i2, i3, i4, q1]
      show _ = some (T.leaf (optL (if a < h ∧ b < h ∧ a ≠ b ∧ 1 ≤ c then some ⟨a, b, c⟩ else none)), _)
      by_cases q : a < h ∧ b < h ∧ a ≠ b ∧ 1 ≤ c
      · rw [if_pos q] at f5 ⊢
        simp [m_lane_from, pieces_lane_from, f1, f2, f3, f4, f5, s_lane_from_6, optL, laneD]
      · rw [if_neg q] at f5 ⊢
        simp [m_lane_from, pieces_lane_from, f1, f2, f3, f4, f5, optL]
  · rw [if_neg qw]
    have bq : (w == Str.ofString "lane") = false := by rw [bq]; exact decide_eq_false qw
    have f3 : s_lane_from_3 ⟨[some (.str row), some (natD h), some (.list W), some (optNs N), none, none, none], []⟩ = some (.rt (.leaf .none) ⟨[some (.str row), some (natD h), some (.list W), some (optNs N), none, none, none], []⟩) := by
      simp [s_lane_from_3, ixW, sw, sh, bq]
    simp [m_lane_from, pieces_lane_from, f1, f2, f3, optL]
end La

namespace La
open PySem PySem.Spec PyProof.Rows L2 Tl TL
def lanesR (h : Nat) : List (List Nat) → Option (List Lane)
  | [] => some []
  | r :: rs => (laneR h r).bind fun l => (lanesR h rs).map (l :: ·)
/-- the net that a text tells -/
def netR (l : List Nat) : Option (Nat × List Lane) :=
  match cutL 10 l with
  | r :: rs => (housesR r).bind fun h => (lanesR h rs).map fun L => (h, L)
  | [] => none
abbrev nfS (t W H : D) (x4 x5 x6 : Option D) (acc : List D) : SS := ⟨[some t, some W, some H, none, x4, x5, x6], [(3, .fl acc)]⟩
theorem nf_loop {t W : D} {h : Nat} : ∀ (rs : List Str) (k : Nat) (acc : List D) (x4 x5 x6 : Option D) (L : List Lane), (∀ r ∈ rs, OkT r) → lanesR h (rs.map tl) = some L → acc.length + rs.length ≤ 10000000 →
    ∃ y4 y5 y6, forL [4, 5] (gtT (gtCons (gtN 4) (gtCons (gtN 5) gtNil))) s_net_from_5b (enumFrom k (rs.map PyData.str)) (nfS t W (natD h) x4 x5 x6 acc) = some (.nx (nfS t W (natD h) y4 y5 y6 (acc ++ L.map laneD)))
  | [], k, acc, x4, x5, x6, L, _, e, _ => by
    cases e
    exact ⟨x4, x5, x6, by show some (Out.nx _) = _; rw [List.map_nil, List.append_nil]⟩
  | r :: rs, k, acc, x4, x5, x6, L, ok, e, hz => by
    obtain ⟨l, e1, e2⟩ := Option.bind_eq_some_iff.mp (show (laneR h (tl r)).bind _ = some L from e)
    obtain ⟨L', e3, e4⟩ := Option.map_eq_some_iff.mp e2
    subst e4
    simp only [List.length_cons] at hz
    obtain ⟨y4, y5, y6, ih⟩ := nf_loop (t := t) (W := W) (h := h) rs (k + 1) (acc ++ [laneD l]) (some (.int k)) (some (.str r)) (some (laneD l)) L' (fun r m => ok r (List.mem_cons_of_mem _ m)) e3 (by rw [List.length_append]; simp; omega)
    refine ⟨y4, y5, y6, ?_⟩
    have lf := lane_from_ok r h (ok r List.mem_cons_self)
    rw [e1] at lf
    have ha : acc.length < 16000000 := by omega
    have nn : ∃ a b c, laneD l = .tuple [a, b, c] := ⟨_, _, _, rfl⟩
    have turn : s_net_from_5b (nfS t W (natD h) (some (.int k)) (some (.str r)) x6 acc) = some (.nx (nfS t W (natD h) (some (.int k)) (some (.str r)) (some (laneD l)) (acc ++ [laneD l]))) := by
      have lf' : m_lane_from [.leaf (.str r), .leaf (natD h)] = some (.leaf (laneD l), [.leaf (.str r), .leaf (natD h)]) := lf
      obtain ⟨a, b, c, hl⟩ := nn
      generalize laneD l = LD at *
      subst hl
      generalize natD h = HD at *
      simp [s_net_from_5b_1, s_net_from_5b_2, s_net_from_5b_3, lf', ha]
    have eF : forL [4, 5] (gtT (gtCons (gtN 4) (gtCons (gtN 5) gtNil))) s_net_from_5b (enumFrom k ((r :: rs).map PyData.str)) (nfS t W (natD h) x4 x5 x6 acc) = (s_net_from_5b (nfS t W (natD h) (some (.int k)) (some (.str r)) x6 acc)).bind fun o => match o with
        | .nx s1 => forL [4, 5] (gtT (gtCons (gtN 4) (gtCons (gtN 5) gtNil))) s_net_from_5b (enumFrom (k + 1) (rs.map PyData.str)) s1
        | .ct s1 => forL [4, 5] (gtT (gtCons (gtN 4) (gtCons (gtN 5) gtNil))) s_net_from_5b (enumFrom (k + 1) (rs.map PyData.str)) s1
        | .bk s1 => some (.nx s1)
        | .rt t s1 => some (.rt t s1) := rfl
    rw [eF, turn]
    show forL _ _ _ (enumFrom (k + 1) (rs.map PyData.str)) (nfS t W (natD h) (some (.int k)) (some (.str r)) (some (laneD l)) (acc ++ [laneD l])) = _
    rw [ih, List.map_cons, List.append_assoc]
    rfl
theorem net_from_ok (text : Str) (ok : OkT text) {h : Nat} {L : List Lane} (e : netR (tl text) = some (h, L)) : m_net_from [.leaf (.str text)] = some (.tup [.leaf (natD h), .fl (L.map laneD)], [.leaf (.str text)]) := by
  have es := split_tl (x := text) tl_nl (by decide)
  have ek := okSplit_ok tl_nl (by decide) ok
  obtain ⟨h1, h2, h3⟩ := split_part (x := text) tl_nl (by decide) ok
  have hl := ok.len
  generalize hW : Txt.split text ("\n" : Str) = ws at *
  obtain ⟨w, r, rfl⟩ : ∃ w r, ws = w :: r := by
    cases ws with
    | nil => exact absurd rfl h3
    | cons w r => exact ⟨w, r, rfl⟩
  unfold netR at e
  rw [← es] at e
  obtain ⟨h', e1, e2⟩ := Option.bind_eq_some_iff.mp (show (housesR (tl w)).bind (fun h => (lanesR h (r.map tl)).map fun L => (h, L)) = some (h, L) from e)
  obtain ⟨L', e3, e4⟩ := Option.map_eq_some_iff.mp e2
  cases e4
  have hf := houses_from_ok w (h2 w List.mem_cons_self).2
  rw [e1] at hf
  have hf : m_houses_from [.leaf (.str w)] = some (.leaf (natD h), [.leaf (.str w)]) := hf
  have c1 : Tl.cutD ((w :: r).map PyData.str) (some (1 : Int)) none = r.map PyData.str := cut_from ((w :: r).map PyData.str) 1
  have ixW : gIx [rd (.list ((w :: r).map PyData.str)), rd (.int 0)] = some (rd (.str w)) := by
    have : ixN ((w :: r).map PyData.str).length 0 = some 0 := by simp [ixN]
    show (L2.atI ((w :: r).map PyData.str) 0).map rd = _
    unfold L2.atI
    rw [this]
    rfl
  obtain ⟨y4, y5, y6, lp⟩ := nf_loop (t := .str text) (W := .list ((w :: r).map PyData.str)) (h := h) r 0 [] none none none L (fun u m => (h2 u (List.mem_cons_of_mem _ m)).2) e3 (by simp only [List.length_cons] at h1; simp; omega)
  have f1 : s_net_from_1 ⟨[some (.str text), none, none, none, none, none, none], []⟩ = some (.nx ⟨[some (.str text), some (.list ((w :: r).map PyData.str)), none, none, none, none, none], []⟩) := by
    simp [s_net_from_1, ek, hW]
  generalize (w :: r).map PyData.str = W at *
  have f2 : s_net_from_2 ⟨[some (.str text), some (.list W), none, none, none, none, none], []⟩ = some (.nx ⟨[some (.str text), some (.list W), some (natD h), none, none, none, none], []⟩) := by
    generalize natD h = HD at *
    simp [s_net_from_2, ixW, hf]
  have f3 : s_net_from_3 ⟨[some (.str text), some (.list W), some (natD h), none, none, none, none], []⟩ = some (.nx ⟨[some (.str text), some (.list W), some (natD h), none, none, none, none], []⟩) := by
    simp [s_net_from_3, natD]
  have f4 : s_net_from_4 ⟨[some (.str text), some (.list W), some (natD h), none, none, none, none], []⟩ = some (.nx (nfS (.str text) (.list W) (natD h) none none none [])) := by
    generalize natD h = HD at *
    simp [s_net_from_4]
  have f5 : s_net_from_5 (nfS (.str text) (.list W) (natD h) none none none []) = some (.nx (nfS (.str text) (.list W) (natD h) y4 y5 y6 (L.map laneD))) := by
    generalize natD h = HD at *
    rw [List.nil_append] at lp
    generalize L.map laneD = LD at *
    generalize r.map PyData.str = W2 at *
    simp [s_net_from_5, c1]
    exact lp
  have f6 : s_net_from_6 (nfS (.str text) (.list W) (natD h) y4 y5 y6 (L.map laneD)) = some (.rt (.tup [.leaf (natD h), .fl (L.map laneD)]) ⟨[some (.str text), some (.list W), some (natD h), none, y4, y5, y6], [(3, .hole)]⟩) := by
    generalize natD h = HD at *
    generalize L.map laneD = LD at *
    simp [s_net_from_6]
  simp [m_net_from, pieces_net_from, f1, f2, f3, f4, f5, f6]
end La

namespace La
open PySem PySem.Spec PyProof.Rows L2 Tl
def sx_net_from_1 : MSX := (oX (mSet 1 (mX (mOp gSplit (mTxt2 (mVar 0) (mC (.str "\n")))))))
def sx_net_from_2 : MSX := (oX (mSet 2 (mX (mCall m_houses_from (cCons (mBin gIx (mVar 1) (mC (.int 0))) cNil)))))
def sx_net_from_3 : MSX := (mIfX (mXB (mBinB (gp pIsN) (mVar 2) (mC .none))) (mSeqX (mRi "BadText" "row" (mX (mC (.int 0)))) mNxX) mNxX)
def sx_net_from_4 : MSX := (oX (mSetO 3 (mX (mOp gLstD mNil))))
def sx_net_from_5b_1 : MSX := (oX (mSet 6 (mX (mCall m_lane_from (cCons (mVar 5) (cCons (mVar 2) cNil))))))
def sx_net_from_5b_2 : MSX := (mIfX (mXB (mBinB (gp pIsN) (mVar 6) (mC .none))) (mSeqX (mRi "BadText" "row" (mX (mBin gAdd (mVar 4) (mC (.int 1))))) mNxX) mNxX)
def sx_net_from_5b_3 : MSX := (oX (mDo (mX (mMut 3 gAppend (mCons (mVar 6) mNil)))))
abbrev sx_net_from_5b : MSX := (mSeqX sx_net_from_5b_1 (mSeqX sx_net_from_5b_2 (mSeqX sx_net_from_5b_3 mNxX)))
def sx_net_from_5 : MSX := (mForX [4, 5] (mXI (iEnumM (mCut (mVar 1) (oSome (mC (.int 1))) oNone))) (gtT (gtCons (gtN 4) (gtCons (gtN 5) gtNil))) sx_net_from_5b)
def sx_net_from_6 : MSX := (oX (mRet (mX (mOp gTupT (mCons (mVar 2) (mCons (mTk 3) mNil))))))
theorem piecesX_net_from : bx_net_from = (mSeqX sx_net_from_1 (mSeqX sx_net_from_2 (mSeqX sx_net_from_3 (mSeqX sx_net_from_4 (mSeqX sx_net_from_5 (mSeqX sx_net_from_6 mNxX)))))) := rfl
end La

namespace La
open PySem PySem.Spec PyProof.Rows L2 Tl TL
def lanesBad (h : Nat) : List (List Nat) → Option Nat
  | [] => none
  | r :: rs => match laneR h r with
    | none => some 0
    | some _ => (lanesBad h rs).map (· + 1)
/-- the first row that can't stand there -/
def netBad (l : List Nat) : Option Nat :=
  match cutL 10 l with
  | r :: rs => match housesR r with
    | none => some 0
    | some h => (lanesBad h rs).map (· + 1)
  | [] => some 0
theorem lanesBad_none {h : Nat} : ∀ {rs : List (List Nat)}, lanesBad h rs = none → ∃ L, lanesR h rs = some L
  | [], _ => ⟨[], rfl⟩
  | r :: rs, e => by
    unfold lanesBad at e
    cases q : laneR h r with
    | none =>
      rw [q] at e
      cases e
    | some l =>
      rw [q] at e
      obtain ⟨L, eL⟩ := lanesBad_none (rs := rs) (Option.map_eq_none_iff.mp e)
      exact ⟨l :: L, by show (laneR h r).bind _ = _; rw [q]; show (lanesR h rs).map _ = _; rw [eL]; rfl⟩
theorem netBad_none {l : List Nat} (e : netBad l = none) : ∃ h L, netR l = some (h, L) := by
  unfold netBad at e
  unfold netR
  cases q : cutL 10 l with
  | nil =>
    rw [q] at e
    cases e
  | cons r rs =>
    rw [q] at e
    simp only at e ⊢
    cases q2 : housesR r with
    | none =>
      rw [q2] at e
      cases e
    | some h =>
      rw [q2] at e
      obtain ⟨L, eL⟩ := lanesBad_none (rs := rs) (Option.map_eq_none_iff.mp e)
      exact ⟨h, L, by show (lanesR h rs).map _ = _; rw [eL]; rfl⟩
theorem netx_lift : LiftX b_net_from bx_net_from := lift_seq lift_o (lift_seq lift_o (lift_seq (lift_if (lift_seq lift_never lift_nx) lift_nx) (lift_seq lift_o (lift_seq (lift_for (lift_seq lift_o (lift_seq (lift_if (lift_seq lift_never lift_nx) lift_nx) (lift_seq lift_o lift_nx)))) (lift_seq lift_o lift_nx)))))
theorem netx_ok (text : Str) (ok : OkT text) {h : Nat} {L : List Lane} (e : netR (tl text) = some (h, L)) : x_net_from [.leaf (.str text)] = some (.inl (.tup [.leaf (natD h), .fl (L.map laneD)], [.leaf (.str text)])) := lift_fn netx_lift (net_from_ok text ok e)
theorem nx_turn {t W : D} {h : Nat} {r : Str} {x6 : Option D} {acc : List D} {k : Nat} (ok : OkT r) (ha : acc.length < 16000000) : sx_net_from_5b (nfS t W (natD h) (some (.int (k : Nat))) (some (.str r)) x6 acc) = some (match laneR h (tl r) with
    | some l => .o (.nx (nfS t W (natD h) (some (.int (k : Nat))) (some (.str r)) (some (laneD l)) (acc ++ [laneD l])))
    | none => .xc "BadText" [("row", .int ((k : Nat) + 1))] (nfS t W (natD h) (some (.int (k : Nat))) (some (.str r)) (some .none) acc)) := by
  have lf := lane_from_ok r h ok
  cases q : laneR h (tl r) with
  | none =>
    rw [q] at lf
    have lf' : m_lane_from [.leaf (.str r), .leaf (natD h)] = some (.leaf .none, [.leaf (.str r), .leaf (natD h)]) := lf
    generalize natD h = HD at *
    simp [sx_net_from_5b_1, sx_net_from_5b_2, sx_net_from_5b_3, lf']
  | some l =>
    rw [q] at lf
    have lf' : m_lane_from [.leaf (.str r), .leaf (natD h)] = some (.leaf (laneD l), [.leaf (.str r), .leaf (natD h)]) := lf
    have nn : ∃ a b c, laneD l = .tuple [a, b, c] := ⟨_, _, _, rfl⟩
    obtain ⟨a, b, c, hl⟩ := nn
    simp only
    generalize laneD l = LD at *
    subst hl
    generalize natD h = HD at *
    simp [sx_net_from_5b_1, sx_net_from_5b_2, sx_net_from_5b_3, lf', ha]
theorem nx_loop {t W : D} {h : Nat} : ∀ (rs : List Str) (k : Nat) (acc : List D) (x4 x5 x6 : Option D) (i : Nat), (∀ r ∈ rs, OkT r) → lanesBad h (rs.map tl) = some i → acc.length + rs.length ≤ 10000000 →
    ∃ y4 y5 y6 acc', forLX [4, 5] (gtT (gtCons (gtN 4) (gtCons (gtN 5) gtNil))) sx_net_from_5b (enumFrom k (rs.map PyData.str)) (nfS t W (natD h) x4 x5 x6 acc) = some (.xc "BadText" [("row", .int ((k + i : Nat) + 1))] (nfS t W (natD h) y4 y5 y6 acc'))
  | [], k, acc, x4, x5, x6, i, _, e, _ => by cases e
  | r :: rs, k, acc, x4, x5, x6, i, ok, e, hz => by
    simp only [List.length_cons] at hz
    have tn := nx_turn (t := t) (W := W) (h := h) (r := r) (x6 := x6) (acc := acc) (k := k) (ok r List.mem_cons_self) (by omega)
    have eF : forLX [4, 5] (gtT (gtCons (gtN 4) (gtCons (gtN 5) gtNil))) sx_net_from_5b (enumFrom k ((r :: rs).map PyData.str)) (nfS t W (natD h) x4 x5 x6 acc) = (sx_net_from_5b (nfS t W (natD h) (some (.int k)) (some (.str r)) x6 acc)).bind fun o => match o with
        | .o (.nx s1) => forLX [4, 5] (gtT (gtCons (gtN 4) (gtCons (gtN 5) gtNil))) sx_net_from_5b (enumFrom (k + 1) (rs.map PyData.str)) s1
        | .o (.ct s1) => forLX [4, 5] (gtT (gtCons (gtN 4) (gtCons (gtN 5) gtNil))) sx_net_from_5b (enumFrom (k + 1) (rs.map PyData.str)) s1
        | .o (.bk s1) => some (.o (.nx s1))
        | .o (.rt t s1) => some (.o (.rt t s1))
        | .xc c fs s1 => some (.xc c fs s1) := rfl
    have e' : (match laneR h (tl r) with
      | none => some 0
      | some _ => (lanesBad h (rs.map tl)).map (· + 1)) = some i := e
    rw [eF, tn]
    cases q : laneR h (tl r) with
    | none =>
      rw [q] at e'
      cases e'
      exact ⟨_, _, _, _, rfl⟩
    | some l =>
      rw [q] at e'
      obtain ⟨i', e3, e4⟩ := Option.map_eq_some_iff.mp e'
      subst e4
      obtain ⟨y4, y5, y6, acc', ih⟩ := nx_loop (t := t) (W := W) (h := h) rs (k + 1) (acc ++ [laneD l]) (some (.int k)) (some (.str r)) (some (laneD l)) i' (fun r m => ok r (List.mem_cons_of_mem _ m)) e3 (by rw [List.length_append]; simp; omega)
      refine ⟨y4, y5, y6, acc', ?_⟩
      show forLX _ _ _ (enumFrom (k + 1) (rs.map PyData.str)) (nfS t W (natD h) (some (.int k)) (some (.str r)) (some (laneD l)) (acc ++ [laneD l])) = _
      rw [ih, show k + 1 + i' = k + (i' + 1) by omega]
theorem netx_no (text : Str) (ok : OkT text) {i : Nat} (e : netBad (tl text) = some i) : x_net_from [.leaf (.str text)] = some (.inr ("BadText", [("row", .int (i : Nat))], [.leaf (.str text)])) := by
  have es := split_tl (x := text) tl_nl (by decide)
  have ek := okSplit_ok tl_nl (by decide) ok
  obtain ⟨h1, h2, h3⟩ := split_part (x := text) tl_nl (by decide) ok
  have hl := ok.len
  generalize hW : Txt.split text ("\n" : Str) = ws at *
  obtain ⟨w, r, rfl⟩ : ∃ w r, ws = w :: r := by
    cases ws with
    | nil => exact absurd rfl h3
    | cons w r => exact ⟨w, r, rfl⟩
  unfold netBad at e
  rw [← es] at e
  have e : (match housesR (tl w) with
    | none => some 0
    | some h => (lanesBad h (r.map tl)).map (· + 1)) = some i := e
  have hf := houses_from_ok w (h2 w List.mem_cons_self).2
  have c1 : Tl.cutD ((w :: r).map PyData.str) (some (1 : Int)) none = r.map PyData.str := cut_from ((w :: r).map PyData.str) 1
  have ixW : gIx [rd (.list ((w :: r).map PyData.str)), rd (.int 0)] = some (rd (.str w)) := by
    have : ixN ((w :: r).map PyData.str).length 0 = some 0 := by simp [ixN]
    show (L2.atI ((w :: r).map PyData.str) 0).map rd = _
    unfold L2.atI
    rw [this]
    rfl
  have f1 : sx_net_from_1 ⟨[some (.str text), none, none, none, none, none, none], []⟩ = some (.o (.nx ⟨[some (.str text), some (.list ((w :: r).map PyData.str)), none, none, none, none, none], []⟩)) := by
    simp [sx_net_from_1, ek, hW]
  cases q : housesR (tl w) with
  | none =>
    rw [q] at e hf
    cases e
    have hf : m_houses_from [.leaf (.str w)] = some (.leaf .none, [.leaf (.str w)]) := hf
    generalize (w :: r).map PyData.str = W at *
    have f2 : sx_net_from_2 ⟨[some (.str text), some (.list W), none, none, none, none, none], []⟩ = some (.o (.nx ⟨[some (.str text), some (.list W), some .none, none, none, none, none], []⟩)) := by
      simp [sx_net_from_2, ixW, hf]
    have f3 : sx_net_from_3 ⟨[some (.str text), some (.list W), some .none, none, none, none, none], []⟩ = some (.xc "BadText" [("row", .int 0)] ⟨[some (.str text), some (.list W), some .none, none, none, none, none], []⟩) := by
      simp [sx_net_from_3]
    have eB : bx_net_from ⟨[some (.str text), none, none, none, none, none, none], []⟩ = some (.xc "BadText" [("row", .int 0)] ⟨[some (.str text), some (.list W), some .none, none, none, none, none], []⟩) := by
      rw [piecesX_net_from, seqX_nx f1, seqX_nx f2, seqX_xc f3]
    simp only [x_net_from]
    simp [eB]
  | some h =>
    rw [q] at e hf
    obtain ⟨i', e3, e4⟩ := Option.map_eq_some_iff.mp (show (lanesBad h (r.map tl)).map (· + 1) = some i from e)
    subst e4
    have hf : m_houses_from [.leaf (.str w)] = some (.leaf (natD h), [.leaf (.str w)]) := hf
    obtain ⟨y4, y5, y6, acc', lp⟩ := nx_loop (t := .str text) (W := .list ((w :: r).map PyData.str)) (h := h) r 0 [] none none none i' (fun u m => (h2 u (List.mem_cons_of_mem _ m)).2) e3 (by simp only [List.length_cons] at h1; simp; omega)
    generalize (w :: r).map PyData.str = W at *
    have f2 : sx_net_from_2 ⟨[some (.str text), some (.list W), none, none, none, none, none], []⟩ = some (.o (.nx ⟨[some (.str text), some (.list W), some (natD h), none, none, none, none], []⟩)) := by
      generalize natD h = HD at *
      simp [sx_net_from_2, ixW, hf]
    have f3 : sx_net_from_3 ⟨[some (.str text), some (.list W), some (natD h), none, none, none, none], []⟩ = some (.o (.nx ⟨[some (.str text), some (.list W), some (natD h), none, none, none, none], []⟩)) := by
      simp [sx_net_from_3, natD]
    have f4 : sx_net_from_4 ⟨[some (.str text), some (.list W), some (natD h), none, none, none, none], []⟩ = some (.o (.nx (nfS (.str text) (.list W) (natD h) none none none []))) := by
      generalize natD h = HD at *
      simp [sx_net_from_4]
    have f5 : sx_net_from_5 (nfS (.str text) (.list W) (natD h) none none none []) = some (.xc "BadText" [("row", .int ((i' + 1 : Nat)))] (nfS (.str text) (.list W) (natD h) y4 y5 y6 acc')) := by
      rw [Nat.zero_add] at lp
      rw [show (((i' + 1 : Nat)) : Int) = ((i' : Nat) : Int) + 1 by omega]
      generalize natD h = HD at *
      generalize r.map PyData.str = W2 at *
      simp [sx_net_from_5, c1]
      exact lp
    have eB : bx_net_from ⟨[some (.str text), none, none, none, none, none, none], []⟩ = some (.xc "BadText" [("row", .int ((i' + 1 : Nat)))] (nfS (.str text) (.list W) (natD h) y4 y5 y6 acc')) := by
      rw [piecesX_net_from, seqX_nx f1, seqX_nx f2, seqX_nx f3, seqX_nx f4, seqX_xc f5]
    simp only [x_net_from]
    simp [eB]
end La

namespace La
open PySem PySem.Spec PyProof.Rows L2 Tl
def s_law_word_k62_1 : MS := (mSet 1 (mX (mOp gLstD (mCons (mIsx krAll "BadText" (mVar 0)) (mCons (mIsx krAll "BadTrain" (mVar 0)) (mCons (mIsx krAll "BadStep" (mVar 0)) mNil))))))
def s_law_word_k62_2 : MS := (mSet 1 (mX (mBin gAdd (mVar 1) (mOp gLstD (mCons (mIsx krAll "NoWay" (mVar 0)) (mCons (mIsxT krAll ["NoStep" , "NoTrain"] (mVar 0)) mNil))))))
def s_law_word_k62_3 : MS := (mIfS (mXB (mOrB (mBinB (gp pNe) (mLM (gp pCount) (mVar 1) (mCons (mC (.bool true)) mNil)) (mC (.int 1))) (mOrB (mTru (mBin gIx (mVar 1) (mC (.int 4)))) (mNotB (mTru (mIsxV (mVar 0))))))) (mSeq (mRet (mX (mOp gTupD (mCons (mC (.str "other")) (mCons (mC (.int 0)) mNil))))) mNx) mNx)
def s_law_word_k62_4 : MS := (mSet 2 (mX (mBin gIx (mOp gLstD (mCons (mC (.str "text")) (mCons (mC (.str "train")) (mCons (mC (.str "step")) (mCons (mC (.str "way")) mNil))))) (mLM (gp pIndex) (mVar 1) (mCons (mC (.bool true)) mNil)))))
def s_law_word_k62_5 : MS := (mRet (mX (mIf (mBinB (gp pEq) (mVar 2) (mC (.str "way"))) (mOp gTupD (mCons (mVar 2) (mCons (mC (.int 0)) mNil))) (mOp gTupD (mCons (mVar 2) (mCons (mXf "row" ["BadText" , "BadTrain" , "BadStep"] (mVar 0)) mNil))))))
theorem pieces_law_word_k62 : b_law_word_k62 = (mSeq s_law_word_k62_1 (mSeq s_law_word_k62_2 (mSeq s_law_word_k62_3 (mSeq s_law_word_k62_4 (mSeq s_law_word_k62_5 mNx))))) := rfl
end La

namespace La
open PySem PySem.Spec PyProof.Rows L2 Tl TL
theorem seqN62 {a b : MS} {s s' : SS} (e : a s = some (.nx s')) : mSeq a b s = b s' := by simp [e]
theorem seqR62 {a b : MS} {s s' : SS} {t : T} (e : a s = some (.rt t s')) : mSeq a b s = some (.rt t s') := by simp [e]
theorem kt1 : kinB krAll "BadText" "BadText" = some true := by decide +kernel
theorem kt2 : kinB krAll "BadText" "BadTrain" = some false := by decide +kernel
theorem kt3 : kinB krAll "BadText" "BadStep" = some false := by decide +kernel
theorem kt4 : kinB krAll "BadText" "NoWay" = some false := by decide +kernel
theorem kt5 : anyIn krAll "BadText" ["NoStep", "NoTrain"] = some false := by decide +kernel
theorem kt6 : ("BadText" : Str) ∈ xcNames := by decide +kernel
theorem kt7 (d : D) : xfld "row" ["BadText", "BadTrain", "BadStep"] (xcD "BadText" [("row", d)]) = some d := by
  show (if ("row" : Str) = "row" ∧ ("BadText" : Str) ∈ (["BadText", "BadTrain", "BadStep"] : List Str) then some d else none) = some d
  exact if_pos ⟨rfl, List.mem_cons_self⟩
theorem shText : SeqAt.shaped (.str "text") = true := by decide +kernel
theorem shWay : SeqAt.shaped (.str "way") = true := by decide +kernel
abbrev sorts62 : D := .list [.bool true, .bool false, .bool false, .bool false, .bool false]
theorem word62_ok (i : Nat) : m_law_word_k62 [.leaf (xcD "BadText" [("row", .int (i : Nat))])] = some (.leaf (.tuple [.str "text", .int (i : Nat)]), [.leaf (xcD "BadText" [("row", .int (i : Nat))])]) := by
  have k7 := kt7 (.int (i : Nat))
  generalize hz : xcD "BadText" [("row", .int (i : Nat))] = z at k7
  have hx : xcls z = some "BadText" := by rw [← hz]; rfl
  have k1 := kt1
  have k2 := kt2
  have k3 := kt3
  have k4 := kt4
  have k5 := kt5
  have f1 : s_law_word_k62_1 ⟨[some z, none, none], []⟩ = some (.nx ⟨[some z, some (.list [.bool true, .bool false, .bool false]), none], []⟩) := by
    simp [s_law_word_k62_1, hx, k1, k2, k3]
  have f2 : s_law_word_k62_2 ⟨[some z, some (.list [.bool true, .bool false, .bool false]), none], []⟩ = some (.nx ⟨[some z, some sorts62, none], []⟩) := by
    simp [s_law_word_k62_2, hx, k4, k5]
  have ec : pCount [sorts62, .bool true] = some (.int 1) := rfl
  have e4 : gIx [rd sorts62, rd (.int 4)] = some (rd (.bool false)) := rfl
  have hl : isLstR (rd sorts62) = true := rfl
  have f3 : s_law_word_k62_3 ⟨[some z, some sorts62, none], []⟩ = some (.nx ⟨[some z, some sorts62, none], []⟩) := by
    generalize sorts62 = so at *
    simp [s_law_word_k62_3, hx, ec, e4, hl]
  have ei : pIndex [sorts62, .bool true] = some (.int 0) := rfl
  have e0 : L2.atI ([.str "text", .str "train", .str "step", .str "way"] : List D) 0 = some (.str "text") := rfl
  have f4 : s_law_word_k62_4 ⟨[some z, some sorts62, none], []⟩ = some (.nx ⟨[some z, some sorts62, some (.str "text")], []⟩) := by
    generalize sorts62 = so at *
    simp [s_law_word_k62_4, ei, e0, hl]
  have nw : PyData.eqv (.str "text") (.str "way") = false := by decide +kernel
  have s1 := shText
  have s2 := shWay
  have f5 : s_law_word_k62_5 ⟨[some z, some sorts62, some (.str "text")], []⟩ = some (.rt (.leaf (.tuple [.str "text", .int (i : Nat)])) ⟨[some z, some sorts62, some (.str "text")], []⟩) := by
    generalize sorts62 = so at *
    simp [s_law_word_k62_5, s1, s2, nw, k7]
  have eB : b_law_word_k62 ⟨[some z, none, none], []⟩ = some (.rt (.leaf (.tuple [.str "text", .int (i : Nat)])) ⟨[some z, some sorts62, some (.str "text")], []⟩) := by
    rw [pieces_law_word_k62, seqN62 f1, seqN62 f2, seqN62 f3, seqN62 f4, seqR62 f5]
  simp only [m_law_word_k62]
  simp [eB]
end La

namespace La
open PySem PySem.Spec PyProof.Rows L2 Tl TL
/-- the text of a number -/
def numS (n : Nat) : Str := Str.ofString (toString ((n : Nat) : Int))
theorem tl_numS (n : Nat) : tl (numS n) = numL n := tl_num n
theorem okShow_nat {n : Nat} (h : n < 1000000) : okShow (.int (n : Nat)) = true := by
  have l := numL_len (n := n) (k := 6) (by decide) (by simpa using h)
  have e : (PyData.int (n : Nat)).shown = numS n := rfl
  have l2 : (numS n).length ≤ 6 := by rw [len_tl, tl_numS]; exact l
  unfold okShow
  rw [e]
  have sh : (PyData.int (n : Nat)).showable = true := by
    show decide ((((n : Nat) : Int).natAbs).log2 < 1920) = true
    rw [Int.natAbs_natCast]
    refine decide_eq_true ?_
    by_cases z : n = 0
    · subst z
      decide
    · have : n.log2 < 20 := (Nat.log2_lt z).mpr (by omega)
      omega
  rw [sh]
  have d0 : (PyData.int (n : Nat)).depth = 0 := rfl
  have c0 : (PyData.int (n : Nat)).canLay0 = true := rfl
  rw [d0, c0]
  simp only [Bool.true_and, Bool.and_eq_true, decide_eq_true_eq]
  omega
/-- a row of a lane -/
def laneS (l : Lane) : Str := ("lane " : Str) ++ numS l.b ++ (" " : Str) ++ numS l.e ++ (" " : Str) ++ numS l.r
def houseS (h : Nat) : Str := ("houses " : Str) ++ numS h
def netS (h : Nat) (L : List Lane) : Str := Txt.join ("\n" : Str) (houseS h :: L.map laneS)
theorem len_numS {n : Nat} (h : n < 1000000) : (numS n).length ≤ 6 := by
  rw [len_tl, tl_numS]
  exact numL_len (by decide) (by simpa using h)
theorem tl_lane_ : tl ("lane " : Str) = tl ("lane" : Str) ++ [32] := by decide +kernel
theorem tl_houses_ : tl ("houses " : Str) = tl ("houses" : Str) ++ [32] := by decide +kernel
theorem laneS_join (l : Lane) : Txt.join (" " : Str) [("lane" : Str), numS l.b, numS l.e, numS l.r] = laneS l := by
  refine ext_tl ?_
  rw [join_eq, tl_join]
  unfold laneS
  simp only [tl_append, tl_lane_, tl_sp]
  simp [joinL]
theorem len_append (a b : Str) : (a ++ b).length = a.length + b.length := by
  rw [len_tl, tl_append, List.length_append, ← len_tl, ← len_tl]
structure Sm (h : Nat) (L : List Lane) : Prop where
  hh : h < 1000000
  ll : L.length ≤ 100000
  one : ∀ l ∈ L, l.b < 1000000 ∧ l.e < 1000000 ∧ l.r < 1000000
theorem len_houseS {h : Nat} (hh : h < 1000000) : (houseS h).length ≤ 13 := by
  have := len_numS hh
  have e : ("houses " : Str).length = 7 := by decide +kernel
  unfold houseS
  rw [len_append, e]
  omega
theorem len_laneS {l : Lane} (h : l.b < 1000000 ∧ l.e < 1000000 ∧ l.r < 1000000) : (laneS l).length ≤ 25 := by
  have h1 := len_numS h.1
  have h2 := len_numS h.2.1
  have h3 := len_numS h.2.2
  have e : ("lane " : Str).length = 5 := by decide +kernel
  have e1 : (" " : Str).length = 1 := by decide +kernel
  unfold laneS
  simp only [len_append, e, e1]
  omega
theorem sum_le (k : Nat) : ∀ (W : List Str), (∀ w ∈ W, w.length ≤ k) → (W.map (·.length)).sum ≤ k * W.length
  | [], _ => by simp
  | w :: W, h => by
    have h1 := h w List.mem_cons_self
    have h2 := sum_le k W fun u m => h u (List.mem_cons_of_mem _ m)
    rw [List.map_cons, List.sum_cons, List.length_cons, Nat.mul_add]
    omega
theorem okJoin_rows {h : Nat} {L : List Lane} (s : Sm h L) : okJoin ("\n" : Str) (houseS h :: L.map laneS) = true := by
  have h1 := sum_le 25 (houseS h :: L.map laneS) fun w m => by
    rcases List.mem_cons.mp m with rfl | m
    · have := len_houseS s.hh
      omega
    · obtain ⟨l, ml, rfl⟩ := List.mem_map.mp m
      exact len_laneS (s.one l ml)
  have e1 : ("\n" : Str).length = 1 := by decide +kernel
  have hl := s.ll
  unfold okJoin
  rw [e1]
  refine decide_eq_true ?_
  simp only [List.length_cons, List.length_map] at h1 ⊢
  omega
abbrev ntS (h : Nat) (LD : List D) (x4 x5 x6 : Option D) (acc : List D) : SS := ⟨[some (.tuple [.int (h : Nat), .list LD]), some (.int (h : Nat)), some (.list LD), none, x4, x5, x6], [(3, .fl acc)]⟩
theorem nt_turn {h : Nat} {LD : List D} {acc : List D} {l : Lane} (hl : l.b < 1000000 ∧ l.e < 1000000 ∧ l.r < 1000000) (ha : acc.length < 10000000) :
    s_net_text_3b (ntS h LD (some (.int (l.b : Nat))) (some (.int (l.e : Nat))) (some (.int (l.r : Nat))) acc) = some (.nx (ntS h LD (some (.int (l.b : Nat))) (some (.int (l.e : Nat))) (some (.int (l.r : Nat))) (acc ++ [.str (laneS l)]))) := by
  have o1 := okShow_nat hl.1
  have o2 := okShow_nat hl.2.1
  have o3 := okShow_nat hl.2.2
  have n1 := len_numS hl.1
  have n2 := len_numS hl.2.1
  have n3 := len_numS hl.2.2
  have ha' : acc.length < 16000000 := by omega
  have j := laneS_join l
  have oj : okJoin (Str.ofString " ") [Str.ofString "lane", numS l.b, numS l.e, numS l.r] = true := by
    have e : (Str.ofString "lane").length = 4 := by decide +kernel
    have e1 : (Str.ofString " ").length = 1 := by decide +kernel
    unfold okJoin
    refine decide_eq_true ?_
    simp [e, e1]
    omega
  have g1 : gJoin [rd (.str (Str.ofString " ")), .val (.fl [.str (Str.ofString "lane"), .str (numS l.b), .str (numS l.e), .str (numS l.r)])] = some (rd (.str (laneS l))) := by
    show (if okJoin (Str.ofString " ") [Str.ofString "lane", numS l.b, numS l.e, numS l.r] = true then some (rd (.str (Txt.join (Str.ofString " ") [Str.ofString "lane", numS l.b, numS l.e, numS l.r]))) else none) = _
    rw [if_pos oj]
    show some (rd (.str (Txt.join (" " : Str) [("lane" : Str), numS l.b, numS l.e, numS l.r]))) = _
    rw [j]
  have s1 : strOf (.int (l.b : Nat)) = numS l.b := rfl
  have s2 : strOf (.int (l.e : Nat)) = numS l.e := rfl
  have s3 : strOf (.int (l.r : Nat)) = numS l.r := rfl
  simp [-r_gJoin, s_net_text_3b_1, o1, o2, o3, s1, s2, s3, g1, ha']
theorem add_s {a b : Str} (h : a.length + b.length ≤ 16000000) : gAdd [rd (.str a), rd (.str b)] = some (rd (.str (a ++ b))) := by
  rw [g_adds, if_pos h]
abbrev ltS (NT : D) (x2 x3 x4 : Option D) (acc : List D) : SS := ⟨[some NT, none, x2, x3, x4], [(1, .fl acc)]⟩
theorem lt_turn {NT : D} {acc : List D} {l : Lane} (hl : l.b < 1000000 ∧ l.e < 1000000 ∧ l.r < 1000000) (ha : acc.length < 10000000) :
    s_law_net_text_2b (ltS NT (some (.int (l.b : Nat))) (some (.int (l.e : Nat))) (some (.int (l.r : Nat))) acc) = some (.nx (ltS NT (some (.int (l.b : Nat))) (some (.int (l.e : Nat))) (some (.int (l.r : Nat))) (acc ++ [.str (laneS l)]))) := by
  have o1 := okShow_nat hl.1
  have o2 := okShow_nat hl.2.1
  have o3 := okShow_nat hl.2.2
  have n1 := len_numS hl.1
  have n2 := len_numS hl.2.1
  have n3 := len_numS hl.2.2
  have ha' : acc.length < 16000000 := by omega
  have e : (Str.ofString "lane ").length = 5 := by decide +kernel
  have e1 : (Str.ofString " ").length = 1 := by decide +kernel
  have s1 : strOf (.int (l.b : Nat)) = numS l.b := rfl
  have s2 : strOf (.int (l.e : Nat)) = numS l.e := rfl
  have s3 : strOf (.int (l.r : Nat)) = numS l.r := rfl
  have a1 := add_s (a := Str.ofString "lane ") (b := numS l.b) (by omega)
  have a2 := add_s (a := Str.ofString "lane " ++ numS l.b) (b := Str.ofString " ") (by rw [len_append]; omega)
  have a3 := add_s (a := Str.ofString "lane " ++ numS l.b ++ Str.ofString " ") (b := numS l.e) (by simp only [len_append]; omega)
  have a4 := add_s (a := Str.ofString "lane " ++ numS l.b ++ Str.ofString " " ++ numS l.e) (b := Str.ofString " ") (by simp only [len_append]; omega)
  have a5 := add_s (a := Str.ofString "lane " ++ numS l.b ++ Str.ofString " " ++ numS l.e ++ Str.ofString " ") (b := numS l.r) (by simp only [len_append]; omega)
  simp [-g_adds, s_law_net_text_2b_1, o1, o2, o3, s1, s2, s3, a1, a2, a3, a4, a5, ha']
  rfl
theorem nt_loop {h : Nat} {LD : List D} : ∀ (L : List Lane) (x4 x5 x6 : Option D) (acc : List D), (∀ l ∈ L, l.b < 1000000 ∧ l.e < 1000000 ∧ l.r < 1000000) → acc.length + L.length ≤ 1000000 →
    ∃ y4 y5 y6, forL [4, 5, 6] (gtT (gtCons (gtN 4) (gtCons (gtN 5) (gtCons (gtN 6) gtNil)))) s_net_text_3b (L.map laneD) (ntS h LD x4 x5 x6 acc) = some (.nx (ntS h LD y4 y5 y6 (acc ++ (L.map laneS).map PyData.str)))
  | [], x4, x5, x6, acc, _, _ => ⟨x4, x5, x6, by show some (Out.nx _) = _; rw [List.map_nil, List.map_nil, List.append_nil]⟩
  | l :: L, x4, x5, x6, acc, h1, hz => by
    simp only [List.length_cons] at hz
    have t := nt_turn (h := h) (LD := LD) (acc := acc) (h1 l List.mem_cons_self) (by omega)
    obtain ⟨y4, y5, y6, ih⟩ := nt_loop (h := h) (LD := LD) L (some (.int (l.b : Nat))) (some (.int (l.e : Nat))) (some (.int (l.r : Nat))) (acc ++ [.str (laneS l)]) (fun l m => h1 l (List.mem_cons_of_mem _ m)) (by rw [List.length_append]; simp; omega)
    refine ⟨y4, y5, y6, ?_⟩
    have eF : forL [4, 5, 6] (gtT (gtCons (gtN 4) (gtCons (gtN 5) (gtCons (gtN 6) gtNil)))) s_net_text_3b ((l :: L).map laneD) (ntS h LD x4 x5 x6 acc) = (s_net_text_3b (ntS h LD (some (.int (l.b : Nat))) (some (.int (l.e : Nat))) (some (.int (l.r : Nat))) acc)).bind fun o => match o with
        | .nx s1 => forL [4, 5, 6] (gtT (gtCons (gtN 4) (gtCons (gtN 5) (gtCons (gtN 6) gtNil)))) s_net_text_3b (L.map laneD) s1
        | .ct s1 => forL [4, 5, 6] (gtT (gtCons (gtN 4) (gtCons (gtN 5) (gtCons (gtN 6) gtNil)))) s_net_text_3b (L.map laneD) s1
        | .bk s1 => some (.nx s1)
        | .rt t s1 => some (.rt t s1) := rfl
    rw [eF, t]
    show forL _ _ _ (L.map laneD) (ntS h LD (some (.int (l.b : Nat))) (some (.int (l.e : Nat))) (some (.int (l.r : Nat))) (acc ++ [.str (laneS l)])) = _
    rw [ih, List.map_cons, List.map_cons, List.append_assoc]
    rfl
theorem lt_loop {NT : D} : ∀ (L : List Lane) (x4 x5 x6 : Option D) (acc : List D), (∀ l ∈ L, l.b < 1000000 ∧ l.e < 1000000 ∧ l.r < 1000000) → acc.length + L.length ≤ 1000000 →
    ∃ y4 y5 y6, forL [2, 3, 4] (gtT (gtCons (gtN 2) (gtCons (gtN 3) (gtCons (gtN 4) gtNil)))) s_law_net_text_2b (L.map laneD) (ltS NT x4 x5 x6 acc) = some (.nx (ltS NT y4 y5 y6 (acc ++ (L.map laneS).map PyData.str)))
  | [], x4, x5, x6, acc, _, _ => ⟨x4, x5, x6, by show some (Out.nx _) = _; rw [List.map_nil, List.map_nil, List.append_nil]⟩
  | l :: L, x4, x5, x6, acc, h1, hz => by
    simp only [List.length_cons] at hz
    have t := lt_turn (NT := NT) (acc := acc) (h1 l List.mem_cons_self) (by omega)
    obtain ⟨y4, y5, y6, ih⟩ := lt_loop (NT := NT) L (some (.int (l.b : Nat))) (some (.int (l.e : Nat))) (some (.int (l.r : Nat))) (acc ++ [.str (laneS l)]) (fun l m => h1 l (List.mem_cons_of_mem _ m)) (by rw [List.length_append]; simp; omega)
    refine ⟨y4, y5, y6, ?_⟩
    have eF : forL [2, 3, 4] (gtT (gtCons (gtN 2) (gtCons (gtN 3) (gtCons (gtN 4) gtNil)))) s_law_net_text_2b ((l :: L).map laneD) (ltS NT x4 x5 x6 acc) = (s_law_net_text_2b (ltS NT (some (.int (l.b : Nat))) (some (.int (l.e : Nat))) (some (.int (l.r : Nat))) acc)).bind fun o => match o with
        | .nx s1 => forL [2, 3, 4] (gtT (gtCons (gtN 2) (gtCons (gtN 3) (gtCons (gtN 4) gtNil)))) s_law_net_text_2b (L.map laneD) s1
        | .ct s1 => forL [2, 3, 4] (gtT (gtCons (gtN 2) (gtCons (gtN 3) (gtCons (gtN 4) gtNil)))) s_law_net_text_2b (L.map laneD) s1
        | .bk s1 => some (.nx s1)
        | .rt t s1 => some (.rt t s1) := rfl
    rw [eF, t]
    show forL _ _ _ (L.map laneD) (ltS NT (some (.int (l.b : Nat))) (some (.int (l.e : Nat))) (some (.int (l.r : Nat))) (acc ++ [.str (laneS l)])) = _
    rw [ih, List.map_cons, List.map_cons, List.append_assoc]
    rfl
theorem joinRows {h : Nat} {L : List Lane} (s : Sm h L) (y : R) (hy : y.its = some (true, (houseS h :: L.map laneS).map PyData.str)) : gJoin [rd (.str (Str.ofString "\n")), y] = some (rd (.str (netS h L))) := by
  show (y.its.bind fun p => (strsD p.2).bind fun ys => if okJoin (Str.ofString "\n") ys = true then some (rd (.str (Txt.join (Str.ofString "\n") ys))) else none) = _
  rw [hy]
  show ((strsD ((houseS h :: L.map laneS).map PyData.str)).bind fun ys => if okJoin (Str.ofString "\n") ys = true then some (rd (.str (Txt.join (Str.ofString "\n") ys))) else none) = _
  rw [strsD_strs]
  show (if okJoin (Str.ofString "\n") (houseS h :: L.map laneS) = true then some (rd (.str (Txt.join (Str.ofString "\n") (houseS h :: L.map laneS)))) else none) = _
  rw [if_pos (okJoin_rows s)]
  rfl
theorem net_text_ok {h : Nat} {L : List Lane} (s : Sm h L) : m_net_text [.leaf (netT h L)] = some (.leaf (.str (netS h L)), [.leaf (netT h L)]) := by
  have o1 := okShow_nat s.hh
  have s1 : strOf (.int (h : Nat)) = numS h := rfl
  have e : (Str.ofString "houses ").length = 7 := by decide +kernel
  have n1 := len_numS s.hh
  have a1 := add_s (a := Str.ofString "houses ") (b := numS h) (by omega)
  have hl := s.ll
  obtain ⟨y4, y5, y6, lp⟩ := nt_loop (h := h) (LD := L.map laneD) L none none none [.str (houseS h)] s.one (by simp; omega)
  have jr := joinRows s (.vw (.fl ((houseS h :: L.map laneS).map PyData.str))) rfl
  have eR : [PyData.str (houseS h)] ++ (L.map laneS).map PyData.str = (houseS h :: L.map laneS).map PyData.str := rfl
  rw [eR] at lp
  generalize (houseS h :: L.map laneS).map PyData.str = RR at *
  have f1 : s_net_text_1 ⟨[some (netT h L), none, none, none, none, none, none], []⟩ = some (.nx ⟨[some (netT h L), some (.int (h : Nat)), some (.list (L.map laneD)), none, none, none, none], []⟩) := by
    unfold netT
    generalize L.map laneD = LD at *
    simp [s_net_text_1]
  unfold netT at f1 ⊢
  generalize L.map laneD = LD at *
  have f2 : s_net_text_2 ⟨[some (.tuple [.int (h : Nat), .list LD]), some (.int (h : Nat)), some (.list LD), none, none, none, none], []⟩ = some (.nx (ntS h LD none none none [.str (houseS h)])) := by
    simp [-g_adds, s_net_text_2, o1, s1, a1]
    rfl
  have f3 : s_net_text_3 (ntS h LD none none none [.str (houseS h)]) = some (.nx (ntS h LD y4 y5 y6 RR)) := by
    simp [s_net_text_3]
    exact lp
  have f4 : s_net_text_4 (ntS h LD y4 y5 y6 RR) = some (.rt (.leaf (.str (netS h L))) (ntS h LD y4 y5 y6 RR)) := by
    simp [-r_gJoin, s_net_text_4, jr]
  simp [m_net_text, pieces_net_text, f1, f2, f3, f4]
theorem law_net_text_ok {h : Nat} {L : List Lane} (s : Sm h L) : m_law_net_text [.leaf (netT h L)] = some (.leaf (.str (netS h L)), [.leaf (netT h L)]) := by
  have o1 := okShow_nat s.hh
  have s1 : strOf (.int (h : Nat)) = numS h := rfl
  have e : (Str.ofString "houses ").length = 7 := by decide +kernel
  have n1 := len_numS s.hh
  have a1 := add_s (a := Str.ofString "houses ") (b := numS h) (by omega)
  have hl := s.ll
  obtain ⟨y4, y5, y6, lp⟩ := lt_loop (NT := netT h L) L none none none [.str (houseS h)] s.one (by simp; omega)
  have jr := joinRows s (.vw (.fl ((houseS h :: L.map laneS).map PyData.str))) rfl
  have eR : [PyData.str (houseS h)] ++ (L.map laneS).map PyData.str = (houseS h :: L.map laneS).map PyData.str := rfl
  rw [eR] at lp
  generalize (houseS h :: L.map laneS).map PyData.str = RR at *
  have f1 : s_law_net_text_1 ⟨[some (netT h L), none, none, none, none], []⟩ = some (.nx (ltS (netT h L) none none none [.str (houseS h)])) := by
    simp [-g_adds, s_law_net_text_1, o1, s1, a1]
    rfl
  have f2 : s_law_net_text_2 (ltS (netT h L) none none none [.str (houseS h)]) = some (.nx (ltS (netT h L) y4 y5 y6 RR)) := by
    have i1 := ix_netT1 h L
    generalize netT h L = NT at *
    generalize L.map laneD = LD at *
    simp [s_law_net_text_2, i1]
    exact lp
  have f3 : s_law_net_text_3 (ltS (netT h L) y4 y5 y6 RR) = some (.rt (.leaf (.str (netS h L))) (ltS (netT h L) y4 y5 y6 RR)) := by
    generalize netT h L = NT at *
    simp [-r_gJoin, s_law_net_text_3, jr]
  simp [m_law_net_text, pieces_law_net_text, f1, f2, f3]
end La

namespace La
open PySem PySem.Spec PyProof.Rows L2 Tl TL
theorem numL_head : ∀ n : Nat, (numL n).head? = some 48 → numL n = [48] := fun n => by
  induction n using Nat.strongRecOn with
  | _ n ih =>
    intro h
    by_cases q : n < 10
    · rw [numL_lt q] at h ⊢
      simp at h
      rw [h]
    · rw [numL_step (by omega)] at h
      have ne := numL_ne (n / 10)
      have hh : (numL (n / 10)).head? = some 48 := by
        cases e : numL (n / 10) with
        | nil => exact absurd e ne
        | cons c r =>
          rw [e] at h
          simpa using h
      have e := ih (n / 10) (by omega) hh
      have e0 : numL 0 = [48] := numL_lt (by decide)
      rw [← e0] at e
      have := numL_inj e
      omega
theorem numV_num {n : Nat} (h : n < 1000000) : numV (numL n) = some n := by
  unfold numV
  have l := numL_len (n := n) (k := 6) (by decide) (by simpa using h)
  have ne := numL_ne n
  rw [if_pos ⟨⟨by cases e : numL n with
    | nil => exact absurd e ne
    | cons c r => simp, l⟩, List.all_eq_true.mpr fun c m => decide_eq_true (numL_digits n c m), numL_head n⟩, numL_val]
theorem cut_join {s : Nat} {parts : List (List Nat)} (h : parts ≠ []) (hp : ∀ p ∈ parts, s ∉ p) : cutL s (joinL [s] parts) = parts := spl_join h hp
theorem no32 (n : Nat) : 32 ∉ numL n := numL_free (.inl (by decide))
theorem no10 (n : Nat) : 10 ∉ numL n := numL_free (.inl (by decide))
theorem tl_houseS (h : Nat) : tl (houseS h) = joinL [32] [tl ("houses" : Str), numL h] := by
  unfold houseS
  rw [tl_append, tl_houses_, tl_numS]
  simp [joinL]
theorem tl_laneS (l : Lane) : tl (laneS l) = joinL [32] [tl ("lane" : Str), numL l.b, numL l.e, numL l.r] := by
  unfold laneS
  simp only [tl_append, tl_lane_, tl_numS, tl_sp]
  simp [joinL]
theorem houses_w : (32 ∉ tl ("houses" : Str)) ∧ 10 ∉ tl ("houses" : Str) := by decide +kernel
theorem lane_w : (32 ∉ tl ("lane" : Str)) ∧ 10 ∉ tl ("lane" : Str) := by decide +kernel
theorem houses_back {h : Nat} (h1 : 1 ≤ h) (hh : h < 1000000) : housesR (tl (houseS h)) = some h := by
  have e : cutL 32 (tl (houseS h)) = [tl ("houses" : Str), numL h] := by
    rw [tl_houseS]
    refine cut_join (by simp) fun p m => ?_
    simp only [List.mem_cons, List.not_mem_nil, or_false] at m
    rcases m with rfl | rfl
    · exact houses_w.1
    · exact no32 h
  have n : numsV [numL h] = some [h] := by
    show (numV (numL h)).bind _ = _
    rw [numV_num hh]
    rfl
  unfold housesR
  rw [e]
  show (if tl ("houses" : Str) = tl ("houses" : Str) then (match numsV [numL h] with
    | some [n] => if 1 ≤ n then some n else none
    | _ => none) else none) = _
  rw [if_pos rfl, n]
  show (if 1 ≤ h then some h else none) = _
  rw [if_pos h1]
theorem lane_back {h : Nat} {l : Lane} (hl : l.b < 1000000 ∧ l.e < 1000000 ∧ l.r < 1000000) (g : l.b < h ∧ l.e < h ∧ l.b ≠ l.e ∧ 1 ≤ l.r) : laneR h (tl (laneS l)) = some l := by
  have e : cutL 32 (tl (laneS l)) = [tl ("lane" : Str), numL l.b, numL l.e, numL l.r] := by
    rw [tl_laneS]
    refine cut_join (by simp) fun p m => ?_
    simp only [List.mem_cons, List.not_mem_nil, or_false] at m
    rcases m with rfl | rfl | rfl | rfl
    · exact lane_w.1
    · exact no32 _
    · exact no32 _
    · exact no32 _
  have n : numsV [numL l.b, numL l.e, numL l.r] = some [l.b, l.e, l.r] := by
    show (numV (numL l.b)).bind (fun n => ((numV (numL l.e)).bind fun m => ((numV (numL l.r)).bind fun k => (some []).map (k :: ·)).map (m :: ·)).map (n :: ·)) = _
    rw [numV_num hl.1, numV_num hl.2.1, numV_num hl.2.2]
    rfl
  unfold laneR
  rw [e]
  show (if tl ("lane" : Str) = tl ("lane" : Str) then (match numsV [numL l.b, numL l.e, numL l.r] with
    | some [b, e, r] => if b < h ∧ e < h ∧ b ≠ e ∧ 1 ≤ r then some (⟨b, e, r⟩ : Lane) else none
    | _ => none) else none) = _
  rw [if_pos rfl, n]
  show (if l.b < h ∧ l.e < h ∧ l.b ≠ l.e ∧ 1 ≤ l.r then some (⟨l.b, l.e, l.r⟩ : Lane) else none) = _
  rw [if_pos g]
theorem lanes_back {h : Nat} : ∀ {L : List Lane}, (∀ l ∈ L, l.b < 1000000 ∧ l.e < 1000000 ∧ l.r < 1000000) → (∀ l ∈ L, l.b < h ∧ l.e < h ∧ l.b ≠ l.e ∧ 1 ≤ l.r) → lanesR h ((L.map laneS).map tl) = some L
  | [], _, _ => rfl
  | l :: L, h1, h2 => by
    show (laneR h (tl (laneS l))).bind _ = _
    rw [lane_back (h1 l List.mem_cons_self) (h2 l List.mem_cons_self)]
    show (lanesR h ((L.map laneS).map tl)).map _ = _
    rw [lanes_back (fun l m => h1 l (List.mem_cons_of_mem _ m)) fun l m => h2 l (List.mem_cons_of_mem _ m)]
    rfl
theorem mem_joinL {S : List Nat} {c : Nat} : ∀ {P : List (List Nat)}, c ∈ joinL S P → c ∈ S ∨ ∃ p ∈ P, c ∈ p
  | [], m => nomatch m
  | [p], m => .inr ⟨p, List.mem_cons_self, m⟩
  | p :: q :: r, m => by
    rcases List.mem_append.mp (show c ∈ p ++ (S ++ joinL S (q :: r)) from m) with m | m
    · exact .inr ⟨p, List.mem_cons_self, m⟩
    · rcases List.mem_append.mp m with m | m
      · exact .inl m
      · rcases mem_joinL m with z | ⟨u, mu, z⟩
        · exact .inl z
        · exact .inr ⟨u, List.mem_cons_of_mem _ mu, z⟩
theorem row10 {h : Nat} {L : List Lane} : ∀ w ∈ houseS h :: L.map laneS, 10 ∉ tl w ∧ ∀ c ∈ tl w, c < 256 := fun w m => by
  have num : ∀ n c, c ∈ numL n → c < 256 := fun n c m => by have := numL_digits n c m; omega
  have lw : ∀ c ∈ tl ("lane" : Str), c < 256 := by decide +kernel
  have hw : ∀ c ∈ tl ("houses" : Str), c < 256 := by decide +kernel
  rcases List.mem_cons.mp m with rfl | m
  · rw [tl_houseS]
    refine ⟨fun z => ?_, fun c z => ?_⟩
    · rcases mem_joinL z with z | ⟨p, mp, z⟩
      · simp at z
      · simp only [List.mem_cons, List.not_mem_nil, or_false] at mp
        rcases mp with rfl | rfl
        · exact houses_w.2 z
        · exact no10 _ z
    · rcases mem_joinL z with z | ⟨p, mp, z⟩
      · simp at z
        omega
      · simp only [List.mem_cons, List.not_mem_nil, or_false] at mp
        rcases mp with rfl | rfl
        · exact hw c z
        · exact num _ c z
  · obtain ⟨l, ml, rfl⟩ := List.mem_map.mp m
    rw [tl_laneS]
    refine ⟨fun z => ?_, fun c z => ?_⟩
    · rcases mem_joinL z with z | ⟨p, mp, z⟩
      · simp at z
      · simp only [List.mem_cons, List.not_mem_nil, or_false] at mp
        rcases mp with rfl | rfl | rfl | rfl
        · exact lane_w.2 z
        · exact no10 _ z
        · exact no10 _ z
        · exact no10 _ z
    · rcases mem_joinL z with z | ⟨p, mp, z⟩
      · simp at z
        omega
      · simp only [List.mem_cons, List.not_mem_nil, or_false] at mp
        rcases mp with rfl | rfl | rfl | rfl
        · exact lw c z
        · exact num _ c z
        · exact num _ c z
        · exact num _ c z
theorem tl_netS (h : Nat) (L : List Lane) : tl (netS h L) = joinL [10] ((houseS h :: L.map laneS).map tl) := by
  unfold netS
  rw [join_eq, tl_join, tl_nl]
theorem len_joinL (S : List Nat) (k : Nat) : ∀ (P : List (List Nat)), (∀ p ∈ P, p.length ≤ k) → (joinL S P).length ≤ (k + S.length) * P.length
  | [], _ => by simp [joinL]
  | [p], h => by
    have := h p List.mem_cons_self
    show p.length ≤ _
    simp
    omega
  | p :: q :: r, h => by
    have h1 := h p List.mem_cons_self
    have ih := len_joinL S k (q :: r) fun u m => h u (List.mem_cons_of_mem _ m)
    show (p ++ (S ++ joinL S (q :: r))).length ≤ _
    rw [List.length_append, List.length_append]
    simp only [List.length_cons] at ih ⊢
    rw [Nat.mul_add]
    omega
theorem netS_ok {h : Nat} {L : List Lane} (s : Sm h L) : OkT (netS h L) := by
  refine ⟨?_, (strOk_iff _).mpr fun c m => ?_⟩
  · rw [len_tl, tl_netS]
    have := len_joinL [10] 25 ((houseS h :: L.map laneS).map tl) fun p m => by
      obtain ⟨w, mw, rfl⟩ := List.mem_map.mp m
      rw [← len_tl]
      rcases List.mem_cons.mp mw with rfl | mw
      · have := len_houseS s.hh
        omega
      · obtain ⟨l, ml, rfl⟩ := List.mem_map.mp mw
        exact len_laneS (s.one l ml)
    have hl := s.ll
    simp only [List.length_map, List.length_cons, List.length_nil] at this
    omega
  · rw [tl_netS] at m
    rcases mem_joinL m with z | ⟨p, mp, z⟩
    · simp at z
      omega
    · obtain ⟨w, mw, rfl⟩ := List.mem_map.mp mp
      have := (row10 w mw).2 c z
      omega
theorem net_back {h : Nat} {L : List Lane} (s : Sm h L) (h1 : 1 ≤ h) (g : ∀ l ∈ L, l.b < h ∧ l.e < h ∧ l.b ≠ l.e ∧ 1 ≤ l.r) : netR (tl (netS h L)) = some (h, L) := by
  have e : cutL 10 (tl (netS h L)) = (houseS h :: L.map laneS).map tl := by
    rw [tl_netS]
    refine cut_join (by simp) fun p m => ?_
    obtain ⟨w, mw, rfl⟩ := List.mem_map.mp m
    exact (row10 w mw).1
  unfold netR
  rw [e]
  show (housesR (tl (houseS h))).bind (fun h => (lanesR h ((L.map laneS).map tl)).map fun L => (h, L)) = _
  rw [houses_back h1 s.hh]
  show (lanesR h ((L.map laneS).map tl)).map _ = _
  rw [lanes_back s.one g]
  rfl
end La

namespace La
open PySem PySem.Spec PyProof.Rows L2 Tl TL
/-- the numbers of a row of a lane -/
def laneP (l : List Nat) : Option (List Nat) :=
  match cutL 32 l with
  | w :: ws => if w = tl ("lane" : Str) then numsV ws else none
  | [] => none
def laneO (h : Nat) : Option (List Nat) → Option Lane
  | some [b, e, r] => if b < h ∧ e < h ∧ b ≠ e ∧ 1 ≤ r then some ⟨b, e, r⟩ else none
  | _ => none
theorem laneR_P (h : Nat) (l : List Nat) : laneR h l = laneO h (laneP l) := by
  unfold laneR laneP
  cases cutL 32 l with
  | nil => rfl
  | cons w ws =>
    simp only
    by_cases q : w = tl ("lane" : Str)
    · rw [if_pos q, if_pos q]
      rfl
    · rw [if_neg q, if_neg q]
      rfl
end La

namespace La
open PySem PySem.Spec PyProof.Rows L2 Tl TL
end La

namespace La
open PySem PySem.Spec PyProof.Rows L2 Tl
/-- what is told is what is due -/
theorem same_ok : ∀ (j : Nat) (d : D), d.canLay0 = true → d.depth < j → m_law_same j [.leaf d, .leaf d] = some (.leaf (.bool true), [.leaf d, .leaf d])
  | 0, _, _, h => by omega
  | j + 1, d, hc, hj => by
    have lst : ∀ (ds : List D) (d : D), d = .list ds ∨ d = .tuple ds → PyData.canLayAll0 ds = true → PyData.depthAll ds < j → m_law_same (j + 1) [.leaf d, .leaf d] = some (.leaf (.bool true), [.leaf d, .leaf d]) := by
      intro ds d hd h1 h2
      have key : ∀ fw x, lcLoop [2, 3] (gtT (gtCons (gtN 2) (gtCons (gtN 3) gtNil))) mYes (mCall (m_law_same j) (cCons (mVar 2) (cCons (mVar 3) cNil))) [some d, some d, none, none] [] (zipD ds ds) [] [] = x → fw = 0 → ∃ acc, x = some (acc, []) ∧ ∀ b ∈ acc, b = .bool true := by
        intro _ x hL _
        obtain ⟨acc, τ, rfl, rfl, _, i3⟩ := lc_of hL (fun rem acc τ => τ = [] ∧ (∀ p ∈ rem, ∃ d ∈ ds, p = .tuple [d, d]) ∧ ∀ b ∈ acc, b = PyData.bool true) ⟨rfl, fun p m => zipD_self_mem m, fun _ m => nomatch m⟩ (by
          rintro p rem acc τ ⟨rfl, i2, i3⟩
          obtain ⟨d', m', rfl⟩ := i2 _ List.mem_cons_self
          have ih := same_ok j d' (layAll_mem h1 m') (Nat.lt_of_le_of_lt (depthAll_le m') h2)
          refine ⟨_, true, [], by simp; rfl, rfl, .inr ⟨rfl, _, _, _, by simp [ih]; exact ⟨rfl, rfl⟩, rfl, rfl, fun p m => i2 p (List.mem_cons_of_mem _ m), fun b m => ?_⟩⟩
          rcases List.mem_append.mp m with m | m
          · exact i3 b m
          · exact List.mem_singleton.mp m)
        exact ⟨acc, rfl, i3⟩
      have fin : ∀ acc : List D, (∀ b ∈ acc, b = PyData.bool true) → bd (boolsD acc) (gboolK Tl.allB) = some (rBool true) := by
        intro acc h
        have : ∀ acc : List D, (∀ b ∈ acc, b = PyData.bool true) → ∃ bs, boolsD acc = some bs ∧ Tl.allB bs = true := by
          intro acc
          induction acc with
          | nil => exact fun _ => ⟨[], rfl, rfl⟩
          | cons b acc ih =>
            intro h
            have e := h b List.mem_cons_self
            subst e
            obtain ⟨bs, e1, e2⟩ := ih fun b m => h b (List.mem_cons_of_mem _ m)
            refine ⟨true :: bs, ?_, ?_⟩
            · show (boolsD acc).map (true :: ·) = _
              rw [e1]
              rfl
            · have e3 : bs.all id = true := e2
              show (true :: bs).all id = true
              rw [List.all_cons, e3]
              rfl
        obtain ⟨bs, e1, e2⟩ := this acc h
        simp [e1, e2]
      rcases hd with rfl | rfl
      · simp [m_law_same, b_law_same]
        generalize hL : lcLoop _ _ _ _ _ _ _ _ _ = y
        obtain ⟨acc, rfl, ha⟩ := key 0 _ hL rfl
        simp [fin acc ha]
      · simp [m_law_same, b_law_same]
        generalize hL : lcLoop _ _ _ _ _ _ _ _ _ = y
        obtain ⟨acc, rfl, ha⟩ := key 0 _ hL rfl
        simp [fin acc ha]
    cases d with
    | none => simp [m_law_same, b_law_same]
    | bool b => simp [m_law_same, b_law_same]
    | int i => simp [m_law_same, b_law_same]
    | str s =>
      have hs : SeqAt.shaped (.str s) = true := by
        unfold SeqAt.shaped
        rw [hc]
        simp [PyData.depth]
      simp [m_law_same, b_law_same, hs]
    | list ds => exact lst ds _ (.inl rfl) (by simpa [PyData.canLay0] using hc) (by rw [PyData.depth] at hj; omega)
    | tuple ds => exact lst ds _ (.inr rfl) (by simpa [PyData.canLay0] using hc) (by rw [PyData.depth] at hj; omega)
    | dict kvs => cases hc
end La

namespace La
open PySem PySem.Spec PyProof.Rows L2 Tl TL
def joinN (W : List Str) : Str := Txt.join ("\n" : Str) W
structure Rw (W : List Str) : Prop where
  ne : W ≠ []
  len : W.length ≤ 1000
  one : ∀ w ∈ W, w.length ≤ 40 ∧ ∀ c ∈ tl w, c < 256 ∧ c ≠ 10
section
variable {W : List Str}
theorem tl_joinN (W : List Str) : tl (joinN W) = joinL [10] (W.map tl) := by
  unfold joinN
  rw [join_eq, tl_join, tl_nl]
theorem Rw.cut (r : Rw W) : cutL 10 (tl (joinN W)) = W.map tl := by
  rw [tl_joinN]
  refine cut_join (fun z => r.ne (List.map_eq_nil_iff.mp z)) fun p m z => ?_
  obtain ⟨w, mw, rfl⟩ := List.mem_map.mp m
  exact ((r.one w mw).2 10 z).2 rfl
theorem Rw.okT (r : Rw W) : OkT (joinN W) := by
  refine ⟨?_, (strOk_iff _).mpr fun c m => ?_⟩
  · rw [len_tl, tl_joinN]
    have := len_joinL [10] 40 (W.map tl) fun p m => by
      obtain ⟨w, mw, rfl⟩ := List.mem_map.mp m
      rw [← len_tl]
      exact (r.one w mw).1
    have := r.len
    simp only [List.length_map, List.length_cons, List.length_nil] at *
    omega
  · rw [tl_joinN] at m
    rcases mem_joinL m with z | ⟨p, mp, z⟩
    · simp at z
      omega
    · obtain ⟨w, mw, rfl⟩ := List.mem_map.mp mp
      have := (r.one w mw).2 c z
      omega
theorem Rw.okJ (r : Rw W) : okJoin ("\n" : Str) W = true := by
  have h1 := sum_le 40 W fun w m => (r.one w m).1
  have e1 : ("\n" : Str).length = 1 := by decide +kernel
  have hl := r.len
  unfold okJoin
  rw [e1]
  refine decide_eq_true ?_
  omega
theorem Rw.join (r : Rw W) (y : R) (hy : y.its = some (true, W.map PyData.str)) : gJoin [rd (.str (Str.ofString "\n")), y] = some (rd (.str (joinN W))) := by
  show (y.its.bind fun p => (strsD p.2).bind fun ys => if okJoin (Str.ofString "\n") ys = true then some (rd (.str (Txt.join (Str.ofString "\n") ys))) else none) = _
  rw [hy]
  show ((strsD (W.map PyData.str)).bind fun ys => if okJoin (Str.ofString "\n") ys = true then some (rd (.str (Txt.join (Str.ofString "\n") ys))) else none) = _
  rw [strsD_strs]
  show (if okJoin (Str.ofString "\n") W = true then some (rd (.str (Txt.join (Str.ofString "\n") W))) else none) = _
  rw [if_pos r.okJ]
  rfl
theorem Rw.split (r : Rw W) : Txt.split (joinN W) ("\n" : Str) = W := map_tl_inj ((split_tl tl_nl (by decide)).trans r.cut)
end
theorem lay_lanes62 : ∀ L : List Lane, PyData.canLayAll0 (L.map laneD) = true ∧ PyData.depthAll (L.map laneD) ≤ 1
  | [] => ⟨rfl, by simp [PyData.depthAll]⟩
  | l :: L => by
    obtain ⟨a, b⟩ := lay_lanes62 L
    constructor
    · simp only [List.map_cons, PyData.canLayAll0, a, Bool.and_true]
      rfl
    · simp only [List.map_cons, PyData.depthAll]
      have : (laneD l).depth ≤ 1 := by
        simp [laneD, PyData.depth, PyData.depthAll]
      omega
theorem same_net62 (h : Nat) (L : List Lane) : m_law_same 60 [.leaf (netT h L), .leaf (netT h L)] = some (.leaf (.bool true), [.leaf (netT h L), .leaf (netT h L)]) := by
  obtain ⟨a, b⟩ := lay_lanes62 L
  refine same_ok 60 _ ?_ ?_
  · simp [netT, PyData.canLay0, PyData.canLayAll0, a]
  · simp only [netT, PyData.depth, PyData.depthAll]
    omega
theorem same_text62 (i : Nat) : m_law_same 60 [.leaf (.tuple [.str "text", .int (i : Nat)]), .leaf (.tuple [.str "text", .int (i : Nat)])] = some (.leaf (.bool true), [.leaf (.tuple [.str "text", .int (i : Nat)]), .leaf (.tuple [.str "text", .int (i : Nat)])]) := by
  refine same_ok 60 _ ?_ ?_
  · have : PyData.strOk ("text" : Str) = true := by decide +kernel
    simp [PyData.canLay0, PyData.canLayAll0, this]
  · simp only [PyData.depth, PyData.depthAll]
    omega
end La

namespace La
open PySem PySem.Spec PyProof.Rows L2 Tl
def s_law_number_1 : MS := (mIfS (mXB (mOrB (mNotB (mTst (mChain fLt fLt (mC (.int 0)) (mOp gLen (mCons (mVar 0) mNil)) (mC (.int 7))))) (mOrB (mTru (mOp gAny (mCons (mLc [1] (iTxt (mVar 0)) (gtN 1) mYes (mBin (gp pNotInS) (mVar 1) (mC (.str "0123456789")))) mNil))) (mBinB (gp pNe) (mOp (gp pStr) (mCons (mOp (gp pIntS) (mCons (mVar 0) mNil)) mNil)) (mVar 0))))) (mSeq (mRet (mX (mUn (gp pNeg) (mC (.int 1))))) mNx) mNx)
def s_law_number_2 : MS := (mRet (mX (mOp (gp pIntS) (mCons (mVar 0) mNil))))
theorem pieces_law_number : b_law_number = (mSeq s_law_number_1 (mSeq s_law_number_2 mNx)) := rfl
def s_law_numbers_1 : MS := (mSet 2 (mX (mOp gSplit (mTxt2 (mVar 0) (mC (.str " "))))))
def s_law_numbers_2 : MS := (mSet 3 (mX (mLc [4] (iSeq (mCut (mVar 2) (oSome (mC (.int 1))) oNone)) (gtN 4) mYes (mCall m_law_number (cCons (mVar 4) cNil)))))
def s_law_numbers_3 : MS := (mRet (mX (mIf (mAndB (mBinB (gp pEq) (mBin gIx (mVar 2) (mC (.int 0))) (mVar 1)) (mBinB gNotIn (mUn (gp pNeg) (mC (.int 1))) (mVar 3))) (mVar 3) (mOp gLstD mNil))))
theorem pieces_law_numbers : b_law_numbers = (mSeq s_law_numbers_1 (mSeq s_law_numbers_2 (mSeq s_law_numbers_3 mNx))) := rfl
def s_law_net_read_1 : MS := (mSet 1 (mX (mOp gSplit (mTxt2 (mVar 0) (mC (.str "\n"))))))
def s_law_net_read_2 : MS := (mSet 2 (mX (mCall m_law_numbers (cCons (mBin gIx (mVar 1) (mC (.int 0))) (cCons (mC (.str "houses")) cNil)))))
def s_law_net_read_3 : MS := (mIfS (mXB (mOrB (mBinB (gp pNe) (mOp gLen (mCons (mVar 2) mNil)) (mC (.int 1))) (mBinB gLt (mBin gIx (mVar 2) (mC (.int 0))) (mC (.int 1))))) (mSeq (mRet (mX (mC (.int 0)))) mNx) mNx)
def s_law_net_read_4 : MS := (mSetO 3 (mX (mOp gLstD mNil)))
def s_law_net_read_5b_1 : MS := (mSet 6 (mX (mCall m_law_numbers (cCons (mVar 5) (cCons (mC (.str "lane")) cNil)))))
def s_law_net_read_5b_2 : MS := (mIfS (mXB (mOrB (mBinB (gp pNe) (mOp gLen (mCons (mVar 6) mNil)) (mC (.int 3))) (mOrB (mBinB gGe (mOp gMax (mCons (mCut (mVar 6) oNone (oSome (mC (.int 2)))) mNil)) (mBin gIx (mVar 2) (mC (.int 0)))) (mOrB (mBinB (gp pEq) (mBin gIx (mVar 6) (mC (.int 0))) (mBin gIx (mVar 6) (mC (.int 1)))) (mBinB gLt (mBin gIx (mVar 6) (mC (.int 2))) (mC (.int 1))))))) (mSeq (mRet (mX (mBin gAdd (mVar 4) (mC (.int 1))))) mNx) mNx)
def s_law_net_read_5b_3 : MS := (mDo (mX (mMut 3 gAppend (mCons (mOp gTuple (mCons (mVar 6) mNil)) mNil))))
abbrev s_law_net_read_5b : MS := (mSeq s_law_net_read_5b_1 (mSeq s_law_net_read_5b_2 (mSeq s_law_net_read_5b_3 mNx)))
def s_law_net_read_5 : MS := (mFor [4, 5] (mXI (iEnumM (mCut (mVar 1) (oSome (mC (.int 1))) oNone))) (gtT (gtCons (gtN 4) (gtCons (gtN 5) gtNil))) s_law_net_read_5b)
def s_law_net_read_6 : MS := (mPre (mFz 3) (mRet (mX (mOp gTupD (mCons (mBin gIx (mVar 2) (mC (.int 0))) (mCons (mVar 3) mNil))))))
theorem pieces_law_net_read : b_law_net_read = (mSeq s_law_net_read_1 (mSeq s_law_net_read_2 (mSeq s_law_net_read_3 (mSeq s_law_net_read_4 (mSeq s_law_net_read_5 (mSeq s_law_net_read_6 mNx)))))) := rfl
def s_law_right_k63_1 : MS := (mSet 1 (mX (mCall m_law_net_read (cCons (mVar 0) cNil))))
def s_law_right_k63_2 : MS := (mAsg [2, 3] (gtT (gtCons (gtN 2) (gtCons (gtN 3) gtNil))) (mX (mOp gTupD (mCons (mC .none) (mCons (mC .none) mNil)))))
def s_law_right_k63_3 : MS := (mTryK xcNames 4 3 (mSeqX (mSetX 2 (mCallX x_net_from (cCons (mVar 0) cNil))) mNxX))
def s_law_right_k63_4 : MS := (mIfS (mXB (mBinB (gp pNotN) (mVar 3) (mC .none))) (mSeq (mRet (mX (mAnd (mIsi isIntD (mVar 1)) (mCall (m_law_same 60) (cCons (mCall m_law_word_k62 (cCons (mVar 3) cNil)) (cCons (mOp gTupD (mCons (mC (.str "text")) (mCons (mVar 1) mNil))) cNil)))))) mNx) mNx)
def s_law_right_k63_5 : MS := (mRet (mX (mAnd (mIsi isTupD (mVar 1)) (mAnd (mCall (m_law_same 60) (cCons (mVar 2) (cCons (mVar 1) cNil))) (mBin (gp pEq) (mCall m_net_text (cCons (mVar 2) cNil)) (mVar 0))))))
theorem pieces_law_right_k63 : b_law_right_k63 = (mSeq s_law_right_k63_1 (mSeq s_law_right_k63_2 (mSeq s_law_right_k63_3 (mSeq s_law_right_k63_4 (mSeq s_law_right_k63_5 mNx))))) := rfl
def s_law_spoilt_k63_1 : MS := (mSet 2 (mX (mC (.str " !\"#$&'()*+,-./0123456789:;<=>?@ABCDEFGHIJKLMNOPQRSTUVWXYZ[\\]^_`abcdefghijklmnopqrstuvwxyz{|}~"))))
def s_law_spoilt_k63_2 : MS := (mSet 3 (mX (mCall m_law_take (cIo 0 (cCons (mBin gAdd (mOp gLen (mCons (mVar 1) mNil)) (mC (.int 1))) cNil)))))
def s_law_spoilt_k63_3 : MS := (mSet 4 (mX (mBin gIx (mBin gAdd (mVar 2) (mC (.str "\n"))) (mCall m_law_take (cIo 0 (cCons (mC (.int 95)) cNil))))))
def s_law_spoilt_k63_4 : MS := (mSet 5 (mX (mCall m_law_take (cIo 0 (cCons (mC (.int 9)) cNil)))))
def s_law_spoilt_k63_5 : MS := (mIfS (mXB (mBinB gLt (mVar 5) (mC (.int 2)))) (mSeq (mRet (mX (mBin gAdd (mBin gAdd (mCut (mVar 1) oNone (oSome (mVar 3))) (mVar 4)) (mCut (mVar 1) (oSome (mBin gAdd (mVar 3) (mC (.int 1)))) oNone)))) mNx) mNx)
def s_law_spoilt_k63_6 : MS := (mIfS (mXB (mBinB gLt (mVar 5) (mC (.int 4)))) (mSeq (mRet (mX (mBin gAdd (mBin gAdd (mCut (mVar 1) oNone (oSome (mVar 3))) (mVar 4)) (mCut (mVar 1) (oSome (mVar 3)) oNone)))) mNx) mNx)
def s_law_spoilt_k63_7 : MS := (mIfS (mXB (mBinB (gp pEq) (mVar 5) (mC (.int 4)))) (mSeq (mRet (mX (mBin gAdd (mCut (mVar 1) oNone (oSome (mVar 3))) (mCut (mVar 1) (oSome (mBin gAdd (mVar 3) (mC (.int 1)))) oNone)))) mNx) mNx)
def s_law_spoilt_k63_8t_1 : MS := (mPar 6 7 (mCons (mCut (mVar 1) (oSome (mVar 3)) (oSome (mBin gAdd (mVar 3) (mC (.int 1))))) (mCons (mCut (mVar 1) (oSome (mBin gAdd (mVar 3) (mC (.int 1)))) (oSome (mBin gAdd (mVar 3) (mC (.int 2))))) mNil)))
def s_law_spoilt_k63_8t_2 : MS := (mRet (mX (mBin gAdd (mBin gAdd (mBin gAdd (mCut (mVar 1) oNone (oSome (mVar 3))) (mVar 7)) (mVar 6)) (mCut (mVar 1) (oSome (mBin gAdd (mVar 3) (mC (.int 2)))) oNone))))
abbrev s_law_spoilt_k63_8t : MS := (mSeq s_law_spoilt_k63_8t_1 (mSeq s_law_spoilt_k63_8t_2 mNx))
def s_law_spoilt_k63_8 : MS := (mIfS (mXB (mBinB (gp pEq) (mVar 5) (mC (.int 5)))) s_law_spoilt_k63_8t mNx)
def s_law_spoilt_k63_9 : MS := (mIfS (mXB (mBinB (gp pEq) (mVar 5) (mC (.int 6)))) (mSeq (mRet (mX (mCut (mVar 1) oNone (oSome (mVar 3))))) mNx) mNx)
def s_law_spoilt_k63_10 : MS := (mRet (mX (mCall m_law_rows_otherwise (cIo 0 (cCons (mVar 1) cNil)))))
theorem pieces_law_spoilt_k63 : b_law_spoilt_k63 = (mSeq s_law_spoilt_k63_1 (mSeq s_law_spoilt_k63_2 (mSeq s_law_spoilt_k63_3 (mSeq s_law_spoilt_k63_4 (mSeq s_law_spoilt_k63_5 (mSeq s_law_spoilt_k63_6 (mSeq s_law_spoilt_k63_7 (mSeq s_law_spoilt_k63_8 (mSeq s_law_spoilt_k63_9 (mSeq s_law_spoilt_k63_10 mNx)))))))))) := rfl
def s_law_rows_otherwise_1 : MS := (mSetO 2 (mX (mOp gSplit (mTxt2 (mVar 1) (mC (.str "\n"))))))
def s_law_rows_otherwise_2 : MS := (mPar 3 4 (mCons (mCall m_law_take (cIo 0 (cCons (mBr 2 (mOp gLen (mCons (mSee 2) mNil))) cNil))) (mCons (mCall m_law_take (cIo 0 (cCons (mBr 2 (mOp gLen (mCons (mSee 2) mNil))) cNil))) mNil)))
def s_law_rows_otherwise_3 : MS := (mSet 5 (mX (mCall m_law_take (cIo 0 (cCons (mC (.int 4)) cNil)))))
def s_law_rows_otherwise_4 : MS := (mIfS (mXB (mBinB (gp pEq) (mVar 5) (mC (.int 0)))) (mSeq (mDo (mX (mMut 2 gInsert (mCons (mVar 4) (mCons (mBr 2 (mBin gIx (mSee 2) (mVar 3))) mNil))))) mNx) (mSeq (mIfS (mXB (mBinB (gp pEq) (mVar 5) (mC (.int 1)))) (mSeq (mDo (mX (mMut 2 gPopAt (mCons (mVar 3) mNil)))) mNx) (mSeq (mIfS (mXB (mBinB (gp pEq) (mVar 5) (mC (.int 2)))) (mSeq (mDo (mX (mMut 2 gInsert (mCons (mVar 4) (mCons (mC (.str "")) mNil))))) mNx) (mSeq (mSetP2 2 pHere (mVar 3) 2 pHere (mVar 4) (mOp gTupD (mCons (mBr 2 (mBin gIx (mSee 2) (mVar 4))) (mCons (mBr 2 (mBin gIx (mSee 2) (mVar 3))) mNil)))) mNx)) mNx)) mNx))
def s_law_rows_otherwise_5 : MS := (mRet (mX (mBr 2 (mOp gJoin (mTxt2 (mC (.str "\n")) (mSee 2))))))
theorem pieces_law_rows_otherwise : b_law_rows_otherwise = (mSeq s_law_rows_otherwise_1 (mSeq s_law_rows_otherwise_2 (mSeq s_law_rows_otherwise_3 (mSeq s_law_rows_otherwise_4 (mSeq s_law_rows_otherwise_5 mNx))))) := rfl
def s_law_k63_1b_1 : MS := (mSetO 2 (mX (mCall m_law_tape (cIo 0 (cCons (mVar 1) cNil)))))
def s_law_k63_1b_2 : MS := (mSet 3 (mX (mLook m_law_net_text (cSee (mCall m_law_net (cIo 2 cNil)) cNil))))
def s_law_k63_1b_3b_1 : MS := (mSet 5 (mX (mCall m_law_spoilt_k63 (cIo 2 (cCons (mVar 3) cNil)))))
def s_law_k63_1b_3b_2 : MS := (mIfS (mXB (mBinB (gp pEq) (mCall m_law_take (cIo 2 (cCons (mC (.int 4)) cNil))) (mC (.int 0)))) (mSeq (mSet 5 (mX (mCall m_law_spoilt_k63 (cIo 2 (cCons (mVar 5) cNil))))) mNx) mNx)
def s_law_k63_1b_3b_3 : MS := (mIfS (mXB (mNotB (mTru (mCall m_law_right_k63 (cCons (mVar 5) cNil))))) (mSeq (mRet (mX (mC (.bool false)))) mNx) mNx)
abbrev s_law_k63_1b_3b : MS := (mSeq s_law_k63_1b_3b_1 (mSeq s_law_k63_1b_3b_2 (mSeq s_law_k63_1b_3b_3 mNx)))
def s_law_k63_1b_3 : MS := (mFor [4] (mXI (iRng (mCons (mC (.int 8)) mNil))) (gtN 4) s_law_k63_1b_3b)
def s_law_k63_1b_4 : MS := (mIfS (mXB (mOrB (mNotB (mTru (mCall m_law_right_k63 (cCons (mVar 3) cNil)))) (mTru (mIsi isIntD (mCall m_law_net_read (cCons (mVar 3) cNil)))))) (mSeq (mRet (mX (mC (.bool false)))) mNx) mNx)
abbrev s_law_k63_1b : MS := (mSeq s_law_k63_1b_1 (mSeq s_law_k63_1b_2 (mSeq s_law_k63_1b_3 (mSeq s_law_k63_1b_4 mNx))))
def s_law_k63_1 : MS := (mFor [1] (mXI (iRng (mCons (mBr 0 (mBin gAdd (mC (.int 1)) (mOp (gp pMin2) (mCons (mC (.int 8)) (mCons (mOp gLen (mCons (mSee 0) mNil)) mNil))))) mNil))) (gtN 1) s_law_k63_1b)
def s_law_k63_2 : MS := (mRet (mX (mC (.bool true))))
theorem pieces_law_k63 : b_law_k63 = (mSeq s_law_k63_1 (mSeq s_law_k63_2 mNx)) := rfl
end La

namespace La
open PySem PySem.Spec PyProof.Rows L2 Tl TL
theorem canon63 {l : List Nat} (ad : NumText.AllDigits l) (ne : l ≠ []) : numL (NumText.digitsVal l) = l ↔ (l.head? = some 48 → l = [48]) := by
  constructor
  · intro e h
    rw [← e] at h ⊢
    exact numL_head _ h
  · intro h
    obtain ⟨c, r, hr⟩ : ∃ c r, l = c :: r := by
      cases l with
      | nil => exact absurd rfl ne
      | cons c r => exact ⟨c, r, rfl⟩
    have hc := ad c (by rw [hr]; exact List.mem_cons_self)
    have td := NumText.toDigits_digitsVal r.length l (by rw [hr]; rfl) ad (by
      by_cases z : c = 48
      · subst z
        have := h (by rw [hr]; rfl)
        rw [hr] at this
        injection this with _ h2
        exact .inl (by rw [h2]; rfl)
      · exact .inr ⟨c, r, hr, by omega⟩)
    unfold numL
    rw [td, List.map_map]
    conv => rhs; rw [← List.map_id l]
    refine List.map_congr_left fun x mx => ?_
    have hx := ad x mx
    have : ∀ x : Nat, 48 ≤ x → x ≤ 57 → (Char.ofNat x).toNat = x := by
      intro x h1 h2
      have : x = 48 ∨ x = 49 ∨ x = 50 ∨ x = 51 ∨ x = 52 ∨ x = 53 ∨ x = 54 ∨ x = 55 ∨ x = 56 ∨ x = 57 := by omega
      rcases this with rfl | rfl | rfl | rfl | rfl | rfl | rfl | rfl | rfl | rfl <;> rfl
    exact this x hx.1 hx.2
def numI : Option Nat → Int
  | none => -1
  | some n => n
theorem notIn_figs (c : Nat) : pNotInS [.str ⟨#[c]⟩, .str ("0123456789" : Str)] = some (.bool (!decide (48 ≤ c ∧ c ≤ 57))) := by
  have hi := in_figs c
  unfold tl at hi
  show some (PyData.bool (!decide (c ∈ ("0123456789" : Str).cps.toList))) = _
  rw [hi]
theorem law_number_ok (s : Str) (ok : OkT s) : m_law_number [.leaf (.str s)] = some (.leaf (.int (numI (numV (tl s)))), [.leaf (.str s)]) := by
  have hl := len_tl s
  have hlen := ok.len
  have e0 : s.length ≤ 16000000 := by omega
  by_cases q1 : 1 ≤ s.length ∧ s.length ≤ 6
  · have i1 : 0 < s.length := by omega
    have i2 : (s.length : Int) < 7 := by omega
    by_cases q : ((tl s).all fun c => decide (48 ≤ c ∧ c ≤ 57)) = true
    · have ad : NumText.AllDigits (tl s) := fun c m => of_decide_eq_true (List.all_eq_true.mp q c m)
      have ne : tl s ≠ [] := fun e => by
        rw [e] at hl
        simp at hl
        omega
      have e3 : intText? s = some ((NumText.digitsVal (tl s) : Nat) : Int) := intText_digits ad ne (by omega)
      have l3 : s.length ≤ 640 := by omega
      have cn := canon63 ad ne
      have vb : NumText.digitsVal (tl s) < 1000000 := by
        have b : ∀ (cs : List Nat) (a : Nat), (∀ c ∈ cs, 48 ≤ c ∧ c ≤ 57) → cs.foldl (fun acc c => acc * 10 + (c - 48)) a < (a + 1) * 10 ^ cs.length := by
          intro cs
          induction cs with
          | nil => intro a _; simp
          | cons c cs ih =>
            intro a h
            have hc := h c List.mem_cons_self
            have := ih (a * 10 + (c - 48)) fun x m => h x (List.mem_cons_of_mem _ m)
            rw [List.foldl_cons, List.length_cons, Nat.pow_succ]
            refine Nat.lt_of_lt_of_le this ?_
            rw [Nat.mul_comm (10 ^ cs.length) 10, ← Nat.mul_assoc]
            exact Nat.mul_le_mul_right _ (by omega)
        have := b (tl s) 0 ad
        rw [Nat.zero_add, Nat.one_mul] at this
        refine Nat.lt_of_lt_of_le this ?_
        have : 10 ^ (tl s).length ≤ 10 ^ 6 := Nat.pow_le_pow_right (by decide) (by omega)
        exact this
      have o1 := okShow_nat vb
      have so : strOf (.int ((NumText.digitsVal (tl s) : Nat) : Int)) = numS (NumText.digitsVal (tl s)) := rfl
      have cq : (numS (NumText.digitsVal (tl s)) == s) = decide (numL (NumText.digitsVal (tl s)) = tl s) := by rw [beq_tl, tl_numS]
      have s1 : SeqAt.shaped (.str s) = true := shS ok.sig
      have s2 : SeqAt.shaped (.str (numS (NumText.digitsVal (tl s)))) = true := shS ((strOk_iff _).mpr fun c m => by
        rw [tl_numS] at m
        have := numL_digits _ c m
        omega)
      have f1 : s_law_number_1 ⟨[some (.str s), none], []⟩ = if numL (NumText.digitsVal (tl s)) = tl s then some (.nx ⟨[some (.str s), none], []⟩) else some (.rt (.leaf (.int (-1))) ⟨[some (.str s), none], []⟩) := by
        generalize hG : s_law_number_1 _ = y
        simp [s_law_number_1, e0, fLt, i1, i2] at hG
        generalize hC : lcLoop _ _ _ _ _ _ _ _ _ = z at hG
        obtain rfl := lc_typM (e := fun c => PyData.str ⟨#[c]⟩) (xs := tl s) hC (fun c => .bool (!decide (48 ≤ c ∧ c ≤ 57))) rfl fun c m => by
          have hp := notIn_figs c
          exact ⟨_, by simp; rfl, rd (.bool (!decide (48 ≤ c ∧ c ≤ 57))), by simp [hp], rfl⟩
        have b1 := boolsD_all (fun c => !decide (48 ≤ c ∧ c ≤ 57)) (tl s)
        have b2 : Tl.anyB ((tl s).map fun c => !decide (48 ≤ c ∧ c ≤ 57)) = false := by
          unfold Tl.anyB
          rw [List.any_map, Bool.eq_false_iff]
          intro z
          obtain ⟨c, m, hc⟩ := List.any_eq_true.mp z
          have := List.all_eq_true.mp q c m
          simp only [Function.comp, this] at hc
          exact absurd hc (by decide)
        generalize (tl s).map (fun c => PyData.bool (!decide (48 ≤ c ∧ c ≤ 57))) = Z at *
        generalize (tl s).map (fun c => !decide (48 ≤ c ∧ c ≤ 57)) = Z' at *
        rw [← hG]
        by_cases w : numL (NumText.digitsVal (tl s)) = tl s
        · simp [b1, b2, l3, e3, o1, so, s1, s2, cq, w]
        · simp [b1, b2, l3, e3, o1, so, s1, s2, cq, w]
      by_cases w : numL (NumText.digitsVal (tl s)) = tl s
      · rw [if_pos w] at f1
        have nv : numV (tl s) = some (NumText.digitsVal (tl s)) := by
          unfold numV
          rw [if_pos ⟨⟨by omega, by omega⟩, q, cn.mp w⟩]
        rw [nv]
        have f2 : s_law_number_2 ⟨[some (.str s), none], []⟩ = some (.rt (.leaf (.int ((NumText.digitsVal (tl s) : Nat) : Int))) ⟨[some (.str s), none], []⟩) := by
          simp [s_law_number_2, l3, e3]
        simp [m_law_number, pieces_law_number, f1, f2, numI]
      · rw [if_neg w] at f1
        have nv : numV (tl s) = none := by
          unfold numV
          rw [if_neg fun h => w (cn.mpr h.2.2)]
        rw [nv]
        simp [m_law_number, pieces_law_number, f1, numI]
    · have nv : numV (tl s) = none := by
        unfold numV
        rw [if_neg fun h => q h.2.1]
      rw [nv]
      have f1 : s_law_number_1 ⟨[some (.str s), none], []⟩ = some (.rt (.leaf (.int (-1))) ⟨[some (.str s), none], []⟩) := by
        generalize hG : s_law_number_1 _ = y
        simp [s_law_number_1, e0, fLt, i1, i2] at hG
        generalize hC : lcLoop _ _ _ _ _ _ _ _ _ = z at hG
        obtain rfl := lc_typM (e := fun c => PyData.str ⟨#[c]⟩) (xs := tl s) hC (fun c => .bool (!decide (48 ≤ c ∧ c ≤ 57))) rfl fun c m => by
          have hp := notIn_figs c
          exact ⟨_, by simp; rfl, rd (.bool (!decide (48 ≤ c ∧ c ≤ 57))), by simp [hp], rfl⟩
        have b1 := boolsD_all (fun c => !decide (48 ≤ c ∧ c ≤ 57)) (tl s)
        have b2 : Tl.anyB ((tl s).map fun c => !decide (48 ≤ c ∧ c ≤ 57)) = true := by
          unfold Tl.anyB
          rw [List.any_map, List.any_eq_true]
          have nq : ¬ ∀ c ∈ tl s, decide (48 ≤ c ∧ c ≤ 57) = true := fun z => q (List.all_eq_true.mpr z)
          refine Classical.byContradiction fun z => nq fun c m => Classical.byContradiction fun y => z ⟨c, m, ?_⟩
          rw [Bool.not_eq_true] at y
          simp only [Function.comp, y]
          rfl
        generalize (tl s).map (fun c => PyData.bool (!decide (48 ≤ c ∧ c ≤ 57))) = Z at *
        generalize (tl s).map (fun c => !decide (48 ≤ c ∧ c ≤ 57)) = Z' at *
        rw [← hG]
        simp [b1, b2]
      simp [m_law_number, pieces_law_number, f1, numI]
  · have nv : numV (tl s) = none := by
      unfold numV
      rw [if_neg fun h => q1 (by rw [hl]; exact h.1)]
    rw [nv]
    have f1 : s_law_number_1 ⟨[some (.str s), none], []⟩ = some (.rt (.leaf (.int (-1))) ⟨[some (.str s), none], []⟩) := by
      by_cases i1 : 0 < s.length
      · have i2 : ¬ (s.length : Int) < 7 := by omega
        simp [s_law_number_1, e0, fLt, i1, i2]
      · simp [s_law_number_1, e0, fLt, i1]
    simp [m_law_number, pieces_law_number, f1, numI]
end La

namespace La
open PySem PySem.Spec PyProof.Rows L2 Tl TL
/-- the numbers behind a word -/
def numsW (row w : List Nat) : List Nat :=
  match cutL 32 row with
  | x :: ws => if x = w then (numsV ws).getD [] else []
  | [] => []
theorem shaped_ints63 (xs : List Int) : SeqAt.shaped (.list (xs.map PyData.int)) = true := by
  have : ∀ xs : List Int, PyData.canLayAll0 (xs.map PyData.int) = true ∧ PyData.depthAll (xs.map PyData.int) ≤ 0 := fun xs => by
    induction xs with
    | nil => exact ⟨rfl, by simp [PyData.depthAll]⟩
    | cons x xs ih =>
      obtain ⟨a, b⟩ := ih
      exact ⟨by simp [PyData.canLayAll0, PyData.canLay0] at a ⊢; exact a, by simp [PyData.depthAll, PyData.depth] at b ⊢; omega⟩
  obtain ⟨a, b⟩ := this xs
  unfold SeqAt.shaped
  have c : (PyData.list (xs.map PyData.int)).canLay0 = true := by simpa [PyData.canLay0] using a
  rw [c, Bool.true_and, decide_eq_true_eq]
  simp only [PyData.depth]
  omega
theorem any_neg63 : ∀ (xs : List Int), ((xs.map PyData.int).any fun z => PyData.eqv z (.int (-1))) = decide ((-1 : Int) ∈ xs)
  | [] => rfl
  | x :: xs => by
    rw [List.map_cons, List.any_cons, any_neg63 xs]
    have e : PyData.eqv (.int x) (.int (-1)) = decide (x = -1) := by simp
    rw [e, Bool.eq_iff_iff, Bool.or_eq_true, decide_eq_true_iff, decide_eq_true_iff, decide_eq_true_iff, List.mem_cons]
    exact ⟨fun z => z.imp Eq.symm id, fun z => z.imp Eq.symm id⟩
theorem found63 (ws : List (List Nat)) : (∃ ns, numsV ws = some ns ∧ ws.map (fun w => numI (numV w)) = ns.map (fun n => ((n : Nat) : Int)) ∧ (-1 : Int) ∉ ws.map (fun w => numI (numV w))) ∨ (numsV ws = none ∧ (-1 : Int) ∈ ws.map (fun w => numI (numV w))) := by
  induction ws with
  | nil => exact .inl ⟨[], rfl, rfl, by simp⟩
  | cons w ws ih =>
    cases q : numV w with
    | none =>
      refine .inr ⟨by show (numV w).bind _ = _; rw [q]; rfl, ?_⟩
      rw [List.map_cons, q]
      exact List.mem_cons_self
    | some n =>
      rcases ih with ⟨ns, e1, e2, e3⟩ | ⟨e1, e2⟩
      · refine .inl ⟨n :: ns, by show (numV w).bind _ = _; rw [q]; show (numsV ws).map _ = _; rw [e1]; rfl, ?_, ?_⟩
        · rw [List.map_cons, e2, q]
          rfl
        · rw [List.map_cons, q]
          intro z
          rcases List.mem_cons.mp z with z | z
          · have : (-1 : Int) = (n : Int) := z
            omega
          · exact e3 z
      · refine .inr ⟨by show (numV w).bind _ = _; rw [q]; show (numsV ws).map _ = _; rw [e1]; rfl, ?_⟩
        rw [List.map_cons]
        exact List.mem_cons_of_mem _ e2
theorem law_numbers_ok (row word : Str) (ok : OkT row) (okw : OkT word) : ∃ r : T, m_law_numbers [.leaf (.str row), .leaf (.str word)] = some (r, [.leaf (.str row), .leaf (.str word)]) ∧ r.fz = some (.list ((numsW (tl row) (tl word)).map natD)) := by
  have es := split_tl (x := row) tl_sp (by decide)
  have ek := okSplit_ok tl_sp (by decide) ok
  obtain ⟨h1, h2, h3⟩ := split_part (x := row) tl_sp (by decide) ok
  have hl := ok.len
  generalize hW : Txt.split row (" " : Str) = ws at *
  obtain ⟨w, r, rfl⟩ : ∃ w r, ws = w :: r := by
    cases ws with
    | nil => exact absurd rfl h3
    | cons w r => exact ⟨w, r, rfl⟩
  have c1 : Tl.cutD ((w :: r).map PyData.str) (some (1 : Int)) none = r.map PyData.str := cut_from ((w :: r).map PyData.str) 1
  have ixW : gIx [rd (.list ((w :: r).map PyData.str)), rd (.int 0)] = some (rd (.str w)) := by
    have : ixN ((w :: r).map PyData.str).length 0 = some 0 := by simp [ixN]
    show (L2.atI ((w :: r).map PyData.str) 0).map rd = _
    unfold L2.atI
    rw [this]
    rfl
  have f1 : s_law_numbers_1 ⟨[some (.str row), some (.str word), none, none, none], []⟩ = some (.nx ⟨[some (.str row), some (.str word), some (.list ((w :: r).map PyData.str)), none, none], []⟩) := by
    simp [s_law_numbers_1, ek, hW]
  generalize hWW : (w :: r).map PyData.str = W at *
  have f2 : s_law_numbers_2 ⟨[some (.str row), some (.str word), some (.list W), none, none], []⟩ = some (.nx ⟨[some (.str row), some (.str word), some (.list W), some (.list ((r.map fun s => numI (numV (tl s))).map PyData.int)), none], []⟩) := by
    generalize hG : s_law_numbers_2 _ = y
    simp [s_law_numbers_2, c1] at hG
    generalize hC : lcLoop _ _ _ _ _ _ _ _ _ = z at hG
    obtain rfl := lc_typM hC (fun s => .int (numI (numV (tl s)))) rfl fun s m => by
      have ln := law_number_ok s (h2 s (List.mem_cons_of_mem _ m)).2
      exact ⟨_, by simp; rfl, rd (.int (numI (numV (tl s)))), by simp [ln], rfl⟩
    rw [← hG]
    simp [Function.comp_def]
  have sw : SeqAt.shaped (.str w) = true := shS (h2 w List.mem_cons_self).2.sig
  have sd : SeqAt.shaped (.str word) = true := shS okw.sig
  have cq : (w == word) = decide (tl w = tl word) := beq_tl w word
  have si := shaped_ints63 (r.map fun s => numI (numV (tl s)))
  have an := any_neg63 (r.map fun s => numI (numV (tl s)))
  have fd := found63 (r.map tl)
  have em : (r.map tl).map (fun w => numI (numV w)) = r.map fun s => numI (numV (tl s)) := by simp
  rw [em] at fd
  have s1 : SeqAt.shaped (.int (-1)) = true := rfl
  have eN : numsW (tl row) (tl word) = if tl w = tl word then (numsV (r.map tl)).getD [] else [] := by
    unfold numsW
    rw [← es]
    rfl
  generalize (r.map fun s => numI (numV (tl s))) = Z at *
  by_cases q : tl w = tl word
  · rcases fd with ⟨ns, e1, e2, e3⟩ | ⟨e1, e2⟩
    · refine ⟨.leaf (.list (ns.map natD)), ?_, by rw [eN, if_pos q, e1]; rfl⟩
      have ez : Z.map PyData.int = ns.map natD := by
        rw [e2, List.map_map]
        rfl
      rw [decide_eq_false e3] at an
      have f3 : s_law_numbers_3 ⟨[some (.str row), some (.str word), some (.list W), some (.list (Z.map PyData.int)), none], []⟩ = some (.rt (.leaf (.list (Z.map PyData.int))) ⟨[some (.str row), some (.str word), some (.list W), some (.list (Z.map PyData.int)), none], []⟩) := by
        generalize Z.map PyData.int = ZD at *
        simp [s_law_numbers_3, ixW, sw, sd, cq, q, si, an, s1]
      rw [ez] at f2 f3
      simp [m_law_numbers, pieces_law_numbers, f1, f2, f3]
    · refine ⟨.fl [], ?_, by rw [eN, if_pos q, e1]; rfl⟩
      rw [decide_eq_true e2] at an
      have f3 : s_law_numbers_3 ⟨[some (.str row), some (.str word), some (.list W), some (.list (Z.map PyData.int)), none], []⟩ = some (.rt (.fl []) ⟨[some (.str row), some (.str word), some (.list W), some (.list (Z.map PyData.int)), none], []⟩) := by
        generalize Z.map PyData.int = ZD at *
        simp [s_law_numbers_3, ixW, sw, sd, cq, q, si, an, s1]
      generalize Z.map PyData.int = ZD at *
      simp [m_law_numbers, pieces_law_numbers, f1, f2, f3]
  · refine ⟨.fl [], ?_, by rw [eN, if_neg q]; rfl⟩
    have f3 : s_law_numbers_3 ⟨[some (.str row), some (.str word), some (.list W), some (.list (Z.map PyData.int)), none], []⟩ = some (.rt (.fl []) ⟨[some (.str row), some (.str word), some (.list W), some (.list (Z.map PyData.int)), none], []⟩) := by
      generalize Z.map PyData.int = ZD at *
      simp [s_law_numbers_3, ixW, sw, sd, cq, q]
    generalize Z.map PyData.int = ZD at *
    simp [m_law_numbers, pieces_law_numbers, f1, f2, f3]
end La

namespace La
open PySem PySem.Spec PyProof.Rows L2 Tl TL
theorem laneR_W (h : Nat) (l : List Nat) : laneR h l = laneO h (some (numsW l (tl ("lane" : Str)))) := by
  rw [laneR_P]
  unfold laneP numsW
  cases cutL 32 l with
  | nil => rfl
  | cons w ws =>
    simp only
    by_cases q : w = tl ("lane" : Str)
    · rw [if_pos q, if_pos q]
      cases numsV ws <;> rfl
    · rw [if_neg q, if_neg q]
      rfl
def houseO : List Nat → Option Nat
  | [n] => if 1 ≤ n then some n else none
  | _ => none
theorem housesR_W (l : List Nat) : housesR l = houseO (numsW l (tl ("houses" : Str))) := by
  unfold housesR numsW
  cases cutL 32 l with
  | nil => rfl
  | cons w ws =>
    simp only
    by_cases q : w = tl ("houses" : Str)
    · rw [if_pos q, if_pos q]
      cases h : numsV ws with
      | none => rfl
      | some ns =>
        match ns with
        | [] => rfl
        | [n] => rfl
        | _ :: _ :: _ => rfl
    · rw [if_neg q, if_neg q]
      rfl
abbrev lrS (t W F : D) (x4 x5 x6 : Option D) (acc : List D) : SS := ⟨[some t, some W, some F, none, x4, x5, x6], [(3, .fl acc)]⟩
theorem ok_lane : OkT ("lane" : Str) := ⟨by decide +kernel, by decide +kernel⟩
theorem ok_houses : OkT ("houses" : Str) := ⟨by decide +kernel, by decide +kernel⟩
theorem lr_test {t W : D} {bi ei mi hi k : Int} {x5 : Option D} {acc : List D} : s_law_net_read_5b_2 (lrS t W (.list [.int hi]) (some (.int k)) x5 (some (.list [.int bi, .int ei, .int mi])) acc) = some (if hi ≤ max bi ei ∨ bi = ei ∨ mi < 1 then .rt (.leaf (.int (k + 1))) (lrS t W (.list [.int hi]) (some (.int k)) x5 (some (.list [.int bi, .int ei, .int mi])) acc) else .nx (lrS t W (.list [.int hi]) (some (.int k)) x5 (some (.list [.int bi, .int ei, .int mi])) acc)) := by
  have cut2 : Tl.cutD ([.int bi, .int ei, .int mi] : List D) none (some (2 : Int)) = [.int bi, .int ei] := rfl
  have mx : gMax [.val (.fl [.int bi, .int ei])] = some (rInt (max bi ei)) := rfl
  have ge : ∀ M : Int, gGe [rInt M, rInt hi] = some (rBool (decide (hi ≤ M))) := fun M => by simp
  generalize max bi ei = M at *
  by_cases q1 : hi ≤ M
  · have g := ge M
    rw [decide_eq_true q1] at g
    simp [-r_gMax, s_law_net_read_5b_2, cut2, mx, g, q1]
  · have g := ge M
    rw [decide_eq_false q1] at g
    by_cases q2 : bi = ei
    · have q2' := eq_true q2
      simp [-r_gMax, s_law_net_read_5b_2, cut2, mx, g, q1, q2']
    · by_cases q3 : mi < 1
      · simp [-r_gMax, s_law_net_read_5b_2, cut2, mx, g, q1, q2, q3]
      · simp [-r_gMax, s_law_net_read_5b_2, cut2, mx, g, q1, q2, q3]
theorem lr_turn {t W : D} {h k : Nat} {r : Str} {x6 : Option D} {acc : List D} (ok : OkT r) (ha : acc.length < 16000000) : ∃ y6 : Option D, s_law_net_read_5b (lrS t W (.list [natD h]) (some (.int (k : Nat))) (some (.str r)) x6 acc) = some (match laneR h (tl r) with
    | some l => .nx (lrS t W (.list [natD h]) (some (.int (k : Nat))) (some (.str r)) y6 (acc ++ [laneD l]))
    | none => .rt (.leaf (.int ((k : Nat) + 1))) (lrS t W (.list [natD h]) (some (.int (k : Nat))) (some (.str r)) y6 acc)) := by
  obtain ⟨rr, e1, ef⟩ := law_numbers_ok r "lane" ok ok_lane
  rw [laneR_W]
  generalize numsW (tl r) (tl ("lane" : Str)) = Z at *
  refine ⟨some (.list (Z.map natD)), ?_⟩
  have f1 : s_law_net_read_5b_1 (lrS t W (.list [natD h]) (some (.int (k : Nat))) (some (.str r)) x6 acc) = some (.nx (lrS t W (.list [natD h]) (some (.int (k : Nat))) (some (.str r)) (some (.list (Z.map natD))) acc)) := by
    generalize natD h = HD at *
    generalize Z.map natD = ZD at *
    simp [s_law_net_read_5b_1, e1, ef]
  by_cases q3 : Z.length = 3
  · obtain ⟨b, e, m, rfl⟩ : ∃ b e m, Z = [b, e, m] := by
      match Z, q3 with
      | [b, e, m], _ => exact ⟨b, e, m, rfl⟩
    have lo : laneO h (some [b, e, m]) = if b < h ∧ e < h ∧ b ≠ e ∧ 1 ≤ m then some ⟨b, e, m⟩ else none := rfl
    rw [lo]
    have ts := lr_test (t := t) (W := W) (bi := (b : Nat)) (ei := (e : Nat)) (mi := (m : Nat)) (hi := (h : Nat)) (k := (k : Nat)) (x5 := some (.str r)) (acc := acc)
    have l3 : [b, e, m].map natD = [natD b, natD e, natD m] := rfl
    rw [l3] at f1 ⊢
    by_cases q : b < h ∧ e < h ∧ b ≠ e ∧ 1 ≤ m
    · rw [if_pos q]
      obtain ⟨q1, q2, q4, q5⟩ := q
      have f2 : s_law_net_read_5b_2 (lrS t W (.list [natD h]) (some (.int (k : Nat))) (some (.str r)) (some (.list [natD b, natD e, natD m])) acc) = some (.nx (lrS t W (.list [natD h]) (some (.int (k : Nat))) (some (.str r)) (some (.list [natD b, natD e, natD m])) acc)) := by
        have ng : ¬ ((h : Int) ≤ max (b : Int) (e : Int) ∨ (b : Int) = (e : Int) ∨ (m : Int) < 1) := by omega
        rw [if_neg ng] at ts
        exact ts
      have f3 : s_law_net_read_5b_3 (lrS t W (.list [natD h]) (some (.int (k : Nat))) (some (.str r)) (some (.list [natD b, natD e, natD m])) acc) = some (.nx (lrS t W (.list [natD h]) (some (.int (k : Nat))) (some (.str r)) (some (.list [natD b, natD e, natD m])) (acc ++ [laneD ⟨b, e, m⟩]))) := by
        have el : laneD ⟨b, e, m⟩ = .tuple [natD b, natD e, natD m] := rfl
        rw [el]
        generalize natD h = HD at *
        generalize natD b = BD at *
        generalize natD e = ED at *
        generalize natD m = MD at *
        simp [s_law_net_read_5b_3, ha]
      exact (seqN62 f1).trans ((seqN62 f2).trans ((seqN62 f3).trans rfl))
    · rw [if_neg q]
      have f2 : s_law_net_read_5b_2 (lrS t W (.list [natD h]) (some (.int (k : Nat))) (some (.str r)) (some (.list [natD b, natD e, natD m])) acc) = some (.rt (.leaf (.int ((k : Nat) + 1))) (lrS t W (.list [natD h]) (some (.int (k : Nat))) (some (.str r)) (some (.list [natD b, natD e, natD m])) acc)) := by
        have ps : ((h : Int) ≤ max (b : Int) (e : Int) ∨ (b : Int) = (e : Int) ∨ (m : Int) < 1) := by omega
        rw [if_pos ps] at ts
        exact ts
      exact (seqN62 f1).trans ((seqR62 f2).trans rfl)
  · have ln : ¬ ((Z.map natD).length : Int) = 3 := by rw [List.length_map]; omega
    have lo : laneO h (some Z) = none := by
      match Z, q3 with
      | [], _ => rfl
      | [_], _ => rfl
      | [_, _], _ => rfl
      | [_, _, _], z => exact absurd rfl z
      | _ :: _ :: _ :: _ :: _, _ => rfl
    rw [lo]
    have f2 : s_law_net_read_5b_2 (lrS t W (.list [natD h]) (some (.int (k : Nat))) (some (.str r)) (some (.list (Z.map natD))) acc) = some (.rt (.leaf (.int ((k : Nat) + 1))) (lrS t W (.list [natD h]) (some (.int (k : Nat))) (some (.str r)) (some (.list (Z.map natD))) acc)) := by
      generalize natD h = HD at *
      generalize Z.map natD = ZD at *
      simp [s_law_net_read_5b_2, ln]
    exact (seqN62 f1).trans ((seqR62 f2).trans rfl)
theorem lr_loop {t W : D} {h : Nat} : ∀ (rs : List Str) (k : Nat) (acc : List D) (x4 x5 x6 : Option D), (∀ r ∈ rs, OkT r) → acc.length + rs.length ≤ 10000000 →
    ∃ (y4 y5 y6 : Option D) (acc' : List D), forL [4, 5] (gtT (gtCons (gtN 4) (gtCons (gtN 5) gtNil))) s_law_net_read_5b (enumFrom k (rs.map PyData.str)) (lrS t W (.list [natD h]) x4 x5 x6 acc) = some (match lanesBad h (rs.map tl) with
      | some i => .rt (.leaf (.int ((k + i : Nat) + 1))) (lrS t W (.list [natD h]) y4 y5 y6 acc')
      | none => .nx (lrS t W (.list [natD h]) y4 y5 y6 acc')) ∧ (∀ L, lanesR h (rs.map tl) = some L → acc' = acc ++ L.map laneD)
  | [], k, acc, x4, x5, x6, _, _ => ⟨x4, x5, x6, acc, rfl, fun L e => by cases e; simp⟩
  | r :: rs, k, acc, x4, x5, x6, ok, hz => by
    simp only [List.length_cons] at hz
    obtain ⟨y6, tn⟩ := lr_turn (t := t) (W := W) (h := h) (r := r) (x6 := x6) (acc := acc) (k := k) (ok r List.mem_cons_self) (by omega)
    have eF : forL [4, 5] (gtT (gtCons (gtN 4) (gtCons (gtN 5) gtNil))) s_law_net_read_5b (enumFrom k ((r :: rs).map PyData.str)) (lrS t W (.list [natD h]) x4 x5 x6 acc) = (s_law_net_read_5b (lrS t W (.list [natD h]) (some (.int k)) (some (.str r)) x6 acc)).bind fun o => match o with
        | .nx s1 => forL [4, 5] (gtT (gtCons (gtN 4) (gtCons (gtN 5) gtNil))) s_law_net_read_5b (enumFrom (k + 1) (rs.map PyData.str)) s1
        | .ct s1 => forL [4, 5] (gtT (gtCons (gtN 4) (gtCons (gtN 5) gtNil))) s_law_net_read_5b (enumFrom (k + 1) (rs.map PyData.str)) s1
        | .bk s1 => some (.nx s1)
        | .rt t s1 => some (.rt t s1) := rfl
    have eB : lanesBad h ((r :: rs).map tl) = (match laneR h (tl r) with
      | none => some 0
      | some _ => (lanesBad h (rs.map tl)).map (· + 1)) := rfl
    have eL : lanesR h ((r :: rs).map tl) = (laneR h (tl r)).bind fun l => (lanesR h (rs.map tl)).map (l :: ·) := rfl
    rw [eF, tn, eB, eL]
    cases q : laneR h (tl r) with
    | none => exact ⟨some (.int k), some (.str r), y6, acc, rfl, fun L e => by cases e⟩
    | some l =>
      obtain ⟨z4, z5, z6, acc', ih, ia⟩ := lr_loop (t := t) (W := W) (h := h) rs (k + 1) (acc ++ [laneD l]) (some (.int k)) (some (.str r)) y6 (fun r m => ok r (List.mem_cons_of_mem _ m)) (by rw [List.length_append]; simp; omega)
      refine ⟨z4, z5, z6, acc', ?_, fun L e => ?_⟩
      · show forL _ _ _ (enumFrom (k + 1) (rs.map PyData.str)) (lrS t W (.list [natD h]) (some (.int k)) (some (.str r)) y6 (acc ++ [laneD l])) = _
        rw [ih]
        cases q2 : lanesBad h (rs.map tl) with
        | none => rfl
        | some i =>
          simp only [Option.map_some]
          rw [show k + 1 + i = k + (i + 1) by omega]
      · obtain ⟨L', e1, e2⟩ := Option.map_eq_some_iff.mp (show (lanesR h (rs.map tl)).map (l :: ·) = some L from e)
        subst e2
        rw [ia L' e1, List.map_cons, List.append_assoc]
        rfl
/-- what the law reads -/
def readD (l : List Nat) : D :=
  match netBad l with
  | some i => .int (i : Nat)
  | none => match netR l with
    | some (h, L) => netT h L
    | none => .none
theorem law_net_read_ok (text : Str) (ok : OkT text) : m_law_net_read [.leaf (.str text)] = some (.leaf (readD (tl text)), [.leaf (.str text)]) := by
  have es := split_tl (x := text) tl_nl (by decide)
  have ek := okSplit_ok tl_nl (by decide) ok
  obtain ⟨h1, h2, h3⟩ := split_part (x := text) tl_nl (by decide) ok
  have hl := ok.len
  generalize hW : Txt.split text ("\n" : Str) = ws at *
  obtain ⟨w, r, rfl⟩ : ∃ w r, ws = w :: r := by
    cases ws with
    | nil => exact absurd rfl h3
    | cons w r => exact ⟨w, r, rfl⟩
  obtain ⟨rr, e1, ef⟩ := law_numbers_ok w "houses" (h2 w List.mem_cons_self).2 ok_houses
  have c1 : Tl.cutD ((w :: r).map PyData.str) (some (1 : Int)) none = r.map PyData.str := cut_from ((w :: r).map PyData.str) 1
  have ixW : gIx [rd (.list ((w :: r).map PyData.str)), rd (.int 0)] = some (rd (.str w)) := by
    have : ixN ((w :: r).map PyData.str).length 0 = some 0 := by simp [ixN]
    show (L2.atI ((w :: r).map PyData.str) 0).map rd = _
    unfold L2.atI
    rw [this]
    rfl
  have eNB : netBad (tl text) = (match housesR (tl w) with
    | none => some 0
    | some h => (lanesBad h (r.map tl)).map (· + 1)) := by
    unfold netBad
    rw [← es]
    rfl
  have eNR : netR (tl text) = (housesR (tl w)).bind fun h => (lanesR h (r.map tl)).map fun L => (h, L) := by
    unfold netR
    rw [← es]
    rfl
  have f1 : s_law_net_read_1 ⟨[some (.str text), none, none, none, none, none, none], []⟩ = some (.nx ⟨[some (.str text), some (.list ((w :: r).map PyData.str)), none, none, none, none, none], []⟩) := by
    simp [s_law_net_read_1, ek, hW]
  rw [housesR_W] at eNB eNR
  generalize numsW (tl w) (tl ("houses" : Str)) = Z at *
  have lps := fun h => lr_loop (t := .str text) (W := .list ((w :: r).map PyData.str)) (h := h) r 0 [] none none none (fun u m => (h2 u (List.mem_cons_of_mem _ m)).2) (by simp only [List.length_cons] at h1; simp; omega)
  generalize (w :: r).map PyData.str = W at *
  have f2 : s_law_net_read_2 ⟨[some (.str text), some (.list W), none, none, none, none, none], []⟩ = some (.nx ⟨[some (.str text), some (.list W), some (.list (Z.map natD)), none, none, none, none], []⟩) := by
    generalize Z.map natD = ZD at *
    simp [s_law_net_read_2, ixW, e1, ef]
  by_cases q : ∃ h, Z = [h] ∧ 1 ≤ h
  · obtain ⟨h, rfl, hh⟩ := q
    have hO : houseO [h] = some h := if_pos hh
    rw [hO] at eNB eNR
    have eNB : netBad (tl text) = (lanesBad h (r.map tl)).map (· + 1) := eNB
    have f3 : s_law_net_read_3 ⟨[some (.str text), some (.list W), some (.list ([h].map natD)), none, none, none, none], []⟩ = some (.nx ⟨[some (.str text), some (.list W), some (.list [natD h]), none, none, none, none], []⟩) := by
      have n1 : ¬ (h : Int) < 1 := by omega
      have n2 : ¬ h = 0 := by omega
      have n3 : ¬ h < 1 := by omega
      simp [s_law_net_read_3, natD, n1, n2, n3]
    have f4 : s_law_net_read_4 ⟨[some (.str text), some (.list W), some (.list [natD h]), none, none, none, none], []⟩ = some (.nx (lrS (.str text) (.list W) (.list [natD h]) none none none [])) := by
      generalize natD h = HD at *
      simp [s_law_net_read_4]
    obtain ⟨y4, y5, y6, acc, lp, la⟩ := lps h
    have f5 : s_law_net_read_5 (lrS (.str text) (.list W) (.list [natD h]) none none none []) = some (match lanesBad h (r.map tl) with
      | some i => .rt (.leaf (.int ((0 + i : Nat) + 1))) (lrS (.str text) (.list W) (.list [natD h]) y4 y5 y6 acc)
      | none => .nx (lrS (.str text) (.list W) (.list [natD h]) y4 y5 y6 acc)) := by
      rw [← lp]
      generalize natD h = HD at *
      generalize r.map PyData.str = W2 at *
      simp [s_law_net_read_5, c1]
    cases q2 : lanesBad h (r.map tl) with
    | some i =>
      rw [q2] at f5 eNB
      have eb : netBad (tl text) = some (i + 1) := eNB
      have rdE : readD (tl text) = .int ((0 + i : Nat) + 1) := by
        unfold readD
        rw [eb]
        show PyData.int ((i + 1 : Nat) : Int) = _
        rw [show ((i + 1 : Nat) : Int) = ((0 + i : Nat) : Int) + 1 by omega]
      rw [rdE]
      have eB : b_law_net_read ⟨[some (.str text), none, none, none, none, none, none], []⟩ = _ := (pieces_law_net_read ▸ (seqN62 f1).trans ((seqN62 f2).trans ((seqN62 f3).trans ((seqN62 f4).trans (seqR62 f5)))))
      simp only [m_law_net_read]
      simp [eB]
    | none =>
      rw [q2] at f5 eNB
      have eb : netBad (tl text) = none := eNB
      obtain ⟨L, eL⟩ := lanesBad_none q2
      have er : netR (tl text) = some (h, L) := by
        rw [eNR]
        show (lanesR h (r.map tl)).map _ = _
        rw [eL]
        rfl
      have ea := la L eL
      rw [List.nil_append] at ea
      subst ea
      have rdE : readD (tl text) = netT h L := by
        unfold readD
        rw [eb, er]
      rw [rdE]
      have f6 : s_law_net_read_6 (lrS (.str text) (.list W) (.list [natD h]) y4 y5 y6 (L.map laneD)) = some (.rt (.leaf (netT h L)) ⟨[some (.str text), some (.list W), some (.list [natD h]), some (.list (L.map laneD)), y4, y5, y6], []⟩) := by
        have en : netT h L = .tuple [natD h, .list (L.map laneD)] := rfl
        rw [en]
        generalize natD h = HD at *
        generalize L.map laneD = LD at *
        simp [s_law_net_read_6]
      have eB : b_law_net_read ⟨[some (.str text), none, none, none, none, none, none], []⟩ = some (.rt (.leaf (netT h L)) ⟨[some (.str text), some (.list W), some (.list [natD h]), some (.list (L.map laneD)), y4, y5, y6], []⟩) := by
        rw [pieces_law_net_read, seqN62 f1, seqN62 f2, seqN62 f3, seqN62 f4, seqN62 f5, seqR62 f6]
      simp only [m_law_net_read]
      simp [eB]
  · have hO : houseO Z = none := by
      match Z, q with
      | [], _ => rfl
      | [n], q => exact if_neg fun z => q ⟨n, rfl, z⟩
      | _ :: _ :: _, _ => rfl
    rw [hO] at eNB
    have eb : netBad (tl text) = some 0 := eNB
    have rdE : readD (tl text) = .int 0 := by
      unfold readD
      rw [eb]
      rfl
    rw [rdE]
    have f3 : s_law_net_read_3 ⟨[some (.str text), some (.list W), some (.list (Z.map natD)), none, none, none, none], []⟩ = some (.rt (.leaf (.int 0)) ⟨[some (.str text), some (.list W), some (.list (Z.map natD)), none, none, none, none], []⟩) := by
      by_cases l1 : Z.length = 1
      · obtain ⟨n, rfl⟩ : ∃ n, Z = [n] := by
          match Z, l1 with
          | [n], _ => exact ⟨n, rfl⟩
        have n0 : n = 0 := by
          refine Classical.byContradiction fun z => q ⟨n, rfl, by omega⟩
        subst n0
        simp [s_law_net_read_3, natD]
      · have ln : ¬ ((Z.map natD).length : Int) = 1 := by rw [List.length_map]; omega
        generalize Z.map natD = ZD at *
        simp [s_law_net_read_3, ln]
    have eB : b_law_net_read ⟨[some (.str text), none, none, none, none, none, none], []⟩ = some (.rt (.leaf (.int 0)) ⟨[some (.str text), some (.list W), some (.list (Z.map natD)), none, none, none, none], []⟩) := by
      rw [pieces_law_net_read, seqN62 f1, seqN62 f2, seqR62 f3]
    simp only [m_law_net_read]
    simp [eB]
end La

namespace La
open PySem PySem.Spec PyProof.Rows L2 Tl TL
theorem join_spl63 (s : Nat) : ∀ (l acc : List Nat), joinL [s] (spl [s] 0 acc l) = acc ++ l
  | [], acc => by
    rw [spl_nil]
    simp [joinL]
  | c :: r, acc => by
    rw [spl_c]
    by_cases q : c = s
    · rw [if_pos q]
      have ih := join_spl63 s r []
      have ne := (spl_facts s r []).2.2
      cases h : spl [s] 0 [] r with
      | nil => exact absurd h ne
      | cons x xs =>
        rw [h] at ih
        show acc ++ ([s] ++ joinL [s] (x :: xs)) = _
        rw [ih, q]
        rfl
    · rw [if_neg q, join_spl63 s r (acc ++ [c]), List.append_assoc]
      rfl
theorem join_cut63 (s : Nat) (l : List Nat) : joinL [s] (cutL s l) = l := join_spl63 s l []
theorem digits_lt63 {l : List Nat} (ad : NumText.AllDigits l) (h : l.length ≤ 6) : NumText.digitsVal l < 1000000 := by
  have b : ∀ (cs : List Nat) (a : Nat), (∀ c ∈ cs, 48 ≤ c ∧ c ≤ 57) → cs.foldl (fun acc c => acc * 10 + (c - 48)) a < (a + 1) * 10 ^ cs.length := by
    intro cs
    induction cs with
    | nil => intro a _; simp
    | cons c cs ih =>
      intro a h
      have hc := h c List.mem_cons_self
      have := ih (a * 10 + (c - 48)) fun x m => h x (List.mem_cons_of_mem _ m)
      rw [List.foldl_cons, List.length_cons, Nat.pow_succ]
      refine Nat.lt_of_lt_of_le this ?_
      rw [Nat.mul_comm (10 ^ cs.length) 10, ← Nat.mul_assoc]
      exact Nat.mul_le_mul_right _ (by omega)
  have := b l 0 ad
  rw [Nat.zero_add, Nat.one_mul] at this
  refine Nat.lt_of_lt_of_le this ?_
  have : 10 ^ l.length ≤ 10 ^ 6 := Nat.pow_le_pow_right (by decide) h
  exact this
theorem numV_back63 {w : List Nat} {n : Nat} (e : numV w = some n) : w = numL n ∧ n < 1000000 := by
  unfold numV at e
  by_cases q : (1 ≤ w.length ∧ w.length ≤ 6) ∧ (w.all fun c => decide (48 ≤ c ∧ c ≤ 57)) = true ∧ (w.head? = some 48 → w = [48])
  · rw [if_pos q] at e
    cases e
    have ad : NumText.AllDigits w := fun c m => of_decide_eq_true (List.all_eq_true.mp q.2.1 c m)
    have ne : w ≠ [] := fun z => by
      have := q.1.1
      rw [z] at this
      simp at this
    exact ⟨((canon63 ad ne).mpr q.2.2).symm, digits_lt63 ad q.1.2⟩
  · rw [if_neg q] at e
    cases e
theorem numsV_back63 : ∀ {ws : List (List Nat)} {ns : List Nat}, numsV ws = some ns → ws = ns.map numL ∧ ∀ n ∈ ns, n < 1000000
  | [], ns, e => by
    cases e
    exact ⟨rfl, fun n m => nomatch m⟩
  | w :: ws, ns, e => by
    obtain ⟨n, e1, e2⟩ := Option.bind_eq_some_iff.mp (show (numV w).bind _ = some ns from e)
    obtain ⟨ns', e3, e4⟩ := Option.map_eq_some_iff.mp e2
    subst e4
    obtain ⟨a, b⟩ := numV_back63 e1
    obtain ⟨c, d⟩ := numsV_back63 e3
    refine ⟨by rw [List.map_cons, ← a, ← c], fun x m => ?_⟩
    rcases List.mem_cons.mp m with rfl | m
    · exact b
    · exact d x m
theorem houses_back63 {l : List Nat} {h : Nat} (e : housesR l = some h) : l = tl (houseS h) ∧ 1 ≤ h ∧ h < 1000000 := by
  have jc := join_cut63 32 l
  unfold housesR at e
  cases q : cutL 32 l with
  | nil =>
    rw [q] at e
    cases e
  | cons w ws =>
    rw [q] at e jc
    simp only at e
    by_cases q2 : w = tl ("houses" : Str)
    · rw [if_pos q2] at e
      cases q3 : numsV ws with
      | none =>
        rw [q3] at e
        cases e
      | some ns =>
        rw [q3] at e
        obtain ⟨a, b⟩ := numsV_back63 q3
        match ns, e, a, b with
        | [n], e, a, b =>
          have e : (if 1 ≤ n then some n else none) = some h := e
          by_cases q4 : 1 ≤ n
          · rw [if_pos q4] at e
            cases e
            refine ⟨?_, q4, b h List.mem_cons_self⟩
            rw [tl_houseS, ← jc, a, q2]
            rfl
          · rw [if_neg q4] at e
            cases e
    · rw [if_neg q2] at e
      cases e
theorem lane_back63 {h : Nat} {l : List Nat} {x : Lane} (e : laneR h l = some x) : l = tl (laneS x) ∧ (x.b < h ∧ x.e < h ∧ x.b ≠ x.e ∧ 1 ≤ x.r) ∧ x.b < 1000000 ∧ x.e < 1000000 ∧ x.r < 1000000 := by
  have jc := join_cut63 32 l
  unfold laneR at e
  cases q : cutL 32 l with
  | nil =>
    rw [q] at e
    cases e
  | cons w ws =>
    rw [q] at e jc
    simp only at e
    by_cases q2 : w = tl ("lane" : Str)
    · rw [if_pos q2] at e
      cases q3 : numsV ws with
      | none =>
        rw [q3] at e
        cases e
      | some ns =>
        rw [q3] at e
        obtain ⟨a, b⟩ := numsV_back63 q3
        match ns, e, a, b with
        | [n, m, k], e, a, b =>
          have e : (if n < h ∧ m < h ∧ n ≠ m ∧ 1 ≤ k then some (⟨n, m, k⟩ : Lane) else none) = some x := e
          by_cases q4 : n < h ∧ m < h ∧ n ≠ m ∧ 1 ≤ k
          · rw [if_pos q4] at e
            cases e
            refine ⟨?_, q4, b n (by simp), b m (by simp), b k (by simp)⟩
            rw [tl_laneS, ← jc, a, q2]
            rfl
          · rw [if_neg q4] at e
            cases e
    · rw [if_neg q2] at e
      cases e
theorem lanes_back63 {h : Nat} : ∀ {rs : List (List Nat)} {L : List Lane}, lanesR h rs = some L → rs = (L.map laneS).map tl ∧ L.length = rs.length ∧ ∀ x ∈ L, (x.b < h ∧ x.e < h ∧ x.b ≠ x.e ∧ 1 ≤ x.r) ∧ x.b < 1000000 ∧ x.e < 1000000 ∧ x.r < 1000000
  | [], L, e => by
    cases e
    exact ⟨rfl, rfl, fun x m => nomatch m⟩
  | r :: rs, L, e => by
    obtain ⟨l, e1, e2⟩ := Option.bind_eq_some_iff.mp (show (laneR h r).bind _ = some L from e)
    obtain ⟨L', e3, e4⟩ := Option.map_eq_some_iff.mp e2
    subst e4
    obtain ⟨a, b⟩ := lane_back63 e1
    obtain ⟨c, d, f⟩ := lanes_back63 e3
    refine ⟨by rw [List.map_cons, List.map_cons, ← a, ← c], by rw [List.length_cons, List.length_cons, d], fun x m => ?_⟩
    rcases List.mem_cons.mp m with rfl | m
    · exact b
    · exact f x m
theorem net_read63 {text : Str} (ok : OkT text) (small : text.length ≤ 90000) {h : Nat} {L : List Lane} (e : netR (tl text) = some (h, L)) : text = netS h L ∧ Sm h L := by
  have jc := join_cut63 10 (tl text)
  have sf := (spl_facts 10 (tl text) []).1
  have hl := len_tl text
  unfold netR at e
  cases q : cutL 10 (tl text) with
  | nil =>
    rw [q] at e
    cases e
  | cons r rs =>
    have hr : (r :: rs).length ≤ (tl text).length + 1 := by rw [← q]; exact sf
    rw [q] at e jc
    obtain ⟨h', e1, e2⟩ := Option.bind_eq_some_iff.mp (show (housesR r).bind (fun h => (lanesR h rs).map fun L => (h, L)) = some (h, L) from e)
    obtain ⟨L', e3, e4⟩ := Option.map_eq_some_iff.mp e2
    cases e4
    obtain ⟨a, b, c⟩ := houses_back63 e1
    obtain ⟨d, f, g⟩ := lanes_back63 e3
    refine ⟨ext_tl ?_, c, ?_, fun l m => (g l m).2⟩
    · rw [tl_netS, List.map_cons, ← a, ← d, jc]
    · rw [List.length_cons] at hr
      omega
end La

namespace La
open PySem PySem.Spec PyProof.Rows L2 Tl TL
theorem right63_ok (text : Str) (ok : OkT text) (small : text.length ≤ 90000) : m_law_right_k63 [.leaf (.str text)] = some (.leaf (.bool true), [.leaf (.str text)]) := by
  have er := law_net_read_ok text ok
  simp only [m_law_right_k63]
  have f1 : s_law_right_k63_1 ⟨[some (.str text), none, none, none, none], []⟩ = some (.nx ⟨[some (.str text), some (readD (tl text)), none, none, none], []⟩) := by
    generalize readD (tl text) = RD at *
    simp [s_law_right_k63_1, er]
  have f2 : s_law_right_k63_2 ⟨[some (.str text), some (readD (tl text)), none, none, none], []⟩ = some (.nx ⟨[some (.str text), some (readD (tl text)), some .none, some .none, none], []⟩) := by
    generalize readD (tl text) = RD at *
    simp [s_law_right_k63_2]
  cases q : netBad (tl text) with
  | some i =>
    have eR : readD (tl text) = .int (i : Nat) := by
      unfold readD
      rw [q]
    rw [eR] at f1 f2
    have ex := netx_no text ok q
    have ew := word62_ok i
    have k6 := kt6
    have sm := same_text62 i
    have f3 : s_law_right_k63_3 ⟨[some (.str text), some (.int (i : Nat)), some .none, some .none, none], []⟩ = some (.nx ⟨[some (.str text), some (.int (i : Nat)), some .none, some (xcD "BadText" [("row", .int (i : Nat))]), none], []⟩) := by
      simp [s_law_right_k63_3, ex, k6]
    have hn : isNone (xcD "BadText" [("row", .int (i : Nat))]) = false := rfl
    generalize xcD "BadText" [("row", .int (i : Nat))] = z at *
    have f4 : s_law_right_k63_4 ⟨[some (.str text), some (.int (i : Nat)), some .none, some z, none], []⟩ = some (.rt (.leaf (.bool true)) ⟨[some (.str text), some (.int (i : Nat)), some .none, some z, none], []⟩) := by
      simp [s_law_right_k63_4, hn, ew, sm, isIntD]
    have eB : b_law_right_k63 ⟨[some (.str text), none, none, none, none], []⟩ = some (.rt (.leaf (.bool true)) ⟨[some (.str text), some (.int (i : Nat)), some .none, some z, none], []⟩) := by
      rw [pieces_law_right_k63, seqN62 f1, seqN62 f2, seqN62 f3, seqR62 f4]
    simp [eB]
  | none =>
    obtain ⟨h, L, e⟩ := netBad_none q
    have eR : readD (tl text) = netT h L := by
      unfold readD
      rw [q, e]
    rw [eR] at f1 f2
    have ex := netx_ok text ok e
    obtain ⟨et, sm⟩ := net_read63 ok small e
    have sn := same_net62 h L
    have nt := net_text_ok sm
    rw [← et] at nt
    have st : SeqAt.shaped (.str text) = true := shS ok.sig
    have it : isTupD (netT h L) = true := rfl
    have f3 : s_law_right_k63_3 ⟨[some (.str text), some (netT h L), some .none, some .none, none], []⟩ = some (.nx ⟨[some (.str text), some (netT h L), some (netT h L), some .none, none], []⟩) := by
      have en : netT h L = .tuple [natD h, .list (L.map laneD)] := rfl
      rw [en]
      generalize natD h = HD at *
      generalize L.map laneD = LD at *
      simp [s_law_right_k63_3, ex]
    generalize netT h L = N at *
    have f4 : s_law_right_k63_4 ⟨[some (.str text), some N, some N, some .none, none], []⟩ = some (.nx ⟨[some (.str text), some N, some N, some .none, none], []⟩) := by
      simp [s_law_right_k63_4]
    have f5 : s_law_right_k63_5 ⟨[some (.str text), some N, some N, some .none, none], []⟩ = some (.rt (.leaf (.bool true)) ⟨[some (.str text), some N, some N, some .none, none], []⟩) := by
      simp [s_law_right_k63_5, it, sn, nt, st]
    have eB : b_law_right_k63 ⟨[some (.str text), none, none, none, none], []⟩ = some (.rt (.leaf (.bool true)) ⟨[some (.str text), some N, some N, some .none, none], []⟩) := by
      rw [pieces_law_right_k63, seqN62 f1, seqN62 f2, seqN62 f3, seqN62 f4, seqR62 f5]
    simp [eB]
end La

namespace La
open PySem PySem.Spec PyProof.Rows L2 Tl TL
theorem len_join63 (s : Nat) : ∀ (P : List (List Nat)), P ≠ [] → (joinL [s] P).length + 1 = (P.map List.length).sum + P.length
  | [], h => absurd rfl h
  | [p], _ => by simp [joinL]
  | p :: q :: r, _ => by
    have ih := len_join63 s (q :: r) (by simp)
    show (p ++ ([s] ++ joinL [s] (q :: r))).length + 1 = _
    simp only [List.length_append, List.map_cons, List.sum_cons, List.length_cons, List.length_nil] at ih ⊢
    omega
/-- the signs of rows, and their number -/
def szW (W : List Str) : Nat := (W.map (·.length)).sum + W.length
theorem szW_tl (W : List Str) : szW W = ((W.map tl).map List.length).sum + (W.map tl).length := by
  unfold szW
  rw [List.map_map, List.length_map]
  rfl
theorem szW_join {W : List Str} (h : W ≠ []) : (joinN W).length + 1 = szW W := by
  rw [len_tl, tl_joinN, len_join63 10 _ (fun z => h (List.map_eq_nil_iff.mp z)), szW_tl]
theorem szW_app (A B : List Str) : szW (A ++ B) = szW A + szW B := by
  unfold szW
  rw [List.map_append, List.sum_append, List.length_append]
  omega
theorem szW_one (x : Str) : szW [x] = x.length + 1 := by simp [szW]
theorem szW_split (s : Str) : szW (Txt.split s ("\n" : Str)) = s.length + 1 := by
  have e := split_tl (x := s) tl_nl (by decide)
  have jc := join_cut63 10 (tl s)
  have ne : cutL 10 (tl s) ≠ [] := (spl_facts 10 (tl s) []).2.2
  rw [szW_tl, e, ← len_join63 10 _ ne, jc, ← len_tl]
/-- rows of good signs, not too many -/
structure Gr (W : List Str) (n : Nat) : Prop where
  one : ∀ w ∈ W, ∀ c ∈ tl w, c < 0x110000
  sz : szW W ≤ n
theorem Gr.okJ {W : List Str} {n : Nat} (g : Gr W n) (hn : n ≤ 1000000) : okJoin ("\n" : Str) W = true := by
  have e1 : ("\n" : Str).length = 1 := by decide +kernel
  have := g.sz
  unfold szW at this
  unfold okJoin
  rw [e1]
  refine decide_eq_true ?_
  omega
theorem Gr.okT {W : List Str} {n : Nat} (g : Gr W n) (hn : n ≤ 1000000) : OkT (joinN W) ∧ (joinN W).length ≤ n := by
  have hl : (joinN W).length ≤ n := by
    by_cases h : W = []
    · subst h
      rw [len_tl, tl_joinN]
      simp [joinL]
    · have := szW_join h
      have := g.sz
      omega
  refine ⟨⟨by omega, (strOk_iff _).mpr fun c m => ?_⟩, hl⟩
  rw [tl_joinN] at m
  rcases mem_joinL m with z | ⟨p, mp, z⟩
  · simp at z
    omega
  · obtain ⟨w, mw, rfl⟩ := List.mem_map.mp mp
    exact g.one w mw c z
theorem Gr.join {W : List Str} {n : Nat} (g : Gr W n) (hn : n ≤ 1000000) (y : R) (hy : y.its = some (true, W.map PyData.str)) : gJoin [rd (.str (Str.ofString "\n")), y] = some (rd (.str (joinN W))) := by
  show (y.its.bind fun p => (strsD p.2).bind fun ys => if okJoin (Str.ofString "\n") ys = true then some (rd (.str (Txt.join (Str.ofString "\n") ys))) else none) = _
  rw [hy]
  show ((strsD (W.map PyData.str)).bind fun ys => if okJoin (Str.ofString "\n") ys = true then some (rd (.str (Txt.join (Str.ofString "\n") ys))) else none) = _
  rw [strsD_strs]
  show (if okJoin (Str.ofString "\n") W = true then some (rd (.str (Txt.join (Str.ofString "\n") W))) else none) = _
  rw [if_pos (g.okJ hn)]
  rfl
theorem szW_le_mem {W : List Str} {w : Str} (m : w ∈ W) : w.length + 1 ≤ szW W := by
  induction W with
  | nil => cases m
  | cons x W ih =>
    have e : szW (x :: W) = x.length + 1 + szW W := by
      rw [show x :: W = [x] ++ W from rfl, szW_app, szW_one]
    rcases List.mem_cons.mp m with rfl | m
    · omega
    · have := ih m
      omega
theorem szW_set (x : Str) : ∀ (W : List Str) (i : Nat), szW (W.set i x) ≤ szW W + x.length
  | [], _ => by simp [szW]
  | w :: W, 0 => by simp [szW]; omega
  | w :: W, i + 1 => by
    have ih := szW_set x W i
    simp [szW] at ih ⊢
    omega
theorem szW_erase : ∀ (W : List Str) (i : Nat), szW (W.eraseIdx i) ≤ szW W
  | [], _ => by simp
  | w :: W, 0 => by simp [szW]; omega
  | w :: W, i + 1 => by
    have ih := szW_erase W i
    simp [szW] at ih ⊢
    omega
theorem szW_ins (W : List Str) (i : Nat) (x : Str) : szW (W.take i ++ [x] ++ W.drop i) = szW W + x.length + 1 := by
  have : szW (W.take i) + szW (W.drop i) = szW W := by rw [← szW_app, List.take_append_drop]
  rw [szW_app, szW_app, szW_one]
  omega
theorem map_erase63 : ∀ (W : List Str) (i : Nat), (W.eraseIdx i).map PyData.str = (W.map PyData.str).eraseIdx i
  | [], _ => rfl
  | _ :: _, 0 => rfl
  | w :: W, i + 1 => congrArg (PyData.str w :: ·) (map_erase63 W i)
abbrev roS (s : Str) (x3 x4 x5 : Option D) (τ : Tau) : SS := ⟨[none, some (.str s), none, x3, x4, x5], τ⟩
theorem rows63_ok {n : Nat} {t : T} {s : Str} (ok : OkT s) (hl : s.length ≤ 300000) (ht : Tp (n + 3) t) : ∃ (s' : Str) (t' : T), m_law_rows_otherwise [t, .leaf (.str s)] = some (.leaf (.str s'), [t', .leaf (.str s)]) ∧ OkT s' ∧ s'.length ≤ 3 * s.length + 4 ∧ Tp n t' := by
  have ek := okSplit_ok tl_nl (by decide) ok
  obtain ⟨h1, h2, h3⟩ := split_part (x := s) tl_nl (by decide) ok
  have hz := szW_split s
  generalize hW : Txt.split s ("\n" : Str) = W at *
  have hw0 : 0 < W.length := by
    cases W with
    | nil => exact absurd rfl h3
    | cons x xs => simp
  have sg : ∀ w ∈ W, ∀ c ∈ tl w, c < 0x110000 := fun w m => (strOk_iff w).mp (h2 w m).2.sig
  obtain ⟨a, t1, e1, a0, a1, g1⟩ := take_ok (n := n + 2) (m := (W.length : Nat)) ht (by omega) (by omega)
  obtain ⟨b, t2, e2, b0, b1, g2⟩ := take_ok (n := n + 1) (m := (W.length : Nat)) g1 (by omega) (by omega)
  obtain ⟨v, t3, e3, v0, v1, g3⟩ := take_ok (n := n) (m := 4) g2 (by omega) (by omega)
  obtain ⟨A, rfl⟩ := Int.eq_ofNat_of_zero_le a0
  obtain ⟨B, rfl⟩ := Int.eq_ofNat_of_zero_le b0
  have hA : A < W.length := by omega
  have hB : B < W.length := by omega
  have f1 : s_law_rows_otherwise_1 (roS s none none none [(0, t)]) = some (.nx (roS s none none none [(0, t), (2, .fl (W.map PyData.str))])) := by
    simp [s_law_rows_otherwise_1, ek, hW]
  have f2 : s_law_rows_otherwise_2 (roS s none none none [(0, t), (2, .fl (W.map PyData.str))]) = some (.nx (roS s (some (.int (A : Nat))) (some (.int (B : Nat))) none [(0, t2), (2, .fl (W.map PyData.str))])) := by
    simp [s_law_rows_otherwise_2, e1, e2]
  have f3 : s_law_rows_otherwise_3 (roS s (some (.int (A : Nat))) (some (.int (B : Nat))) none [(0, t2), (2, .fl (W.map PyData.str))]) = some (.nx (roS s (some (.int (A : Nat))) (some (.int (B : Nat))) (some (.int v)) [(0, t3), (2, .fl (W.map PyData.str))])) := by
    simp [s_law_rows_otherwise_3, e3]
  have fin : ∀ (W' : List Str) , Gr W' (3 * s.length + 4) → s_law_rows_otherwise_4 (roS s (some (.int (A : Nat))) (some (.int (B : Nat))) (some (.int v)) [(0, t3), (2, .fl (W.map PyData.str))]) = some (.nx (roS s (some (.int (A : Nat))) (some (.int (B : Nat))) (some (.int v)) [(0, t3), (2, .fl (W'.map PyData.str))])) → ∃ (s' : Str) (t' : T), m_law_rows_otherwise [t, .leaf (.str s)] = some (.leaf (.str s'), [t', .leaf (.str s)]) ∧ OkT s' ∧ s'.length ≤ 3 * s.length + 4 ∧ Tp n t' := fun W' g f4 => by
    obtain ⟨o1, o2⟩ := g.okT (by omega)
    refine ⟨joinN W', t3, ?_, o1, o2, g3⟩
    have jn := g.join (by omega) (.vw (.fl (W'.map PyData.str))) rfl
    generalize joinN W' = J at *
    have f5 : s_law_rows_otherwise_5 (roS s (some (.int (A : Nat))) (some (.int (B : Nat))) (some (.int v)) [(0, t3), (2, .fl (W'.map PyData.str))]) = some (.rt (.leaf (.str J)) (roS s (some (.int (A : Nat))) (some (.int (B : Nat))) (some (.int v)) [(0, t3), (2, .fl (W'.map PyData.str))])) := by
      generalize W'.map PyData.str = WW at *
      simp [-r_gJoin, s_law_rows_otherwise_5, jn]
    have eB : b_law_rows_otherwise (roS s none none none [(0, t)]) = some (.rt (.leaf (.str J)) (roS s (some (.int (A : Nat))) (some (.int (B : Nat))) (some (.int v)) [(0, t3), (2, .fl (W'.map PyData.str))])) := by
      rw [pieces_law_rows_otherwise, seqN62 f1, seqN62 f2, seqN62 f3, seqN62 f4, seqR62 f5]
    simp only [m_law_rows_otherwise]
    simp [eB]
  have eA : W[A]? = some W[A] := List.getElem?_eq_getElem hA
  have eBt : W[B]? = some W[B] := List.getElem?_eq_getElem hB
  have zl : W.length < 16000000 := by omega
  have mA := szW_le_mem (List.getElem_mem hA)
  have mB := szW_le_mem (List.getElem_mem hB)
  have atA : L2.atI (W.map PyData.str) (A : Int) = some (.str W[A]) := by
    unfold L2.atI
    rw [ixN_nat (by simpa using hA)]
    show (W.map PyData.str)[A]? = _
    rw [List.getElem?_map, eA]
    rfl
  have atB : L2.atI (W.map PyData.str) (B : Int) = some (.str W[B]) := by
    unfold L2.atI
    rw [ixN_nat (by simpa using hB)]
    show (W.map PyData.str)[B]? = _
    rw [List.getElem?_map, eBt]
    rfl
  have sgA := sg W[A] (List.getElem_mem hA)
  have sgB := sg W[B] (List.getElem_mem hB)
  by_cases w0 : v = 0
  · subst w0
    refine fin (W.take B ++ [W[A]] ++ W.drop B) ⟨fun w m => ?_, by rw [szW_ins]; omega⟩ ?_
    · rcases List.mem_append.mp m with m | m
      · rcases List.mem_append.mp m with m | m
        · exact sg w (List.mem_of_mem_take m)
        · rw [List.mem_singleton.mp m]
          exact sgA
      · exact sg w (List.mem_of_mem_drop m)
    · generalize W[A] = x at *
      have em : (W.take B ++ [x] ++ W.drop B).map PyData.str = (W.map PyData.str).take B ++ [.str x] ++ (W.map PyData.str).drop B := by simp [List.map_take, List.map_drop]
      rw [em]
      have zl' : (W.map PyData.str).length < 16000000 := by rw [List.length_map]; omega
      have zb : (B : Int) ≤ 16000000 := by omega
      generalize W.map PyData.str = WD at *
      simp [s_law_rows_otherwise_4, atA, zl', zb]
  · by_cases w1 : v = 1
    · subst w1
      refine fin (W.eraseIdx A) ⟨fun w m => sg w (List.mem_of_mem_eraseIdx m), by have := szW_erase W A; omega⟩ ?_
      have em : (W.eraseIdx A).map PyData.str = (W.map PyData.str).eraseIdx A := map_erase63 W A
      have gA : (W.map PyData.str)[A]? = some (.str W[A]) := by
        rw [List.getElem?_map, eA]
        rfl
      have sq : seqIndex? (A : Int) (W.map PyData.str).length = some A := seq_nat (by rw [List.length_map]; exact hA)
      have za : -16000000 ≤ (A : Int) ∧ (A : Int) ≤ 16000000 := by omega
      rw [em]
      generalize W[A] = x at *
      have pp : gPopAt (.fl (W.map PyData.str)) [.int (A : Nat)] = some (.str x, .fl ((W.map PyData.str).eraseIdx A)) := by
        rw [g_popAt, if_pos za, sq]
        show bd ((W.map PyData.str)[A]?) _ = _
        rw [gA]
        rfl
      generalize W.map PyData.str = WD at *
      simp [-g_popAt, s_law_rows_otherwise_4, pp]
    · by_cases w2 : v = 2
      · subst w2
        refine fin (W.take B ++ [("" : Str)] ++ W.drop B) ⟨fun w m => ?_, by rw [szW_ins]; have : ("" : Str).length = 0 := rfl; omega⟩ ?_
        · rcases List.mem_append.mp m with m | m
          · rcases List.mem_append.mp m with m | m
            · exact sg w (List.mem_of_mem_take m)
            · rw [List.mem_singleton.mp m]
              exact fun c mc => nomatch mc
          · exact sg w (List.mem_of_mem_drop m)
        · have em : (W.take B ++ [("" : Str)] ++ W.drop B).map PyData.str = (W.map PyData.str).take B ++ [.str ""] ++ (W.map PyData.str).drop B := by simp [List.map_take, List.map_drop]
          rw [em]
          have zl' : (W.map PyData.str).length < 16000000 := by rw [List.length_map]; omega
          have zb : (B : Int) ≤ 16000000 := by omega
          generalize W.map PyData.str = WD at *
          simp [s_law_rows_otherwise_4, zl', zb]
      · refine fin ((W.set A W[B]).set B W[A]) ⟨fun w m => ?_, ?_⟩ ?_
        · rcases List.mem_or_eq_of_mem_set m with m | rfl
          · rcases List.mem_or_eq_of_mem_set m with m | rfl
            · exact sg w m
            · exact sgB
          · exact sgA
        · have i1 := szW_set W[A] (W.set A W[B]) B
          have i2 := szW_set W[B] W A
          omega
        · have em : ((W.set A W[B]).set B W[A]).map PyData.str = ((W.map PyData.str).set A (.str W[B])).set B (.str W[A]) := by simp [List.map_set]
          rw [em]
          have xA : ixN (W.map PyData.str).length (A : Int) = some A := ixN_nat (by simpa using hA)
          have xB : ixN (W.map PyData.str).length (B : Int) = some B := ixN_nat (by simpa using hB)
          have gA : (W.map PyData.str)[A]? = some (.str W[A]) := by
            rw [List.getElem?_map, eA]
            rfl
          have gB : (W.map PyData.str)[B]? = some (.str W[B]) := by
            rw [List.getElem?_map, eBt]
            rfl
          generalize W[A] = x at *
          generalize W[B] = y at *
          generalize W.map PyData.str = WD at *
          simp [s_law_rows_otherwise_4, w0, w1, w2, atA, atB, xA, xB]
end La

namespace La
open PySem PySem.Spec PyProof.Rows L2 Tl TL
theorem cutS_ok63 {z : Str} (ok : OkT z) (lo hi : Option Int) : OkT (cutS z lo hi) ∧ (cutS z lo hi).length ≤ z.length := by
  have e : tl (cutS z lo hi) = ((tl z).drop (HT.sIx z.length 0 lo)).take (HT.sIx z.length z.length hi - HT.sIx z.length 0 lo) := rfl
  have l : (cutS z lo hi).length ≤ z.length := by
    rw [len_tl, e, List.length_take, List.length_drop, len_tl z]
    omega
  refine ⟨⟨Nat.le_trans l ok.len, (strOk_iff _).mpr fun c m => ?_⟩, l⟩
  rw [e] at m
  exact (strOk_iff z).mp ok.sig c (List.mem_of_mem_drop (List.mem_of_mem_take m))
theorem app_ok63 {a b : Str} (ha : OkT a) (hb : OkT b) (hl : a.length + b.length ≤ 9000000) : OkT (a ++ b) := by
  refine ⟨by rw [len_append]; exact hl, (strOk_iff _).mpr fun c m => ?_⟩
  rw [tl_append] at m
  rcases List.mem_append.mp m with m | m
  · exact (strOk_iff a).mp ha.sig c m
  · exact (strOk_iff b).mp hb.sig c m
theorem r_cutR_str (z : Str) (lo hi : Option Int) : cutR (.val (.leaf (.str z))) lo hi = if z.length ≤ 16000000 then some (rd (.str (cutS z lo hi))) else none := rfl
def signs63 : Str := " !\"#$&'()*+,-./0123456789:;<=>?@ABCDEFGHIJKLMNOPQRSTUVWXYZ[\\]^_`abcdefghijklmnopqrstuvwxyz{|}~"
abbrev spS (s : Str) (x2 x3 x4 x5 x6 x7 : Option D) (t : T) : SS := ⟨[none, some (.str s), x2, x3, x4, x5, x6, x7], [(0, t)]⟩
theorem spoilt63_ok {n : Nat} {t : T} {s : Str} (ok : OkT s) (hl : s.length ≤ 20000) (ht : Tp (n + 6) t) : ∃ (s' : Str) (t' : T), m_law_spoilt_k63 [t, .leaf (.str s)] = some (.leaf (.str s'), [t', .leaf (.str s)]) ∧ OkT s' ∧ s'.length ≤ 3 * s.length + 4 ∧ Tp n t' := by
  obtain ⟨p, t1, e1, p0, p1, g1⟩ := take_ok (n := n + 5) (m := (s.length : Int) + 1) ht (by omega) (by omega)
  obtain ⟨v, t2, e2, v0, v1, g2⟩ := take_ok (n := n + 4) (m := 95) g1 (by omega) (by omega)
  obtain ⟨w, t3, e3, w0, w1, g3⟩ := take_ok (n := n + 3) (m := 9) g2 (by omega) (by omega)
  have sl : (signs63 ++ ("\n" : Str)).length = 95 := by decide +kernel
  have ss : ∀ c ∈ tl (signs63 ++ ("\n" : Str)), c < 256 := by decide +kernel
  obtain ⟨V, rfl⟩ := Int.eq_ofNat_of_zero_le v0
  have hV : V < (tl (signs63 ++ ("\n" : Str))).length := by rw [← len_tl, sl]; omega
  have ga : gAdd [rd (.str signs63), rd (.str ("\n" : Str))] = some (rd (.str (signs63 ++ ("\n" : Str)))) := add_s (by decide +kernel)
  have gi : gIx [rd (.str (signs63 ++ ("\n" : Str))), rd (.int (V : Nat))] = some (rd (.str ⟨#[(tl (signs63 ++ ("\n" : Str)))[V]]⟩)) := by
    show (if (signs63 ++ ("\n" : Str)).length ≤ 16000000 then (L2.atI (tl (signs63 ++ ("\n" : Str))) (V : Int)).map fun c => rd (.str ⟨#[c]⟩) else none) = _
    rw [sl, if_pos (by decide)]
    unfold L2.atI
    rw [ixN_nat hV]
    show ((tl (signs63 ++ ("\n" : Str)))[V]?).map _ = _
    rw [List.getElem?_eq_getElem hV]
    rfl
  have okc : OkT ⟨#[(tl (signs63 ++ ("\n" : Str)))[V]]⟩ := by
    refine ⟨by show 1 ≤ 9000000; decide, (strOk_iff _).mpr fun c m => ?_⟩
    have m : c ∈ [(tl (signs63 ++ ("\n" : Str)))[V]] := m
    rw [List.mem_singleton.mp m]
    have := ss _ (List.getElem_mem hV)
    omega
  have lc : (⟨#[(tl (signs63 ++ ("\n" : Str)))[V]]⟩ : Str).length = 1 := rfl
  have f1 : s_law_spoilt_k63_1 (spS s none none none none none none t) = some (.nx (spS s (some (.str signs63)) none none none none none t)) := by
    simp [s_law_spoilt_k63_1, signs63]
  generalize (⟨#[(tl (signs63 ++ ("\n" : Str)))[V]]⟩ : Str) = sg at *
  generalize hSG : signs63 = SG at *
  have hs : s.length ≤ 16000000 := by omega
  have f2 : s_law_spoilt_k63_2 (spS s (some (.str SG)) none none none none none t) = some (.nx (spS s (some (.str SG)) (some (.int p)) none none none none t1)) := by
    simp [s_law_spoilt_k63_2, e1, hs]
  have f3 : s_law_spoilt_k63_3 (spS s (some (.str SG)) (some (.int p)) none none none none t1) = some (.nx (spS s (some (.str SG)) (some (.int p)) (some (.str sg)) none none none t2)) := by
    simp [-g_adds, s_law_spoilt_k63_3, ga, e2, gi]
  have f4 : s_law_spoilt_k63_4 (spS s (some (.str SG)) (some (.int p)) (some (.str sg)) none none none t2) = some (.nx (spS s (some (.str SG)) (some (.int p)) (some (.str sg)) (some (.int w)) none none t3)) := by
    simp [s_law_spoilt_k63_4, e3]
  have fin : ∀ (x : Str) (x6 x7 : Option D), b_law_spoilt_k63 (spS s none none none none none none t) = some (.rt (.leaf (.str x)) (spS s (some (.str SG)) (some (.int p)) (some (.str sg)) (some (.int w)) x6 x7 t3)) → OkT x → x.length ≤ 3 * s.length + 4 → ∃ (s' : Str) (t' : T), m_law_spoilt_k63 [t, .leaf (.str s)] = some (.leaf (.str s'), [t', .leaf (.str s)]) ∧ OkT s' ∧ s'.length ≤ 3 * s.length + 4 ∧ Tp n t' := fun x x6 x7 eB o l => by
    refine ⟨x, t3, ?_, o, l, g3.mono (by omega)⟩
    simp only [m_law_spoilt_k63]
    simp [eB]
  have cl := fun lo hi => (cutS_ok63 ok lo hi).2
  have co := fun lo hi => (cutS_ok63 ok lo hi).1
  have l1 := cl none (some p)
  have l2 := cl (some (p + 1)) none
  have l3 := cl (some p) none
  have l4 := cl (some p) (some (p + 1))
  have l5 := cl (some (p + 1)) (some (p + 2))
  have l6 := cl (some (p + 2)) none
  have b5 : ∀ st, s_law_spoilt_k63_5 st = s_law_spoilt_k63_5 st := fun _ => rfl
  by_cases q5 : w < 2
  · have a1 := add_s (a := cutS s none (some p)) (b := sg) (by omega)
    have a2 := add_s (a := cutS s none (some p) ++ sg) (b := cutS s (some (p + 1)) none) (by rw [len_append]; omega)
    have f5 : s_law_spoilt_k63_5 (spS s (some (.str SG)) (some (.int p)) (some (.str sg)) (some (.int w)) none none t3) = some (.rt (.leaf (.str (cutS s none (some p) ++ sg ++ cutS s (some (p + 1)) none))) (spS s (some (.str SG)) (some (.int p)) (some (.str sg)) (some (.int w)) none none t3)) := by
      simp [-g_adds, s_law_spoilt_k63_5, q5, r_cutR_str, hs, a1, a2]
    refine fin _ none none (by rw [pieces_law_spoilt_k63, seqN62 f1, seqN62 f2, seqN62 f3, seqN62 f4, seqR62 f5]) (app_ok63 (app_ok63 (co _ _) okc (by omega)) (co _ _) (by rw [len_append]; omega)) (by rw [len_append, len_append]; omega)
  · have f5 : s_law_spoilt_k63_5 (spS s (some (.str SG)) (some (.int p)) (some (.str sg)) (some (.int w)) none none t3) = some (.nx (spS s (some (.str SG)) (some (.int p)) (some (.str sg)) (some (.int w)) none none t3)) := by
      simp [s_law_spoilt_k63_5, q5]
    by_cases q6 : w < 4
    · have a1 := add_s (a := cutS s none (some p)) (b := sg) (by omega)
      have a2 := add_s (a := cutS s none (some p) ++ sg) (b := cutS s (some p) none) (by rw [len_append]; omega)
      have f6 : s_law_spoilt_k63_6 (spS s (some (.str SG)) (some (.int p)) (some (.str sg)) (some (.int w)) none none t3) = some (.rt (.leaf (.str (cutS s none (some p) ++ sg ++ cutS s (some p) none))) (spS s (some (.str SG)) (some (.int p)) (some (.str sg)) (some (.int w)) none none t3)) := by
        simp [-g_adds, s_law_spoilt_k63_6, q6, r_cutR_str, hs, a1, a2]
      refine fin _ none none (by rw [pieces_law_spoilt_k63, seqN62 f1, seqN62 f2, seqN62 f3, seqN62 f4, seqN62 f5, seqR62 f6]) (app_ok63 (app_ok63 (co _ _) okc (by omega)) (co _ _) (by rw [len_append]; omega)) (by rw [len_append, len_append]; omega)
    · have f6 : s_law_spoilt_k63_6 (spS s (some (.str SG)) (some (.int p)) (some (.str sg)) (some (.int w)) none none t3) = some (.nx (spS s (some (.str SG)) (some (.int p)) (some (.str sg)) (some (.int w)) none none t3)) := by
        simp [s_law_spoilt_k63_6, q6]
      by_cases q7 : w = 4
      · have a1 := add_s (a := cutS s none (some p)) (b := cutS s (some (p + 1)) none) (by omega)
        have f7 : s_law_spoilt_k63_7 (spS s (some (.str SG)) (some (.int p)) (some (.str sg)) (some (.int w)) none none t3) = some (.rt (.leaf (.str (cutS s none (some p) ++ cutS s (some (p + 1)) none))) (spS s (some (.str SG)) (some (.int p)) (some (.str sg)) (some (.int w)) none none t3)) := by
          simp [-g_adds, s_law_spoilt_k63_7, q7, r_cutR_str, hs, a1]
        refine fin _ none none (by rw [pieces_law_spoilt_k63, seqN62 f1, seqN62 f2, seqN62 f3, seqN62 f4, seqN62 f5, seqN62 f6, seqR62 f7]) (app_ok63 (co _ _) (co _ _) (by omega)) (by rw [len_append]; omega)
      · have f7 : s_law_spoilt_k63_7 (spS s (some (.str SG)) (some (.int p)) (some (.str sg)) (some (.int w)) none none t3) = some (.nx (spS s (some (.str SG)) (some (.int p)) (some (.str sg)) (some (.int w)) none none t3)) := by
          simp [s_law_spoilt_k63_7, q7]
        by_cases q8 : w = 5
        · have a1 := add_s (a := cutS s none (some p)) (b := cutS s (some (p + 1)) (some (p + 2))) (by omega)
          have a2 := add_s (a := cutS s none (some p) ++ cutS s (some (p + 1)) (some (p + 2))) (b := cutS s (some p) (some (p + 1))) (by rw [len_append]; omega)
          have a3 := add_s (a := cutS s none (some p) ++ cutS s (some (p + 1)) (some (p + 2)) ++ cutS s (some p) (some (p + 1))) (b := cutS s (some (p + 2)) none) (by rw [len_append, len_append]; omega)
          have f8 : s_law_spoilt_k63_8 (spS s (some (.str SG)) (some (.int p)) (some (.str sg)) (some (.int w)) none none t3) = some (.rt (.leaf (.str (cutS s none (some p) ++ cutS s (some (p + 1)) (some (p + 2)) ++ cutS s (some p) (some (p + 1)) ++ cutS s (some (p + 2)) none))) (spS s (some (.str SG)) (some (.int p)) (some (.str sg)) (some (.int w)) (some (.str (cutS s (some p) (some (p + 1))))) (some (.str (cutS s (some (p + 1)) (some (p + 2))))) t3)) := by
            simp [-g_adds, s_law_spoilt_k63_8, s_law_spoilt_k63_8t_1, s_law_spoilt_k63_8t_2, q8, r_cutR_str, hs, a1, a2, a3]
          have lp : (cutS s none (some p)).length + (cutS s (some (p + 1)) (some (p + 2))).length + (cutS s (some p) (some (p + 1))).length + (cutS s (some (p + 2)) none).length ≤ 3 * s.length + 4 := by
            have sx : ∀ a b : Option Int, (cutS s a b).length = min (HT.sIx s.length s.length b - HT.sIx s.length 0 a) (s.length - HT.sIx s.length 0 a) := fun a b => by
              rw [len_tl, show tl (cutS s a b) = ((tl s).drop (HT.sIx s.length 0 a)).take (HT.sIx s.length s.length b - HT.sIx s.length 0 a) from rfl, List.length_take, List.length_drop, len_tl s]
            obtain ⟨P, rfl⟩ := Int.eq_ofNat_of_zero_le p0
            have n1 : ((P : Int) + 1) = ((P + 1 : Nat) : Int) := by omega
            have n2 : ((P : Int) + 2) = ((P + 2 : Nat) : Int) := by omega
            rw [sx, sx, sx, sx, n1, n2, HT.sIx_nat, HT.sIx_nat, HT.sIx_nat, HT.sIx_nat, HT.sIx_nat, HT.sIx_nat]
            have z0 : HT.sIx s.length 0 none = 0 := rfl
            have z1 : HT.sIx s.length s.length none = s.length := rfl
            rw [z0, z1]
            omega
          refine fin _ _ _ (by rw [pieces_law_spoilt_k63, seqN62 f1, seqN62 f2, seqN62 f3, seqN62 f4, seqN62 f5, seqN62 f6, seqN62 f7, seqR62 f8]) (app_ok63 (app_ok63 (app_ok63 (co _ _) (co _ _) (by omega)) (co _ _) (by rw [len_append]; omega)) (co _ _) (by rw [len_append, len_append]; omega)) (by rw [len_append, len_append, len_append]; omega)
        · have f8 : s_law_spoilt_k63_8 (spS s (some (.str SG)) (some (.int p)) (some (.str sg)) (some (.int w)) none none t3) = some (.nx (spS s (some (.str SG)) (some (.int p)) (some (.str sg)) (some (.int w)) none none t3)) := by
            simp [s_law_spoilt_k63_8, q8]
          by_cases q9 : w = 6
          · have f9 : s_law_spoilt_k63_9 (spS s (some (.str SG)) (some (.int p)) (some (.str sg)) (some (.int w)) none none t3) = some (.rt (.leaf (.str (cutS s none (some p)))) (spS s (some (.str SG)) (some (.int p)) (some (.str sg)) (some (.int w)) none none t3)) := by
              simp [s_law_spoilt_k63_9, q9, r_cutR_str, hs]
            refine fin _ none none (by rw [pieces_law_spoilt_k63, seqN62 f1, seqN62 f2, seqN62 f3, seqN62 f4, seqN62 f5, seqN62 f6, seqN62 f7, seqN62 f8, seqR62 f9]) (co _ _) (by omega)
          · have f9 : s_law_spoilt_k63_9 (spS s (some (.str SG)) (some (.int p)) (some (.str sg)) (some (.int w)) none none t3) = some (.nx (spS s (some (.str SG)) (some (.int p)) (some (.str sg)) (some (.int w)) none none t3)) := by
              simp [s_law_spoilt_k63_9, q9]
            obtain ⟨x, t4, e4, o4, l4, g4⟩ := rows63_ok (n := n) ok (by omega) g3
            have f10 : s_law_spoilt_k63_10 (spS s (some (.str SG)) (some (.int p)) (some (.str sg)) (some (.int w)) none none t3) = some (.rt (.leaf (.str x)) (spS s (some (.str SG)) (some (.int p)) (some (.str sg)) (some (.int w)) none none t4)) := by
              simp [s_law_spoilt_k63_10, e4]
            refine ⟨x, t4, ?_, o4, l4, g4⟩
            have eB : b_law_spoilt_k63 (spS s none none none none none none t) = some (.rt (.leaf (.str x)) (spS s (some (.str SG)) (some (.int p)) (some (.str sg)) (some (.int w)) none none t4)) := by
              rw [pieces_law_spoilt_k63, seqN62 f1, seqN62 f2, seqN62 f3, seqN62 f4, seqN62 f5, seqN62 f6, seqN62 f7, seqN62 f8, seqN62 f9, seqR62 f10]
            simp only [m_law_spoilt_k63]
            simp [eB]
end La

namespace La
open PySem PySem.Spec PyProof.Rows L2 Tl TL
abbrev k63S (x1 x3 x4 x5 : Option D) (τ : Tau) : SS := ⟨[none, x1, none, x3, x4, x5], τ⟩
theorem len_net63 {h : Nat} {L : List Lane} (s : Sm h L) (l : L.length ≤ 40) : (netS h L).length ≤ 1066 := by
  rw [len_tl, tl_netS]
  have := len_joinL [10] 25 ((houseS h :: L.map laneS).map tl) fun p m => by
    obtain ⟨w, mw, rfl⟩ := List.mem_map.mp m
    rw [← len_tl]
    rcases List.mem_cons.mp mw with rfl | mw
    · have := len_houseS s.hh
      omega
    · obtain ⟨q, mq, rfl⟩ := List.mem_map.mp mw
      exact len_laneS (s.one q mq)
  simp only [List.length_map, List.length_cons, List.length_nil] at this
  omega
theorem turn63 {n : Nat} {x1 x4 x5 : Option D} {s : Str} {f t : T} (ok : OkT s) (hl : s.length ≤ 1066) (ht : Tp (n + 13) t) : ∃ (y5 : Option D) (t' : T), s_law_k63_1b_3b (k63S x1 (some (.str s)) x4 x5 [(0, f), (2, t)]) = some (.nx (k63S x1 (some (.str s)) x4 y5 [(0, f), (2, t')])) ∧ Tp n t' := by
  obtain ⟨a, t1, e1, oa, la, g1⟩ := spoilt63_ok (n := n + 7) ok (by omega) ht
  obtain ⟨v, t2, e2, v0, v1, g2⟩ := take_ok (n := n + 6) (m := 4) g1 (by omega) (by omega)
  have f1 : s_law_k63_1b_3b_1 (k63S x1 (some (.str s)) x4 x5 [(0, f), (2, t)]) = some (.nx (k63S x1 (some (.str s)) x4 (some (.str a)) [(0, f), (2, t1)])) := by
    simp [s_law_k63_1b_3b_1, e1]
  by_cases z : v = 0
  · subst z
    obtain ⟨b, t3, e3, ob, lb, g3⟩ := spoilt63_ok (n := n) oa (by omega) g2
    have r := right63_ok b ob (by omega)
    have f2 : s_law_k63_1b_3b_2 (k63S x1 (some (.str s)) x4 (some (.str a)) [(0, f), (2, t1)]) = some (.nx (k63S x1 (some (.str s)) x4 (some (.str b)) [(0, f), (2, t3)])) := by
      simp [s_law_k63_1b_3b_2, e2, e3]
    have f3 : s_law_k63_1b_3b_3 (k63S x1 (some (.str s)) x4 (some (.str b)) [(0, f), (2, t3)]) = some (.nx (k63S x1 (some (.str s)) x4 (some (.str b)) [(0, f), (2, t3)])) := by
      simp [s_law_k63_1b_3b_3, r]
    exact ⟨some (.str b), t3, (seqN62 f1).trans ((seqN62 f2).trans ((seqN62 f3).trans rfl)), g3⟩
  · have r := right63_ok a oa (by omega)
    have f2 : s_law_k63_1b_3b_2 (k63S x1 (some (.str s)) x4 (some (.str a)) [(0, f), (2, t1)]) = some (.nx (k63S x1 (some (.str s)) x4 (some (.str a)) [(0, f), (2, t2)])) := by
      simp [s_law_k63_1b_3b_2, e2, z]
    have f3 : s_law_k63_1b_3b_3 (k63S x1 (some (.str s)) x4 (some (.str a)) [(0, f), (2, t2)]) = some (.nx (k63S x1 (some (.str s)) x4 (some (.str a)) [(0, f), (2, t2)])) := by
      simp [s_law_k63_1b_3b_3, r]
    exact ⟨some (.str a), t2, (seqN62 f1).trans ((seqN62 f2).trans ((seqN62 f3).trans rfl)), g2.mono (by omega)⟩
theorem turns63 {n : Nat} {x1 x4 x5 : Option D} {s : Str} {f t : T} (ok : OkT s) (hl : s.length ≤ 1066) (ht : Tp (n + 104) t) : ∃ (y4 y5 : Option D) (t' : T), s_law_k63_1b_3 (k63S x1 (some (.str s)) x4 x5 [(0, f), (2, t)]) = some (.nx (k63S x1 (some (.str s)) y4 y5 [(0, f), (2, t')])) := by
  generalize hF : s_law_k63_1b_3 _ = y
  have e0 : rngOf [8] = some (rangeD 0 1 8) := rfl
  simp [s_law_k63_1b_3, e0] at hF
  obtain ⟨s', rfl, y4, y5, t', rfl, _⟩ := for_rng hF (fun k σ => ∃ (y4 y5 : Option D) (t' : T), σ = k63S x1 (some (.str s)) y4 y5 [(0, f), (2, t')] ∧ Tp (n + 13 * (8 - k)) t') ⟨x4, x5, t, rfl, ht⟩ (by
    rintro k σ hk ⟨y4, y5, t', rfl, g⟩
    rw [show n + 13 * (8 - k) = n + 13 * (8 - (k + 1)) + 13 by omega] at g
    obtain ⟨z5, t2, e, g2⟩ := turn63 (x1 := x1) (x4 := some (.int k)) (x5 := y5) (f := f) ok hl g
    exact ⟨_, rfl, k63S x1 (some (.str s)) (some (.int k)) z5 [(0, f), (2, t2)], .inl e, some (.int k), z5, t2, rfl, g2⟩)
  exact ⟨y4, y5, t', rfl⟩
theorem k63b {ns : List Int} {k : Nat} {x3 x4 x5 : Option D} {τ : Tau} (hτ : τ = [(0, .scr (ns.map .int))] ∨ ∃ (a : T), τ = [(0, .scr (ns.map .int)), (2, a)]) : ∃ (y3 y4 y5 : Option D) (a : T), s_law_k63_1b (k63S (some (.int (k : Nat))) x3 x4 x5 τ) = some (.nx (k63S (some (.int (k : Nat))) y3 y4 y5 [(0, .scr (ns.map .int)), (2, a)])) := by
  obtain ⟨t, e1, g1⟩ := tape_ok ns k
  have f1 : s_law_k63_1b_1 (k63S (some (.int (k : Nat))) x3 x4 x5 τ) = some (.nx (k63S (some (.int (k : Nat))) x3 x4 x5 [(0, .scr (ns.map .int)), (2, t)])) := by
    rcases hτ with rfl | ⟨a, rfl⟩ <;> simp [s_law_k63_1b_1, e1]
  obtain ⟨h, L, t2, e2, a1, a2, hL, a4, g2⟩ := netT_ok (n := 104) (t := t) (g1.mono (by decide))
  have sm : Sm h L := ⟨by omega, by omega, fun l m => by have := hL l m; omega⟩
  have e3 := law_net_text_ok sm
  have ok := netS_ok sm
  have ll := len_net63 sm a4
  have nb := net_back sm (by omega) fun l m => by have := hL l m; omega
  have rd1 := law_net_read_ok (netS h L) ok
  have rr := right63_ok (netS h L) ok (by omega)
  have eR : readD (tl (netS h L)) = netT h L := by
    unfold readD
    have : netBad (tl (netS h L)) = none := by
      cases q : netBad (tl (netS h L)) with
      | none => rfl
      | some i =>
        have x1 := netx_no (netS h L) ok q
        rw [netx_ok (netS h L) ok nb] at x1
        cases x1
    rw [this, nb]
  rw [eR] at rd1
  have ni : isIntD (netT h L) = false := rfl
  generalize netT h L = N at *
  generalize netS h L = S at *
  have f2 : s_law_k63_1b_2 (k63S (some (.int (k : Nat))) x3 x4 x5 [(0, .scr (ns.map .int)), (2, t)]) = some (.nx (k63S (some (.int (k : Nat))) (some (.str S)) x4 x5 [(0, .scr (ns.map .int)), (2, t2)])) := by
    simp [s_law_k63_1b_2, e2, e3]
  obtain ⟨y4, y5, t3, f3⟩ := turns63 (n := 0) (x1 := some (.int (k : Nat))) (x4 := x4) (x5 := x5) (f := .scr (ns.map .int)) ok ll g2
  have f4 : s_law_k63_1b_4 (k63S (some (.int (k : Nat))) (some (.str S)) y4 y5 [(0, .scr (ns.map .int)), (2, t3)]) = some (.nx (k63S (some (.int (k : Nat))) (some (.str S)) y4 y5 [(0, .scr (ns.map .int)), (2, t3)])) := by
    simp [s_law_k63_1b_4, rr, rd1, ni]
  exact ⟨some (.str S), y4, y5, t3, (seqN62 f1).trans ((seqN62 f2).trans ((seqN62 f3).trans ((seqN62 f4).trans rfl)))⟩
theorem main (ns : List Int) (hns : ns.length ≤ 63) : ∃ ts', m_law_k63 [.scr (ns.map PyData.int)] = some (.leaf (.bool true), ts') := by
  simp only [m_law_k63]
  have eF : ∃ (a : Fz) (τ : Tau), s_law_k63_1 (k63S none none none none [(0, .scr (ns.map .int))]) = some (.nx ⟨a, τ⟩) ∧ ∃ r, τ = (0, .scr (ns.map .int)) :: r := by
    generalize hF : s_law_k63_1 _ = y
    generalize hm : (1 + (if (ns.length : Int) < 8 then (ns.length : Int) else 8)) = mm
    have hmm : 1 ≤ mm ∧ mm ≤ 9 := by
      subst hm
      split <;> omega
    obtain ⟨M, rfl⟩ : ∃ M : Nat, mm = M := ⟨mm.toNat, by omega⟩
    have e8 : -8000000 ≤ (M : Int) ∧ (M : Int) ≤ 8000000 := by omega
    simp [s_law_k63_1, hm, e8] at hF
    obtain ⟨s', rfl, x1, x3, x4, x5, τ, rfl, hτ⟩ := for_rng hF (fun k s => ∃ (x1 x3 x4 x5 : Option D) (τ : Tau), s = k63S x1 x3 x4 x5 τ ∧ (τ = [(0, .scr (ns.map .int))] ∨ ∃ (a : T), τ = [(0, .scr (ns.map .int)), (2, a)]))
      ⟨none, none, none, none, _, rfl, .inl rfl⟩ (by
      rintro k s hk ⟨x1, x3, x4, x5, τ, rfl, hτ⟩
      obtain ⟨y3, y4, y5, a, e⟩ := k63b (k := k) (x3 := x3) (x4 := x4) (x5 := x5) hτ
      refine ⟨_, rfl, k63S (some (.int (k : Nat))) y3 y4 y5 [(0, .scr (ns.map .int)), (2, a)], .inl ?_, some (.int (k : Nat)), y3, y4, y5, _, rfl, .inr ⟨a, rfl⟩⟩
      rcases hτ with rfl | ⟨a', rfl⟩ <;> exact e)
    rcases hτ with rfl | ⟨a, rfl⟩
    · exact ⟨_, _, rfl, _, rfl⟩
    · exact ⟨_, _, rfl, _, rfl⟩
  obtain ⟨a, τ, e1, r, rfl⟩ := eF
  simp [pieces_law_k63, e1, s_law_k63_2]
end La

namespace La
open PySem PySem.Spec PyProof.Rows L2 Tl
def topS (i : Nat) : Stmt := PySem.Challenge.pw_trainlanes_k63_whole_net_texts_spoilt.main.body.getD i (.Pass ⟨0, 0, 0, 0⟩)
theorem sc_number_word : FnScope ["word", "sign"] ["word"] (defScope (topS 11)) := ⟨rfl, rfl, rfl, by decide +kernel, rfl, by decide +kernel, by decide +kernel⟩
theorem sc_number_words : FnScope ["words", "many", "told", "word"] ["words", "many"] (defScope (topS 12)) := ⟨rfl, rfl, rfl, by decide +kernel, rfl, by decide +kernel, by decide +kernel⟩
theorem sc_net_text : FnScope ["net", "houses", "lanes", "rows", "begin", "end", "room"] ["net"] (defScope (topS 13)) := ⟨rfl, rfl, rfl, by decide +kernel, rfl, by decide +kernel, by decide +kernel⟩
theorem sc_houses_from : FnScope ["row", "words", "told"] ["row"] (defScope (topS 14)) := ⟨rfl, rfl, rfl, by decide +kernel, rfl, by decide +kernel, by decide +kernel⟩
theorem sc_lane_from : FnScope ["row", "houses", "words", "told", "begin", "end", "room"] ["row", "houses"] (defScope (topS 15)) := ⟨rfl, rfl, rfl, by decide +kernel, rfl, by decide +kernel, by decide +kernel⟩
theorem sc_net_from : FnScope ["text", "rows", "houses", "lanes", "number", "row", "lane"] ["text"] (defScope (topS 16)) := ⟨rfl, rfl, rfl, by decide +kernel, rfl, by decide +kernel, by decide +kernel⟩
theorem sc_law_cell_at : FnScope ["_law_script", "_law_k"] ["_law_script", "_law_k"] (defScope (topS 18)) := ⟨rfl, rfl, rfl, by decide +kernel, rfl, by decide +kernel, by decide +kernel⟩
theorem sc_law_tape : FnScope ["_law_script", "_law_k", "_law_cell"] ["_law_script", "_law_k"] (defScope (topS 19)) := ⟨rfl, rfl, rfl, by decide +kernel, rfl, by decide +kernel, by decide +kernel⟩
theorem sc_law_take : FnScope ["_law_tape_here", "_law_many", "_law_found", "_law_once"] ["_law_tape_here", "_law_many"] (defScope (topS 20)) := ⟨rfl, rfl, rfl, by decide +kernel, rfl, by decide +kernel, by decide +kernel⟩
theorem sc_law_room : FnScope ["_law_tape_here"] ["_law_tape_here"] (defScope (topS 21)) := ⟨rfl, rfl, rfl, by decide +kernel, rfl, by decide +kernel, by decide +kernel⟩
theorem sc_law_net : FnScope ["_law_tape_here", "_law_way", "_law_great", "_law_houses", "_law_lanes", "_law_many", "_law_house", "_law_other", "_law_turn", "_law_begin", "_law_end"] ["_law_tape_here"] (defScope (topS 22)) := ⟨rfl, rfl, rfl, by decide +kernel, rfl, by decide +kernel, by decide +kernel⟩
theorem sc_law_same : FnScope ["_law_found", "_law_due", "_law_one", "_law_other"] ["_law_found", "_law_due"] (defScope (topS 23)) := ⟨rfl, rfl, rfl, by decide +kernel, rfl, by decide +kernel, by decide +kernel⟩
theorem sc_law_rows_otherwise : FnScope ["_law_tape_here", "_law_text", "_law_rows", "_law_at", "_law_to", "_law_way"] ["_law_tape_here", "_law_text"] (defScope (topS 25)) := ⟨rfl, rfl, rfl, by decide +kernel, rfl, by decide +kernel, by decide +kernel⟩
theorem sc_law_spoilt_k63 : FnScope ["_law_tape_here", "_law_text", "_law_signs", "_law_place", "_law_sign", "_law_way", "_law_one", "_law_other"] ["_law_tape_here", "_law_text"] (defScope (topS 24)) := ⟨rfl, rfl, rfl, by decide +kernel, rfl, by decide +kernel, by decide +kernel⟩
theorem sc_law_net_text : FnScope ["_law_net_here", "_law_rows", "_law_begin", "_law_end", "_law_room_here"] ["_law_net_here"] (defScope (topS 26)) := ⟨rfl, rfl, rfl, by decide +kernel, rfl, by decide +kernel, by decide +kernel⟩
theorem sc_law_number : FnScope ["_law_word_here", "_law_sign"] ["_law_word_here"] (defScope (topS 27)) := ⟨rfl, rfl, rfl, by decide +kernel, rfl, by decide +kernel, by decide +kernel⟩
theorem sc_law_numbers : FnScope ["_law_row", "_law_word_here", "_law_words", "_law_found", "_law_one"] ["_law_row", "_law_word_here"] (defScope (topS 28)) := ⟨rfl, rfl, rfl, by decide +kernel, rfl, by decide +kernel, by decide +kernel⟩
theorem sc_law_net_read : FnScope ["_law_text", "_law_rows", "_law_first", "_law_lanes", "_law_number_here", "_law_row", "_law_found"] ["_law_text"] (defScope (topS 29)) := ⟨rfl, rfl, rfl, by decide +kernel, rfl, by decide +kernel, by decide +kernel⟩
theorem sc_law_word_k62 : FnScope ["_law_caught", "_law_sorts", "_law_word_here"] ["_law_caught"] (defScope (topS 30)) := ⟨rfl, rfl, rfl, by decide +kernel, rfl, by decide +kernel, by decide +kernel⟩
theorem sc_law_right_k63 : FnScope ["_law_text", "_law_due", "_law_told", "_law_caught", "error"] ["_law_text"] (defScope (topS 31)) := ⟨rfl, rfl, rfl, by decide +kernel, rfl, by decide +kernel, by decide +kernel⟩
theorem sc_law_k63 : FnScope ["_law_script", "_law_k", "_law_tape_here", "_law_text", "_law_turn", "_law_some"] ["_law_script"] (defScope (topS 32)) := ⟨rfl, rfl, rfl, by decide +kernel, rfl, by decide +kernel, by decide +kernel⟩
theorem sci_BadText : FnScope ["self", "row"] ["self", "row"] (defScope (inClass (topS 5) 0)) := ⟨rfl, rfl, rfl, by decide +kernel, rfl, by decide +kernel, by decide +kernel⟩
structure Zs (K : PySem.W.Frag) (mg : Str → Option Value) : Prop where
  b : Bt mg
  d_number_word : Dn K mg "number_word" (topS 11) ["word"]
  d_number_words : Dn K mg "number_words" (topS 12) ["words", "many"]
  d_net_text : Dn K mg "net_text" (topS 13) ["net"]
  d_houses_from : Dn K mg "houses_from" (topS 14) ["row"]
  d_lane_from : Dn K mg "lane_from" (topS 15) ["row", "houses"]
  d_net_from : Dn K mg "net_from" (topS 16) ["text"]
  d_law_cell_at : Dn K mg "_law_cell_at" (topS 18) ["_law_script", "_law_k"]
  d_law_tape : Dn K mg "_law_tape" (topS 19) ["_law_script", "_law_k"]
  d_law_take : Dn K mg "_law_take" (topS 20) ["_law_tape_here", "_law_many"]
  d_law_room : Dn K mg "_law_room" (topS 21) ["_law_tape_here"]
  d_law_net : Dn K mg "_law_net" (topS 22) ["_law_tape_here"]
  d_law_same : Dn K mg "_law_same" (topS 23) ["_law_found", "_law_due"]
  d_law_rows_otherwise : Dn K mg "_law_rows_otherwise" (topS 25) ["_law_tape_here", "_law_text"]
  d_law_spoilt_k63 : Dn K mg "_law_spoilt" (topS 24) ["_law_tape_here", "_law_text"]
  d_law_net_text : Dn K mg "_law_net_text" (topS 26) ["_law_net_here"]
  d_law_number : Dn K mg "_law_number" (topS 27) ["_law_word_here"]
  d_law_numbers : Dn K mg "_law_numbers" (topS 28) ["_law_row", "_law_word_here"]
  d_law_net_read : Dn K mg "_law_net_read" (topS 29) ["_law_text"]
  d_law_word_k62 : Dn K mg "_law_word" (topS 30) ["_law_caught"]
  d_law_right_k63 : Dn K mg "_law_right" (topS 31) ["_law_text"]
  d_law_k63 : Dn K mg "law" (topS 32) ["_law_script"]
  g_FIGURES : ∃ t, mg "FIGURES" = some (.str "0123456789" t)
  g_MOST_FIGURES : ∃ t, mg "MOST_FIGURES" = some (.int (6) t)
  k_LaneError : ∃ C, mg "LaneError" = some (.ref C) ∧ PySem.W.nsIn K mainGlobals "LaneError" = some (some (.ref C))
  k_NoStep : ∃ C, mg "NoStep" = some (.ref C) ∧ PySem.W.nsIn K mainGlobals "NoStep" = some (some (.ref C))
  k_NoTrain : ∃ C, mg "NoTrain" = some (.ref C) ∧ PySem.W.nsIn K mainGlobals "NoTrain" = some (some (.ref C))
  k_NoWay : ∃ C, mg "NoWay" = some (.ref C) ∧ PySem.W.nsIn K mainGlobals "NoWay" = some (some (.ref C))
  k_BadText : ∃ C, mg "BadText" = some (.ref C) ∧ PySem.W.nsIn K mainGlobals "BadText" = some (some (.ref C))
  k_BadTrain : ∃ C, mg "BadTrain" = some (.ref C) ∧ PySem.W.nsIn K mainGlobals "BadTrain" = some (some (.ref C))
  k_BadStep : ∃ C, mg "BadStep" = some (.ref C) ∧ PySem.W.nsIn K mainGlobals "BadStep" = some (some (.ref C))
  kin : KinOk K krAll
  cat : CatOk K "LaneError" xcNames
  na_row : NoAt K "row" ["BadText", "BadTrain", "BadStep"]
  v : mg "ValueError" = none
  le : LeC K mg "LaneError"
  i_BadText : RiZ K mg "BadText" "row" "row" "BadText.__init__" (inClass (topS 5) 0)
section
variable {P : Program} {w : World} {K : PySem.W.Frag} {mg : Str → Option Value} {base : Heap}
theorem ri_BadText (Z : Zs K mg) : Ri P w K mg base 1 "BadText" "row" := ri_of Z.i_BadText sci_BadText fun fI cdv A up s H E => ⟨_, _, rfl, ps_expr (pe_leinit Z.le (pa_cons (pv 0) (pa_cons pe_str pa_nil))), ps_ost (pv 0) (pv 1)⟩
theorem c_number_word (Z : Zs K mg) : Fm P w K mg base 1 "number_word" 1 m_number_word := by
  have B := Z.b
  have S := sc_number_word
  exact fm_mk (k := 0) Z.d_number_word sc_number_word [false] rfl fun f cdv Ar up s H E hr =>
    (sr_cons (sr_if (tr_w (tw_or (tr_not (tr_chain op_le op_le er_int (er_callB call_len vr_len (by rfl) B.len bt_len (ar_cons (er_var (pv 0)) ar_nil)) (er_globI Z.g_MOST_FIGURES))) (tw_or1 (tr_not (tr_tru (er_callB (cr_all rfl) vr_all (by rfl) B.all bt_all (ar_cons (ev_er (pe_lc0 (own := [("sign", 1)]) rfl S.nd (blkOk_by (by kernel_rfl))) (ev_lc0 (own := [("sign", 1)]) (ir_txt (er_var (pv 0))) (fun _ _ _ _ _ => (gr_name (pg_name (i := 1) S.nd rfl (.inl rfl)))) (by decide) (fun _ _ _ _ _ => (er_cmp op_in_sign vr_inS (er_var (pv 1)) (er_globS Z.g_FIGURES) (by with_unfolding_all rfl))))) ar_nil))))))) (sr_cons (sr_ret er_non) sr_nil) sr_nil) (sr_cons (sr_if (tr_w (tw_and (tr_cmp (op_eqD (hu_eq hr)) vr_eq (er_ix ix_seq vr_ix (er_var (pv 0)) er_int (fun _ _ => rfl)) er_str (nomark _)) (tw_and1 (tr_cmp (op_neD (hu_eq hr)) vr_ne (er_var (pv 0)) er_str (nomark _))))) (sr_cons (sr_ret er_non) sr_nil) sr_nil) (sr_cons (sr_ret (er_callTy call_int_str vr_intS (by rfl) B.int bt_int (ar_cons (er_var (pv 0)) ar_nil))) sr_nil)))
theorem c_number_words (Z : Zs K mg) : Fm P w K mg base 2 "number_words" 2 m_number_words := by
  have B := Z.b
  have S := sc_number_words
  have c_number_word := c_number_word (P := P) (w := w) (base := base) Z
  exact fm_mk (k := 1) Z.d_number_words sc_number_words [false, false] rfl fun f cdv Ar up s H E hr =>
    (sr_cons (sr_set (ps_lc0 (own := [("word", 3)]) (i := 2) rfl S.nd rfl rfl rfl (blkOk_by (by kernel_rfl))) (ev_lc0 (own := [("word", 3)]) (ir_seq (er_var (pv 0))) (fun _ _ _ _ _ => (gr_name (pg_name (i := 3) S.nd rfl (.inl rfl)))) (by decide) (fun _ _ _ _ _ => (er_call c_number_word hr (ca_cons (er_var (pv 3)) ca_nil))))) (sr_cons (sr_if (tr_w (tw_or (tr_cmp (op_neD (hu_eq hr)) vr_ne (er_callB call_len vr_len (by rfl) B.len bt_len (ar_cons (er_var (pv 2)) ar_nil)) (er_var (pv 1)) (nomark _)) (tw_or1 (tr_cmp (op_inAll (hu_in hr)) vr_in er_non (er_var (pv 2)) (by with_unfolding_all rfl))))) (sr_cons (sr_ret er_non) sr_nil) sr_nil) (sr_cons (sr_ret (er_var (pv 2))) sr_nil)))
theorem c_net_text (Z : Zs K mg) : Fm P w K mg base 1 "net_text" 1 m_net_text := by
  have B := Z.b
  have S := sc_net_text
  exact fm_mk (k := 0) Z.d_net_text sc_net_text [false] rfl fun f cdv Ar up s H E hr =>
    (sr_cons (sr_asg (ps_asg peW pgW) (er_var (pv 0)) (gr_tup rfl (grs_cons (gr_name (pg_name (i := 1) S.nd rfl (.inl rfl))) (grs_cons (gr_name (pg_name (i := 2) S.nd rfl (.inl rfl))) grs_nil)))) (sr_cons (sr_setO (ps_set (i := 3) S.nd rfl (.inl rfl) peW) (er_lst (ar_cons (er_op op_addAll vr_add er_str (er_callTy (call_str hr) vr_str (by rfl) B.str bt_str (ar_cons (er_var (pv 1)) ar_nil))) ar_nil))) (sr_cons (sr_for PassesOwn.never rfl (ir_seq (er_var (pv 2))) (gr_tup rfl (grs_cons (gr_name (pg_name (i := 4) S.nd rfl (.inl rfl))) (grs_cons (gr_name (pg_name (i := 5) S.nd rfl (.inl rfl))) (grs_cons (gr_name (pg_name (i := 6) S.nd rfl (.inl rfl))) grs_nil)))) (sr_cons (sr_do (er_mut mu_append PySem.F.slot_list_append PySem.F.type_list_append mt_append (pv 3) (ar_cons (er_join er_str (er_lst (ar_cons er_str (ar_cons (er_callTy (call_str hr) vr_str (by rfl) B.str bt_str (ar_cons (er_var (pv 4)) ar_nil)) (ar_cons (er_callTy (call_str hr) vr_str (by rfl) B.str bt_str (ar_cons (er_var (pv 5)) ar_nil)) (ar_cons (er_callTy (call_str hr) vr_str (by rfl) B.str bt_str (ar_cons (er_var (pv 6)) ar_nil)) ar_nil)))))) ar_nil))) sr_nil)) (sr_cons (sr_ret (ev_br (er_join er_str (er_see (pv 3))) 3)) sr_nil))))
theorem c_houses_from (Z : Zs K mg) : Fm P w K mg base 3 "houses_from" 1 m_houses_from := by
  have B := Z.b
  have S := sc_houses_from
  have c_number_words := c_number_words (P := P) (w := w) (base := base) Z
  exact fm_mk (k := 2) Z.d_houses_from sc_houses_from [false] rfl fun f cdv Ar up s H E hr =>
    (sr_cons (sr_set (ps_set (i := 1) S.nd rfl (.inl rfl) peW) (er_split (er_var (pv 0)) er_str)) (sr_cons (sr_set (ps_set (i := 2) S.nd rfl (.inl rfl) peW) (er_call c_number_words hr (ca_cons (er_cut (er_var (pv 1)) (po_some peW) (ov_some er_int) po_none ov_none) (ca_cons er_int ca_nil)))) (sr_cons (sr_if (tr_w (tw_or (tr_cmp (op_neD (hu_eq hr)) vr_ne (er_ix ix_seq vr_ix (er_var (pv 1)) er_int (fun _ _ => rfl)) er_str (nomark _)) (tw_or (tr_cmp op_isN vr_isN (er_var (pv 2)) er_non (nomark _)) (tw_or1 (tr_cmp op_lt vr_c2 (er_ix ix_seq vr_ix (er_var (pv 2)) er_int (fun _ _ => rfl)) er_int (nomark _)))))) (sr_cons (sr_ret er_non) sr_nil) sr_nil) (sr_cons (sr_ret (er_ix ix_seq vr_ix (er_var (pv 2)) er_int (fun _ _ => rfl))) sr_nil))))
theorem c_lane_from (Z : Zs K mg) : Fm P w K mg base 3 "lane_from" 2 m_lane_from := by
  have B := Z.b
  have S := sc_lane_from
  have c_number_words := c_number_words (P := P) (w := w) (base := base) Z
  exact fm_mk (k := 2) Z.d_lane_from sc_lane_from [false, false] rfl fun f cdv Ar up s H E hr =>
    (sr_cons (sr_set (ps_set (i := 2) S.nd rfl (.inl rfl) peW) (er_split (er_var (pv 0)) er_str)) (sr_cons (sr_set (ps_set (i := 3) S.nd rfl (.inl rfl) peW) (er_call c_number_words hr (ca_cons (er_cut (er_var (pv 2)) (po_some peW) (ov_some er_int) po_none ov_none) (ca_cons er_int ca_nil)))) (sr_cons (sr_if (tr_w (tw_or (tr_cmp (op_neD (hu_eq hr)) vr_ne (er_ix ix_seq vr_ix (er_var (pv 2)) er_int (fun _ _ => rfl)) er_str (nomark _)) (tw_or1 (tr_cmp op_isN vr_isN (er_var (pv 3)) er_non (nomark _))))) (sr_cons (sr_ret er_non) sr_nil) sr_nil) (sr_cons (sr_asg (ps_asg peW pgW) (er_var (pv 3)) (gr_tup rfl (grs_cons (gr_name (pg_name (i := 4) S.nd rfl (.inl rfl))) (grs_cons (gr_name (pg_name (i := 5) S.nd rfl (.inl rfl))) (grs_cons (gr_name (pg_name (i := 6) S.nd rfl (.inl rfl))) grs_nil))))) (sr_cons (sr_if (tr_w (tw_or (tr_cmp op_ge vr_c2 (er_var (pv 4)) (er_var (pv 1)) (nomark _)) (tw_or (tr_cmp op_ge vr_c2 (er_var (pv 5)) (er_var (pv 1)) (nomark _)) (tw_or (tr_cmp (op_eqD (hu_eq hr)) vr_eq (er_var (pv 4)) (er_var (pv 5)) (nomark _)) (tw_or1 (tr_cmp op_lt vr_c2 (er_var (pv 6)) er_int (nomark _))))))) (sr_cons (sr_ret er_non) sr_nil) sr_nil) (sr_cons (sr_ret (er_tup (ar_cons (er_var (pv 4)) (ar_cons (er_var (pv 5)) (ar_cons (er_var (pv 6)) ar_nil))))) sr_nil))))))
theorem c_net_from (Z : Zs K mg) : Fm P w K mg base 4 "net_from" 1 m_net_from := by
  have B := Z.b
  have S := sc_net_from
  have c_houses_from := c_houses_from (P := P) (w := w) (base := base) Z
  have c_lane_from := c_lane_from (P := P) (w := w) (base := base) Z
  exact fm_mk (k := 3) Z.d_net_from sc_net_from [false] rfl fun f cdv Ar up s H E hr =>
    (sr_cons (sr_set (ps_set (i := 1) S.nd rfl (.inl rfl) peW) (er_split (er_var (pv 0)) er_str)) (sr_cons (sr_set (ps_set (i := 2) S.nd rfl (.inl rfl) peW) (er_call c_houses_from hr (ca_cons (er_ix ix_seq vr_ix (er_var (pv 1)) er_int (fun _ _ => rfl)) ca_nil))) (sr_cons (sr_if (tr_cmp op_isN vr_isN (er_var (pv 2)) er_non (nomark _)) (sr_cons sr_never sr_nil) sr_nil) (sr_cons (sr_setO (ps_set (i := 3) S.nd rfl (.inl rfl) peW) (er_lst ar_nil)) (sr_cons (sr_for PassesOwn.never rfl (ir_enum (er_cut (er_var (pv 1)) (po_some peW) (ov_some er_int) po_none ov_none) (by rfl) B.enumerate) (gr_tup rfl (grs_cons (gr_name (pg_name (i := 4) S.nd rfl (.inl rfl))) (grs_cons (gr_name (pg_name (i := 5) S.nd rfl (.inl rfl))) grs_nil))) (sr_cons (sr_set (ps_set (i := 6) S.nd rfl (.inl rfl) peW) (er_call c_lane_from hr (ca_cons (er_var (pv 5)) (ca_cons (er_var (pv 2)) ca_nil)))) (sr_cons (sr_if (tr_cmp op_isN vr_isN (er_var (pv 6)) er_non (nomark _)) (sr_cons sr_never sr_nil) sr_nil) (sr_cons (sr_do (er_mut mu_append PySem.F.slot_list_append PySem.F.type_list_append mt_append (pv 3) (ar_cons (er_var (pv 6)) ar_nil))) sr_nil)))) (sr_cons (sr_ret (er_tupT (ar_cons (er_var (pv 2)) (ar_cons (er_tk (pv 3)) ar_nil)))) sr_nil))))))
theorem cx_net_from (Z : Zs K mg) : FmX P w K mg base 4 "net_from" 1 x_net_from := by
  have B := Z.b
  have S := sc_net_from
  have c_houses_from := c_houses_from (P := P) (w := w) (base := base) Z
  have c_lane_from := c_lane_from (P := P) (w := w) (base := base) Z
  have ri_BadText := ri_BadText (P := P) (w := w) (base := base) Z
  exact fmx_mk (k := 3) Z.d_net_from sc_net_from [false] rfl fun f cdv Ar up s H E hr =>
    (sx_cons (sx_o (sr_set (ps_set (i := 1) S.nd rfl (.inl rfl) peW) (er_split (er_var (pv 0)) er_str))) (sx_cons (sx_o (sr_set (ps_set (i := 2) S.nd rfl (.inl rfl) peW) (er_call c_houses_from hr (ca_cons (er_ix ix_seq vr_ix (er_var (pv 1)) er_int (fun _ _ => rfl)) ca_nil)))) (sx_cons (sx_if (tr_cmp op_isN vr_isN (er_var (pv 2)) er_non (nomark _)) (sx_cons (sx_ri ri_BadText hr er_int) sx_nil) sx_nil) (sx_cons (sx_o (sr_setO (ps_set (i := 3) S.nd rfl (.inl rfl) peW) (er_lst ar_nil))) (sx_cons (sx_for (passes_of rfl) rfl (ir_enum (er_cut (er_var (pv 1)) (po_some peW) (ov_some er_int) po_none ov_none) (by rfl) B.enumerate) (gr_tup rfl (grs_cons (gr_name (pg_name (i := 4) S.nd rfl (.inl rfl))) (grs_cons (gr_name (pg_name (i := 5) S.nd rfl (.inl rfl))) grs_nil))) (sx_cons (sx_o (sr_set (ps_set (i := 6) S.nd rfl (.inl rfl) peW) (er_call c_lane_from hr (ca_cons (er_var (pv 5)) (ca_cons (er_var (pv 2)) ca_nil))))) (sx_cons (sx_if (tr_cmp op_isN vr_isN (er_var (pv 6)) er_non (nomark _)) (sx_cons (sx_ri ri_BadText hr (er_op op_addAll vr_add (er_var (pv 4)) er_int)) sx_nil) sx_nil) (sx_cons (sx_o (sr_do (er_mut mu_append PySem.F.slot_list_append PySem.F.type_list_append mt_append (pv 3) (ar_cons (er_var (pv 6)) ar_nil)))) sx_nil)))) (sx_cons (sx_o (sr_ret (er_tupT (ar_cons (er_var (pv 2)) (ar_cons (er_tk (pv 3)) ar_nil))))) sx_nil))))))
theorem c_law_cell_at (Z : Zs K mg) : Fm P w K mg base 1 "_law_cell_at" 2 m_law_cell_at := by
  have B := Z.b
  have S := sc_law_cell_at
  exact fm_mk (k := 0) Z.d_law_cell_at sc_law_cell_at [true, false] rfl fun f cdv Ar up s H E hr =>
    (sr_cons (sr_ret (ev_br (er_if (tr_br (tr_cmp op_lt vr_c2 (er_var (pv 1)) (er_callB call_len vr_len (by rfl) B.len bt_len (ar_cons (er_see (pv 0)) ar_nil)) (nomark _)) 0) (er_ix ix_seq vr_ix (er_see (pv 0)) (er_var (pv 1)) (fun _ _ => rfl)) er_int) 0)) sr_nil)
theorem c_law_tape (Z : Zs K mg) : Fm P w K mg base 2 "_law_tape" 2 m_law_tape := by
  have B := Z.b
  have S := sc_law_tape
  have c_law_cell_at := c_law_cell_at (P := P) (w := w) (base := base) Z
  exact fm_mk (k := 1) Z.d_law_tape sc_law_tape [true, false] rfl fun f cdv Ar up s H E hr =>
    (sr_cons (sr_set (ps_set (i := 2) S.nd rfl (.inl rfl) peW) (er_call c_law_cell_at hr (ca_io (pv 0) (ca_cons (er_var (pv 1)) ca_nil)))) (sr_cons (sr_ret (er_lst (ar_cons (er_op op_mulAll vr_mul (er_callB call_abs vr_abs (by rfl) B.abs bt_abs (ar_cons (er_var (pv 2)) ar_nil)) (er_callTy call_int1 vr_int (by rfl) B.int bt_int (ar_cons (er_cmp op_ge vr_c2 (er_callB call_abs vr_abs (by rfl) B.abs bt_abs (ar_cons (er_var (pv 2)) ar_nil)) (er_op op_pow vr_pow er_int er_int) (nomark _)) ar_nil))) (ar_cons (er_op op_mod vr_mod (er_op op_mulAll vr_mul (er_op op_addAll vr_add (er_op op_addAll vr_add (er_op op_mod vr_mod (er_var (pv 2)) er_int) (er_op op_mulAll vr_mul er_int (er_var (pv 1)))) er_int) er_int) er_int) (ar_cons er_int ar_nil))))) sr_nil))
theorem c_law_take (Z : Zs K mg) : Fm P w K mg base 1 "_law_take" 2 m_law_take := by
  have B := Z.b
  have S := sc_law_take
  exact fm_mk (k := 0) Z.d_law_take sc_law_take [true, false] rfl fun f cdv Ar up s H E hr =>
    (sr_cons (sr_if (tr_br (tr_cmp op_gt vr_c2 (er_ix ix_seq vr_ix (er_see (pv 0)) er_int (fun _ _ => rfl)) er_int (nomark _)) 0) (sr_cons (sr_set (ps_set (i := 2) S.nd rfl (.inl rfl) peW) (ev_br (er_op op_mod vr_mod (er_ix ix_seq vr_ix (er_see (pv 0)) er_int (fun _ _ => rfl)) (er_var (pv 1))) 0)) (sr_cons (sr_setP (ps_asg peW (pg_sub peW peW set_list)) (ev_br (er_op op_fdiv vr_div (er_ix ix_seq vr_ix (er_see (pv 0)) er_int (fun _ _ => rfl)) (er_var (pv 1))) 0) (pv_here (pv 0)) er_int) (sr_cons (sr_ret (er_var (pv 2))) sr_nil))) sr_nil) (sr_cons (sr_setP (ps_asg peW (pg_sub peW peW set_list)) (ev_br (er_op op_addAll vr_add (er_ix ix_seq vr_ix (er_see (pv 0)) er_int (fun _ _ => rfl)) er_int) 0) (pv_here (pv 0)) er_int) (sr_cons (sr_set (ps_set (i := 3) S.nd rfl (.inl rfl) peW) (ev_br (er_op op_mod vr_mod (er_op op_mulAll vr_mul (er_op op_addAll vr_add (er_ix ix_seq vr_ix (er_see (pv 0)) er_int (fun _ _ => rfl)) (er_op op_mulAll vr_mul er_int (er_ix ix_seq vr_ix (er_see (pv 0)) er_int (fun _ _ => rfl)))) (er_op op_addAll vr_add er_int (er_ix ix_seq vr_ix (er_see (pv 0)) er_int (fun _ _ => rfl)))) er_int) 0)) (sr_cons (sr_setP (ps_asg peW (pg_sub peW peW set_list)) (ev_br (er_op op_mod vr_mod (er_op op_addAll vr_add (er_op op_mulAll vr_mul (er_var (pv 3)) (er_op op_addAll vr_add (er_op op_mod vr_mod (er_var (pv 3)) er_int) er_int)) (er_ix ix_seq vr_ix (er_see (pv 0)) er_int (fun _ _ => rfl))) er_int) 0) (pv_here (pv 0)) er_int) (sr_cons (sr_ret (ev_br (er_op op_mod vr_mod (er_op op_fdiv vr_div (er_op op_mod vr_mod (er_op op_mulAll vr_mul (er_ix ix_seq vr_ix (er_see (pv 0)) er_int (fun _ _ => rfl)) (er_op op_addAll vr_add (er_op op_mod vr_mod (er_ix ix_seq vr_ix (er_see (pv 0)) er_int (fun _ _ => rfl)) er_int) er_int)) er_int) er_int) (er_var (pv 1))) 0)) sr_nil)))))
theorem c_law_room (Z : Zs K mg) : Fm P w K mg base 2 "_law_room" 1 m_law_room := by
  have B := Z.b
  have S := sc_law_room
  have c_law_take := c_law_take (P := P) (w := w) (base := base) Z
  exact fm_mk (k := 1) Z.d_law_room sc_law_room [true] rfl fun f cdv Ar up s H E hr =>
    (sr_cons (sr_ret (er_ix ix_seq vr_ix (er_lst (ar_cons er_int (ar_cons er_int (ar_cons (er_op op_addAll vr_add er_int (er_call c_law_take hr (ca_io (pv 0) (ca_cons er_int ca_nil)))) ar_nil)))) (er_call c_law_take hr (ca_io (pv 0) (ca_cons er_int ca_nil))) (fun _ _ => rfl))) sr_nil)
theorem c_law_net (Z : Zs K mg) : Fm P w K mg base 3 "_law_net" 1 m_law_net := by
  have B := Z.b
  have S := sc_law_net
  have c_law_take := c_law_take (P := P) (w := w) (base := base) Z
  have c_law_room := c_law_room (P := P) (w := w) (base := base) Z
  exact fm_mk (k := 2) Z.d_law_net sc_law_net [true] rfl fun f cdv Ar up s H E hr =>
    (sr_cons (sr_set (ps_set (i := 1) S.nd rfl (.inl rfl) peW) (er_call c_law_take hr (ca_io (pv 0) (ca_cons er_int ca_nil)))) (sr_cons (sr_set (ps_set (i := 2) S.nd rfl (.inl rfl) peW) (er_cmp (op_eqD (hu_eq hr)) vr_eq (er_call c_law_take hr (ca_io (pv 0) (ca_cons er_int ca_nil))) er_int (nomark _))) (sr_cons (sr_set (ps_set (i := 3) S.nd rfl (.inr rfl) peW) (er_if (tr_tru (er_var (pv 2))) (er_op op_addAll vr_add er_int (er_call c_law_take hr (ca_io (pv 0) (ca_cons er_int ca_nil)))) (er_op op_addAll vr_add er_int (er_call c_law_take hr (ca_io (pv 0) (ca_cons er_int ca_nil)))))) (sr_cons (sr_setO (ps_set (i := 4) S.nd rfl (.inl rfl) peW) (er_lst ar_nil)) (sr_cons (sr_if (tr_cmp (op_eqD (hu_eq hr)) vr_eq (er_var (pv 1)) er_int (nomark _)) (sr_cons (sr_set (ps_set (i := 5) S.nd rfl (.inl rfl) peW) (er_op op_addAll vr_add er_int (er_call c_law_take hr (ca_io (pv 0) (ca_cons er_int ca_nil))))) (sr_cons (sr_for PassesOwn.never rfl (ir_range1 (ar_cons (er_var (pv 3)) ar_nil) (by rfl) B.range) (gr_name (pg_name (i := 6) S.nd rfl (.inr rfl))) (sr_cons (sr_do (er_mut mu_extend PySem.F.slot_list_extend PySem.F.type_list_extend mt_extend (pv 4) (ar_cons (ev_er (pe_lc0 (own := [("_law_turn", 8)]) rfl S.nd (blkOk_by (by kernel_rfl))) (ev_lc0 (own := [("_law_turn", 8)]) (ir_range1 (ar_cons (er_var (pv 5)) ar_nil) (by rfl) B.range) (fun _ _ _ _ _ => (gr_name (pg_name (i := 8) S.nd rfl (.inl rfl)))) (by decide) (fun _ _ _ _ _ => (er_tup (ar_cons (er_var (pv 6)) (ar_cons (er_op op_mod vr_mod (er_op op_addAll vr_add (er_var (pv 6)) er_int) (er_var (pv 3))) (ar_cons (er_call c_law_room hr (ca_io (pv 0) ca_nil)) ar_nil))))))) ar_nil))) sr_nil)) sr_nil)) sr_nil) (sr_cons (sr_if (tr_cmp (op_eqD (hu_eq hr)) vr_eq (er_var (pv 1)) er_int (nomark _)) (sr_cons (sr_for PassesOwn.never rfl (ir_range2 (ar_cons er_int (ar_cons (er_var (pv 3)) ar_nil)) (by rfl) B.range) (gr_name (pg_name (i := 6) S.nd rfl (.inr rfl))) (sr_cons (sr_set (ps_set (i := 7) S.nd rfl (.inl rfl) peW) (er_call c_law_take hr (ca_io (pv 0) (ca_cons (er_var (pv 6)) ca_nil)))) (sr_cons (sr_do (er_mut mu_extend PySem.F.slot_list_extend PySem.F.type_list_extend mt_extend (pv 4) (ar_cons (er_lst (ar_cons (er_tup (ar_cons (er_var (pv 6)) (ar_cons (er_var (pv 7)) (ar_cons (er_call c_law_room hr (ca_io (pv 0) ca_nil)) ar_nil)))) (ar_cons (er_tup (ar_cons (er_var (pv 7)) (ar_cons (er_var (pv 6)) (ar_cons (er_call c_law_room hr (ca_io (pv 0) ca_nil)) ar_nil)))) ar_nil))) ar_nil))) sr_nil))) sr_nil) sr_nil) (sr_cons (sr_for PassesOwn.never rfl (ir_range1 (ar_cons (er_call c_law_take hr (ca_io (pv 0) (ca_cons er_int ca_nil))) ar_nil) (by rfl) B.range) (gr_name (pg_name (i := 8) S.nd rfl (.inl rfl))) (sr_cons (sr_set (ps_set (i := 9) S.nd rfl (.inl rfl) peW) (er_call c_law_take hr (ca_io (pv 0) (ca_cons (er_var (pv 3)) ca_nil)))) (sr_cons (sr_set (ps_set (i := 10) S.nd rfl (.inl rfl) peW) (er_op op_mod vr_mod (er_op op_addAll vr_add (er_op op_addAll vr_add (er_var (pv 9)) er_int) (er_call c_law_take hr (ca_io (pv 0) (ca_cons (er_op op_sub' vr_sub (er_var (pv 3)) er_int) ca_nil)))) (er_var (pv 3)))) (sr_cons (sr_do (er_mut mu_insert PySem.F.slot_list_insert PySem.F.type_list_insert mt_insert (pv 4) (ar_cons (er_call c_law_take hr (ca_io (pv 0) (ca_cons (ev_br (er_op op_addAll vr_add (er_callB call_len vr_len (by rfl) B.len bt_len (ar_cons (er_see (pv 4)) ar_nil)) er_int) 4) ca_nil))) (ar_cons (er_tup (ar_cons (er_var (pv 9)) (ar_cons (er_var (pv 10)) (ar_cons (er_call c_law_room hr (ca_io (pv 0) ca_nil)) ar_nil)))) ar_nil)))) (sr_cons (sr_if (tr_cmp (op_eqD (hu_eq hr)) vr_eq (er_var (pv 1)) er_int (nomark _)) (sr_cons (sr_do (er_mut mu_append PySem.F.slot_list_append PySem.F.type_list_append mt_append (pv 4) (ar_cons (er_tup (ar_cons (er_var (pv 10)) (ar_cons (er_var (pv 9)) (ar_cons (er_call c_law_room hr (ca_io (pv 0) ca_nil)) ar_nil)))) ar_nil))) sr_nil) sr_nil) sr_nil))))) (sr_cons (sr_ret (er_tup (ar_cons (er_var (pv 3)) (ar_cons (ev_br (er_cut (er_see (pv 4)) po_none ov_none (po_some peW) (ov_some (er_if (tr_tru (er_var (pv 2))) er_int er_int))) 4) ar_nil)))) sr_nil))))))))
theorem c_law_same (Z : Zs K mg) : ∀ j, Fm P w K mg base (1 + j) "_law_same" 2 (m_law_same j)
  | 0 => fm_mk (k := 0) Z.d_law_same sc_law_same [false, false] rfl fun f cdv Ar up s H E hr => ⟨fun s o em => nomatch em⟩
  | j + 1 => by
    have B := Z.b
    have S := sc_law_same
    have ih := c_law_same Z j
    exact fm_mk (k := 1 + j) Z.d_law_same sc_law_same [false, false] rfl fun f cdv Ar up s H E hr =>
      (sr_cons (sr_if (tr_tru (er_isi2 isT_list isT_tuple (er_var (pv 1)) (pe_bltn (by rfl) B.list bt_list rfl) (pe_bltn (by rfl) B.tuple bt_tuple rfl) (hm := B.isinstance))) (sr_cons (sr_if (tr_w (tw_or (tr_cmp (op_neD (hu_eq hr)) vr_ne (er_isi isT_list (er_var (pv 0)) (pe_bltn (by rfl) B.list bt_list rfl) (hm := B.isinstance)) (er_isi isT_list (er_var (pv 1)) (pe_bltn (by rfl) B.list bt_list rfl) (hm := B.isinstance)) (nomark _)) (tw_or1 (tr_cmp (op_neD (hu_eq hr)) vr_ne (er_isi isT_tuple (er_var (pv 0)) (pe_bltn (by rfl) B.tuple bt_tuple rfl) (hm := B.isinstance)) (er_isi isT_tuple (er_var (pv 1)) (pe_bltn (by rfl) B.tuple bt_tuple rfl) (hm := B.isinstance)) (nomark _))))) (sr_cons (sr_ret er_bl) sr_nil) sr_nil) (sr_cons (sr_if (tr_cmp (op_neD (hu_eq hr)) vr_ne (er_callB call_len vr_len (by rfl) B.len bt_len (ar_cons (er_var (pv 0)) ar_nil)) (er_callB call_len vr_len (by rfl) B.len bt_len (ar_cons (er_var (pv 1)) ar_nil)) (nomark _)) (sr_cons (sr_ret er_bl) sr_nil) sr_nil) (sr_cons (sr_ret (er_callB (cr_all rfl) vr_all (by rfl) B.all bt_all (ar_cons (ev_er (pe_lc0 (own := [("_law_one", 2), ("_law_other", 3)]) rfl S.nd (blkOk_by (by kernel_rfl))) (ev_lc0 (own := [("_law_one", 2), ("_law_other", 3)]) (ir_zip (er_var (pv 0)) (er_var (pv 1)) (by rfl) B.zip) (fun _ _ _ _ _ => (gr_tup rfl (grs_cons (gr_name (pg_name (i := 2) S.nd rfl (.inl rfl))) (grs_cons (gr_name (pg_name (i := 3) S.nd rfl (.inl rfl))) grs_nil)))) (by decide) (fun _ _ _ _ _ => (er_call ih hr (ca_cons (er_var (pv 2)) (ca_cons (er_var (pv 3)) ca_nil)) (hkj := by omega))))) ar_nil))) sr_nil))) sr_nil) (sr_cons (sr_if (tr_w (tw_or (tr_cmp op_isN vr_isN (er_var (pv 1)) er_non (nomark _)) (tw_or1 (tr_tru (er_isi isT_str (er_var (pv 1)) (pe_bltn (by rfl) B.str bt_str rfl) (hm := B.isinstance)))))) (sr_cons (sr_ret (er_and (er_cmp (op_eqD (hu_eq hr)) vr_eq (er_var (pv 0)) (er_var (pv 1)) (nomark _)) (er_one (er_cmp (op_eqD (hu_eq hr)) vr_eq (er_isi isT_str (er_var (pv 0)) (pe_bltn (by rfl) B.str bt_str rfl) (hm := B.isinstance)) (er_isi isT_str (er_var (pv 1)) (pe_bltn (by rfl) B.str bt_str rfl) (hm := B.isinstance)) (nomark _))))) sr_nil) sr_nil) (sr_cons (sr_if (tr_tru (er_isi isT_bool (er_var (pv 1)) (pe_bltn (by rfl) B.bool bt_bool rfl) (hm := B.isinstance))) (sr_cons (sr_ret (er_and (er_isi isT_bool (er_var (pv 0)) (pe_bltn (by rfl) B.bool bt_bool rfl) (hm := B.isinstance)) (er_one (er_cmp (op_eqD (hu_eq hr)) vr_eq (er_var (pv 0)) (er_var (pv 1)) (nomark _))))) sr_nil) sr_nil) (sr_cons (sr_ret (er_and (er_isi isT_int (er_var (pv 0)) (pe_bltn (by rfl) B.int bt_int rfl) (hm := B.isinstance)) (er_and (er_not (er_isi isT_bool (er_var (pv 0)) (pe_bltn (by rfl) B.bool bt_bool rfl) (hm := B.isinstance))) (er_one (er_cmp (op_eqD (hu_eq hr)) vr_eq (er_var (pv 0)) (er_var (pv 1)) (nomark _)))))) sr_nil))))
theorem c_law_rows_otherwise (Z : Zs K mg) : Fm P w K mg base 2 "_law_rows_otherwise" 2 m_law_rows_otherwise := by
  have B := Z.b
  have S := sc_law_rows_otherwise
  have c_law_take := c_law_take (P := P) (w := w) (base := base) Z
  exact fm_mk (k := 1) Z.d_law_rows_otherwise sc_law_rows_otherwise [true, false] rfl fun f cdv Ar up s H E hr =>
    (sr_cons (sr_setO (ps_set (i := 2) S.nd rfl (.inl rfl) peW) (er_split (er_var (pv 1)) er_str)) (sr_cons (sr_par (ps_par (i := 3) (j := 4) rfl S.nd rfl rfl (by decide) rfl rfl paW rfl) (ar_cons (er_call c_law_take hr (ca_io (pv 0) (ca_cons (ev_br (er_callB call_len vr_len (by rfl) B.len bt_len (ar_cons (er_see (pv 2)) ar_nil)) 2) ca_nil))) (ar_cons (er_call c_law_take hr (ca_io (pv 0) (ca_cons (ev_br (er_callB call_len vr_len (by rfl) B.len bt_len (ar_cons (er_see (pv 2)) ar_nil)) 2) ca_nil))) ar_nil))) (sr_cons (sr_set (ps_set (i := 5) S.nd rfl (.inl rfl) peW) (er_call c_law_take hr (ca_io (pv 0) (ca_cons er_int ca_nil)))) (sr_cons (sr_if (tr_cmp (op_eqD (hu_eq hr)) vr_eq (er_var (pv 5)) er_int (nomark _)) (sr_cons (sr_do (er_mut mu_insert PySem.F.slot_list_insert PySem.F.type_list_insert mt_insert (pv 2) (ar_cons (er_var (pv 4)) (ar_cons (ev_br (er_ix ix_seq vr_ix (er_see (pv 2)) (er_var (pv 3)) (fun _ _ => rfl)) 2) ar_nil)))) sr_nil) (sr_cons (sr_if (tr_cmp (op_eqD (hu_eq hr)) vr_eq (er_var (pv 5)) er_int (nomark _)) (sr_cons (sr_do (er_mut mu_popAt PySem.F.slot_list_pop PySem.F.type_list_pop mt_popAt (pv 2) (ar_cons (er_var (pv 3)) ar_nil))) sr_nil) (sr_cons (sr_if (tr_cmp (op_eqD (hu_eq hr)) vr_eq (er_var (pv 5)) er_int (nomark _)) (sr_cons (sr_do (er_mut mu_insert PySem.F.slot_list_insert PySem.F.type_list_insert mt_insert (pv 2) (ar_cons (er_var (pv 4)) (ar_cons er_str ar_nil)))) sr_nil) (sr_cons (sr_setP2 (ps_asg peW (pg_tup rfl (pgs_cons (pg_sub peW peW set_list) (pgs_cons (pg_sub peW peW set_list) pgs_nil)))) (er_tup (ar_cons (ev_br (er_ix ix_seq vr_ix (er_see (pv 2)) (er_var (pv 4)) (fun _ _ => rfl)) 2) (ar_cons (ev_br (er_ix ix_seq vr_ix (er_see (pv 2)) (er_var (pv 3)) (fun _ _ => rfl)) 2) ar_nil))) (pv_here (pv 2)) (er_var (pv 3)) (pv_here (pv 2)) (er_var (pv 4))) sr_nil)) sr_nil)) sr_nil)) (sr_cons (sr_ret (ev_br (er_join er_str (er_see (pv 2))) 2)) sr_nil)))))
theorem c_law_spoilt_k63 (Z : Zs K mg) : Fm P w K mg base 3 "_law_spoilt" 2 m_law_spoilt_k63 := by
  have B := Z.b
  have S := sc_law_spoilt_k63
  have c_law_take := c_law_take (P := P) (w := w) (base := base) Z
  have c_law_rows_otherwise := c_law_rows_otherwise (P := P) (w := w) (base := base) Z
  exact fm_mk (k := 2) Z.d_law_spoilt_k63 sc_law_spoilt_k63 [true, false] rfl fun f cdv Ar up s H E hr =>
    (sr_cons (sr_set (ps_set (i := 2) S.nd rfl (.inl rfl) peW) er_str) (sr_cons (sr_set (ps_set (i := 3) S.nd rfl (.inl rfl) peW) (er_call c_law_take hr (ca_io (pv 0) (ca_cons (er_op op_addAll vr_add (er_callB call_len vr_len (by rfl) B.len bt_len (ar_cons (er_var (pv 1)) ar_nil)) er_int) ca_nil)))) (sr_cons (sr_set (ps_set (i := 4) S.nd rfl (.inl rfl) peW) (er_ix ix_seq vr_ix (er_op op_addAll vr_add (er_var (pv 2)) er_str) (er_call c_law_take hr (ca_io (pv 0) (ca_cons er_int ca_nil))) (fun _ _ => rfl))) (sr_cons (sr_set (ps_set (i := 5) S.nd rfl (.inl rfl) peW) (er_call c_law_take hr (ca_io (pv 0) (ca_cons er_int ca_nil)))) (sr_cons (sr_if (tr_cmp op_lt vr_c2 (er_var (pv 5)) er_int (nomark _)) (sr_cons (sr_ret (er_op op_addAll vr_add (er_op op_addAll vr_add (er_cut (er_var (pv 1)) po_none ov_none (po_some peW) (ov_some (er_var (pv 3)))) (er_var (pv 4))) (er_cut (er_var (pv 1)) (po_some peW) (ov_some (er_op op_addAll vr_add (er_var (pv 3)) er_int)) po_none ov_none))) sr_nil) sr_nil) (sr_cons (sr_if (tr_cmp op_lt vr_c2 (er_var (pv 5)) er_int (nomark _)) (sr_cons (sr_ret (er_op op_addAll vr_add (er_op op_addAll vr_add (er_cut (er_var (pv 1)) po_none ov_none (po_some peW) (ov_some (er_var (pv 3)))) (er_var (pv 4))) (er_cut (er_var (pv 1)) (po_some peW) (ov_some (er_var (pv 3))) po_none ov_none))) sr_nil) sr_nil) (sr_cons (sr_if (tr_cmp (op_eqD (hu_eq hr)) vr_eq (er_var (pv 5)) er_int (nomark _)) (sr_cons (sr_ret (er_op op_addAll vr_add (er_cut (er_var (pv 1)) po_none ov_none (po_some peW) (ov_some (er_var (pv 3)))) (er_cut (er_var (pv 1)) (po_some peW) (ov_some (er_op op_addAll vr_add (er_var (pv 3)) er_int)) po_none ov_none))) sr_nil) sr_nil) (sr_cons (sr_if (tr_cmp (op_eqD (hu_eq hr)) vr_eq (er_var (pv 5)) er_int (nomark _)) (sr_cons (sr_par (ps_par (i := 6) (j := 7) rfl S.nd rfl rfl (by decide) rfl rfl paW rfl) (ar_cons (er_cut (er_var (pv 1)) (po_some peW) (ov_some (er_var (pv 3))) (po_some peW) (ov_some (er_op op_addAll vr_add (er_var (pv 3)) er_int))) (ar_cons (er_cut (er_var (pv 1)) (po_some peW) (ov_some (er_op op_addAll vr_add (er_var (pv 3)) er_int)) (po_some peW) (ov_some (er_op op_addAll vr_add (er_var (pv 3)) er_int))) ar_nil))) (sr_cons (sr_ret (er_op op_addAll vr_add (er_op op_addAll vr_add (er_op op_addAll vr_add (er_cut (er_var (pv 1)) po_none ov_none (po_some peW) (ov_some (er_var (pv 3)))) (er_var (pv 7))) (er_var (pv 6))) (er_cut (er_var (pv 1)) (po_some peW) (ov_some (er_op op_addAll vr_add (er_var (pv 3)) er_int)) po_none ov_none))) sr_nil)) sr_nil) (sr_cons (sr_if (tr_cmp (op_eqD (hu_eq hr)) vr_eq (er_var (pv 5)) er_int (nomark _)) (sr_cons (sr_ret (er_cut (er_var (pv 1)) po_none ov_none (po_some peW) (ov_some (er_var (pv 3))))) sr_nil) sr_nil) (sr_cons (sr_ret (er_call c_law_rows_otherwise hr (ca_io (pv 0) (ca_cons (er_var (pv 1)) ca_nil)))) sr_nil))))))))))
theorem c_law_net_text (Z : Zs K mg) : Fm P w K mg base 1 "_law_net_text" 1 m_law_net_text := by
  have B := Z.b
  have S := sc_law_net_text
  exact fm_mk (k := 0) Z.d_law_net_text sc_law_net_text [false] rfl fun f cdv Ar up s H E hr =>
    (sr_cons (sr_setO (ps_set (i := 1) S.nd rfl (.inl rfl) peW) (er_lst (ar_cons (er_op op_addAll vr_add er_str (er_callTy (call_str hr) vr_str (by rfl) B.str bt_str (ar_cons (er_ix ix_seq vr_ix (er_var (pv 0)) er_int (fun _ _ => rfl)) ar_nil))) ar_nil))) (sr_cons (sr_for PassesOwn.never rfl (ir_seq (er_ix ix_seq vr_ix (er_var (pv 0)) er_int (fun _ _ => rfl))) (gr_tup rfl (grs_cons (gr_name (pg_name (i := 2) S.nd rfl (.inl rfl))) (grs_cons (gr_name (pg_name (i := 3) S.nd rfl (.inl rfl))) (grs_cons (gr_name (pg_name (i := 4) S.nd rfl (.inl rfl))) grs_nil)))) (sr_cons (sr_do (er_mut mu_append PySem.F.slot_list_append PySem.F.type_list_append mt_append (pv 1) (ar_cons (er_op op_addAll vr_add (er_op op_addAll vr_add (er_op op_addAll vr_add (er_op op_addAll vr_add (er_op op_addAll vr_add er_str (er_callTy (call_str hr) vr_str (by rfl) B.str bt_str (ar_cons (er_var (pv 2)) ar_nil))) er_str) (er_callTy (call_str hr) vr_str (by rfl) B.str bt_str (ar_cons (er_var (pv 3)) ar_nil))) er_str) (er_callTy (call_str hr) vr_str (by rfl) B.str bt_str (ar_cons (er_var (pv 4)) ar_nil))) ar_nil))) sr_nil)) (sr_cons (sr_ret (ev_br (er_join er_str (er_see (pv 1))) 1)) sr_nil)))
theorem c_law_number (Z : Zs K mg) : Fm P w K mg base 1 "_law_number" 1 m_law_number := by
  have B := Z.b
  have S := sc_law_number
  exact fm_mk (k := 0) Z.d_law_number sc_law_number [false] rfl fun f cdv Ar up s H E hr =>
    (sr_cons (sr_if (tr_w (tw_or (tr_not (tr_chain op_lt op_lt er_int (er_callB call_len vr_len (by rfl) B.len bt_len (ar_cons (er_var (pv 0)) ar_nil)) er_int)) (tw_or (tr_tru (er_callB (cr_any rfl) vr_any (by rfl) B.any bt_any (ar_cons (ev_er (pe_lc0 (own := [("_law_sign", 1)]) rfl S.nd (blkOk_by (by kernel_rfl))) (ev_lc0 (own := [("_law_sign", 1)]) (ir_txt (er_var (pv 0))) (fun _ _ _ _ _ => (gr_name (pg_name (i := 1) S.nd rfl (.inl rfl)))) (by decide) (fun _ _ _ _ _ => (er_cmp op_notIn_sign vr_notInS (er_var (pv 1)) er_str (by with_unfolding_all rfl))))) ar_nil))) (tw_or1 (tr_cmp (op_neD (hu_eq hr)) vr_ne (er_callTy (call_str hr) vr_str (by rfl) B.str bt_str (ar_cons (er_callTy call_int_str vr_intS (by rfl) B.int bt_int (ar_cons (er_var (pv 0)) ar_nil)) ar_nil)) (er_var (pv 0)) (nomark _)))))) (sr_cons (sr_ret (er_un un_neg vr_neg er_int)) sr_nil) sr_nil) (sr_cons (sr_ret (er_callTy call_int_str vr_intS (by rfl) B.int bt_int (ar_cons (er_var (pv 0)) ar_nil))) sr_nil))
theorem c_law_numbers (Z : Zs K mg) : Fm P w K mg base 2 "_law_numbers" 2 m_law_numbers := by
  have B := Z.b
  have S := sc_law_numbers
  have c_law_number := c_law_number (P := P) (w := w) (base := base) Z
  exact fm_mk (k := 1) Z.d_law_numbers sc_law_numbers [false, false] rfl fun f cdv Ar up s H E hr =>
    (sr_cons (sr_set (ps_set (i := 2) S.nd rfl (.inl rfl) peW) (er_split (er_var (pv 0)) er_str)) (sr_cons (sr_set (ps_lc0 (own := [("_law_one", 4)]) (i := 3) rfl S.nd rfl rfl rfl (blkOk_by (by kernel_rfl))) (ev_lc0 (own := [("_law_one", 4)]) (ir_seq (er_cut (er_var (pv 2)) (po_some peW) (ov_some er_int) po_none ov_none)) (fun _ _ _ _ _ => (gr_name (pg_name (i := 4) S.nd rfl (.inl rfl)))) (by decide) (fun _ _ _ _ _ => (er_call c_law_number hr (ca_cons (er_var (pv 4)) ca_nil))))) (sr_cons (sr_ret (er_if (tr_w (tw_and (tr_cmp (op_eqD (hu_eq hr)) vr_eq (er_ix ix_seq vr_ix (er_var (pv 2)) er_int (fun _ _ => rfl)) (er_var (pv 1)) (nomark _)) (tw_and1 (tr_cmp (op_notInAll (hu_in hr)) vr_notIn (er_un un_neg vr_neg er_int) (er_var (pv 3)) (by with_unfolding_all rfl))))) (er_var (pv 3)) (er_lst ar_nil))) sr_nil)))
theorem c_law_net_read (Z : Zs K mg) : Fm P w K mg base 3 "_law_net_read" 1 m_law_net_read := by
  have B := Z.b
  have S := sc_law_net_read
  have c_law_numbers := c_law_numbers (P := P) (w := w) (base := base) Z
  exact fm_mk (k := 2) Z.d_law_net_read sc_law_net_read [false] rfl fun f cdv Ar up s H E hr =>
    (sr_cons (sr_set (ps_set (i := 1) S.nd rfl (.inl rfl) peW) (er_split (er_var (pv 0)) er_str)) (sr_cons (sr_set (ps_set (i := 2) S.nd rfl (.inl rfl) peW) (er_call c_law_numbers hr (ca_cons (er_ix ix_seq vr_ix (er_var (pv 1)) er_int (fun _ _ => rfl)) (ca_cons er_str ca_nil)))) (sr_cons (sr_if (tr_w (tw_or (tr_cmp (op_neD (hu_eq hr)) vr_ne (er_callB call_len vr_len (by rfl) B.len bt_len (ar_cons (er_var (pv 2)) ar_nil)) er_int (nomark _)) (tw_or1 (tr_cmp op_lt vr_c2 (er_ix ix_seq vr_ix (er_var (pv 2)) er_int (fun _ _ => rfl)) er_int (nomark _))))) (sr_cons (sr_ret er_int) sr_nil) sr_nil) (sr_cons (sr_setO (ps_set (i := 3) S.nd rfl (.inl rfl) peW) (er_lst ar_nil)) (sr_cons (sr_for PassesOwn.never rfl (ir_enum (er_cut (er_var (pv 1)) (po_some peW) (ov_some er_int) po_none ov_none) (by rfl) B.enumerate) (gr_tup rfl (grs_cons (gr_name (pg_name (i := 4) S.nd rfl (.inl rfl))) (grs_cons (gr_name (pg_name (i := 5) S.nd rfl (.inl rfl))) grs_nil))) (sr_cons (sr_set (ps_set (i := 6) S.nd rfl (.inl rfl) peW) (er_call c_law_numbers hr (ca_cons (er_var (pv 5)) (ca_cons er_str ca_nil)))) (sr_cons (sr_if (tr_w (tw_or (tr_cmp (op_neD (hu_eq hr)) vr_ne (er_callB call_len vr_len (by rfl) B.len bt_len (ar_cons (er_var (pv 6)) ar_nil)) er_int (nomark _)) (tw_or (tr_cmp op_ge vr_c2 (er_callB (cr_max rfl) vr_max (by rfl) B.max bt_max (ar_cons (er_cut (er_var (pv 6)) po_none ov_none (po_some peW) (ov_some er_int)) ar_nil)) (er_ix ix_seq vr_ix (er_var (pv 2)) er_int (fun _ _ => rfl)) (nomark _)) (tw_or (tr_cmp (op_eqD (hu_eq hr)) vr_eq (er_ix ix_seq vr_ix (er_var (pv 6)) er_int (fun _ _ => rfl)) (er_ix ix_seq vr_ix (er_var (pv 6)) er_int (fun _ _ => rfl)) (nomark _)) (tw_or1 (tr_cmp op_lt vr_c2 (er_ix ix_seq vr_ix (er_var (pv 6)) er_int (fun _ _ => rfl)) er_int (nomark _))))))) (sr_cons (sr_ret (er_op op_addAll vr_add (er_var (pv 4)) er_int)) sr_nil) sr_nil) (sr_cons (sr_do (er_mut mu_append PySem.F.slot_list_append PySem.F.type_list_append mt_append (pv 3) (ar_cons (er_callTy call_tuple_of vr_tuple (by rfl) B.tuple bt_tuple (ar_cons (er_var (pv 6)) ar_nil)) ar_nil))) sr_nil)))) (sr_cons (sr_fz (sr_ret (er_tup (ar_cons (er_ix ix_seq vr_ix (er_var (pv 2)) er_int (fun _ _ => rfl)) (ar_cons (er_var (pv 3)) ar_nil)))) 3) sr_nil))))))
theorem c_law_word_k62 (Z : Zs K mg) : Fm P w K mg base 1 "_law_word" 1 m_law_word_k62 := by
  have B := Z.b
  have S := sc_law_word_k62
  exact fm_mk (k := 0) Z.d_law_word_k62 sc_law_word_k62 [false] rfl fun f cdv Ar up s H E hr =>
    (sr_cons (sr_set (ps_set (i := 1) S.nd rfl (.inl rfl) peW) (er_lst (ar_cons (er_isx Z.kin ⟨Z.k_BadText⟩ (er_var (pv 0)) (by rfl) B.isinstance) (ar_cons (er_isx Z.kin ⟨Z.k_BadTrain⟩ (er_var (pv 0)) (by rfl) B.isinstance) (ar_cons (er_isx Z.kin ⟨Z.k_BadStep⟩ (er_var (pv 0)) (by rfl) B.isinstance) ar_nil))))) (sr_cons (sr_set (ps_set (i := 1) S.nd rfl (.inl rfl) peW) (er_op op_addAll vr_add (er_var (pv 1)) (er_lst (ar_cons (er_isx Z.kin ⟨Z.k_NoWay⟩ (er_var (pv 0)) (by rfl) B.isinstance) (ar_cons (er_isxT Z.kin (clsNs_cons ⟨Z.k_NoStep⟩ (clsNs_cons ⟨Z.k_NoTrain⟩ clsNs_nil)) (by decide) (er_var (pv 0)) B.isinstance) ar_nil))))) (sr_cons (sr_if (tr_w (tw_or (tr_cmp (op_neD (hu_eq hr)) vr_ne (er_lm vr_count PySem.F.slot_list_count PySem.F.type_list_count (mt_countD (hu_in hr)) (er_var (pv 1)) (ar_cons er_bl ar_nil)) er_int (nomark _)) (tw_or (tr_tru (er_ix ix_seq vr_ix (er_var (pv 1)) er_int (fun _ _ => rfl))) (tw_or1 (tr_not (tr_tru (er_isxV (er_var (pv 0)) B.isinstance Z.v))))))) (sr_cons (sr_ret (er_tup (ar_cons er_str (ar_cons er_int ar_nil)))) sr_nil) sr_nil) (sr_cons (sr_set (ps_set (i := 2) S.nd rfl (.inl rfl) peW) (er_ix ix_seq vr_ix (er_lst (ar_cons er_str (ar_cons er_str (ar_cons er_str (ar_cons er_str ar_nil))))) (er_lm vr_index PySem.F.slot_list_index PySem.F.type_list_index (mt_indexD (hu_in hr)) (er_var (pv 1)) (ar_cons er_bl ar_nil)) (fun _ _ => rfl))) (sr_cons (sr_ret (er_if (tr_cmp (op_eqD (hu_eq hr)) vr_eq (er_var (pv 2)) er_str (nomark _)) (er_tup (ar_cons (er_var (pv 2)) (ar_cons er_int ar_nil))) (er_tup (ar_cons (er_var (pv 2)) (ar_cons (er_xf Z.na_row (er_var (pv 0))) ar_nil))))) sr_nil)))))
theorem c_law_right_k63 (Z : Zs K mg) : Fm P w K mg base 62 "_law_right" 1 m_law_right_k63 := by
  have B := Z.b
  have S := sc_law_right_k63
  have c_net_text := c_net_text (P := P) (w := w) (base := base) Z
  have c_law_same := fun j => c_law_same (P := P) (w := w) (base := base) Z j
  have c_law_net_read := c_law_net_read (P := P) (w := w) (base := base) Z
  have c_law_word_k62 := c_law_word_k62 (P := P) (w := w) (base := base) Z
  have cx_net_from := cx_net_from (P := P) (w := w) (base := base) Z
  exact fm_mk (k := 61) Z.d_law_right_k63 sc_law_right_k63 [false] rfl fun f cdv Ar up s H E hr =>
    (sr_cons (sr_set (ps_set (i := 1) S.nd rfl (.inl rfl) peW) (er_call c_law_net_read hr (ca_cons (er_var (pv 0)) ca_nil))) (sr_cons (sr_asg (ps_asg peW pgW) (er_tup (ar_cons er_non (ar_cons er_non ar_nil))) (gr_tup rfl (grs_cons (gr_name (pg_name (i := 2) S.nd rfl (.inl rfl))) (grs_cons (gr_name (pg_name (i := 3) S.nd rfl (.inl rfl))) grs_nil)))) (sr_cons (sr_tryK ⟨Z.k_LaneError⟩ Z.cat S.nd (fun pn xe hp => (sx_cons (sx_set (ps_set (i := 2) S.nd rfl (.inl rfl) peW) (ex_call cx_net_from hr (ca_cons (er_var (pv 0)) ca_nil))) sx_nil)) (fun a pn => ps_set (i := 3) S.nd rfl (.inl rfl) (pv 4))) (sr_cons (sr_if (tr_cmp op_notN vr_notN (er_var (pv 3)) er_non (nomark _)) (sr_cons (sr_ret (er_and (er_isi isT_int (er_var (pv 1)) (pe_bltn (by rfl) B.int bt_int rfl) (hm := B.isinstance)) (er_one (er_call (c_law_same 60) hr (ca_cons (er_call c_law_word_k62 hr (ca_cons (er_var (pv 3)) ca_nil)) (ca_cons (er_tup (ar_cons er_str (ar_cons (er_var (pv 1)) ar_nil))) ca_nil)))))) sr_nil) sr_nil) (sr_cons (sr_ret (er_and (er_isi isT_tuple (er_var (pv 1)) (pe_bltn (by rfl) B.tuple bt_tuple rfl) (hm := B.isinstance)) (er_and (er_call (c_law_same 60) hr (ca_cons (er_var (pv 2)) (ca_cons (er_var (pv 1)) ca_nil))) (er_one (er_cmp (op_eqD (hu_eq hr)) vr_eq (er_call c_net_text hr (ca_cons (er_var (pv 2)) ca_nil)) (er_var (pv 0)) (nomark _)))))) sr_nil)))))
theorem c_law_k63 (Z : Zs K mg) : Fm P w K mg base 63 "law" 1 m_law_k63 := by
  have B := Z.b
  have S := sc_law_k63
  have c_law_tape := c_law_tape (P := P) (w := w) (base := base) Z
  have c_law_take := c_law_take (P := P) (w := w) (base := base) Z
  have c_law_net := c_law_net (P := P) (w := w) (base := base) Z
  have c_law_spoilt_k63 := c_law_spoilt_k63 (P := P) (w := w) (base := base) Z
  have c_law_net_text := c_law_net_text (P := P) (w := w) (base := base) Z
  have c_law_net_read := c_law_net_read (P := P) (w := w) (base := base) Z
  have c_law_right_k63 := c_law_right_k63 (P := P) (w := w) (base := base) Z
  exact fm_mk (k := 62) Z.d_law_k63 sc_law_k63 [true] rfl fun f cdv Ar up s H E hr =>
    (sr_cons (sr_for PassesOwn.never rfl (ir_range1 (ar_cons (ev_br (er_op op_addAll vr_add er_int (er_callB (call_min2 rfl) vr_min2 (by rfl) B.min bt_min (ar_cons er_int (ar_cons (er_callB call_len vr_len (by rfl) B.len bt_len (ar_cons (er_see (pv 0)) ar_nil)) ar_nil)))) 0) ar_nil) (by rfl) B.range) (gr_name (pg_name (i := 1) S.nd rfl (.inl rfl))) (sr_cons (sr_setO (ps_set (i := 2) S.nd rfl (.inl rfl) peW) (er_call c_law_tape hr (ca_io (pv 0) (ca_cons (er_var (pv 1)) ca_nil)))) (sr_cons (sr_set (ps_set (i := 3) S.nd rfl (.inl rfl) peW) (er_look c_law_net_text hr (ca_see (er_call c_law_net hr (ca_io (pv 2) ca_nil)) ca_nil))) (sr_cons (sr_for PassesOwn.never rfl (ir_range1 (ar_cons er_int ar_nil) (by rfl) B.range) (gr_name (pg_name (i := 4) S.nd rfl (.inl rfl))) (sr_cons (sr_set (ps_set (i := 5) S.nd rfl (.inl rfl) peW) (er_call c_law_spoilt_k63 hr (ca_io (pv 2) (ca_cons (er_var (pv 3)) ca_nil)))) (sr_cons (sr_if (tr_cmp (op_eqD (hu_eq hr)) vr_eq (er_call c_law_take hr (ca_io (pv 2) (ca_cons er_int ca_nil))) er_int (nomark _)) (sr_cons (sr_set (ps_set (i := 5) S.nd rfl (.inl rfl) peW) (er_call c_law_spoilt_k63 hr (ca_io (pv 2) (ca_cons (er_var (pv 5)) ca_nil)))) sr_nil) sr_nil) (sr_cons (sr_if (tr_not (tr_tru (er_call c_law_right_k63 hr (ca_cons (er_var (pv 5)) ca_nil)))) (sr_cons (sr_ret er_bl) sr_nil) sr_nil) sr_nil)))) (sr_cons (sr_if (tr_w (tw_or (tr_not (tr_tru (er_call c_law_right_k63 hr (ca_cons (er_var (pv 3)) ca_nil)))) (tw_or1 (tr_tru (er_isi isT_int (er_call c_law_net_read hr (ca_cons (er_var (pv 3)) ca_nil)) (pe_bltn (by rfl) B.int bt_int rfl) (hm := B.isinstance)))))) (sr_cons (sr_ret er_bl) sr_nil) sr_nil) sr_nil))))) (sr_cons (sr_ret er_bl) sr_nil))
end
theorem zs_mk {K : PySem.W.Frag} {h : Heap} {mg : Str → Option Value} (X : K.In h) (G : h.Ns mainGlobals mg)
    {f0 : Addr} {od0 an0 : Option Addr} {sl0 : Array (Option Value)} {oc0 kV0 dc0 pm0 cd0 ct0 : Value} (a0 : PySem.W.nsIn K mainGlobals "number_word" = some (some (.ref f0))) (l0 : K.lookup f0 = some ⟨oc0, od0, .func (PySem.W.fnOf "number_word" "number_word" (defArgs (topS 11)) (defBody (topS 11)) (defScope (topS 11)) .none kV0 dc0 pm0 an0 cd0 ct0), sl0⟩) (c0 : PySem.W.codeIn K cd0 "number_word" = true) (k0 : PySem.W.keepIn K (.ref f0) = true)
    {f1 : Addr} {od1 an1 : Option Addr} {sl1 : Array (Option Value)} {oc1 kV1 dc1 pm1 cd1 ct1 : Value} (a1 : PySem.W.nsIn K mainGlobals "number_words" = some (some (.ref f1))) (l1 : K.lookup f1 = some ⟨oc1, od1, .func (PySem.W.fnOf "number_words" "number_words" (defArgs (topS 12)) (defBody (topS 12)) (defScope (topS 12)) .none kV1 dc1 pm1 an1 cd1 ct1), sl1⟩) (c1 : PySem.W.codeIn K cd1 "number_words" = true) (k1 : PySem.W.keepIn K (.ref f1) = true)
    {f2 : Addr} {od2 an2 : Option Addr} {sl2 : Array (Option Value)} {oc2 kV2 dc2 pm2 cd2 ct2 : Value} (a2 : PySem.W.nsIn K mainGlobals "net_text" = some (some (.ref f2))) (l2 : K.lookup f2 = some ⟨oc2, od2, .func (PySem.W.fnOf "net_text" "net_text" (defArgs (topS 13)) (defBody (topS 13)) (defScope (topS 13)) .none kV2 dc2 pm2 an2 cd2 ct2), sl2⟩) (c2 : PySem.W.codeIn K cd2 "net_text" = true) (k2 : PySem.W.keepIn K (.ref f2) = true)
    {f3 : Addr} {od3 an3 : Option Addr} {sl3 : Array (Option Value)} {oc3 kV3 dc3 pm3 cd3 ct3 : Value} (a3 : PySem.W.nsIn K mainGlobals "houses_from" = some (some (.ref f3))) (l3 : K.lookup f3 = some ⟨oc3, od3, .func (PySem.W.fnOf "houses_from" "houses_from" (defArgs (topS 14)) (defBody (topS 14)) (defScope (topS 14)) .none kV3 dc3 pm3 an3 cd3 ct3), sl3⟩) (c3 : PySem.W.codeIn K cd3 "houses_from" = true) (k3 : PySem.W.keepIn K (.ref f3) = true)
    {f4 : Addr} {od4 an4 : Option Addr} {sl4 : Array (Option Value)} {oc4 kV4 dc4 pm4 cd4 ct4 : Value} (a4 : PySem.W.nsIn K mainGlobals "lane_from" = some (some (.ref f4))) (l4 : K.lookup f4 = some ⟨oc4, od4, .func (PySem.W.fnOf "lane_from" "lane_from" (defArgs (topS 15)) (defBody (topS 15)) (defScope (topS 15)) .none kV4 dc4 pm4 an4 cd4 ct4), sl4⟩) (c4 : PySem.W.codeIn K cd4 "lane_from" = true) (k4 : PySem.W.keepIn K (.ref f4) = true)
    {f5 : Addr} {od5 an5 : Option Addr} {sl5 : Array (Option Value)} {oc5 kV5 dc5 pm5 cd5 ct5 : Value} (a5 : PySem.W.nsIn K mainGlobals "net_from" = some (some (.ref f5))) (l5 : K.lookup f5 = some ⟨oc5, od5, .func (PySem.W.fnOf "net_from" "net_from" (defArgs (topS 16)) (defBody (topS 16)) (defScope (topS 16)) .none kV5 dc5 pm5 an5 cd5 ct5), sl5⟩) (c5 : PySem.W.codeIn K cd5 "net_from" = true) (k5 : PySem.W.keepIn K (.ref f5) = true)
    {f6 : Addr} {od6 an6 : Option Addr} {sl6 : Array (Option Value)} {oc6 kV6 dc6 pm6 cd6 ct6 : Value} (a6 : PySem.W.nsIn K mainGlobals "_law_cell_at" = some (some (.ref f6))) (l6 : K.lookup f6 = some ⟨oc6, od6, .func (PySem.W.fnOf "_law_cell_at" "_law_cell_at" (defArgs (topS 18)) (defBody (topS 18)) (defScope (topS 18)) .none kV6 dc6 pm6 an6 cd6 ct6), sl6⟩) (c6 : PySem.W.codeIn K cd6 "_law_cell_at" = true) (k6 : PySem.W.keepIn K (.ref f6) = true)
    {f7 : Addr} {od7 an7 : Option Addr} {sl7 : Array (Option Value)} {oc7 kV7 dc7 pm7 cd7 ct7 : Value} (a7 : PySem.W.nsIn K mainGlobals "_law_tape" = some (some (.ref f7))) (l7 : K.lookup f7 = some ⟨oc7, od7, .func (PySem.W.fnOf "_law_tape" "_law_tape" (defArgs (topS 19)) (defBody (topS 19)) (defScope (topS 19)) .none kV7 dc7 pm7 an7 cd7 ct7), sl7⟩) (c7 : PySem.W.codeIn K cd7 "_law_tape" = true) (k7 : PySem.W.keepIn K (.ref f7) = true)
    {f8 : Addr} {od8 an8 : Option Addr} {sl8 : Array (Option Value)} {oc8 kV8 dc8 pm8 cd8 ct8 : Value} (a8 : PySem.W.nsIn K mainGlobals "_law_take" = some (some (.ref f8))) (l8 : K.lookup f8 = some ⟨oc8, od8, .func (PySem.W.fnOf "_law_take" "_law_take" (defArgs (topS 20)) (defBody (topS 20)) (defScope (topS 20)) .none kV8 dc8 pm8 an8 cd8 ct8), sl8⟩) (c8 : PySem.W.codeIn K cd8 "_law_take" = true) (k8 : PySem.W.keepIn K (.ref f8) = true)
    {f9 : Addr} {od9 an9 : Option Addr} {sl9 : Array (Option Value)} {oc9 kV9 dc9 pm9 cd9 ct9 : Value} (a9 : PySem.W.nsIn K mainGlobals "_law_room" = some (some (.ref f9))) (l9 : K.lookup f9 = some ⟨oc9, od9, .func (PySem.W.fnOf "_law_room" "_law_room" (defArgs (topS 21)) (defBody (topS 21)) (defScope (topS 21)) .none kV9 dc9 pm9 an9 cd9 ct9), sl9⟩) (c9 : PySem.W.codeIn K cd9 "_law_room" = true) (k9 : PySem.W.keepIn K (.ref f9) = true)
    {f10 : Addr} {od10 an10 : Option Addr} {sl10 : Array (Option Value)} {oc10 kV10 dc10 pm10 cd10 ct10 : Value} (a10 : PySem.W.nsIn K mainGlobals "_law_net" = some (some (.ref f10))) (l10 : K.lookup f10 = some ⟨oc10, od10, .func (PySem.W.fnOf "_law_net" "_law_net" (defArgs (topS 22)) (defBody (topS 22)) (defScope (topS 22)) .none kV10 dc10 pm10 an10 cd10 ct10), sl10⟩) (c10 : PySem.W.codeIn K cd10 "_law_net" = true) (k10 : PySem.W.keepIn K (.ref f10) = true)
    {f11 : Addr} {od11 an11 : Option Addr} {sl11 : Array (Option Value)} {oc11 kV11 dc11 pm11 cd11 ct11 : Value} (a11 : PySem.W.nsIn K mainGlobals "_law_same" = some (some (.ref f11))) (l11 : K.lookup f11 = some ⟨oc11, od11, .func (PySem.W.fnOf "_law_same" "_law_same" (defArgs (topS 23)) (defBody (topS 23)) (defScope (topS 23)) .none kV11 dc11 pm11 an11 cd11 ct11), sl11⟩) (c11 : PySem.W.codeIn K cd11 "_law_same" = true) (k11 : PySem.W.keepIn K (.ref f11) = true)
    {f12 : Addr} {od12 an12 : Option Addr} {sl12 : Array (Option Value)} {oc12 kV12 dc12 pm12 cd12 ct12 : Value} (a12 : PySem.W.nsIn K mainGlobals "_law_rows_otherwise" = some (some (.ref f12))) (l12 : K.lookup f12 = some ⟨oc12, od12, .func (PySem.W.fnOf "_law_rows_otherwise" "_law_rows_otherwise" (defArgs (topS 25)) (defBody (topS 25)) (defScope (topS 25)) .none kV12 dc12 pm12 an12 cd12 ct12), sl12⟩) (c12 : PySem.W.codeIn K cd12 "_law_rows_otherwise" = true) (k12 : PySem.W.keepIn K (.ref f12) = true)
    {f13 : Addr} {od13 an13 : Option Addr} {sl13 : Array (Option Value)} {oc13 kV13 dc13 pm13 cd13 ct13 : Value} (a13 : PySem.W.nsIn K mainGlobals "_law_spoilt" = some (some (.ref f13))) (l13 : K.lookup f13 = some ⟨oc13, od13, .func (PySem.W.fnOf "_law_spoilt" "_law_spoilt" (defArgs (topS 24)) (defBody (topS 24)) (defScope (topS 24)) .none kV13 dc13 pm13 an13 cd13 ct13), sl13⟩) (c13 : PySem.W.codeIn K cd13 "_law_spoilt" = true) (k13 : PySem.W.keepIn K (.ref f13) = true)
    {f14 : Addr} {od14 an14 : Option Addr} {sl14 : Array (Option Value)} {oc14 kV14 dc14 pm14 cd14 ct14 : Value} (a14 : PySem.W.nsIn K mainGlobals "_law_net_text" = some (some (.ref f14))) (l14 : K.lookup f14 = some ⟨oc14, od14, .func (PySem.W.fnOf "_law_net_text" "_law_net_text" (defArgs (topS 26)) (defBody (topS 26)) (defScope (topS 26)) .none kV14 dc14 pm14 an14 cd14 ct14), sl14⟩) (c14 : PySem.W.codeIn K cd14 "_law_net_text" = true) (k14 : PySem.W.keepIn K (.ref f14) = true)
    {f15 : Addr} {od15 an15 : Option Addr} {sl15 : Array (Option Value)} {oc15 kV15 dc15 pm15 cd15 ct15 : Value} (a15 : PySem.W.nsIn K mainGlobals "_law_number" = some (some (.ref f15))) (l15 : K.lookup f15 = some ⟨oc15, od15, .func (PySem.W.fnOf "_law_number" "_law_number" (defArgs (topS 27)) (defBody (topS 27)) (defScope (topS 27)) .none kV15 dc15 pm15 an15 cd15 ct15), sl15⟩) (c15 : PySem.W.codeIn K cd15 "_law_number" = true) (k15 : PySem.W.keepIn K (.ref f15) = true)
    {f16 : Addr} {od16 an16 : Option Addr} {sl16 : Array (Option Value)} {oc16 kV16 dc16 pm16 cd16 ct16 : Value} (a16 : PySem.W.nsIn K mainGlobals "_law_numbers" = some (some (.ref f16))) (l16 : K.lookup f16 = some ⟨oc16, od16, .func (PySem.W.fnOf "_law_numbers" "_law_numbers" (defArgs (topS 28)) (defBody (topS 28)) (defScope (topS 28)) .none kV16 dc16 pm16 an16 cd16 ct16), sl16⟩) (c16 : PySem.W.codeIn K cd16 "_law_numbers" = true) (k16 : PySem.W.keepIn K (.ref f16) = true)
    {f17 : Addr} {od17 an17 : Option Addr} {sl17 : Array (Option Value)} {oc17 kV17 dc17 pm17 cd17 ct17 : Value} (a17 : PySem.W.nsIn K mainGlobals "_law_net_read" = some (some (.ref f17))) (l17 : K.lookup f17 = some ⟨oc17, od17, .func (PySem.W.fnOf "_law_net_read" "_law_net_read" (defArgs (topS 29)) (defBody (topS 29)) (defScope (topS 29)) .none kV17 dc17 pm17 an17 cd17 ct17), sl17⟩) (c17 : PySem.W.codeIn K cd17 "_law_net_read" = true) (k17 : PySem.W.keepIn K (.ref f17) = true)
    {f18 : Addr} {od18 an18 : Option Addr} {sl18 : Array (Option Value)} {oc18 kV18 dc18 pm18 cd18 ct18 : Value} (a18 : PySem.W.nsIn K mainGlobals "_law_word" = some (some (.ref f18))) (l18 : K.lookup f18 = some ⟨oc18, od18, .func (PySem.W.fnOf "_law_word" "_law_word" (defArgs (topS 30)) (defBody (topS 30)) (defScope (topS 30)) .none kV18 dc18 pm18 an18 cd18 ct18), sl18⟩) (c18 : PySem.W.codeIn K cd18 "_law_word" = true) (k18 : PySem.W.keepIn K (.ref f18) = true)
    {f19 : Addr} {od19 an19 : Option Addr} {sl19 : Array (Option Value)} {oc19 kV19 dc19 pm19 cd19 ct19 : Value} (a19 : PySem.W.nsIn K mainGlobals "_law_right" = some (some (.ref f19))) (l19 : K.lookup f19 = some ⟨oc19, od19, .func (PySem.W.fnOf "_law_right" "_law_right" (defArgs (topS 31)) (defBody (topS 31)) (defScope (topS 31)) .none kV19 dc19 pm19 an19 cd19 ct19), sl19⟩) (c19 : PySem.W.codeIn K cd19 "_law_right" = true) (k19 : PySem.W.keepIn K (.ref f19) = true)
    {f20 : Addr} {od20 an20 : Option Addr} {sl20 : Array (Option Value)} {oc20 kV20 dc20 pm20 cd20 ct20 : Value} (a20 : PySem.W.nsIn K mainGlobals "law" = some (some (.ref f20))) (l20 : K.lookup f20 = some ⟨oc20, od20, .func (PySem.W.fnOf "law" "law" (defArgs (topS 32)) (defBody (topS 32)) (defScope (topS 32)) .none kV20 dc20 pm20 an20 cd20 ct20), sl20⟩) (c20 : PySem.W.codeIn K cd20 "law" = true) (k20 : PySem.W.keepIn K (.ref f20) = true)
    (z_len : PySem.W.nsIn K mainGlobals "len" = some none)
    (z_range : PySem.W.nsIn K mainGlobals "range" = some none)
    (z_enumerate : PySem.W.nsIn K mainGlobals "enumerate" = some none)
    (z_zip : PySem.W.nsIn K mainGlobals "zip" = some none)
    (z_reversed : PySem.W.nsIn K mainGlobals "reversed" = some none)
    (z_abs : PySem.W.nsIn K mainGlobals "abs" = some none)
    (z_min : PySem.W.nsIn K mainGlobals "min" = some none)
    (z_max : PySem.W.nsIn K mainGlobals "max" = some none)
    (z_int : PySem.W.nsIn K mainGlobals "int" = some none)
    (z_bool : PySem.W.nsIn K mainGlobals "bool" = some none)
    (z_list : PySem.W.nsIn K mainGlobals "list" = some none)
    (z_tuple : PySem.W.nsIn K mainGlobals "tuple" = some none)
    (z_set : PySem.W.nsIn K mainGlobals "set" = some none)
    (z_dict : PySem.W.nsIn K mainGlobals "dict" = some none)
    (z_sorted : PySem.W.nsIn K mainGlobals "sorted" = some none)
    (z_sum : PySem.W.nsIn K mainGlobals "sum" = some none)
    (z_all : PySem.W.nsIn K mainGlobals "all" = some none)
    (z_any : PySem.W.nsIn K mainGlobals "any" = some none)
    (z_str : PySem.W.nsIn K mainGlobals "str" = some none)
    (z_repr : PySem.W.nsIn K mainGlobals "repr" = some none)
    (z_isinstance : PySem.W.nsIn K mainGlobals "isinstance" = some none)
    {t_FIGURES : Nat} (q_FIGURES : PySem.W.nsIn K mainGlobals "FIGURES" = some (some (.str "0123456789" t_FIGURES)))
    {t_MOST_FIGURES : Nat} (q_MOST_FIGURES : PySem.W.nsIn K mainGlobals "MOST_FIGURES" = some (some (.int (6) t_MOST_FIGURES)))
    {C_LaneError : Addr} (n_LaneError : PySem.W.nsIn K mainGlobals "LaneError" = some (some (.ref C_LaneError)))
    {C_NoStep : Addr} (n_NoStep : PySem.W.nsIn K mainGlobals "NoStep" = some (some (.ref C_NoStep)))
    {C_NoTrain : Addr} (n_NoTrain : PySem.W.nsIn K mainGlobals "NoTrain" = some (some (.ref C_NoTrain)))
    {C_NoWay : Addr} (n_NoWay : PySem.W.nsIn K mainGlobals "NoWay" = some (some (.ref C_NoWay)))
    {C_BadText : Addr} (n_BadText : PySem.W.nsIn K mainGlobals "BadText" = some (some (.ref C_BadText)))
    {C_BadTrain : Addr} (n_BadTrain : PySem.W.nsIn K mainGlobals "BadTrain" = some (some (.ref C_BadTrain)))
    {C_BadStep : Addr} (n_BadStep : PySem.W.nsIn K mainGlobals "BadStep" = some (some (.ref C_BadStep)))
    (kin : ([("LaneError", C_LaneError), ("NoStep", C_NoStep), ("NoTrain", C_NoTrain), ("NoWay", C_NoWay), ("BadText", C_BadText), ("BadTrain", C_BadTrain), ("BadStep", C_BadStep)].all fun p => [("LaneError", C_LaneError), ("NoStep", C_NoStep), ("NoTrain", C_NoTrain), ("NoWay", C_NoWay), ("BadText", C_BadText), ("BadTrain", C_BadTrain), ("BadStep", C_BadStep)].all fun q => PySem.W.kitOne K (.ref p.2) (.ref q.2) == some (kb p.1 q.1)) = true)
    (cat : ([("NoStep", C_NoStep), ("NoTrain", C_NoTrain), ("NoWay", C_NoWay), ("BadText", C_BadText), ("BadTrain", C_BadTrain), ("BadStep", C_BadStep)].all fun p => PySem.W.exmOne K (.ref p.2) (.ref C_LaneError) == some true) = true)
    (na_row : ([("BadText", C_BadText), ("BadTrain", C_BadTrain), ("BadStep", C_BadStep)].all fun p => PySem.W.findIn K (.ref p.2) "row" == some none) = true)
    (zv : PySem.W.nsIn K mainGlobals "ValueError" = some none)
    (le1 : PySem.W.specialIn K (.ref C_LaneError) "__getattribute__" = some (some (.builtin "type.__getattribute__"))) (le2 : PySem.W.readsIn K C_LaneError (.type "type") = true) (le3 : PySem.W.findCls K (.ref C_LaneError) (.type "type") "__init__" = some (.val (.builtin "ValueError.__init__")))
    (x0_BadText : (PySem.W.clsIn K C_BadText).isSome = true) (x1_BadText : PySem.W.findIn K (.ref C_BadText) "__getattribute__" = some (some (.builtin "BaseException.__getattribute__"))) (x2_BadText : PySem.W.findIn K (.ref C_BadText) "__getattr__" = some none) (x3_BadText : PySem.W.subIn K (.ref C_BadText) (.type "BaseException") = some true) (x4_BadText : PySem.W.hasDictIn K C_BadText = true) (x5_BadText : PySem.W.findIn K (.ref C_BadText) "__class__" = some (some (.builtin "object.__class__"))) (x6_BadText : PySem.W.specialIn K (.builtin "object.__class__") "__get__" = some (some (.builtin "getset_descriptor.__get__"))) (x7_BadText : PySem.W.takesIn K (.builtin "object.__class__") = some true) (x8_BadText : PySem.W.mroIn K C_BadText (.type "object") = some true) (x9_BadText : (btsX.all fun n => PySem.W.kitOne K (.ref C_BadText) (.type n) == some false) = true) (x10_BadText : PySem.W.kitOne K (.ref C_BadText) (.type "ValueError") = some true)
    {nm_BadText qn_BadText : Str} {N_BadText : Addr} {bs_BadText bm_BadText sub_BadText : List Value} {sn_BadText : List Str} {ab_BadText : Bool} {col_BadText : Option Bool} {dd_BadText : Option Addr} {k0_BadText k1_BadText k2_BadText k3_BadText k5_BadText : Option Value} (o1_BadText : K.lookup C_BadText = some (excClassObj nm_BadText qn_BadText C_BadText N_BadText bs_BadText bm_BadText true sn_BadText sub_BadText ab_BadText col_BadText dd_BadText k0_BadText k1_BadText k2_BadText k3_BadText k5_BadText "ValueError.__new__")) (o2_BadText : PySem.HandSPX.refsVE bm_BadText = true) (o3_BadText : PySem.W.findIn K (.ref C_BadText) "__setattr__" = some (some (.builtin "object.__setattr__"))) (o5_BadText : PySem.W.typeIn K (.ref C_BadText) = some (.type "type")) (o6_BadText : PySem.W.keepIn K (.ref C_BadText) = true)
    {f_BadText : Addr} {od_BadText an_BadText : Option Addr} {sl_BadText : Array (Option Value)} {oc_BadText kV_BadText dc_BadText pm_BadText cd_BadText ct_BadText : Value} (f1_BadText : PySem.W.findIn K (.ref C_BadText) "__init__" = some (some (.ref f_BadText))) (f2_BadText : PySem.W.typeIn K (.ref f_BadText) = some (.type "function")) (f3_BadText : PySem.W.findIn K (.ref C_BadText) "row" = some none) (f4_BadText : K.lookup f_BadText = some ⟨oc_BadText, od_BadText, .func (PySem.W.fnOf "__init__" "BadText.__init__" (defArgs (inClass (topS 5) 0)) (defBody (inClass (topS 5) 0)) (defScope (inClass (topS 5) 0)) .none kV_BadText dc_BadText pm_BadText an_BadText cd_BadText ct_BadText), sl_BadText⟩) (f5_BadText : PySem.W.codeIn K cd_BadText "BadText.__init__" = true) (f6_BadText : PySem.W.keepIn K (.ref f_BadText) = true)
    : Zs K mg where
  b := ⟨PySem.W.mg_none_of X G z_len, PySem.W.mg_none_of X G z_range, PySem.W.mg_none_of X G z_enumerate, PySem.W.mg_none_of X G z_zip, PySem.W.mg_none_of X G z_reversed, PySem.W.mg_none_of X G z_abs, PySem.W.mg_none_of X G z_min, PySem.W.mg_none_of X G z_max, PySem.W.mg_none_of X G z_int, PySem.W.mg_none_of X G z_bool, PySem.W.mg_none_of X G z_list, PySem.W.mg_none_of X G z_tuple, PySem.W.mg_none_of X G z_set, PySem.W.mg_none_of X G z_dict, PySem.W.mg_none_of X G z_sorted, PySem.W.mg_none_of X G z_sum, PySem.W.mg_none_of X G z_all, PySem.W.mg_none_of X G z_any, PySem.W.mg_none_of X G z_str, PySem.W.mg_none_of X G z_repr, PySem.W.mg_none_of X G z_isinstance⟩
  d_number_word := dn_mk X G a0 l0 c0 k0 fun _ _ _ _ _ _ us hl => match us, hl with | [_], _ => rfl
  d_number_words := dn_mk X G a1 l1 c1 k1 fun _ _ _ _ _ _ us hl => match us, hl with | [_, _], _ => rfl
  d_net_text := dn_mk X G a2 l2 c2 k2 fun _ _ _ _ _ _ us hl => match us, hl with | [_], _ => rfl
  d_houses_from := dn_mk X G a3 l3 c3 k3 fun _ _ _ _ _ _ us hl => match us, hl with | [_], _ => rfl
  d_lane_from := dn_mk X G a4 l4 c4 k4 fun _ _ _ _ _ _ us hl => match us, hl with | [_, _], _ => rfl
  d_net_from := dn_mk X G a5 l5 c5 k5 fun _ _ _ _ _ _ us hl => match us, hl with | [_], _ => rfl
  d_law_cell_at := dn_mk X G a6 l6 c6 k6 fun _ _ _ _ _ _ us hl => match us, hl with | [_, _], _ => rfl
  d_law_tape := dn_mk X G a7 l7 c7 k7 fun _ _ _ _ _ _ us hl => match us, hl with | [_, _], _ => rfl
  d_law_take := dn_mk X G a8 l8 c8 k8 fun _ _ _ _ _ _ us hl => match us, hl with | [_, _], _ => rfl
  d_law_room := dn_mk X G a9 l9 c9 k9 fun _ _ _ _ _ _ us hl => match us, hl with | [_], _ => rfl
  d_law_net := dn_mk X G a10 l10 c10 k10 fun _ _ _ _ _ _ us hl => match us, hl with | [_], _ => rfl
  d_law_same := dn_mk X G a11 l11 c11 k11 fun _ _ _ _ _ _ us hl => match us, hl with | [_, _], _ => rfl
  d_law_rows_otherwise := dn_mk X G a12 l12 c12 k12 fun _ _ _ _ _ _ us hl => match us, hl with | [_, _], _ => rfl
  d_law_spoilt_k63 := dn_mk X G a13 l13 c13 k13 fun _ _ _ _ _ _ us hl => match us, hl with | [_, _], _ => rfl
  d_law_net_text := dn_mk X G a14 l14 c14 k14 fun _ _ _ _ _ _ us hl => match us, hl with | [_], _ => rfl
  d_law_number := dn_mk X G a15 l15 c15 k15 fun _ _ _ _ _ _ us hl => match us, hl with | [_], _ => rfl
  d_law_numbers := dn_mk X G a16 l16 c16 k16 fun _ _ _ _ _ _ us hl => match us, hl with | [_, _], _ => rfl
  d_law_net_read := dn_mk X G a17 l17 c17 k17 fun _ _ _ _ _ _ us hl => match us, hl with | [_], _ => rfl
  d_law_word_k62 := dn_mk X G a18 l18 c18 k18 fun _ _ _ _ _ _ us hl => match us, hl with | [_], _ => rfl
  d_law_right_k63 := dn_mk X G a19 l19 c19 k19 fun _ _ _ _ _ _ us hl => match us, hl with | [_], _ => rfl
  d_law_k63 := dn_mk X G a20 l20 c20 k20 fun _ _ _ _ _ _ us hl => match us, hl with | [_], _ => rfl
  g_FIGURES := ⟨t_FIGURES, PySem.W.mg_of X G q_FIGURES⟩
  g_MOST_FIGURES := ⟨t_MOST_FIGURES, PySem.W.mg_of X G q_MOST_FIGURES⟩
  k_LaneError := ⟨C_LaneError, PySem.W.mg_of X G n_LaneError, n_LaneError⟩
  k_NoStep := ⟨C_NoStep, PySem.W.mg_of X G n_NoStep, n_NoStep⟩
  k_NoTrain := ⟨C_NoTrain, PySem.W.mg_of X G n_NoTrain, n_NoTrain⟩
  k_NoWay := ⟨C_NoWay, PySem.W.mg_of X G n_NoWay, n_NoWay⟩
  k_BadText := ⟨C_BadText, PySem.W.mg_of X G n_BadText, n_BadText⟩
  k_BadTrain := ⟨C_BadTrain, PySem.W.mg_of X G n_BadTrain, n_BadTrain⟩
  k_BadStep := ⟨C_BadStep, PySem.W.mg_of X G n_BadStep, n_BadStep⟩
  kin := kin_all (ns_cons n_LaneError (ns_cons n_NoStep (ns_cons n_NoTrain (ns_cons n_NoWay (ns_cons n_BadText (ns_cons n_BadTrain (ns_cons n_BadStep ns_nil))))))) rfl kin
  cat := cat_all n_LaneError (ns_cons n_NoStep (ns_cons n_NoTrain (ns_cons n_NoWay (ns_cons n_BadText (ns_cons n_BadTrain (ns_cons n_BadStep ns_nil)))))) cat
  na_row := noat_all (ns_cons n_BadText (ns_cons n_BadTrain (ns_cons n_BadStep ns_nil))) na_row
  v := PySem.W.mg_none_of X G zv
  le := ⟨C_LaneError, PySem.W.mg_of X G n_LaneError, le1, le2, le3⟩
  i_BadText := riz_mk X G n_BadText (xc_mk x0_BadText x1_BadText x2_BadText x3_BadText x4_BadText x5_BadText x6_BadText x7_BadText x8_BadText x9_BadText x10_BadText) (oex_mk o1_BadText o2_BadText o3_BadText x3_BadText o5_BadText o6_BadText) f1_BadText f2_BadText f3_BadText f4_BadText f5_BadText f6_BadText fun _ _ _ _ _ _ us hl => match us, hl with | [_, _], _ => rfl

end La
open PySem PySem.W PyProof.Rows
set_option maxHeartbeats 0 in
theorem PySem.Challenge.cw_trainlanes_k63_whole_net_texts_spoilt_holds : PySem.Challenge.rw_trainlanes_k63_whole_net_texts_spoilt.Holds := by
  w_on; o_law; k_head; (case hw => w_witness2)
  k_fill
  refine Tl.law_end (k := 63) rfl rfl Tl.rm_caller (fun w h Y => PySem.W.kIn_of Y) ?F La.main
  case F =>
    intro w mg h KX G base _ _
    refine La.c_law_k63 ?Z
    refine' La.zs_mk KX G ?a0 ?l0 ?c0 ?k0 ?a1 ?l1 ?c1 ?k1 ?a2 ?l2 ?c2 ?k2 ?a3 ?l3 ?c3 ?k3 ?a4 ?l4 ?c4 ?k4 ?a5 ?l5 ?c5 ?k5 ?a6 ?l6 ?c6 ?k6 ?a7 ?l7 ?c7 ?k7 ?a8 ?l8 ?c8 ?k8 ?a9 ?l9 ?c9 ?k9 ?a10 ?l10 ?c10 ?k10 ?a11 ?l11 ?c11 ?k11 ?a12 ?l12 ?c12 ?k12 ?a13 ?l13 ?c13 ?k13 ?a14 ?l14 ?c14 ?k14 ?a15 ?l15 ?c15 ?k15 ?a16 ?l16 ?c16 ?k16 ?a17 ?l17 ?c17 ?k17 ?a18 ?l18 ?c18 ?k18 ?a19 ?l19 ?c19 ?k19 ?a20 ?l20 ?c20 ?k20 ?z_len ?z_range ?z_enumerate ?z_zip ?z_reversed ?z_abs ?z_min ?z_max ?z_int ?z_bool ?z_list ?z_tuple ?z_set ?z_dict ?z_sorted ?z_sum ?z_all ?z_any ?z_str ?z_repr ?z_isinstance ?q_FIGURES ?q_MOST_FIGURES ?n_LaneError ?n_NoStep ?n_NoTrain ?n_NoWay ?n_BadText ?n_BadTrain ?n_BadStep ?kin ?cat ?na_row ?zv ?le1 ?le2 ?le3 ?x0_BadText ?x1_BadText ?x2_BadText ?x3_BadText ?x4_BadText ?x5_BadText ?x6_BadText ?x7_BadText ?x8_BadText ?x9_BadText ?x10_BadText ?o1_BadText ?o2_BadText ?o3_BadText ?o5_BadText ?o6_BadText ?f1_BadText ?f2_BadText ?f3_BadText ?f4_BadText ?f5_BadText ?f6_BadText
    (case a0 => k_is); (case l0 => k_is); (case c0 => k_is); (case k0 => k_is); (case a1 => k_is); (case l1 => k_is); (case c1 => k_is); (case k1 => k_is); (case a2 => k_is); (case l2 => k_is); (case c2 => k_is); (case k2 => k_is); (case a3 => k_is); (case l3 => k_is); (case c3 => k_is); (case k3 => k_is); (case a4 => k_is); (case l4 => k_is); (case c4 => k_is); (case k4 => k_is); (case a5 => k_is); (case l5 => k_is); (case c5 => k_is); (case k5 => k_is); (case a6 => k_is); (case l6 => k_is); (case c6 => k_is); (case k6 => k_is); (case a7 => k_is); (case l7 => k_is); (case c7 => k_is); (case k7 => k_is); (case a8 => k_is); (case l8 => k_is); (case c8 => k_is); (case k8 => k_is); (case a9 => k_is); (case l9 => k_is); (case c9 => k_is); (case k9 => k_is); (case a10 => k_is); (case l10 => k_is); (case c10 => k_is); (case k10 => k_is); (case a11 => k_is); (case l11 => k_is); (case c11 => k_is); (case k11 => k_is); (case a12 => k_is); (case l12 => k_is); (case c12 => k_is); (case k12 => k_is); (case a13 => k_is); (case l13 => k_is); (case c13 => k_is); (case k13 => k_is); (case a14 => k_is); (case l14 => k_is); (case c14 => k_is); (case k14 => k_is); (case a15 => k_is); (case l15 => k_is); (case c15 => k_is); (case k15 => k_is); (case a16 => k_is); (case l16 => k_is); (case c16 => k_is); (case k16 => k_is); (case a17 => k_is); (case l17 => k_is); (case c17 => k_is); (case k17 => k_is); (case a18 => k_is); (case l18 => k_is); (case c18 => k_is); (case k18 => k_is); (case a19 => k_is); (case l19 => k_is); (case c19 => k_is); (case k19 => k_is); (case a20 => k_is); (case l20 => k_is); (case c20 => k_is); (case k20 => k_is); (case z_len => k_is); (case z_range => k_is); (case z_enumerate => k_is); (case z_zip => k_is); (case z_reversed => k_is); (case z_abs => k_is); (case z_min => k_is); (case z_max => k_is); (case z_int => k_is); (case z_bool => k_is); (case z_list => k_is); (case z_tuple => k_is); (case z_set => k_is); (case z_dict => k_is); (case z_sorted => k_is); (case z_sum => k_is); (case z_all => k_is); (case z_any => k_is); (case z_str => k_is); (case z_repr => k_is); (case z_isinstance => k_is); (case q_FIGURES => k_is); (case q_MOST_FIGURES => k_is); (case n_LaneError => k_is); (case n_NoStep => k_is); (case n_NoTrain => k_is); (case n_NoWay => k_is); (case n_BadText => k_is); (case n_BadTrain => k_is); (case n_BadStep => k_is); (case kin => kernel_rfl); (case cat => kernel_rfl); (case na_row => kernel_rfl); (case zv => k_is); (case le1 => k_is); (case le2 => k_is); (case le3 => k_is); (case x0_BadText => kernel_rfl); (case x1_BadText => k_is); (case x2_BadText => k_is); (case x3_BadText => k_is); (case x4_BadText => k_is); (case x5_BadText => k_is); (case x6_BadText => k_is); (case x7_BadText => k_is); (case x8_BadText => k_is); (case x9_BadText => kernel_rfl); (case x10_BadText => kernel_rfl); (case o1_BadText => k_is); (case o2_BadText => kernel_rfl); (case o3_BadText => k_is); (case o5_BadText => k_is); (case o6_BadText => k_is); (case f1_BadText => k_is); (case f2_BadText => k_is); (case f3_BadText => k_is); (case f4_BadText => k_is); (case f5_BadText => k_is); (case f6_BadText => k_is)
