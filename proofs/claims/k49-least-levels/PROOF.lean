import PyProof.Rows.All
import Wide.All
import OpenK.AllK
import Wide.FinOn
import HandS.ForMost
import KE.KeyNested
import KE.KDictKeyed
import HandS.Zip
import HandS.NoneIn
import HandS.More
import HandS.IsInst
import HandS.SortInts
import HandS.Conv
import HandS.Deep
import HandS.TupAny
import HandS.Style
import HandS.SortRule
import KE.KDictPairs
import HandS.TupMul
import HandS.WideBits
import PyProof.AutoSeq1
import PyProof.Rows.IntBool
import PyProof.Rows.FloatCmp
import KE.GoesEnum
import KE.GoesRev
import KE.DataMinMax
import KE.DataEq
import HandS.SortKw
import HandS.Text
import HandS.Iter
import KE.SortData
import HandS.SetFor
import HandS.Strs
import PyProof.DictUpdate
import HandS.WordsDict
import KE.KDictDisplayH
import KE.DataFind
import HandS.Call
import PySem.Challenge.RW_trainlanes_k49_least_levels
set_option Elab.async false
set_option linter.all false
set_option maxRecDepth 100000
set_option maxHeartbeats 4000000
namespace Tl
open PySem PySem.Spec PyProof.Rows L2

abbrev D := PyData
def keyD : Key → D
  | .inl i => .int i
  | .inr x => .str x
abbrev NK := NestedKey
mutual
def tfree : NK → Bool
  | .none => true
  | .num _ => true
  | .text _ => false
  | .tup ks => tfreeL ks
def tfreeL : List NK → Bool
  | [] => true
  | k :: ks => tfree k && tfreeL ks
end
def okN : NK → Bool
  | .tup ks => tfreeL ks && decide ((NestedKey.tup ks).depth ≤ 8)
  | _ => false
mutual
def nhash : NK → Int
  | .none => reduceHash 0xFCA86420
  | .num i => hashInt i
  | .text _ => 0
  | .tup ks => reduceHash (Builtin.Tuple.tupleHashOf (nhashes ks))
def nhashes : List NK → List Int
  | [] => []
  | k :: ks => nhash k :: nhashes ks
end
mutual
theorem hash_free (w : World) : ∀ (k : NK), tfree k = true → k.hash w = nhash k
  | .none, _ => rfl
  | .num _, _ => rfl
  | .text _, h => by cases h
  | .tup ks, h => by
    show reduceHash (Builtin.Tuple.tupleHashOf (NestedKey.hashes w ks)) = reduceHash (Builtin.Tuple.tupleHashOf (nhashes ks))
    rw [hashes_free w ks h]
theorem hashes_free (w : World) : ∀ (ks : List NK), tfreeL ks = true → NestedKey.hashes w ks = nhashes ks
  | [], _ => rfl
  | k :: ks, h => by
    have h' : (tfree k && tfreeL ks) = true := h
    rw [Bool.and_eq_true] at h'
    show NestedKey.hash w k :: NestedKey.hashes w ks = nhash k :: nhashes ks
    rw [hash_free w k h'.1, hashes_free w ks h'.2]
end
theorem okN_free {k : NK} (h : okN k = true) : tfree k = true := by
  cases k with
  | tup ks =>
    have h' : (tfreeL ks && decide ((NestedKey.tup ks).depth ≤ 8)) = true := h
    rw [Bool.and_eq_true] at h'
    exact h'.1
  | _ => cases h
theorem okN_depth {k : NK} (h : okN k = true) : k.depth ≤ 8 := by
  cases k with
  | tup ks =>
    have h' : (tfreeL ks && decide ((NestedKey.tup ks).depth ≤ 8)) = true := h
    rw [Bool.and_eq_true] at h'
    exact of_decide_eq_true h'.2
  | _ => cases h
/-- a dict with such keys: its key tuples' addresses, its things -/
abbrev dnO (a : Addr) (kvs : List (NK × Addr × V)) : HO := .ext fun h => kvs.length ≤ sizeLine ∧ (a == sysModules) = false ∧ ∃ xs : List (NK × Addr × Value),
  Paired (fun (p : NK × Addr × V) (q : NK × Addr × Value) => p.1 = q.1 ∧ p.2.1 = q.2.1 ∧ RelV p.2.2 q.2.2) kvs xs ∧
  ∃ o es ep, h.get? a = some o ∧ o.ExactDict ∧ o.data = .dict es ep ∧ es.toList = xs.map (fun x => (⟨nhash x.1, .ref x.2.1, x.2.2⟩ : DictEntry)) ∧ (xs.map (·.1)).Nodup

section
variable (K : PySem.W.Frag) (F : Hp)
mutual
inductive Rep : V → D → Prop
  | non : Rep .non .none
  | bl (b : Bool) : Rep (.bl b) (.bool b)
  | int (i : Int) : Rep (.int i) (.int i)
  | str (x : Str) : Rep (.str x) (.str x)
  | lst {a : Addr} {xs : List V} {ds : List D} : F a = some (.lst xs) → xs.length ≤ sizeLine → RepL xs ds → Rep (.ref a) (.list ds)
  | tup {a : Addr} {xs : List V} {ds : List D} : SqT K F a xs → xs.length ≤ sizeLine → RepL xs ds → Rep (.ref a) (.tuple ds)
  | dk {a : Addr} {kvs : List (Key × V)} {es : List (D × D)} : F a = some (.dK kvs) → RepK kvs es → Rep (.ref a) (.dict es)
  | dn {a : Addr} {kvs : List (NK × Addr × V)} {es : List (D × D)} : F a = some (dnO a kvs) → RepN kvs es → Rep (.ref a) (.dict ((.none, .none) :: es))
  | dl {a : Addr} {o : Obj} {kvs : List (NK × Addr × V)} {es : List (D × D)} : F a = some (.frz o (dnO a kvs)) → RepN kvs es → Rep (.ref a) (.dict ((.none, .bool true) :: es))
inductive RepL : List V → List D → Prop
  | nil : RepL [] []
  | cons {v : V} {vs : List V} {d : D} {ds : List D} : Rep v d → RepL vs ds → RepL (v :: vs) (d :: ds)
inductive RepK : List (Key × V) → List (D × D) → Prop
  | nil : RepK [] []
  | cons {k : Key} {v : V} {vs : List (Key × V)} {d : D} {ds : List (D × D)} : Rep v d → RepK vs ds → RepK ((k, v) :: vs) ((keyD k, d) :: ds)
inductive RepN : List (NK × Addr × V) → List (D × D) → Prop
  | nil : RepN [] []
  | cons {k : NK} {b : Addr} {v : V} {vs : List (NK × Addr × V)} {d : D} {ds : List (D × D)} : okN k = true → Rep (.ref b) k.data → Rep v d → RepN vs ds → RepN ((k, b, v) :: vs) ((k.data, d) :: ds)
end
end

section
variable {K : PySem.W.Frag} {F F' : Hp}
theorem sameT {K : PySem.W.Frag} {H H' : Hp} {a : Addr} {xs : List V} (e : Same H H') (h : SqT K H a xs) : SqT K H' a xs := by
  rcases h with h | h
  · rcases h with h | ⟨o, h⟩
    · exact .inl (.inl (e _ _ h))
    · exact .inl (.inr ⟨o, e _ _ h⟩)
  · exact .inr h
theorem Rep.monoAll (e : Same F F') :
    (∀ v d, Rep K F v d → Rep K F' v d) ∧ (∀ vs ds, RepL K F vs ds → RepL K F' vs ds) ∧ (∀ vs ds, RepK K F vs ds → RepK K F' vs ds) ∧ (∀ vs ds, RepN K F vs ds → RepN K F' vs ds) := by
  refine ⟨?_, ?_, ?_, ?_⟩ <;> intro v d h
  · exact Rep.rec (K := K) (F := F) (motive_1 := fun v d _ => Rep K F' v d) (motive_2 := fun v d _ => RepL K F' v d) (motive_3 := fun v d _ => RepK K F' v d) (motive_4 := fun v d _ => RepN K F' v d)
      .non .bl .int .str (fun h z _ r => .lst (e _ _ h) z r) (fun h z _ r => .tup (sameT e h) z r) (fun h _ r => .dk (e _ _ h) r) (fun h _ r => .dn (e _ _ h) r) (fun h _ r => .dl (e _ _ h) r)
      .nil (fun _ _ a b => .cons a b) .nil (fun _ _ a b => .cons a b) .nil (fun k _ _ _ a b c => .cons k a b c) h
  · exact RepL.rec (K := K) (F := F) (motive_1 := fun v d _ => Rep K F' v d) (motive_2 := fun v d _ => RepL K F' v d) (motive_3 := fun v d _ => RepK K F' v d) (motive_4 := fun v d _ => RepN K F' v d)
      .non .bl .int .str (fun h z _ r => .lst (e _ _ h) z r) (fun h z _ r => .tup (sameT e h) z r) (fun h _ r => .dk (e _ _ h) r) (fun h _ r => .dn (e _ _ h) r) (fun h _ r => .dl (e _ _ h) r)
      .nil (fun _ _ a b => .cons a b) .nil (fun _ _ a b => .cons a b) .nil (fun k _ _ _ a b c => .cons k a b c) h
  · exact RepK.rec (K := K) (F := F) (motive_1 := fun v d _ => Rep K F' v d) (motive_2 := fun v d _ => RepL K F' v d) (motive_3 := fun v d _ => RepK K F' v d) (motive_4 := fun v d _ => RepN K F' v d)
      .non .bl .int .str (fun h z _ r => .lst (e _ _ h) z r) (fun h z _ r => .tup (sameT e h) z r) (fun h _ r => .dk (e _ _ h) r) (fun h _ r => .dn (e _ _ h) r) (fun h _ r => .dl (e _ _ h) r)
      .nil (fun _ _ a b => .cons a b) .nil (fun _ _ a b => .cons a b) .nil (fun k _ _ _ a b c => .cons k a b c) h
  · exact RepN.rec (K := K) (F := F) (motive_1 := fun v d _ => Rep K F' v d) (motive_2 := fun v d _ => RepL K F' v d) (motive_3 := fun v d _ => RepK K F' v d) (motive_4 := fun v d _ => RepN K F' v d)
      .non .bl .int .str (fun h z _ r => .lst (e _ _ h) z r) (fun h z _ r => .tup (sameT e h) z r) (fun h _ r => .dk (e _ _ h) r) (fun h _ r => .dn (e _ _ h) r) (fun h _ r => .dl (e _ _ h) r)
      .nil (fun _ _ a b => .cons a b) .nil (fun _ _ a b => .cons a b) .nil (fun k _ _ _ a b c => .cons k a b c) h
theorem Rep.mono {v : V} {d : D} (h : Rep K F v d) (e : Same F F') : Rep K F' v d := (Rep.monoAll e).1 v d h
theorem RepL.mono {v : List V} {d : List D} (h : RepL K F v d) (e : Same F F') : RepL K F' v d := (Rep.monoAll e).2.1 v d h
theorem RepL.length : ∀ {vs : List V} {ds : List D}, RepL K F vs ds → vs.length = ds.length
  | _, _, .nil => rfl
  | _, _, .cons _ h => congrArg (· + 1) (RepL.length h)
theorem RepL.get : ∀ {vs : List V} {ds : List D} {i : Nat} {d : D}, RepL K F vs ds → ds[i]? = some d → ∃ v, vs[i]? = some v ∧ Rep K F v d
  | _, _, _, _, .nil, e => by simp at e
  | _, _, 0, _, .cons r _, e => by
    simp at e
    subst e
    exact ⟨_, rfl, r⟩
  | _, _, i + 1, d, .cons _ t, e => by
    obtain ⟨u, h1, h2⟩ := RepL.get (i := i) (d := d) t (by simpa using e)
    exact ⟨u, by simpa using h1, h2⟩
theorem RepL.append : ∀ {xs ys : List V} {ds es : List D}, RepL K F xs ds → RepL K F ys es → RepL K F (xs ++ ys) (ds ++ es)
  | _, _, _, _, .nil, s => s
  | _, _, _, _, .cons r t, s => .cons r (RepL.append t s)
theorem RepL.take : ∀ {xs : List V} {ds : List D} (n : Nat), RepL K F xs ds → RepL K F (xs.take n) (ds.take n)
  | _, _, 0, _ => .nil
  | _, _, _ + 1, .nil => .nil
  | _, _, n + 1, .cons r t => .cons r (RepL.take n t)
theorem RepL.drop : ∀ {xs : List V} {ds : List D} (n : Nat), RepL K F xs ds → RepL K F (xs.drop n) (ds.drop n)
  | _, _, 0, r => r
  | _, _, _ + 1, .nil => .nil
  | _, _, n + 1, .cons r t => RepL.drop n t
theorem RepL.set {x : V} {u : D} (r : Rep K F x u) : ∀ {xs : List V} {us : List D} (i : Nat), RepL K F xs us → RepL K F (xs.set i x) (us.set i u)
  | _, _, _, .nil => .nil
  | _, _, 0, .cons _ t => .cons r t
  | _, _, i + 1, .cons q t => .cons q (RepL.set r i t)
theorem RepL.eraseIdx : ∀ {xs : List V} {us : List D} (i : Nat), RepL K F xs us → RepL K F (xs.eraseIdx i) (us.eraseIdx i)
  | _, _, _, .nil => .nil
  | _, _, 0, .cons _ t => t
  | _, _, i + 1, .cons q t => .cons q (RepL.eraseIdx i t)
theorem RepL.dropLast : ∀ {xs : List V} {us : List D}, RepL K F xs us → RepL K F xs.dropLast us.dropLast
  | _, _, .nil => .nil
  | _, _, .cons _ .nil => .nil
  | _, _, .cons q (.cons q' t) => .cons q (RepL.dropLast (.cons q' t))
theorem RepL.reverse {xs : List V} {us : List D} (h : RepL K F xs us) : RepL K F xs.reverse us.reverse := by
  induction xs generalizing us with
  | nil =>
    cases h
    exact .nil
  | cons x xs ih =>
    cases h with
    | cons r t =>
      rw [List.reverse_cons, List.reverse_cons]
      exact (ih t).append (.cons r .nil)
theorem RepL.ints : ∀ {vs : List V} {ns : List Int}, RepL K F vs (ns.map PyData.int) → vs = ns.map V.int
  | _, [], h => by
    cases h
    rfl
  | _, n :: ns, h => by
    cases h with
    | cons r t =>
      cases r
      rw [RepL.ints t]
      rfl
theorem RepL.ofInts : ∀ (ns : List Int), RepL K F (ns.map V.int) (ns.map PyData.int)
  | [] => .nil
  | n :: ns => .cons (.int n) (RepL.ofInts ns)
theorem RepL.bools : ∀ {vs : List V} {ns : List Bool}, RepL K F vs (ns.map PyData.bool) → vs = ns.map V.bl
  | _, [], h => by
    cases h
    rfl
  | _, n :: ns, h => by
    cases h with
    | cons r t =>
      cases r
      rw [RepL.bools t]
      rfl
end

inductive T where
  | leaf (d : D)
  | fl (ds : List D)
  | ls (ts : List T)
  | tup (ts : List T)
  | dk (es : List (Key × D))
  | dn (es : List (NK × D))
  | dd (es : List (Key × List (Key × D)))
  | lk (es : List (Key × D))
  | scr (ds : List D)
  | ob (cn : Str) (ns : List Str) (ts : List T)
  | hole
/-- a dict of dicts, as data -/
abbrev ddD (es : List (Key × List (Key × D))) : List (D × D) := es.map fun p => (keyD p.1, .dict (p.2.map fun q => (keyD q.1, q.2)))
mutual
/-- the plain data of a tree -/
def T.fz : T → Option D
  | .leaf d => some d
  | .fl ds => some (.list ds)
  | .ls ts => (T.fzL ts).map .list
  | .tup ts => (T.fzL ts).map .tuple
  | .dk es => some (.dict (es.map fun p => (keyD p.1, p.2)))
  | .dn es => some (.dict ((.none, .none) :: es.map fun p => (p.1.data, p.2)))
  | .dd es => some (.dict (ddD es))
  | .lk _ => none
  | .scr _ => none
  | .ob _ _ _ => none
  | .hole => none
def T.fzL : List T → Option (List D)
  | [] => some []
  | t :: ts => (T.fz t).bind fun d => (T.fzL ts).bind fun ds => some (d :: ds)
end
/-- the entries of an owned dict -/
abbrev KvOk (K : PySem.W.Frag) (F : Hp) {κ : Type} : List (κ × V) → List (κ × D) → Prop := Paired fun p q => p.1 = q.1 ∧ Rep K F p.2 q.2
abbrev NvOk (K : PySem.W.Frag) (F : Hp) : List (NK × Addr × V) → List (NK × D) → Prop := Paired fun p q => p.1 = q.1 ∧ okN p.1 = true ∧ Rep K F (.ref p.2.1) p.1.data ∧ Rep K F p.2.2 q.2
/-- the entries of a dict of dicts, each owned -/
inductive OwnD (K : PySem.W.Frag) (F H : Hp) : List (Key × V) → List (Key × List (Key × D)) → List Addr → Prop
  | nil : OwnD K F H [] [] []
  | cons {k : Key} {b : Addr} {xs : List (Key × V)} {ys : List (Key × D)} {kvs : List (Key × V)} {es : List (Key × List (Key × D))} {A : List Addr} : H b = some (.dK xs) → KvOk K F xs ys → OwnD K F H kvs es A → OwnD K F H ((k, .ref b) :: kvs) ((k, ys) :: es) (b :: A)
section
variable (K : PySem.W.Frag) (F H : Hp)
mutual
inductive Own : V → T → List Addr → Prop
  | leaf {v : V} {d : D} : Rep K F v d → Own v (.leaf d) []
  | fl {a : Addr} {xs : List V} {ds : List D} : H a = some (.lst xs) → xs.length ≤ sizeLine → RepL K F xs ds → Own (.ref a) (.fl ds) [a]
  | ls {a : Addr} {xs : List V} {ts : List T} {A : List Addr} : H a = some (.lst xs) → xs.length ≤ sizeLine → OwnL xs ts A → Own (.ref a) (.ls ts) (a :: A)
  | tup {a : Addr} {xs : List V} {ts : List T} {A : List Addr} : SqT K F a xs → xs.length ≤ sizeLine → OwnL xs ts A → Own (.ref a) (.tup ts) A
  | dk {a : Addr} {kvs : List (Key × V)} {es : List (Key × D)} : H a = some (.dK kvs) → KvOk K F kvs es → Own (.ref a) (.dk es) [a]
  | dn {a : Addr} {kvs : List (NK × Addr × V)} {es : List (NK × D)} : H a = some (dnO a kvs) → NvOk K F kvs es → Own (.ref a) (.dn es) [a]
  | dd {a : Addr} {kvs : List (Key × V)} {es : List (Key × List (Key × D))} {A : List Addr} : H a = some (.dK kvs) → OwnD K F H kvs es A → Own (.ref a) (.dd es) (a :: A)
  | lk {a : Addr} {o : Obj} {kvs : List (Key × V)} {es : List (Key × D)} : F a = some (.frz o (.dK kvs)) → KvOk K F kvs es → Own (.ref a) (.lk es) []
  | scr {a : Addr} {xs : List V} {ds : List D} : SqL K F a xs → xs.length ≤ sizeLine → RepL K F xs ds → Own (.ref a) (.scr ds) []
  | ob {a C dx : Addr} {cn : Str} {ns : List Str} {vs : List V} {ts : List T} {A : List Addr} : PySem.W.nsIn K mainGlobals cn = some (some (.ref C)) → H a = some (.ins C dx (ns.zip vs)) → ns.length = ts.length → OwnL vs ts A → Own (.ref a) (.ob cn ns ts) (a :: A)
  | hole {v : V} : Own v .hole []
inductive OwnL : List V → List T → List Addr → Prop
  | nil : OwnL [] [] []
  | cons {v : V} {vs : List V} {t : T} {ts : List T} {A B : List Addr} : Own v t A → OwnL vs ts B → OwnL (v :: vs) (t :: ts) (A ++ B)
end
end
section
variable {K : PySem.W.Frag} {F F' H H' : Hp}
theorem KvOk.mono {κ : Type} (e : Same F F') {xs : List (κ × V)} {es : List (κ × D)} (h : KvOk K F xs es) : KvOk K F' xs es := Paired.mapP h fun _ _ z => ⟨z.1, z.2.mono e⟩
theorem KvOk.repK (e : Same F F') : ∀ {xs : List (Key × V)} {es : List (Key × D)}, KvOk K F xs es → RepK K F' xs (es.map fun p => (keyD p.1, p.2))
  | _, _, .nil => .nil
  | _, _, .cons (a := (k, v)) (b := (k', d)) h t => by
    obtain ⟨rfl, r⟩ := h
    exact .cons (r.mono e) (KvOk.repK e t)
theorem NvOk.mono (e : Same F F') {xs : List (NK × Addr × V)} {es : List (NK × D)} (h : NvOk K F xs es) : NvOk K F' xs es := Paired.mapP h fun _ _ z => ⟨z.1, z.2.1, z.2.2.1.mono e, z.2.2.2.mono e⟩
theorem NvOk.repN (e : Same F F') : ∀ {xs : List (NK × Addr × V)} {es : List (NK × D)}, NvOk K F xs es → RepN K F' xs (es.map fun p => (p.1.data, p.2))
  | _, _, .nil => .nil
  | _, _, .cons (a := (k, b, v)) (b := (k', d)) h t => by
    obtain ⟨rfl, o, r, q⟩ := h
    exact .cons o (r.mono e) (q.mono e) (NvOk.repN e t)
theorem OwnD.stay (e : Same F F') : ∀ {kvs : List (Key × V)} {es : List (Key × List (Key × D))} {A : List Addr}, OwnD K F H kvs es A → (∀ a ∈ A, ∀ o, H a = some o → H' a = some o) → OwnD K F' H' kvs es A
  | _, _, _, .nil, _ => .nil
  | _, _, _, .cons h r t, k => .cons (k _ List.mem_cons_self _ h) (r.mono e) (OwnD.stay e t fun a m => k a (List.mem_cons_of_mem _ m))
theorem OwnD.rep (e : Same F F') : ∀ {kvs : List (Key × V)} {es : List (Key × List (Key × D))} {A : List Addr}, OwnD K F H kvs es A → (∀ a ∈ A, ∀ o, H a = some o → F' a = some o) → RepK K F' kvs (ddD es)
  | _, _, _, .nil, _ => .nil
  | _, _, _, .cons h r t, k => .cons (.dk (k _ List.mem_cons_self _ h) (KvOk.repK e r)) (OwnD.rep e t fun a m => k a (List.mem_cons_of_mem _ m))
mutual
/-- an owned tree stands while its own cells stand and the frozen part grows -/
theorem Own.stay (e : Same F F') : ∀ {v : V} {t : T} {A : List Addr}, Own K F H v t A → (∀ a ∈ A, ∀ o, H a = some o → H' a = some o) → Own K F' H' v t A
  | _, .leaf d, _, h, k => by
    cases h with
    | leaf r => exact .leaf (r.mono e)
  | _, .fl ds, _, h, k => by
    cases h with
    | fl h z r => exact .fl (k _ (List.mem_singleton.mpr rfl) _ h) z (r.mono e)
  | _, .ls ts, _, h, k => by
    cases h with
    | ls h z r => exact .ls (k _ List.mem_cons_self _ h) z (OwnL.stay e r fun a m => k a (List.mem_cons_of_mem _ m))
  | _, .tup ts, _, h, k => by
    cases h with
    | tup h z r => exact .tup (sameT e h) z (OwnL.stay e r k)
  | _, .dk es, _, h, k => by
    cases h with
    | dk h r => exact .dk (k _ (List.mem_singleton.mpr rfl) _ h) (r.mono e)
  | _, .dn es, _, h, k => by
    cases h with
    | dn h r => exact .dn (k _ (List.mem_singleton.mpr rfl) _ h) (r.mono e)
  | _, .dd es, _, h, k => by
    cases h with
    | dd h r => exact .dd (k _ List.mem_cons_self _ h) (r.stay e fun a m => k a (List.mem_cons_of_mem _ m))
  | _, .lk es, _, h, k => by
    cases h with
    | lk h r => exact .lk (e _ _ h) (r.mono e)
  | _, .scr ds, _, h, k => by
    cases h with
    | scr h z r => exact .scr (e.seq h) z (r.mono e)
  | _, .ob cn ns ts, _, h, k => by
    cases h with
    | ob hc h z r => exact .ob hc (k _ List.mem_cons_self _ h) z (OwnL.stay e r fun a m => k a (List.mem_cons_of_mem _ m))
  | _, .hole, _, h, k => by
    cases h
    exact .hole
theorem OwnL.stay (e : Same F F') : ∀ {v : List V} {t : List T} {A : List Addr}, OwnL K F H v t A → (∀ a ∈ A, ∀ o, H a = some o → H' a = some o) → OwnL K F' H' v t A
  | _, [], _, h, k => by
    cases h
    exact .nil
  | _, t :: ts, _, h, k => by
    cases h with
    | cons h1 h2 => exact .cons (Own.stay e h1 fun a m => k a (List.mem_append_left _ m)) (OwnL.stay e h2 fun a m => k a (List.mem_append_right _ m))
end
mutual
/-- .. read as plain data, once its cells are frozen -/
theorem Own.rep (e : Same F F') : ∀ {v : V} {t : T} {A : List Addr} {d : D}, Own K F H v t A → (∀ a ∈ A, ∀ o, H a = some o → F' a = some o) → t.fz = some d → Rep K F' v d
  | _, .leaf d, _, _, h, k, w => by
    cases h with
    | leaf r =>
      cases w
      exact r.mono e
  | _, .fl ds, _, _, h, k, w => by
    cases h with
    | fl h z r =>
      cases w
      exact .lst (k _ (List.mem_singleton.mpr rfl) _ h) z (r.mono e)
  | _, .ls ts, _, _, h, k, w => by
    cases h with
    | ls h z r =>
      have w' : (T.fzL ts).map PyData.list = some _ := w
      obtain ⟨ds, e1, e2⟩ := Option.map_eq_some_iff.mp w'
      subst e2
      exact .lst (k _ List.mem_cons_self _ h) z (OwnL.rep e r (fun a m => k a (List.mem_cons_of_mem _ m)) e1)
  | _, .tup ts, _, _, h, k, w => by
    cases h with
    | tup h z r =>
      have w' : (T.fzL ts).map PyData.tuple = some _ := w
      obtain ⟨ds, e1, e2⟩ := Option.map_eq_some_iff.mp w'
      subst e2
      exact .tup (sameT e h) z (OwnL.rep e r k e1)
  | _, .dk es, _, _, h, k, w => by
    cases h with
    | dk h r =>
      cases w
      exact .dk (k _ (List.mem_singleton.mpr rfl) _ h) (KvOk.repK e r)
  | _, .dn es, _, _, h, k, w => by
    cases h with
    | dn h r =>
      cases w
      exact .dn (k _ (List.mem_singleton.mpr rfl) _ h) (r.repN e)
  | _, .dd es, _, _, h, k, w => by
    cases h with
    | dd h r =>
      cases w
      exact .dk (k _ List.mem_cons_self _ h) (r.rep e fun a m => k a (List.mem_cons_of_mem _ m))
  | _, .lk es, _, _, h, k, w => by cases w
  | _, .scr ds, _, _, h, k, w => by cases w
  | _, .ob _ _ _, _, _, h, k, w => by cases w
  | _, .hole, _, _, h, k, w => by cases w
theorem OwnL.rep (e : Same F F') : ∀ {v : List V} {t : List T} {A : List Addr} {d : List D}, OwnL K F H v t A → (∀ a ∈ A, ∀ o, H a = some o → F' a = some o) → T.fzL t = some d → RepL K F' v d
  | _, [], _, _, h, k, w => by
    cases h
    cases w
    exact .nil
  | _, t :: ts, _, _, h, k, w => by
    cases h with
    | cons h1 h2 =>
      have w' : (T.fz t).bind (fun d => (T.fzL ts).bind fun ds => some (d :: ds)) = some _ := w
      obtain ⟨d, e1, w2⟩ := Option.bind_eq_some_iff.mp w'
      obtain ⟨ds, e2, w3⟩ := Option.bind_eq_some_iff.mp w2
      cases w3
      exact .cons (Own.rep e h1 (fun a m => k a (List.mem_append_left _ m)) e1) (OwnL.rep e h2 (fun a m => k a (List.mem_append_right _ m)) e2)
end

structure Cn (F B H : Hp) (A : List Addr) : Prop where
  fh : Same F H
  bh : Same B H
  nd : A.Nodup
  fa : ∀ a ∈ A, F a = none
  ba : ∀ a ∈ A, B a = none
  ha : ∀ a ∈ A, H a ≠ none
structure Go (F H : Hp) (A : List Addr) (F' H' : Hp) (A' : List Addr) : Prop where
  ff : Same F F'
  keep : ∀ b o, b ∉ A → H b = some o → H' b = some o
  fresh : ∀ b, b ∉ A → H b ≠ none → F' b = F b
  sub : ∀ b ∈ A', b ∈ A ∨ H b = none
theorem some_ne {α : Type} {o : Option α} (h : o ≠ none) : ∃ x, o = some x := by
  cases o with
  | none => exact absurd rfl h
  | some x => exact ⟨x, rfl⟩
variable {B : Hp} {A A' A1 A2 C : List Addr} {F1 H1 F2 H2 : Hp}
theorem Cn.perm (c : Cn F B H A) (p : A.Perm A') : Cn F B H A' :=
  ⟨c.fh, c.bh, p.nodup c.nd, fun a m => c.fa a (p.mem_iff.mpr m), fun a m => c.ba a (p.mem_iff.mpr m), fun a m => c.ha a (p.mem_iff.mpr m)⟩
theorem Cn.sub (c : Cn F B H A) (n : A'.Nodup) (s : ∀ a ∈ A', a ∈ A) : Cn F B H A' :=
  ⟨c.fh, c.bh, n, fun a m => c.fa a (s a m), fun a m => c.ba a (s a m), fun a m => c.ha a (s a m)⟩
theorem Cn.right (c : Cn F B H (A1 ++ A2)) : Cn F B H A2 := c.sub (List.nodup_append.mp c.nd).2.1 fun a m => List.mem_append_right _ m
theorem Cn.left (c : Cn F B H (A1 ++ A2)) : Cn F B H A1 := c.sub (List.nodup_append.mp c.nd).1 fun a m => List.mem_append_left _ m
theorem Cn.apart (c : Cn F B H (A1 ++ A2)) : ∀ a ∈ A1, a ∉ A2 := fun a m m2 => (List.nodup_append.mp c.nd).2.2 a m a m2 rfl
theorem Go.refl : Go F H A F H A := ⟨Same.refl F, fun _ _ _ h => h, fun _ _ _ => rfl, fun _ m => .inl m⟩
theorem Go.less (s : ∀ a ∈ A', a ∈ A) : Go F H A F H A' := ⟨Same.refl F, fun _ _ _ h => h, fun _ _ _ => rfl, fun a m => .inl (s a m)⟩
theorem Go.perm (g : Go F H A F' H' A') {C C' : List Addr} (p : A.Perm C) (q : A'.Perm C') : Go F H C F' H' C' :=
  ⟨g.ff, fun b o n => g.keep b o fun m => n (p.mem_iff.mp m), fun b n => g.fresh b fun m => n (p.mem_iff.mp m), fun b m => (g.sub b (q.mem_iff.mpr m)).imp (fun z => p.mem_iff.mp z) id⟩
theorem Go.trans (g : Go F H A F1 H1 A1) (k : Go F1 H1 A1 F2 H2 A2) : Go F H A F2 H2 A2 := by
  have out : ∀ b, b ∉ A → H b ≠ none → b ∉ A1 := fun b n h m => (g.sub b m).elim n h
  refine ⟨g.ff.trans k.ff, fun b o n h => ?_, fun b n h => ?_, fun b m => ?_⟩
  · exact k.keep b o (out b n (by rw [h]; exact fun z => nomatch z)) (g.keep b o n h)
  · obtain ⟨o, e⟩ := some_ne h
    rw [k.fresh b (out b n h) (by rw [g.keep b o n e]; exact fun z => nomatch z)]
    exact g.fresh b n h
  · rcases k.sub b m with z | z
    · exact g.sub b z
    · by_cases hb : b ∈ A
      · exact .inl hb
      · refine .inr ?_
        cases e : H b with
        | none => rfl
        | some o =>
          rw [g.keep b o hb e] at z
          cases z
/-- what is owned beside stands -/
theorem Go.framed (c : Cn F B H (A1 ++ A2)) (g : Go F H A2 F' H' C) (d : Cn F' B H' C) : Go F H (A1 ++ A2) F' H' (A1 ++ C) ∧ Cn F' B H' (A1 ++ C) := by
  have ap := c.apart
  refine ⟨⟨g.ff, fun b o n => g.keep b o fun m => n (List.mem_append_right _ m), fun b n => g.fresh b fun m => n (List.mem_append_right _ m), fun b m => ?_⟩,
    ⟨d.fh, d.bh, ?_, fun b m => ?_, fun b m => ?_, fun b m => ?_⟩⟩
  · rcases List.mem_append.mp m with z | z
    · exact .inl (List.mem_append_left _ z)
    · exact (g.sub b z).imp (fun q => List.mem_append_right _ q) id
  · refine List.nodup_append.mpr ⟨(List.nodup_append.mp c.nd).1, d.nd, fun a m b m2 e => ?_⟩
    subst e
    rcases g.sub a m2 with z | z
    · exact ap a m z
    · exact c.ha a (List.mem_append_left _ m) z
  · rcases List.mem_append.mp m with z | z
    · rw [g.fresh b (ap b z) (c.ha b (List.mem_append_left _ z))]
      exact c.fa b (List.mem_append_left _ z)
    · exact d.fa b z
  · rcases List.mem_append.mp m with z | z
    · exact c.ba b (List.mem_append_left _ z)
    · exact d.ba b z
  · rcases List.mem_append.mp m with z | z
    · obtain ⟨o, e⟩ := some_ne (c.ha b (List.mem_append_left _ z))
      rw [g.keep b o (ap b z) e]
      exact fun q => nomatch q
    · exact d.ha b z
theorem Go.beside (c : Cn F B H (A1 ++ A2)) (g : Go F H A2 F' H' C) {v : V} {t : T} (o : Own K F H v t A1) : Own K F' H' v t A1 :=
  o.stay g.ff fun a m u e => g.keep a u (c.apart a m) e
/-- the frame's right -/
theorem Go.framedR (c : Cn F B H (A1 ++ A2)) (g : Go F H A1 F' H' C) (d : Cn F' B H' C) : Go F H (A1 ++ A2) F' H' (C ++ A2) ∧ Cn F' B H' (C ++ A2) := by
  obtain ⟨g2, d2⟩ := Go.framed (c.perm List.perm_append_comm) g d
  exact ⟨g2.perm List.perm_append_comm List.perm_append_comm, d2.perm List.perm_append_comm⟩
/-- cells frozen -/
def joinH (F H : Hp) (A : List Addr) : Hp := fun b => if b ∈ A then H b else F b
theorem Cn.freeze (c : Cn F B H (A1 ++ A2)) : Go F H (A1 ++ A2) (joinH F H A1) H A2 ∧ Cn (joinH F H A1) B H A2 ∧ Same F (joinH F H A1) ∧ ∀ a ∈ A1, ∀ o, H a = some o → joinH F H A1 a = some o := by
  have s : Same F (joinH F H A1) := fun b o e => by
    unfold joinH
    by_cases m : b ∈ A1
    · rw [c.fa b (List.mem_append_left _ m)] at e
      cases e
    · rw [if_neg m]
      exact e
  refine ⟨⟨s, fun _ _ _ h => h, fun b n _ => ?_, fun b m => .inl (List.mem_append_right _ m)⟩, ⟨fun b o e => ?_, c.bh, c.right.nd, fun b m => ?_, c.right.ba, c.right.ha⟩, s, fun a m o e => ?_⟩
  · unfold joinH
    rw [if_neg fun m => n (List.mem_append_left _ m)]
  · unfold joinH at e
    by_cases m : b ∈ A1
    · rw [if_pos m] at e
      exact e
    · rw [if_neg m] at e
      exact c.fh b o e
  · unfold joinH
    rw [if_neg fun z => c.apart b z m]
    exact c.right.fa b m
  · unfold joinH
    rw [if_pos m]
    exact e
/-- a new cell, frozen at once -/
theorem Cn.newF (c : Cn F B H A) {p : Addr} {o : HO} (h : H p = none) : Go F H A (upd F p o) (upd H p o) A ∧ Cn (upd F p o) B (upd H p o) A := by
  have fp : F p = none := Same.free c.fh h
  have s : Same F (upd F p o) := fun b u e => by
    rw [upd_ne (ne_of_none e fp)]
    exact e
  have sh : Same H (upd H p o) := fun b u e => by
    rw [upd_ne (ne_of_none e h)]
    exact e
  refine ⟨⟨s, fun b u _ e => sh b u e, fun b _ e => ?_, fun b m => .inl m⟩, ⟨fun b u e => ?_, c.bh.trans sh, c.nd, fun b m => ?_, c.ba, fun b m => ?_⟩⟩
  · obtain ⟨u, e'⟩ := some_ne e
    rw [upd_ne (ne_of_none e' h)]
  · by_cases q : b = p
    · subst q
      rw [upd_same] at e ⊢
      exact e
    · rw [upd_ne q] at e ⊢
      exact c.fh b u e
  · obtain ⟨u, e'⟩ := some_ne (c.ha b m)
    rw [upd_ne (ne_of_none e' h)]
    exact c.fa b m
  · obtain ⟨u, e'⟩ := some_ne (c.ha b m)
    rw [sh b u e']
    exact fun z => nomatch z
/-- a new cell, owned -/
theorem Cn.newO (c : Cn F B H A) {p : Addr} {o : HO} (h : H p = none) : Go F H A F (upd H p o) (p :: A) ∧ Cn F B (upd H p o) (p :: A) := by
  have sh : Same H (upd H p o) := fun b u e => by
    rw [upd_ne (ne_of_none e h)]
    exact e
  refine ⟨⟨Same.refl F, fun b u _ e => sh b u e, fun b _ _ => rfl, fun b m => ?_⟩, ⟨c.fh.trans sh, c.bh.trans sh, List.nodup_cons.mpr ⟨fun m => c.ha p m h, c.nd⟩, fun b m => ?_, fun b m => ?_, fun b m => ?_⟩⟩
  · rcases List.mem_cons.mp m with z | z
    · exact .inr (by rw [z]; exact h)
    · exact .inl z
  · rcases List.mem_cons.mp m with z | z
    · rw [z]
      exact Same.free c.fh h
    · exact c.fa b z
  · rcases List.mem_cons.mp m with z | z
    · rw [z]
      exact Same.free c.bh h
    · exact c.ba b z
  · rcases List.mem_cons.mp m with z | z
    · rw [z, upd_same]
      exact fun q => nomatch q
    · obtain ⟨u, e'⟩ := some_ne (c.ha b z)
      rw [sh b u e']
      exact fun q => nomatch q
/-- an owned cell written -/
theorem Cn.write (c : Cn F B H A) {p : Addr} {o : HO} (h : p ∈ A) : Go F H A F (upd H p o) A ∧ Cn F B (upd H p o) A := by
  have sh : ∀ b u, b ≠ p → H b = some u → upd H p o b = some u := fun b u n e => by
    rw [upd_ne n]
    exact e
  refine ⟨⟨Same.refl F, fun b u n e => sh b u (fun z => n (z ▸ h)) e, fun b _ _ => rfl, fun b m => .inl m⟩, ⟨fun b u e => sh b u ?_ (c.fh b u e), fun b u e => sh b u ?_ (c.bh b u e), c.nd, c.fa, c.ba, fun b m => ?_⟩⟩
  · intro z
    subst z
    rw [c.fa _ h] at e
    cases e
  · intro z
    subst z
    rw [c.ba _ h] at e
    cases e
  · by_cases q : b = p
    · rw [q, upd_same]
      exact fun z => nomatch z
    · rw [upd_ne q]
      exact c.ha b m
end
end Tl

namespace Tl
open PySem PySem.Spec PyProof.Rows L2

inductive R where
  | val (t : T)
  | vw (t : T)
def R.er : R → Option D
  | .val t => t.fz
  | .vw t => t.fz
/-- as a thing that is kept -/
def R.st : R → Option D
  | .val t => t.fz
  | .vw (.leaf d) => some d
  | .vw _ => none
def erL : List R → Option (List D)
  | [] => some []
  | r :: rs => r.er.bind fun d => (erL rs).bind fun ds => some (d :: ds)
def stL : List R → Option (List D)
  | [] => some []
  | r :: rs => r.st.bind fun d => (stL rs).bind fun ds => some (d :: ds)
/-- plain results -/
abbrev rd (d : D) : R := .val (.leaf d)
abbrev rInt (i : Int) : R := rd (.int i)
abbrev rBool (b : Bool) : R := rd (.bool b)
section
variable (K : PySem.W.Frag) (F B H : Hp)
def ROk : R → V → List Addr → Prop
  | .val t, v, A => Own K F H v t A
  | .vw t, v, A => A = [] ∧ ∃ A', Own K F B v t A'
inductive RsOk : List R → List V → List Addr → Prop
  | nil : RsOk [] [] []
  | cons {r : R} {rs : List R} {v : V} {vs : List V} {A A' : List Addr} : ROk K F B H r v A → RsOk rs vs A' → RsOk (r :: rs) (v :: vs) (A ++ A')
end
section
variable {K : PySem.W.Frag} {F F' B H H' : Hp} {A A1 A2 A3 : List Addr}
theorem ROk.rep {r : R} {v : V} {d : D} (o : ROk K F B H r v A) (f : Same F F') (b : Same B F') (h : ∀ a ∈ A, ∀ o, H a = some o → F' a = some o) (e : r.er = some d) : Rep K F' v d := by
  cases r with
  | val t => exact Own.rep f o h e
  | vw t =>
    obtain ⟨_, A', o⟩ := o
    exact Own.rep f o (fun a _ o q => b a o q) e
theorem RsOk.rep : ∀ {rs : List R} {vs : List V} {A : List Addr} {ds : List D}, RsOk K F B H rs vs A → Same F F' → Same B F' → (∀ a ∈ A, ∀ o, H a = some o → F' a = some o) → erL rs = some ds → RepL K F' vs ds
  | _, _, _, _, .nil, _, _, _, e => by
    cases e
    exact .nil
  | r :: rs, _, _, _, .cons o t, f, b, h, e => by
    have e' : r.er.bind (fun d => (erL rs).bind fun ds => some (d :: ds)) = some _ := e
    obtain ⟨d, e1, w2⟩ := Option.bind_eq_some_iff.mp e'
    obtain ⟨ds, e2, w3⟩ := Option.bind_eq_some_iff.mp w2
    cases w3
    exact .cons (o.rep f b (fun a m => h a (List.mem_append_left _ m)) e1) (RsOk.rep t f b (fun a m => h a (List.mem_append_right _ m)) e2)
theorem ROk.keep {r : R} {v : V} {d : D} (o : ROk K F B H r v A) (f : Same F F') (h : ∀ a ∈ A, ∀ o, H a = some o → F' a = some o) (e : r.st = some d) : Rep K F' v d := by
  cases r with
  | val t => exact Own.rep f o h e
  | vw t =>
    obtain ⟨_, A', o⟩ := o
    cases t with
    | leaf d =>
      cases e
      cases o with
      | leaf r => exact r.mono f
    | _ => cases e
theorem RsOk.keep : ∀ {rs : List R} {vs : List V} {A : List Addr} {ds : List D}, RsOk K F B H rs vs A → Same F F' → (∀ a ∈ A, ∀ o, H a = some o → F' a = some o) → stL rs = some ds → RepL K F' vs ds
  | _, _, _, _, .nil, _, _, e => by
    cases e
    exact .nil
  | r :: rs, _, _, _, .cons o t, f, h, e => by
    have e' : r.st.bind (fun d => (stL rs).bind fun ds => some (d :: ds)) = some _ := e
    obtain ⟨d, e1, w2⟩ := Option.bind_eq_some_iff.mp e'
    obtain ⟨ds, e2, w3⟩ := Option.bind_eq_some_iff.mp w2
    cases w3
    exact .cons (o.keep f (fun a m => h a (List.mem_append_left _ m)) e1) (RsOk.keep t f (fun a m => h a (List.mem_append_right _ m)) e2)
theorem RsOk.length : ∀ {rs : List R} {vs : List V} {A : List Addr}, RsOk K F B H rs vs A → vs.length = rs.length
  | _, _, _, .nil => rfl
  | _, _, _, .cons _ t => congrArg (· + 1) (RsOk.length t)
theorem ROk.stay {r : R} {v : V} (o : ROk K F B H r v A) (f : Same F F') (h : ∀ a ∈ A, ∀ o, H a = some o → H' a = some o) : ROk K F' B H' r v A := by
  cases r with
  | val t => exact Own.stay f o h
  | vw t =>
    obtain ⟨e, A', o⟩ := o
    exact ⟨e, A', Own.stay f o fun _ _ _ q => q⟩
theorem RsOk.stay : ∀ {rs : List R} {vs : List V} {A : List Addr}, RsOk K F B H rs vs A → Same F F' → (∀ a ∈ A, ∀ o, H a = some o → H' a = some o) → RsOk K F' B H' rs vs A
  | _, _, _, .nil, _, _ => .nil
  | _, _, _, .cons o t, f, h => .cons (o.stay f fun a m => h a (List.mem_append_left _ m)) (RsOk.stay t f fun a m => h a (List.mem_append_right _ m))
/-- a result frozen -/
theorem ROk.freeze {r : R} {v : V} {d : D} (c : Cn F B H (A1 ++ A2)) (o : ROk K F B H r v A1) (e : r.st = some d) : ∃ F', Go F H (A1 ++ A2) F' H A2 ∧ Cn F' B H A2 ∧ Same F F' ∧ Rep K F' v d := by
  obtain ⟨g, c', s, h⟩ := c.freeze
  exact ⟨_, g, c', s, o.keep s h e⟩
theorem RsOk.freeze {rs : List R} {vs : List V} {ds : List D} (c : Cn F B H (A1 ++ A2)) (o : RsOk K F B H rs vs A1) (e : stL rs = some ds) : ∃ F', Go F H (A1 ++ A2) F' H A2 ∧ Cn F' B H A2 ∧ Same F F' ∧ RepL K F' vs ds := by
  obtain ⟨g, c', s, h⟩ := c.freeze
  exact ⟨_, g, c', s, o.keep s h e⟩
end

abbrev Tau := List (Nat × T)
def tget : Tau → Nat → Option T
  | [], _ => none
  | (j, t) :: r, i => if j = i then some t else tget r i
def tdel : Tau → Nat → Tau
  | [], _ => []
  | (j, t) :: r, i => if j = i then tdel r i else (j, t) :: tdel r i
/-- put in place -/
def tset : Tau → Nat → T → Tau
  | [], i, t => [(i, t)]
  | (j, u) :: r, i, t => if j = i then (i, t) :: r else (j, u) :: tset r i t
abbrev Fz := List (Option D)
def fget : Fz → Nat → Option D
  | [], _ => none
  | x :: _, 0 => x
  | _ :: r, n + 1 => fget r n
def fset : Fz → Nat → Option D → Fz
  | [], _, _ => []
  | _ :: r, 0, d => d :: r
  | x :: r, n + 1, d => x :: fset r n d
theorem fset_length : ∀ (f : Fz) (i : Nat) (d : Option D), (fset f i d).length = f.length
  | [], _, _ => rfl
  | _ :: _, 0, _ => rfl
  | _ :: r, n + 1, d => congrArg (· + 1) (fset_length r n d)
theorem fget_set_same : ∀ {f : Fz} {i : Nat} {d : Option D} {e : D}, fget (fset f i d) i = some e → d = some e
  | _ :: _, 0, _, _, h => h
  | _ :: r, n + 1, d, e, h => fget_set_same (f := r) (i := n) h
theorem fget_set_ne : ∀ {f : Fz} {i j : Nat} {d : Option D}, j ≠ i → fget (fset f i d) j = fget f j
  | [], _, _, _, _ => rfl
  | _ :: _, 0, 0, _, h => absurd rfl h
  | _ :: _, 0, j + 1, _, _ => rfl
  | _ :: _, i + 1, 0, _, _ => rfl
  | _ :: r, i + 1, j + 1, d, h => fget_set_ne (f := r) fun e => h (congrArg (· + 1) e)
theorem fget_lt : ∀ {f : Fz} {i : Nat} {d : D}, fget f i = some d → i < f.length
  | _ :: _, 0, _, _ => Nat.succ_pos _
  | _ :: r, n + 1, d, h => Nat.succ_lt_succ (fget_lt (f := r) h)
structure Ro where
  fz : Fz
  vw : Tau
section
variable (K : PySem.W.Frag)
def FzOk (F : Hp) (σ : L2.St) (f : Fz) : Prop := f.length = σ.length ∧ ∀ i d, fget f i = some d → ∃ v, σ[i]? = some (some v) ∧ Rep K F v d
def VwOk (F B : Hp) (σ : L2.St) (τ : Tau) : Prop := ∀ p ∈ τ, ∃ v A, σ[p.1]? = some (some v) ∧ Own K F B v p.2 A
structure RoOk (F B : Hp) (σ : L2.St) (ro : Ro) : Prop where
  fz : FzOk K F σ ro.fz
  vw : VwOk K F B σ ro.vw
inductive TauOk (F H : Hp) (σ : L2.St) : Tau → List Addr → Prop
  | nil : TauOk F H σ [] []
  | cons {i : Nat} {t : T} {τ : Tau} {v : V} {A A' : List Addr} : σ[i]? = some (some v) → Own K F H v t A → TauOk F H σ τ A' → TauOk F H σ ((i, t) :: τ) (A ++ A')
structure At (F B H : Hp) (σ : L2.St) (ro : Ro) (τ : Tau) (A : List Addr) : Prop where
  cn : Cn F B H A
  ro : RoOk K F B σ ro
  tau : TauOk K F H σ τ A
end
section
variable {K : PySem.W.Frag} {F F' B H H' : Hp} {σ : L2.St} {A A1 A2 A3 C : List Addr}
theorem FzOk.mono {f : Fz} (o : FzOk K F σ f) (s : Same F F') : FzOk K F' σ f := ⟨o.1, fun i d e => let ⟨v, h, r⟩ := o.2 i d e; ⟨v, h, r.mono s⟩⟩
theorem VwOk.mono {f : Tau} (o : VwOk K F B σ f) (s : Same F F') : VwOk K F' B σ f := fun p m => let ⟨v, A, h, r⟩ := o p m; ⟨v, A, h, r.stay s fun _ _ _ q => q⟩
theorem RoOk.mono {ro : Ro} (o : RoOk K F B σ ro) (s : Same F F') : RoOk K F' B σ ro := ⟨o.fz.mono s, o.vw.mono s⟩
theorem TauOk.stay (s : Same F F') : ∀ {τ : Tau} {A : List Addr}, TauOk K F H σ τ A → (∀ a ∈ A, ∀ o, H a = some o → H' a = some o) → TauOk K F' H' σ τ A
  | _, _, .nil, _ => .nil
  | _, _, .cons h o t, k => .cons h (o.stay s fun a m => k a (List.mem_append_left _ m)) (TauOk.stay s t fun a m => k a (List.mem_append_right _ m))
theorem tget_mem : ∀ {τ : Tau} {i : Nat} {t : T}, tget τ i = some t → (i, t) ∈ τ
  | (j, u) :: r, i, t, h => by
    have h' : (if j = i then some u else tget r i) = some t := h
    by_cases q : j = i
    · rw [if_pos q] at h'
      cases h'
      rw [q]
      exact List.mem_cons_self
    · rw [if_neg q] at h'
      exact List.mem_cons_of_mem _ (tget_mem h')
theorem tdel_sub : ∀ {τ : Tau} {i : Nat} {p : Nat × T}, p ∈ tdel τ i → p ∈ τ ∧ p.1 ≠ i
  | (j, u) :: r, i, p, h => by
    have h' : p ∈ (if j = i then tdel r i else (j, u) :: tdel r i) := h
    by_cases q : j = i
    · rw [if_pos q] at h'
      have z := tdel_sub h'
      exact ⟨List.mem_cons_of_mem _ z.1, z.2⟩
    · rw [if_neg q] at h'
      rcases List.mem_cons.mp h' with e | m
      · rw [e]
        exact ⟨List.mem_cons_self, q⟩
      · have z := tdel_sub m
        exact ⟨List.mem_cons_of_mem _ z.1, z.2⟩
/-- the slot i dropped -/
theorem TauOk.del : ∀ {τ : Tau} {A : List Addr} (i : Nat), TauOk K F H σ τ A → A.Nodup → ∃ A', TauOk K F H σ (tdel τ i) A' ∧ A'.Nodup ∧ ∀ a ∈ A', a ∈ A
  | _, _, _, .nil, n => ⟨[], .nil, n, fun _ m => m⟩
  | (j, u) :: r, _, i, .cons (A := A) (A' := A0) h o t, n => by
    obtain ⟨A', t', n', s'⟩ := TauOk.del i t (List.nodup_append.mp n).2.1
    by_cases q : j = i
    · refine ⟨A', ?_, n', fun a m => List.mem_append_right _ (s' a m)⟩
      show TauOk K F H σ (if j = i then tdel r i else (j, u) :: tdel r i) A'
      rw [if_pos q]
      exact t'
    · refine ⟨A ++ A', ?_, List.nodup_append.mpr ⟨(List.nodup_append.mp n).1, n', fun a m b m2 => (List.nodup_append.mp n).2.2 a m b (s' b m2)⟩, fun a m => ?_⟩
      · show TauOk K F H σ (if j = i then tdel r i else (j, u) :: tdel r i) (A ++ A')
        rw [if_neg q]
        exact .cons h o t'
      · rcases List.mem_append.mp m with z | z
        · exact List.mem_append_left _ z
        · exact List.mem_append_right _ (s' a z)
/-- the slot i taken out -/
theorem TauOk.take : ∀ {τ : Tau} {A : List Addr} {i : Nat} {t : T}, TauOk K F H σ τ A → A.Nodup → tget τ i = some t →
    ∃ v A1 A2, σ[i]? = some (some v) ∧ Own K F H v t A1 ∧ TauOk K F H σ (tset τ i .hole) A2 ∧ (A1 ++ A2).Nodup ∧ ∀ a ∈ A1 ++ A2, a ∈ A
  | (j, u) :: r, _, i, t, .cons (v := v) (A := A) (A' := A0) h o tt, n, e => by
    have e' : (if j = i then some u else tget r i) = some t := e
    obtain ⟨n1, n2, n3⟩ := List.nodup_append.mp n
    by_cases q : j = i
    · rw [if_pos q] at e'
      cases e'
      refine ⟨v, A, [] ++ A0, q ▸ h, o, ?_, n, fun a m => m⟩
      show TauOk K F H σ (if j = i then (i, T.hole) :: r else (j, u) :: tset r i .hole) ([] ++ A0)
      rw [if_pos q]
      exact .cons (q ▸ h) .hole tt
    · rw [if_neg q] at e'
      obtain ⟨w, A1, A2, hw, ow, tw, nw, sw⟩ := TauOk.take tt n2 e'
      obtain ⟨m1, m2, m3⟩ := List.nodup_append.mp nw
      have in1 : ∀ a ∈ A1, a ∈ A0 := fun a m => sw a (List.mem_append_left _ m)
      have in2 : ∀ a ∈ A2, a ∈ A0 := fun a m => sw a (List.mem_append_right _ m)
      refine ⟨w, A1, A ++ A2, hw, ow, ?_, List.nodup_append.mpr ⟨m1, List.nodup_append.mpr ⟨n1, m2, fun a m b m' => n3 a m b (in2 b m')⟩, fun a m b m' => ?_⟩, fun a m => ?_⟩
      · show TauOk K F H σ (if j = i then (i, T.hole) :: r else (j, u) :: tset r i .hole) (A ++ A2)
        rw [if_neg q]
        exact .cons h o tw
      · rcases List.mem_append.mp m' with z | z
        · exact fun e => n3 b z a (in1 a m) e.symm
        · exact m3 a m b z
      · rcases List.mem_append.mp m with z | z
        · exact List.mem_append_right _ (in1 a z)
        · rcases List.mem_append.mp z with z | z
          · exact List.mem_append_left _ z
          · exact List.mem_append_right _ (in2 a z)
/-- the slot i put -/
theorem TauOk.put : ∀ {τ : Tau} {A2 : List Addr} {i : Nat} {t : T} {v : V} {A1 : List Addr}, TauOk K F H σ τ A2 → σ[i]? = some (some v) → Own K F H v t A1 → (A1 ++ A2).Nodup →
    ∃ A', TauOk K F H σ (tset τ i t) A' ∧ A'.Nodup ∧ ∀ a ∈ A', a ∈ A1 ++ A2
  | [], _, i, t, v, A1, .nil, hv, o, n => ⟨A1 ++ [], .cons hv o .nil, n, fun a m => m⟩
  | (j, u) :: r, _, i, t, v, A1, .cons (A := A) (A' := A0) h o' tt, hv, o, n => by
    obtain ⟨n1, n2, n3⟩ := List.nodup_append.mp n
    obtain ⟨m1, m2, m3⟩ := List.nodup_append.mp n2
    by_cases q : j = i
    · refine ⟨A1 ++ A0, ?_, List.nodup_append.mpr ⟨n1, m2, fun a m b m' => n3 a m b (List.mem_append_right _ m')⟩, fun a m => ?_⟩
      · show TauOk K F H σ (if j = i then (i, t) :: r else (j, u) :: tset r i t) (A1 ++ A0)
        rw [if_pos q]
        exact .cons hv o tt
      · rcases List.mem_append.mp m with z | z
        · exact List.mem_append_left _ z
        · exact List.mem_append_right _ (List.mem_append_right _ z)
    · have nn : (A1 ++ A0).Nodup := List.nodup_append.mpr ⟨n1, m2, fun a m b m' => n3 a m b (List.mem_append_right _ m')⟩
      obtain ⟨A', t', n', s'⟩ := TauOk.put tt hv o nn
      refine ⟨A ++ A', ?_, List.nodup_append.mpr ⟨m1, n', fun a m b m' => ?_⟩, fun a m => ?_⟩
      · show TauOk K F H σ (if j = i then (i, t) :: r else (j, u) :: tset r i t) (A ++ A')
        rw [if_neg q]
        exact .cons h o' t'
      · rcases List.mem_append.mp (s' b m') with z | z
        · exact fun e => n3 b z a (List.mem_append_left _ m) e.symm
        · exact m3 a m b z
      · rcases List.mem_append.mp m with z | z
        · exact List.mem_append_right _ (List.mem_append_left _ z)
        · rcases List.mem_append.mp (s' a z) with z | z
          · exact List.mem_append_left _ z
          · exact List.mem_append_right _ (List.mem_append_right _ z)
theorem Go.ros (c : Cn F B H (A1 ++ A2)) (g : Go F H A2 F' H' C) {r : R} {v : V} (o : ROk K F B H r v A1) : ROk K F' B H' r v A1 :=
  o.stay g.ff fun a m u e => g.keep a u (c.apart a m) e
end

section
variable (X : Cx)
def wpE (e : Expr) : TE := fun σ H Q => ∀ (pins : List (Addr × Obj)) (s : Shared), Inv X pins σ H s → wpAny (model X.prog X.w) X.A (eval e X.env) (EP X pins σ Q) X.xe s
def wpT (e : Expr) : TT := fun σ H Q => ∀ (pins : List (Addr × Obj)) (s : Shared), Inv X pins σ H s → wpAny (model X.prog X.w) X.A (isTrue e X.env (eval e X.env)) (TP X pins σ Q) X.xe s
def wpW (e : Expr) : TT := fun σ H Q => ∀ (whole : Sem Value) (pins : List (Addr × Obj)) (s : Shared), Inv X pins σ H s → wpAny (model X.prog X.w) X.A (isTrue e X.env whole) (TP X pins σ Q) X.xe s
def wpA (es : List Expr) : TA := fun σ H Q => ∀ (pos : Pos) (pins : List (Addr × Obj)) (s : Shared), Inv X pins σ H s → wpAny (model X.prog X.w) X.A (spliced (backTo pos (starEach es X.env))) (AP X pins σ Q) X.xe s
def wpS (st : Stmt) : TS := fun D σ H => ∀ (pins : List (Addr × Obj)) (s : Shared), Inv X pins σ H s → wpAny (model X.prog X.w) X.A (exec st X.env) (SP X pins D) X.xe s
def wpB (st : List Stmt) : TS := fun D σ H => ∀ (pins : List (Addr × Obj)) (s : Shared), Inv X pins σ H s → wpAny (model X.prog X.w) X.A (execs st X.env) (SP X pins D) X.xe s
def wpG (tg : Expr) : TG := fun v σ H Q => ∀ (pins : List (Addr × Obj)) (s : Shared) (u : Value), Inv X pins σ H s → RelV v u →
  wpAny (model X.prog X.w) X.A (assign tg X.env u) (fun _ s' => ∃ σ' H', Inv X pins σ' H' s' ∧ Q σ' H') X.xe s
def wpI (tg iter : Expr) : TI := fun σ H R => ∀ (pins : List (Addr × Obj)) (s : Shared), Inv X pins σ H s →
  wpAny (model X.prog X.w) X.A (eval iter X.env) (fun v s1 => wpAny (model X.prog X.w) X.A (pyIter v) (PIE X pins σ tg R) X.xe s1) X.xe s
end
section
variable {X : Cx} {e : Expr} {es : List Expr} {st : Stmt} {sts : List Stmt} {tg : Expr} {σ : L2.St} {H : Hp}
theorem peW : PE X e (wpE X e) := ⟨fun pins s σ H Q I h => h pins s I⟩
theorem ptW : PT X e (wpT X e) := ⟨fun pins s σ H Q I h => h pins s I⟩
theorem pwW : PW X e (wpW X e) := ⟨fun wh pins s σ H Q I h => h wh pins s I⟩
theorem paW : PA X es (wpA X es) := ⟨fun pos pins s σ H Q I h => h pos pins s I⟩
theorem psW : PS X st (wpS X st) := ⟨fun pins s σ H D I h => h pins s I⟩
theorem pssW : PSs X sts (wpB X sts) := ⟨fun pins s σ H D I h => h pins s I⟩
theorem pgW : PG X tg (wpG X tg) := ⟨fun pins s σ H v u Q I r h => h pins s u I r⟩
theorem piW : PI X tg e (wpI X tg e) := ⟨fun pins s σ H R I h => h pins s I⟩
theorem wE {t : TE} {Q : VK} (p : PE X e t) (h : t σ H Q) : wpE X e σ H Q := fun pins s I => p.run pins s σ H Q I h
theorem wT {t : TT} {Q : Bool → Hp → Prop} (p : PT X e t) (h : t σ H Q) : wpT X e σ H Q := fun pins s I => p.run pins s σ H Q I h
theorem wW {t : TT} {Q : Bool → Hp → Prop} (p : PW X e t) (h : t σ H Q) : wpW X e σ H Q := fun wh pins s I => p.run wh pins s σ H Q I h
theorem wA {t : TA} {Q : List V → Hp → Prop} (p : PA X es t) (h : t σ H Q) : wpA X es σ H Q := fun pos pins s I => p.run pos pins s σ H Q I h
theorem wS {t : TS} {D : Ends} (p : PS X st t) (h : t D σ H) : wpS X st D σ H := fun pins s I => p.run pins s σ H D I h
theorem wB {t : TS} {D : Ends} (p : PSs X sts t) (h : t D σ H) : wpB X sts D σ H := fun pins s I => p.run pins s σ H D I h
theorem wG {t : TG} {v : V} {Q : L2.St → Hp → Prop} (p : PG X tg t) (h : t v σ H Q) : wpG X tg v σ H Q := fun pins s u I r => p.run pins s σ H v u Q I r h
theorem wI {t : TI} {R : It → Hp → Prop} (p : PI X tg e t) (h : t σ H R) : wpI X tg e σ H R := fun pins s I => p.run pins s σ H R I h
end

abbrev MV := Ro → Tau → Option (R × Tau)
abbrev MB := Ro → Tau → Option (Bool × Tau)
abbrev ML := Ro → Tau → Option (List R × Tau)
section
variable (K : PySem.W.Frag)
structure EV (t : TE) (m : MV) : Prop where
  run : ∀ (ro : Ro) (τ : Tau) (r : R) (τ' : Tau), m ro τ = some (r, τ') → ∀ (F B H : Hp) (σ : L2.St) (A : List Addr) (Q : VK), At K F B H σ ro τ A →
    (∀ (F' H' : Hp) (v : V) (A1 A2 : List Addr), Go F H A F' H' (A1 ++ A2) → Cn F' B H' (A1 ++ A2) → ROk K F' B H' r v A1 → TauOk K F' H' σ τ' A2 → Q v H') → t σ H Q
structure TV (t : TT) (m : MB) : Prop where
  run : ∀ (ro : Ro) (τ : Tau) (r : Bool) (τ' : Tau), m ro τ = some (r, τ') → ∀ (F B H : Hp) (σ : L2.St) (A : List Addr) (Q : Bool → Hp → Prop), At K F B H σ ro τ A →
    (∀ (F' H' : Hp) (A2 : List Addr), Go F H A F' H' A2 → Cn F' B H' A2 → TauOk K F' H' σ τ' A2 → Q r H') → t σ H Q
end
abbrev ER (X : Cx) (e : Expr) (m : MV) : Prop := EV X.K (wpE X e) m
abbrev TR (X : Cx) (e : Expr) (m : MB) : Prop := TV X.K (wpT X e) m
abbrev TW (X : Cx) (e : Expr) (m : MB) : Prop := TV X.K (wpW X e) m
section
variable (X : Cx)
/-- several results, by whatever is run -/
structure AQ (K : PySem.W.Frag) (wp : L2.St → Hp → (List V → Hp → Prop) → Prop) (n : Nat) (m : ML) : Prop where
  len : ∀ (ro : Ro) (τ : Tau) (r : List R) (τ' : Tau), m ro τ = some (r, τ') → r.length = n
  run : ∀ (ro : Ro) (τ : Tau) (r : List R) (τ' : Tau), m ro τ = some (r, τ') → ∀ (F B H : Hp) (σ : L2.St) (A : List Addr) (Q : List V → Hp → Prop), At K F B H σ ro τ A →
    (∀ (F' H' : Hp) (v : List V) (A1 A2 : List Addr), Go F H A F' H' (A1 ++ A2) → Cn F' B H' (A1 ++ A2) → RsOk K F' B H' r v A1 → TauOk K F' H' σ τ' A2 → Q v H') → wp σ H Q
abbrev AR (es : List Expr) (m : ML) : Prop := AQ X.K (wpA X es) es.length m
end
section
variable {X : Cx} {K : PySem.W.Frag} {F F' B H H' : Hp} {σ : L2.St} {A A1 A2 A3 : List Addr} {ro : Ro} {τ τ' : Tau}
/-- the state for what comes behind -/
theorem At.next (a : At K F B H σ ro τ A) (g : Go F H A F' H' (A1 ++ A2)) (c : Cn F' B H' (A1 ++ A2)) (t : TauOk K F' H' σ τ' A2) : At K F' B H' σ ro τ' A2 := ⟨c.right, a.ro.mono g.ff, t⟩
theorem At.next0 (a : At K F B H σ ro τ A) (g : Go F H A F' H' A2) (c : Cn F' B H' A2) (t : TauOk K F' H' σ τ' A2) : At K F' B H' σ ro τ' A2 := ⟨c, a.ro.mono g.ff, t⟩

def VR (K : PySem.W.Frag) (run : List V → Hp → VK → Prop) (g : List R → Option R) : Prop :=
  ∀ (rs : List R) (z : R), g rs = some z → ∀ (F B H : Hp) (vs : List V) (A : List Addr) (Q : VK), Cn F B H A → RsOk K F B H rs vs A →
    (∀ (F' H' : Hp) (u : V) (A' : List Addr), Go F H A F' H' A' → Cn F' B H' A' → ROk K F' B H' z u A' → Q u H') → run vs H Q
/-- plain data in, a plain scalar out -/
def gp (p : List D → Option D) : List R → Option R := fun rs => (erL rs).bind fun ds => (p ds).map rd
theorem VR.plain {run : List V → Hp → VK → Prop} {p : List D → Option D}
    (h : ∀ (ds : List D) (d : D), p ds = some d → ∀ (H : Hp) (vs : List V) (Q : VK), RepL K H vs ds → (∀ v, (∀ F : Hp, Rep K F v d) → Q v H) → run vs H Q) : VR K run (gp p) := by
  intro rs z e F B H vs A Q c o k
  obtain ⟨ds, e1, e2⟩ := Option.bind_eq_some_iff.mp e
  obtain ⟨d, e3, e4⟩ := Option.map_eq_some_iff.mp e2
  subst e4
  refine h ds d e3 H vs Q (o.rep c.fh c.bh (fun _ _ _ q => q) e1) fun v r => ?_
  exact k F H v [] (Go.less fun _ m => nomatch m) (c.sub .nil fun _ m => nomatch m) (.leaf (r F))
/-- plain data in, frozen; a plain thing out -/
def gk (p : List D → Option D) : List R → Option R := fun rs => (stL rs).bind fun ds => (p ds).map rd
theorem VR.kept {run : List V → Hp → VK → Prop} {p : List D → Option D}
    (h : ∀ (ds : List D) (d : D), p ds = some d → ∀ (F H : Hp) (vs : List V) (Q : VK), Same F H → RepL K F vs ds →
      (∀ (F' H' : Hp) (v : V), (∀ B : Hp, Same B H → ∀ A : List Addr, Cn F B H A → Go F H A F' H' A ∧ Cn F' B H' A) → Rep K F' v d → Q v H') → run vs H Q) : VR K run (gk p) := by
  intro rs z e F B H vs A Q c o k
  obtain ⟨ds, e1, e2⟩ := Option.bind_eq_some_iff.mp e
  obtain ⟨d, e3, e4⟩ := Option.map_eq_some_iff.mp e2
  subst e4
  obtain ⟨F1, g, c1, s, r⟩ := RsOk.freeze (A2 := []) (by rw [List.append_nil]; exact c) o e1
  rw [List.append_nil] at g
  refine h ds d e3 F1 H vs Q c1.fh r fun F' H' v w r' => ?_
  obtain ⟨g2, c2⟩ := w B c1.bh [] c1
  exact k F' H' v [] (g.trans g2) c2 (.leaf r')

def mVar (i : Nat) : MV := fun ro τ => (fget ro.fz i).map fun d => (rd d, τ)
def mVw (i : Nat) : MV := fun ro τ => (tget ro.vw i).map fun t => (.vw t, τ)
def mTake (i : Nat) : MV := fun _ τ => (tget τ i).map fun t => (.val t, tset τ i .hole)
def mC (d : D) : MV := fun _ τ => some (rd d, τ)
variable {e a b : Expr} {pos : Pos} {i : Nat} {x : Str}
theorem er_var (h : PE X e (tVar i)) : ER X e (mVar i) := ⟨fun ro τ r τ' em F B H σ A Q a k => by
  obtain ⟨d, e1, e2⟩ := Option.map_eq_some_iff.mp em
  cases e2
  obtain ⟨v, hv, rv⟩ := a.ro.fz.2 i d e1
  exact wE h ⟨v, hv, k F H v [] A Go.refl a.cn (.leaf rv) a.tau⟩⟩
theorem er_vw (h : PE X e (tVar i)) : ER X e (mVw i) := ⟨fun ro τ r τ' em F B H σ A Q a k => by
  obtain ⟨t, e1, e2⟩ := Option.map_eq_some_iff.mp em
  cases e2
  obtain ⟨v, A', hv, rv⟩ := a.ro.vw _ (tget_mem e1)
  exact wE h ⟨v, hv, k F H v [] A Go.refl a.cn ⟨rfl, A', rv⟩ a.tau⟩⟩
theorem er_take (h : PE X e (tVar i)) : ER X e (mTake i) := ⟨fun ro τ r τ' em F B H σ A Q a k => by
  obtain ⟨t, e1, e2⟩ := Option.map_eq_some_iff.mp em
  cases e2
  obtain ⟨v, A1, A2, hv, o, t', n, s⟩ := a.tau.take a.cn.nd e1
  exact wE h ⟨v, hv, k F H v A1 A2 (Go.less s) (a.cn.sub n s) o t'⟩⟩
theorem er_c {v : V} {d : D} (h : PE X e (tC v)) (r : ∀ F : Hp, Rep X.K F v d) : ER X e (mC d) := ⟨fun ro τ r' τ' em F B H σ A Q a k => by
  cases em
  exact wE h (k F H v [] A Go.refl a.cn (.leaf (r F)) a.tau)⟩
theorem er_int {n : Int} {j : Nat} : ER X (.Constant (.int n) j pos) (mC (.int n)) := er_c pe_int fun _ => .int n
theorem er_bl {n : Bool} {j : Nat} : ER X (.Constant (.bool n) j pos) (mC (.bool n)) := er_c pe_bl fun _ => .bl n
theorem er_non {j : Nat} : ER X (.Constant .none j pos) (mC .none) := er_c pe_non fun _ => .non
/-- an owned name read through a glass: nothing of it is kept -/
def mBor (i : Nat) (m : MV) : MV := fun ro τ => (tget τ i).bind fun t => (m ⟨ro.fz, (i, t) :: ro.vw⟩ (tset τ i .hole)).bind fun p => match p.1 with
  | .val x => some (.val x, tset p.2 i t)
  | .vw (.leaf d) => some (rd d, tset p.2 i t)
  | .vw _ => none
theorem ROk.solid {r : R} {v : V} {A : List Addr} (o : ROk K F B H r v A) {x : T} (h : r = .val x ∨ ∃ d, r = .vw (.leaf d) ∧ x = .leaf d) : Own K F H v x A := by
  rcases h with rfl | ⟨d, rfl, rfl⟩
  · exact o
  · obtain ⟨rfl, A', o⟩ := o
    cases o with
    | leaf r => exact .leaf r
theorem ev_bor {t : TE} {m : MV} (h : EV K t m) : EV K t (mBor i m) := ⟨fun ro τ r τ' em F B H σ A Q a k => by
  obtain ⟨u, e1, em⟩ := Option.bind_eq_some_iff.mp em
  obtain ⟨⟨z, τ1⟩, e2, em⟩ := Option.bind_eq_some_iff.mp em
  obtain ⟨x, ex, er, et⟩ : ∃ x, (z = .val x ∨ ∃ d, z = .vw (.leaf d) ∧ x = .leaf d) ∧ r = .val x ∧ τ' = tset τ1 i u := by
    cases z with
    | val x =>
      cases em
      exact ⟨x, .inl rfl, rfl, rfl⟩
    | vw x =>
      cases x with
      | leaf d =>
        cases em
        exact ⟨_, .inr ⟨d, rfl, rfl⟩, rfl, rfl⟩
      | _ => cases em
  subst er
  subst et
  obtain ⟨v, A1, A2, hv, o, t', n, s⟩ := a.tau.take a.cn.nd e1
  have c := a.cn.sub n s
  -- the cells of the slot, seen beside B
  let B' : Hp := fun b => if b ∈ A1 then H b else B b
  have bs : Same B B' := fun b w e => by
    have nb : b ∉ A1 := fun z => by
      rw [c.ba b (List.mem_append_left _ z)] at e
      cases e
    show (if b ∈ A1 then H b else B b) = some w
    rw [if_neg nb]
    exact e
  have hb : ∀ b ∈ A1, ∀ w, H b = some w → B' b = some w := fun b m w e => by
    show (if b ∈ A1 then H b else B b) = some w
    rw [if_pos m]
    exact e
  have c2 : Cn F B' H A2 := ⟨c.fh, fun b w e => (by
      have e' : (if b ∈ A1 then H b else B b) = some w := e
      by_cases q : b ∈ A1
      · rw [if_pos q] at e'
        exact e'
      · rw [if_neg q] at e'
        exact c.bh b w e'), c.right.nd, c.right.fa, fun b m => (by
      show (if b ∈ A1 then H b else B b) = none
      rw [if_neg fun z => c.apart b z m]
      exact c.right.ba b m), c.right.ha⟩
  have vw' : VwOk K F B' σ ((i, u) :: ro.vw) := fun p m => by
    rcases List.mem_cons.mp m with e | m
    · subst e
      exact ⟨v, A1, hv, o.stay (Same.refl F) hb⟩
    · obtain ⟨w, A', hw, ow⟩ := a.ro.vw p m
      exact ⟨w, A', hw, ow.stay (Same.refl F) fun b m w e => bs b w e⟩
  refine h.run _ _ z τ1 e2 F B' H σ A2 Q ⟨c2, ⟨a.ro.fz, vw'⟩, t'⟩ fun F' H' w R1 R2 g' c' o' tt => ?_
  have c'' : Cn F' B H' (R1 ++ R2) := ⟨c'.fh, fun b w e => c'.bh b w (bs b w e), c'.nd, c'.fa, fun b m => (by
      cases e : B b with
      | none => rfl
      | some w =>
        have := c'.ba b m
        rw [bs b w e] at this
        cases this), c'.ha⟩
  obtain ⟨g3, c3⟩ := Go.framed c g' c''
  have ou : Own K F' H' v u A1 := Go.beside c g' o
  have n3 : (A1 ++ R2).Nodup := c3.nd.sublist (List.Sublist.append (List.Sublist.refl A1) (List.sublist_append_right R1 R2))
  obtain ⟨A3, t3, nd3, s3⟩ := tt.put hv ou n3
  have sub : ∀ b ∈ R1 ++ A3, b ∈ A1 ++ (R1 ++ R2) := fun b m => by
    rcases List.mem_append.mp m with q | q
    · exact List.mem_append_right _ (List.mem_append_left _ q)
    · rcases List.mem_append.mp (s3 b q) with q | q
      · exact List.mem_append_left _ q
      · exact List.mem_append_right _ (List.mem_append_right _ q)
  have nd4 : (R1 ++ A3).Nodup := by
    obtain ⟨q1, q2, q3⟩ := List.nodup_append.mp c3.nd
    obtain ⟨q4, q5, q6⟩ := List.nodup_append.mp q2
    refine List.nodup_append.mpr ⟨q4, nd3, fun b m b' m' => ?_⟩
    rcases List.mem_append.mp (s3 b' m') with q | q
    · exact fun e => q3 b' q b (List.mem_append_left _ m) e.symm
    · exact q6 b m b' q
  exact k F' H' w R1 A3 (((Go.less s).trans g3).trans (Go.less sub)) (c3.sub nd4 sub) (o'.solid ex) t3⟩

def mNil : ML := fun _ τ => some ([], τ)
def mCons (m : MV) (l : ML) : ML := fun ro τ => (m ro τ).bind fun p => (l ro p.2).bind fun q => some (p.1 :: q.1, q.2)
theorem ar_nil : AR X [] mNil := ⟨fun ro τ r τ' em => by cases em; rfl, fun ro τ r τ' em F B H σ A Q a k => by
  cases em
  exact wA pa_nil (k F H [] [] A Go.refl a.cn .nil a.tau)⟩
theorem ar_cons {es : List Expr} {m : MV} {l : ML} (h : ER X e m) (t : AR X es l) (hs : starEach (e :: es) X.env = (false, eval e X.env) :: starEach es X.env := by rfl) : AR X (e :: es) (mCons m l) := by
  have split : ∀ {ro : Ro} {τ : Tau} {r : List R} {τ' : Tau}, mCons m l ro τ = some (r, τ') → ∃ r1 τ1 rs, m ro τ = some (r1, τ1) ∧ l ro τ1 = some (rs, τ') ∧ r = r1 :: rs := fun {ro τ r τ'} em => by
    obtain ⟨⟨r1, τ1⟩, e1, e2⟩ := Option.bind_eq_some_iff.mp em
    obtain ⟨⟨rs, τ2⟩, e3, e4⟩ := Option.bind_eq_some_iff.mp e2
    cases e4
    exact ⟨r1, τ1, rs, e1, e3, rfl⟩
  refine ⟨fun ro τ r τ' em => ?_, fun ro τ r τ' em F B H σ A Q a k => ?_⟩
  · obtain ⟨r1, τ1, rs, e1, e2, rfl⟩ := split em
    show rs.length + 1 = es.length + 1
    rw [t.len _ _ _ _ e2]
  · obtain ⟨r1, τ1, rs, e1, e2, rfl⟩ := split em
    refine wA (pa_cons peW paW hs) (h.run ro τ r1 τ1 e1 F B H σ A _ a fun F1 H1 v A1 A2 g1 c1 o1 t1 => ?_)
    refine t.run ro τ1 rs τ' e2 F1 B H1 σ A2 _ (a.next g1 c1 t1) fun F2 H2 vs A3 A4 g2 c2 o2 t2 => ?_
    obtain ⟨g3, c3⟩ := Go.framed c1 g2 c2
    have q := Go.ros c1 g2 o1
    rw [← List.append_assoc] at g3 c3
    exact k F2 H2 (v :: vs) (A1 ++ A3) A4 (g1.trans g3) c3 (.cons q o2) t2

/-- one, two, three expressions in a row -/
def wp1 (X : Cx) (a : Expr) : L2.St → Hp → (List V → Hp → Prop) → Prop := fun σ H Q => wpE X a σ H fun x H1 => Q [x] H1
def wp2 (X : Cx) (a b : Expr) : L2.St → Hp → (List V → Hp → Prop) → Prop := fun σ H Q => wpE X a σ H fun x H1 => wpE X b σ H1 fun y H2 => Q [x, y] H2
theorem mCons_split {m : MV} {l : ML} {r : List R} (em : mCons m l ro τ = some (r, τ')) : ∃ r1 τ1 rs, m ro τ = some (r1, τ1) ∧ l ro τ1 = some (rs, τ') ∧ r = r1 :: rs := by
  obtain ⟨⟨r1, τ1⟩, e1, e2⟩ := Option.bind_eq_some_iff.mp em
  obtain ⟨⟨rs, τ2⟩, e3, e4⟩ := Option.bind_eq_some_iff.mp e2
  cases e4
  exact ⟨r1, τ1, rs, e1, e3, rfl⟩
theorem aq1 {m : MV} (h : ER X a m) : AQ X.K (wp1 X a) 1 (mCons m mNil) := by
  refine ⟨fun ro τ r τ' em => ?_, fun ro τ r τ' em F B H σ A Q a k => ?_⟩
  · obtain ⟨r1, τ1, rs, e1, e2, rfl⟩ := mCons_split em
    cases e2
    rfl
  · obtain ⟨r1, τ1, rs, e1, e2, rfl⟩ := mCons_split em
    cases e2
    refine h.run ro τ r1 _ e1 F B H σ A _ a fun F1 H1 v A1 A2 g1 c1 o1 t1 => ?_
    exact k F1 H1 [v] A1 A2 g1 c1 (by
      have q : RsOk X.K F1 B H1 [r1] [v] (A1 ++ []) := .cons o1 .nil
      rw [List.append_nil] at q
      exact q) t1
theorem aq2 {m n : MV} (h : ER X a m) (h' : ER X b n) : AQ X.K (wp2 X a b) 2 (mCons m (mCons n mNil)) := by
  refine ⟨fun ro τ r τ' em => ?_, fun ro τ r τ' em F B H σ A Q a k => ?_⟩
  · obtain ⟨r1, τ1, rs, e1, e2, rfl⟩ := mCons_split em
    obtain ⟨r2, τ2, rs2, e3, e4, rfl⟩ := mCons_split e2
    cases e4
    rfl
  · obtain ⟨r1, τ1, rs, e1, e2, rfl⟩ := mCons_split em
    refine h.run ro τ r1 _ e1 F B H σ A _ a fun F1 H1 v A1 A2 g1 c1 o1 t1 => ?_
    obtain ⟨r2, τ2, rs2, e3, e4, rfl⟩ := mCons_split e2
    cases e4
    refine h'.run ro τ1 r2 _ e3 F1 B H1 σ A2 _ (a.next g1 c1 t1) fun F2 H2 w A3 A4 g2 c2 o2 t2 => ?_
    obtain ⟨g3, c3⟩ := Go.framed c1 g2 c2
    have q := Go.ros c1 g2 o1
    rw [← List.append_assoc] at g3 c3
    exact k F2 H2 _ (A1 ++ A3) A4 (g1.trans g3) c3 (by
      have q2 : RsOk X.K F2 B H2 [r1, r2] [v, w] (A1 ++ (A3 ++ [])) := .cons q (.cons o2 .nil)
      rw [List.append_nil] at q2
      exact q2) t2

/-- an operation on values behind a list of expressions -/
def mOp (g : List R → Option R) (l : ML) : MV := fun ro τ => (l ro τ).bind fun p => (g p.1).map fun r => (r, p.2)
theorem er_op' {wp : L2.St → Hp → (List V → Hp → Prop) → Prop} {n : Nat} {run : List V → Hp → VK → Prop} {g : List R → Option R} {l : ML} (hp : ∀ (σ : L2.St) (H : Hp) (Q : VK), wp σ H (fun vs H1 => run vs H1 Q) → wpE X e σ H Q)
    (vr : VR X.K run g) (ha : AQ X.K wp n l) : ER X e (mOp g l) := ⟨fun ro τ r τ' em F B H σ A Q a k => by
  obtain ⟨⟨rs, τ1⟩, e1, e2⟩ := Option.bind_eq_some_iff.mp em
  obtain ⟨z, e3, e4⟩ := Option.map_eq_some_iff.mp e2
  cases e4
  refine hp σ H Q (ha.run ro τ rs τ1 e1 F B H σ A _ a fun F1 H1 vs A1 A2 g1 c1 o1 t1 => ?_)
  refine vr rs _ e3 F1 B H1 vs A1 Q c1.left o1 fun F2 H2 u A' g2 c2 o2 => ?_
  obtain ⟨g3, c3⟩ := Go.framedR c1 g2 c2
  refine k F2 H2 u A' A2 (g1.trans g3) c3 o2 (t1.stay g2.ff fun a m w q => g2.keep a w (fun z => c1.apart a z m) q)⟩
/-- .. a test -/
def mOpB (g : List R → Option R) (l : ML) : MB := fun ro τ => (l ro τ).bind fun p => (g p.1).bind fun r => match r with
  | .val (.leaf (.bool b)) => some (b, p.2)
  | _ => none
theorem tr_op' {wp : L2.St → Hp → (List V → Hp → Prop) → Prop} {n : Nat} {run : List V → Hp → VK → Prop} {g : List R → Option R} {l : ML} (hp : ∀ (σ : L2.St) (H : Hp) (Q : Bool → Hp → Prop), wp σ H (fun vs H1 => run vs H1 fun x H2 => ∃ k, x = .bl k ∧ Q k H2) → wpT X e σ H Q)
    (vr : VR X.K run g) (ha : AQ X.K wp n l) : TR X e (mOpB g l) := ⟨fun ro τ r τ' em F B H σ A Q a k => by
  obtain ⟨⟨rs, τ1⟩, e1, e2⟩ := Option.bind_eq_some_iff.mp em
  obtain ⟨z, e3, e4⟩ := Option.bind_eq_some_iff.mp e2
  refine hp σ H Q (ha.run ro τ rs τ1 e1 F B H σ A _ a fun F1 H1 vs A1 A2 g1 c1 o1 t1 => ?_)
  refine vr rs z e3 F1 B H1 vs A1 _ c1.left o1 fun F2 H2 u A' g2 c2 o2 => ?_
  have t2 := t1.stay g2.ff fun a m w q => g2.keep a w (fun z => c1.apart a z m) q
  obtain ⟨g3, c3⟩ := Go.framedR c1 g2 c2
  cases z with
  | vw t => cases e4
  | val t =>
    cases t with
    | leaf d =>
      cases d with
      | bool q =>
        cases e4
        cases o2 with
        | leaf rr =>
          cases rr
          exact ⟨_, rfl, k F2 H2 A2 ((g1.trans g3).trans (Go.less fun _ m => List.mem_append_right _ m)) c3.right t2⟩
      | _ => cases e4
    | _ => cases e4⟩
def two (r : R2) : List V → Hp → VK → Prop := fun vs H Q => ∃ x y, vs = [x, y] ∧ r x y H Q
def one (r : V → Hp → VK → Prop) : List V → Hp → VK → Prop := fun vs H Q => ∃ x, vs = [x] ∧ r x H Q
theorem wpE_mono {Q Q' : VK} (h : ∀ v H, Q v H → Q' v H) (w : wpE X e σ H Q) : wpE X e σ H Q' := fun pins s I => thn (w pins s I) fun u s' ⟨v, H', I', r, q⟩ => ⟨v, H', I', r, h v H' q⟩
variable {r : R2} {g : List R → Option R} {ma mb : MV}
/-- a op b -/
abbrev mBin (g : List R → Option R) (ma mb : MV) : MV := mOp g (mCons ma (mCons mb mNil))
theorem er_op {op : Operator} (ho : OpR X (binaryOp op) r) (vr : VR X.K (two r) g) (ha : ER X a ma) (hb : ER X b mb) : ER X (.BinOp a op b pos) (mBin g ma mb) :=
  er_op' (wp := wp2 X a b) (run := two r) (fun σ H Q w => wE (pe_op ho peW peW) (wpE_mono (fun x H1 w => wpE_mono (fun y H2 ⟨_, _, e, q⟩ => by cases e; exact q) w) w)) vr (aq2 ha hb)
theorem er_cmp {op : CmpOp} (ho : OpR X (compareOp op) r) (vr : VR X.K (two r) g) (ha : ER X a ma) (hb : ER X b mb) (hm : behindInMarks op b = false) : ER X (.Compare a [op] [b] pos) (mBin g ma mb) :=
  er_op' (wp := wp2 X a b) (run := two r) (fun σ H Q w => wE (pe_cmpR ho peW peW hm) (wpE_mono (fun x H1 w => wpE_mono (fun y H2 ⟨_, _, e, q⟩ => by cases e; exact q) w) w)) vr (aq2 ha hb)
abbrev mBinB (g : List R → Option R) (ma mb : MV) : MB := mOpB g (mCons ma (mCons mb mNil))
theorem tr_cmp {op : CmpOp} (ho : OpR X (compareOp op) r) (vr : VR X.K (two r) g) (ha : ER X a ma) (hb : ER X b mb) (hm : behindInMarks op b = false) : TR X (.Compare a [op] [b] pos) (mBinB g ma mb) :=
  tr_op' (wp := wp2 X a b) (run := two r) (fun σ H Q w => wT (pt_cmpR ho peW peW hm) (wpE_mono (fun x H1 w => wpE_mono (fun y H2 ⟨_, _, e, q⟩ => by cases e; exact q) w) w)) vr (aq2 ha hb)
abbrev mUn (g : List R → Option R) (ma : MV) : MV := mOp g (mCons ma mNil)
theorem er_un {op : UnaryOp} {r : V → Hp → VK → Prop} (ho : UnR X (unaryOp op) r) (vr : VR X.K (one r) g) (ha : ER X a ma) : ER X (.UnaryOp op a pos) (mUn g ma) :=
  er_op' (wp := wp1 X a) (run := one r) (fun σ H Q w => wE (pe_un ho peW) (wpE_mono (fun x H1 ⟨_, e, q⟩ => by cases e; exact q) w)) vr (aq1 ha)
theorem er_ix (ho : IxR X r) (vr : VR X.K (two r) g) (ha : ER X a ma) (hb : ER X b mb) (hs : PlainIx b) : ER X (.Subscript a b pos) (mBin g ma mb) :=
  er_op' (wp := wp2 X a b) (run := two r) (fun σ H Q w => wE (pe_ix ho peW peW hs) (wpE_mono (fun x H1 w => wpE_mono (fun y H2 ⟨_, _, e, q⟩ => by cases e; exact q) w) w)) vr (aq2 ha hb)
variable {p : Pos} {es : List Expr} {id Ty : String} {rc : List V → Hp → VK → Prop} {l : ML}
theorem er_callB (hc : CallR X (.builtin id) rc) (vr : VR X.K rc g) (hg : Gl X x) (hm : X.mg x = none) (hv : bootBuiltins x = some (.builtin id)) (ha : AR X (e :: es) l) (hn : x ≠ "__name__" := by decide) (hdb : (x == ("__debug__" : Str)) = false := by decide)
    (he : starEach (e :: es) X.env = (false, eval e X.env) :: starEach es X.env := by rfl) (hpl : (backTo pos (starEach es X.env)).any (·.1) = false := by rfl) : ER X (.Call (.Name x p) (e :: es) [] pos) (mOp g l) :=
  er_op' (wp := wpA X (e :: es)) (run := rc) (fun σ H Q w => wE (pe_callB hc hg hm hv paW hn hdb he hpl) w) vr ha
theorem er_callTy (hc : CallR X (.type Ty) rc) (vr : VR X.K rc g) (hg : Gl X x) (hm : X.mg x = none) (hv : bootBuiltins x = some (.type Ty)) (ha : AR X (e :: es) l) (hn : x ≠ "__name__" := by decide) (hdb : (x == ("__debug__" : Str)) = false := by decide)
    (he : starEach (e :: es) X.env = (false, eval e X.env) :: starEach es X.env := by rfl) (hpl : (backTo pos (starEach es X.env)).any (·.1) = false := by rfl) : ER X (.Call (.Name x p) (e :: es) [] pos) (mOp g l) :=
  er_op' (wp := wpA X (e :: es)) (run := rc) (fun σ H Q w => wE (pe_callTy hc hg hm hv paW hn hdb he hpl) w) vr ha

def gTupD : List R → Option R := fun rs => (stL rs).map fun ds => rd (.tuple ds)
def gLstD : List R → Option R := fun rs => (stL rs).map fun ds => .val (.fl ds)
theorem er_tup {es : List Expr} {l : ML} {x1 : Nat} (ha : AR X es l) (hl : es.length ≤ 1000 := by decide) : ER X (.Tuple es x1 pos) (mOp gTupD l) := ⟨fun ro τ r τ' em F B H σ A Q a k => by
  obtain ⟨⟨rs, τ1⟩, e1, e2⟩ := Option.bind_eq_some_iff.mp em
  obtain ⟨z, e3, e4⟩ := Option.map_eq_some_iff.mp e2
  obtain ⟨ds, e5, e6⟩ := Option.map_eq_some_iff.mp e3
  cases e4
  subst e6
  have hlen := ha.len _ _ _ _ e1
  refine wE (pe_tup paW) (ha.run ro τ rs τ1 e1 F B H σ A _ a fun F1 H1 vs A1 A2 g1 c1 o1 t1 => ⟨?_, fun p hp => ?_⟩)
  · rw [o1.length, hlen]
    exact Nat.le_of_lt (small1000 hl)
  · obtain ⟨F2, g2, c2, s2, rl⟩ := o1.freeze c1 e5
    have t2 : TauOk X.K F2 H1 σ τ1 A2 := t1.stay s2 fun _ _ _ q => q
    obtain ⟨g3, c3⟩ := c2.newF (o := .tup vs) hp
    refine k _ _ (.ref p) [] A2 ((g1.trans g2).trans g3) c3 (.leaf (.tup (.inl (.inl upd_same)) (by rw [o1.length, hlen]; exact Nat.le_of_lt (small1000 hl)) (rl.mono g3.ff))) (t2.stay g3.ff fun a m w q => ?_)
    rw [upd_ne (ne_of_none q hp)]
    exact q⟩
theorem er_lst {es : List Expr} {l : ML} (ha : AR X es l) (hl : es.length ≤ 1000 := by decide) : ER X (.List es pos) (mOp gLstD l) := ⟨fun ro τ r τ' em F B H σ A Q a k => by
  obtain ⟨⟨rs, τ1⟩, e1, e2⟩ := Option.bind_eq_some_iff.mp em
  obtain ⟨z, e3, e4⟩ := Option.map_eq_some_iff.mp e2
  obtain ⟨ds, e5, e6⟩ := Option.map_eq_some_iff.mp e3
  cases e4
  subst e6
  have hlen := ha.len _ _ _ _ e1
  refine wE (pe_lst paW) (ha.run ro τ rs τ1 e1 F B H σ A _ a fun F1 H1 vs A1 A2 g1 c1 o1 t1 => ⟨?_, fun p hp => ?_⟩)
  · rw [o1.length, hlen]
    exact Nat.le_of_lt (small1000 hl)
  · obtain ⟨F2, g2, c2, s2, rl⟩ := o1.freeze c1 e5
    have t2 : TauOk X.K F2 H1 σ τ1 A2 := t1.stay s2 fun _ _ _ q => q
    obtain ⟨g3, c3⟩ := c2.newO (o := .lst vs) hp
    refine k _ _ (.ref p) [p] A2 ((g1.trans g2).trans g3) c3 (.fl upd_same (by rw [o1.length, hlen]; exact Nat.le_of_lt (small1000 hl)) rl) (t2.stay g3.ff fun a m w q => ?_)
    rw [upd_ne (ne_of_none q hp)]
    exact q⟩

def asB : R → Option Bool
  | .val (.leaf (.bool b)) => some b
  | _ => none
theorem asB_of {r : R} {b : Bool} {v : V} (h : asB r = some b) (o : ROk K F B H r v A) : v = .bl b := by
  cases r with
  | vw t => cases h
  | val t =>
    cases t with
    | leaf d =>
      cases d with
      | bool c =>
        cases h
        cases o with
        | leaf r =>
          cases r
          rfl
      | _ => cases h
    | _ => cases h
/-- a value that is True or False, as a test -/
def mTst (m : MV) : MB := fun ro τ => (m ro τ).bind fun p => (asB p.1).map fun b => (b, p.2)
def mNotB (m : MB) : MB := fun ro τ => (m ro τ).map fun p => (!p.1, p.2)
theorem tr_not {m : MB} (h : TR X a m) : TR X (.UnaryOp .Not a pos) (mNotB m) := ⟨fun ro τ r τ' em F B H σ A Q a k => by
  obtain ⟨⟨z, τ1⟩, e1, e2⟩ := Option.map_eq_some_iff.mp em
  cases e2
  exact wT (pt_not ptW) (h.run ro τ z τ1 e1 F B H σ A _ a k)⟩
def mAndB (m n : MB) : MB := fun ro τ => (m ro τ).bind fun p => if p.1 = true then n ro p.2 else some (false, p.2)
def mOrB (m n : MB) : MB := fun ro τ => (m ro τ).bind fun p => if p.1 = true then some (true, p.2) else n ro p.2
theorem tr_w {m : MB} (h : TW X e m) : TR X e m := ⟨fun ro τ r τ' em F B H σ A Q a k pins s I => h.run ro τ r τ' em F B H σ A Q a k _ pins s I⟩
theorem tw_and1 {m : MB} (h : TR X a m) : TW X (.BoolOp .And [a] pos) m := ⟨fun ro τ r τ' em F B H σ A Q a k => wW (pw_and1 ptW) (h.run ro τ r τ' em F B H σ A Q a k)⟩
theorem tw_or1 {m : MB} (h : TR X a m) : TW X (.BoolOp .Or [a] pos) m := ⟨fun ro τ r τ' em F B H σ A Q a k => wW (pw_or1 ptW) (h.run ro τ r τ' em F B H σ A Q a k)⟩
theorem tw_and {m n : MB} {rest : List Expr} (h : TR X a m) (h' : TW X (.BoolOp .And (b :: rest) pos) n) : TW X (.BoolOp .And (a :: b :: rest) pos) (mAndB m n) := ⟨fun ro τ r τ' em F B H σ A Q a k => by
  obtain ⟨⟨z, τ1⟩, e1, e2⟩ := Option.bind_eq_some_iff.mp em
  refine wW (pw_and ptW pwW) (h.run ro τ z τ1 e1 F B H σ A _ a fun F1 H1 A2 g1 c1 t1 => ?_)
  cases z with
  | true =>
    rw [if_pos rfl] at e2 ⊢
    exact h'.run ro τ1 r τ' e2 F1 B H1 σ A2 Q (a.next0 g1 c1 t1) fun F2 H2 A3 g2 c2 t2 => k F2 H2 A3 (g1.trans g2) c2 t2
  | false =>
    rw [if_neg Bool.false_ne_true] at e2 ⊢
    cases e2
    exact k F1 H1 A2 g1 c1 t1⟩
theorem tw_or {m n : MB} {rest : List Expr} (h : TR X a m) (h' : TW X (.BoolOp .Or (b :: rest) pos) n) : TW X (.BoolOp .Or (a :: b :: rest) pos) (mOrB m n) := ⟨fun ro τ r τ' em F B H σ A Q a k => by
  obtain ⟨⟨z, τ1⟩, e1, e2⟩ := Option.bind_eq_some_iff.mp em
  refine wW (pw_or ptW pwW) (h.run ro τ z τ1 e1 F B H σ A _ a fun F1 H1 A2 g1 c1 t1 => ?_)
  cases z with
  | true =>
    rw [if_pos rfl] at e2 ⊢
    cases e2
    exact k F1 H1 A2 g1 c1 t1
  | false =>
    rw [if_neg Bool.false_ne_true] at e2 ⊢
    exact h'.run ro τ1 r τ' e2 F1 B H1 σ A2 Q (a.next0 g1 c1 t1) fun F2 H2 A3 g2 c2 t2 => k F2 H2 A3 (g1.trans g2) c2 t2⟩
/-- and, or, not as values -/
def mAnd (m n : MV) : MV := fun ro τ => (m ro τ).bind fun p => (asB p.1).bind fun c => if c = true then n ro p.2 else some (rBool false, p.2)
def mOr (m n : MV) : MV := fun ro τ => (m ro τ).bind fun p => (asB p.1).bind fun c => if c = true then some (rBool true, p.2) else n ro p.2
def mNot (m : MV) : MV := fun ro τ => (m ro τ).bind fun p => (asB p.1).map fun c => (rBool !c, p.2)
theorem er_one {op : BoolOp} {m : MV} (h : ER X a m) : ER X (.BoolOp op [a] pos) m := ⟨fun ro τ r τ' em F B H σ A Q a k => wE (pe_one peW) (h.run ro τ r τ' em F B H σ A Q a k)⟩
theorem er_and {m n : MV} {rest : List Expr} (h : ER X a m) (h' : ER X (.BoolOp .And (b :: rest) pos) n) : ER X (.BoolOp .And (a :: b :: rest) pos) (mAnd m n) := ⟨fun ro τ r τ' em F B H σ A Q a k => by
  obtain ⟨⟨z, τ1⟩, e1, e2⟩ := Option.bind_eq_some_iff.mp em
  obtain ⟨c, e3, e4⟩ := Option.bind_eq_some_iff.mp e2
  refine wE (pe_and peW peW) (h.run ro τ z τ1 e1 F B H σ A _ a fun F1 H1 v A1 A2 g1 c1 o1 t1 => ⟨c, asB_of e3 o1, ?_⟩)
  have g1' := g1.trans (Go.less fun _ m => List.mem_append_right A1 m)
  cases c with
  | true =>
    rw [if_pos rfl] at e4 ⊢
    exact h'.run ro τ1 r τ' e4 F1 B H1 σ A2 Q (a.next g1 c1 t1) fun F2 H2 v A3 A4 g2 c2 o2 t2 => k F2 H2 v A3 A4 (g1'.trans g2) c2 o2 t2
  | false =>
    rw [if_neg Bool.false_ne_true] at e4 ⊢
    cases e4
    exact k F1 H1 _ [] A2 g1' c1.right (.leaf (.bl _)) t1⟩
theorem er_or {m n : MV} {rest : List Expr} (h : ER X a m) (h' : ER X (.BoolOp .Or (b :: rest) pos) n) : ER X (.BoolOp .Or (a :: b :: rest) pos) (mOr m n) := ⟨fun ro τ r τ' em F B H σ A Q a k => by
  obtain ⟨⟨z, τ1⟩, e1, e2⟩ := Option.bind_eq_some_iff.mp em
  obtain ⟨c, e3, e4⟩ := Option.bind_eq_some_iff.mp e2
  refine wE (pe_or peW peW) (h.run ro τ z τ1 e1 F B H σ A _ a fun F1 H1 v A1 A2 g1 c1 o1 t1 => ⟨c, asB_of e3 o1, ?_⟩)
  have g1' := g1.trans (Go.less fun _ m => List.mem_append_right A1 m)
  cases c with
  | true =>
    rw [if_pos rfl] at e4 ⊢
    cases e4
    exact k F1 H1 _ [] A2 g1' c1.right (.leaf (.bl _)) t1
  | false =>
    rw [if_neg Bool.false_ne_true] at e4 ⊢
    exact h'.run ro τ1 r τ' e4 F1 B H1 σ A2 Q (a.next g1 c1 t1) fun F2 H2 v A3 A4 g2 c2 o2 t2 => k F2 H2 v A3 A4 (g1'.trans g2) c2 o2 t2⟩
theorem er_not {m : MV} (h : ER X a m) : ER X (.UnaryOp .Not a pos) (mNot m) := ⟨fun ro τ r τ' em F B H σ A Q a k => by
  obtain ⟨⟨z, τ1⟩, e1, e2⟩ := Option.bind_eq_some_iff.mp em
  obtain ⟨c, e3, e4⟩ := Option.map_eq_some_iff.mp e2
  cases e4
  refine wE (pe_not peW) (h.run ro τ z τ1 e1 F B H σ A _ a fun F1 H1 v A1 A2 g1 c1 o1 t1 => ⟨c, asB_of e3 o1, ?_⟩)
  exact k F1 H1 _ [] A2 (g1.trans (Go.less fun _ m => List.mem_append_right A1 m)) c1.right (.leaf (.bl _)) t1⟩
def mIf (c : MB) (m n : MV) : MV := fun ro τ => (c ro τ).bind fun p => if p.1 = true then m ro p.2 else n ro p.2
theorem er_if {c : Expr} {mc : MB} {m n : MV} (hc : TR X c mc) (h : ER X a m) (h' : ER X b n) : ER X (.IfExp c a b pos) (mIf mc m n) := ⟨fun ro τ r τ' em F B H σ A Q a k => by
  obtain ⟨⟨z, τ1⟩, e1, e2⟩ := Option.bind_eq_some_iff.mp em
  refine wE (pe_ifExp ptW peW peW) (hc.run ro τ z τ1 e1 F B H σ A _ a fun F1 H1 A2 g1 c1 t1 => ?_)
  cases z with
  | true =>
    rw [if_pos rfl] at e2 ⊢
    exact h.run ro τ1 r τ' e2 F1 B H1 σ A2 Q (a.next0 g1 c1 t1) fun F2 H2 v A3 A4 g2 c2 o2 t2 => k F2 H2 v A3 A4 (g1.trans g2) c2 o2 t2
  | false =>
    rw [if_neg Bool.false_ne_true] at e2 ⊢
    exact h'.run ro τ1 r τ' e2 F1 B H1 σ A2 Q (a.next0 g1 c1 t1) fun F2 H2 v A3 A4 g2 c2 o2 t2 => k F2 H2 v A3 A4 (g1.trans g2) c2 o2 t2⟩
/-- the truth of any value -/
def truD : D → Option Bool
  | .none => some false
  | .bool b => some b
  | .int i => some (i != 0)
  | .str x => if x.length ≤ 16777216 then some ((x.length : Int) != 0) else none
  | .list ds => some (!ds.isEmpty)
  | .tuple ds => some (!ds.isEmpty)
  | .dict _ => none
def mTru (m : MV) : MB := fun ro τ => (m ro τ).bind fun p => p.1.er.bind fun d => (truD d).map fun b => (b, p.2)
theorem RepL.isEmpty {vs : List V} {ds : List D} (h : RepL K F vs ds) : vs.isEmpty = ds.isEmpty := by
  cases h <;> rfl
theorem truV_of {v : V} {d : D} {b : Bool} (r : Rep K H v d) (h : truD d = some b) : TruV K v H b := by
  cases r with
  | non => cases h; rfl
  | bl c => cases h; rfl
  | int i => cases h; rfl
  | str x =>
    have h' : (if x.length ≤ 16777216 then some ((x.length : Int) != 0) else none) = some b := h
    by_cases q : x.length ≤ 16777216
    · rw [if_pos q] at h'
      cases h'
      exact ⟨by rw [sizeLine_eq]; exact q, rfl⟩
    · rw [if_neg q] at h'
      cases h'
  | lst h1 _ h2 =>
    cases h
    exact .inl ⟨_, SqL.of h1, by rw [h2.isEmpty]⟩
  | tup h1 _ h2 =>
    cases h
    exact .inr (.inl ⟨_, h1, by rw [h2.isEmpty]⟩)
  | dk => cases h
  | dn => cases h
  | dl => cases h
theorem tr_tru {m : MV} (h : ER X e m) (he : ∀ whole, isTrue e X.env whole = (do let v ← whole; standAt e.pos; holding [v] (truthy v)) := by intro _; rfl) : TR X e (mTru m) := ⟨fun ro τ r τ' em F B H σ A Q a k => by
  obtain ⟨⟨z, τ1⟩, e1, e2⟩ := Option.bind_eq_some_iff.mp em
  obtain ⟨d, e3, e4⟩ := Option.bind_eq_some_iff.mp e2
  obtain ⟨c, e5, e6⟩ := Option.map_eq_some_iff.mp e4
  cases e6
  refine wT (pt_truth peW he) (h.run ro τ z _ e1 F B H σ A _ a fun F1 H1 v A1 A2 g1 c1 o1 t1 => ?_)
  exact ⟨r, truV_of (o1.rep c1.fh c1.bh (fun _ _ _ q => q) e3) e5, k F1 H1 A2 (g1.trans (Go.less fun _ m => List.mem_append_right _ m)) c1.right t1⟩⟩
end
end Tl

namespace Tl
open PySem PySem.Spec PyProof.Rows L2

structure RmG (n : Nat) (Ar : Around) : Prop where
  rm : Room n Ar
  gd : Ar.guards = some []
theorem RmG.mono {m n : Nat} {Ar : Around} (h : RmG n Ar) (l : m ≤ n) : RmG m Ar := ⟨h.rm.mono l, h.gd⟩
structure FnG (P : Program) (w : World) (K : PySem.W.Frag) (mg : Str → Option Value) (base : Heap) (cx : CXT) (n : Nat) (f : Addr) (fd : FuncData) (ps : List Str) (sp : Sp) : Prop where
  len : ∀ vs H Q E, sp vs H Q E → vs.length = ps.length
  go : ∀ (Ar : Around) (up : List Env) (s : Shared) (H : Hp) (args : Args) (us : List Value) (vs : List V) (Q : VK) (E : XK), RmG n Ar → Env0 P w K mg base Ar up s H → BindsTo s fd args (ps.zip us) →
    Vals vs us → sp vs H Q E → codeAny (model P w) Ar (.call (.ref f) args) (CR cx up P w H s Q E) s
theorem FnG.mono {P : Program} {w : World} {K : PySem.W.Frag} {mg : Str → Option Value} {base : Heap} {cx : CXT} {m n : Nat} {f : Addr} {fd : FuncData} {ps : List Str} {sp : Sp} (F : FnG P w K mg base cx m f fd ps sp) (l : m ≤ n) : FnG P w K mg base cx n f fd ps sp :=
  ⟨F.len, fun Ar up s H args us vs Q E hr => F.go Ar up s H args us vs Q E (hr.mono l)⟩
section
variable {X : Cx} {cx : CXT} {n : Nat} {f : Addr} {fd : FuncData} {ps : List Str} {sp : Sp} {E : XK}
theorem callG {pins : List (Addr × Obj)} {σ : L2.St} {H : Hp} {s : Shared} {Q : VK} {us : List Value} {vs : List V} (F : FnG X.prog X.w X.K X.mg X.base cx n f fd ps sp) (hr : RmG n X.A) (hb : Binds X.K fd ps []) (hx : Passes cx X E)
    (I : Inv X pins σ H s) (r : Vals vs us) (h : sp vs H Q E) : wpAny (model X.prog X.w) X.A (call (.ref f) us) (EP X pins σ Q) X.xe s := by
  have hl : us.length = ps.length := r.length.symm.trans (F.len _ _ _ _ h)
  have hb' := hb s us I.kIn (by rw [List.append_nil]; exact hl)
  rw [List.append_nil] at hb'
  have run := F.go X.A X.stack s H ⟨us, []⟩ us vs Q E hr I.env0 hb' r h
  refine wpAny_call (codeAny_mono run fun res s' hq => ?_)
  match res, hq with
  | .error e, hq => exact hx pins σ H s e s' I hq
  | .ok (.ret u), hq => exact I.after hq
  | .ok .next, hq => exact hq.elim
  | .ok .brk, hq => exact hq.elim
  | .ok .cont, hq => exact hq.elim
variable {x : Str} {p pos : Pos} {e : Expr} {es : List Expr} {t : TA}
theorem peCallG (F : FnG X.prog X.w X.K X.mg X.base cx n f fd ps sp) (hr : RmG n X.A) (hg : Gl X x) (hm : X.mg x = some (.ref f)) (hk : PySem.W.keepIn X.K (.ref f) = true) (hb : Binds X.K fd ps []) (hx : Passes cx X E) (ha : PA X (e :: es) t)
    (hdb : (x == ("__debug__" : Str)) = false) (he : starEach (e :: es) X.env = (false, eval e X.env) :: starEach es X.env) (hpl : (backTo pos (starEach es X.env)).any (·.1) = false) :
    PE X (.Call (.Name x p) (e :: es) [] pos) fun σ H Q => t σ H fun vs H1 => sp vs H1 Q E :=
  ⟨fun pins s σ H Q I h => wpAny_Call_Name_kw (ld_glob I hg hm (PySem.W.callWith_K (h₀ := X.base) I.ok.mod.kin hk (thn (ha.run pos pins s σ H _ I h) fun us s1 ⟨vs, H1, I1, r, q⟩ => ⟨I1.kIn, callG F hr hb hx I1 r q⟩) he hpl) hdb)⟩
end

section
variable {P : Program} {w : World} {K : PySem.W.Frag} {mg : Str → Option Value} {base : Heap} {cx : CXT}
/-- a def by its body -/
theorem defG {x qual : Str} {st : Stmt} {f : Addr} {fd : FuncData} {N ps : List Str} {n : Nat} {sp : Sp} (F : Fun K x qual st f fd) (S : FnScope N ps (defScope st)) (len : ∀ vs H Q E, sp vs H Q E → vs.length = ps.length)
    (body : ∀ (cdv : Value) (Ar : Around) (up : List Env) (s : Shared) (H : Hp) (vs : List V) (Q : VK) (E : XK), RmG n (Ar.deeper (envOfC qual (defScope st) s.heap.objs.size f cdv)) → sp vs H Q E →
      wpB (cxOf cx P w K mg base N qual (defScope st) f cdv Ar up s H E) (defBody st) { nx := fun _ H' => Q .non H', rt := Q } (start N vs) H) : FnG P w K mg base cx (n + 1) f fd ps sp := by
  obtain ⟨oc, od, kV, doc, pm, an, cdv, ct, osl, rfl, lk, hcd⟩ := F.ex
  refine ⟨len, fun Ar up s H args us vs Q E hr e0 hb r hsp => ?_⟩
  have hl := len _ _ _ _ hsp
  have inn : K.In s.heap := e0.mod.kin.keeps fun b o z => (e0.bs b o z).1
  have lim : s.heap.NoLimit := e0.mod.nolimit.keeps fun b o z => (e0.bs b o z).1
  refine codeAny_call_function hr.rm.depth (inn _ _ lk) rfl S.co S.gen rfl (PySem.W.codeRec_of inn hcd) (hb _ _ _ _ ?_)
  refine wpAny_newFunctionEnv_cells S.kind (fun ⟨nm, v⟩ hy => (S.par nm (List.of_mem_zip hy).1).imp id fun q => ⟨q, PySem.W.cellsFrom_some _ _ _ (.inl q)⟩) fun env he s1 z => ?_
  subst he
  refine ⟨lim.keeps z.toInCall.keep, codeAny_func ?_⟩
  have I : Inv (cxOf cx P w K mg base N qual (defScope st) f cdv Ar up s H E) [] (start N vs) H s1 := inv_start S hr.rm.hd e0 hl r z
  have q := body cdv Ar up s H vs Q E ⟨hr.rm.deeper _, hr.gd⟩ hsp [] s1 I
  have fin : ∀ {σ' : L2.St} {H' : Hp} {v : V} {u : Value} {s' : Shared}, Inv (cxOf cx P w K mg base N qual (defScope st) f cdv Ar up s H E) [] σ' H' s' → RelV v u → Q v H' → CE up P w H s Q u s' :=
    fun {σ' H' v u s'} J rv z => ⟨v, H', J.os, J.bare, J.base, J.hok, rv, z⟩
  refine wpAny_mono q (fun fl s' hs => ?_) fun _ _ hs => hs
  match fl, hs with
  | .ret u, ⟨v, σ', H', J, rv, z⟩ => exact fin J rv z
  | .next, ⟨σ', H', J, z⟩ => exact fin (v := V.non) (u := Value.none) J rfl z
  | .brk, ⟨_, _, _, z⟩ => exact False.elim z
  | .cont, ⟨_, _, _, z⟩ => exact False.elim z
end

abbrev noH : Hp := fun _ => none
theorem same_noH {H : Hp} : Same noH H := fun _ _ e => nomatch e
end Tl

namespace Tl
open PySem PySem.Spec PyProof.Rows L2 RZ

structure Src (K : PySem.W.Frag) (F B : Hp) (J : It) (ds : List D) : Prop where
  small : ds.length ≤ sizeLine
  go : ∀ F1 H1 : Hp, Same F F1 → Same F1 H1 → Same B H1 → ∀ i d, ds[i]? = some d → J.go i H1
  yld : ∀ F1 H1 : Hp, Same F F1 → Same F1 H1 → Same B H1 → ∀ i d, ds[i]? = some d → ∀ x H2, J.yld i H1 x H2 →
    ∃ F2, (∀ (B' : Hp) (A : List Addr), Cn F1 B' H1 A → Go F1 H1 A F2 H2 A ∧ Cn F2 B' H2 A) ∧ Rep K F2 x d
  stop : ∀ F1 H1 : Hp, Same F F1 → Same F1 H1 → Same B H1 → ∀ i, ds.length ≤ i → J.stop i H1
abbrev MI := Ro → Tau → Option (List D × Tau)
structure IV (K : PySem.W.Frag) (t : TI) (m : MI) : Prop where
  run : ∀ (ro : Ro) (τ : Tau) (ds : List D) (τ' : Tau), m ro τ = some (ds, τ') → ∀ (F B H : Hp) (σ : L2.St) (A : List Addr) (Rr : It → Hp → Prop), At K F B H σ ro τ A →
    (∀ (F' H' : Hp) (A2 : List Addr) (J : It), Go F H A F' H' A2 → Cn F' B H' A2 → TauOk K F' H' σ τ' A2 → Src K F' B J ds → Rr J H') → t σ H Rr
abbrev IR (X : Cx) (tg iter : Expr) (m : MI) : Prop := IV X.K (wpI X tg iter) m

/-- the items of a list or tuple -/
def R.its : R → Option (Bool × List D)
  | .val t => match t.fz with
    | some (.list ds) => some (true, ds)
    | some (.tuple ds) => some (false, ds)
    | _ => none
  | .vw (.leaf (.list ds)) => some (true, ds)
  | .vw (.leaf (.tuple ds)) => some (false, ds)
  | .vw (.fl ds) => some (true, ds)
  | .vw (.scr ds) => some (true, ds)
  | .vw _ => none
section
variable {K : PySem.W.Frag} {F F' B H H' : Hp} {A A1 A2 : List Addr}
def SqAt (K : PySem.W.Frag) (H : Hp) (isL : Bool) (a : Addr) (xs : List V) : Prop := if isL = true then SqL K H a xs else SqT K H a xs
theorem its_of {r : R} {v : V} {isL : Bool} {ds : List D} (c : Cn F B H (A1 ++ A2)) (o : ROk K F B H r v A1) (e : r.its = some (isL, ds)) :
    ∃ F1 a xs, Go F H (A1 ++ A2) F1 H A2 ∧ Cn F1 B H A2 ∧ Same F F1 ∧ v = .ref a ∧ xs.length ≤ sizeLine ∧ RepL K F1 xs ds ∧ ∀ H1 : Hp, Same F1 H1 → Same B H1 → SqAt K H1 isL a xs := by
  cases r with
  | val t =>
    have e' : (match t.fz with
    | some (.list ds) => some (true, ds)
    | some (.tuple ds) => some (false, ds)
    | _ => none) = some (isL, ds) := e
    cases q : t.fz with
    | none =>
      rw [q] at e'
      cases e'
    | some d =>
      rw [q] at e'
      obtain ⟨F1, g, c1, s, rr⟩ := ROk.freeze c o q
      cases d with
      | list es =>
        cases e'
        cases rr with
        | lst h1 h2 h3 => exact ⟨F1, _, _, g, c1, s, rfl, h2, h3, fun H1 s1 _ => SqL.of (s1 _ _ h1)⟩
      | tuple es =>
        cases e'
        cases rr with
        | tup h1 h2 h3 => exact ⟨F1, _, _, g, c1, s, rfl, h2, h3, fun H1 s1 _ => sameT s1 h1⟩
      | _ => cases e'
  | vw t =>
    obtain ⟨e0, A', o⟩ := o
    subst e0
    have g : Go F H A2 F H A2 := Go.refl
    cases t with
    | leaf d =>
      cases o with
      | leaf rr =>
        cases d with
        | list es =>
          cases e
          cases rr with
          | lst h1 h2 h3 => exact ⟨F, _, _, g, c, Same.refl F, rfl, h2, h3, fun H1 s1 _ => SqL.of (s1 _ _ h1)⟩
        | tuple es =>
          cases e
          cases rr with
          | tup h1 h2 h3 => exact ⟨F, _, _, g, c, Same.refl F, rfl, h2, h3, fun H1 s1 _ => sameT s1 h1⟩
        | _ => cases e
    | fl es =>
      cases e
      cases o with
      | fl h1 h2 h3 => exact ⟨F, _, _, g, c, Same.refl F, rfl, h2, h3, fun H1 _ s2 => SqL.of (s2 _ _ h1)⟩
    | scr es =>
      cases e
      cases o with
      | scr h1 h2 h3 => exact ⟨F, _, _, g, c, Same.refl F, rfl, h2, h3, fun H1 s1 _ => s1.seq h1⟩
    | _ => cases e
theorem rep_at {xs : List V} {ds : List D} {i : Nat} {x : V} {d : D} (r : RepL K F xs ds) (e : ds[i]? = some d) (h : xs[i]? = some x) : Rep K F x d := by
  obtain ⟨v, e1, e2⟩ := r.get e
  rw [h] at e1
  cases e1
  exact e2
theorem src_list {a : Addr} {xs : List V} {ds : List D} (hz : xs.length ≤ sizeLine) (r : RepL K F xs ds) (h : ∀ H1 : Hp, Same F H1 → Same B H1 → SqL K H1 a xs) : Src K F B (Itl K a) ds where
  small := r.length ▸ hz
  go := fun F1 H1 s1 s2 s3 i d e => by
    obtain ⟨v, e1, e2⟩ := r.get e
    exact ⟨xs, v, h H1 (s1.trans s2) s3, e1⟩
  yld := fun F1 H1 s1 s2 s3 i d e x H2 y => by
    obtain ⟨e1, e2⟩ := y
    subst e1
    exact ⟨F1, fun B' A c => ⟨Go.refl, c⟩, (rep_at r e (e2 xs (h _ (s1.trans s2) s3))).mono s1⟩
  stop := fun F1 H1 s1 s2 s3 i l => ⟨xs, h H1 (s1.trans s2) s3, by rw [r.length]; exact l⟩
theorem src_tup {a : Addr} {xs : List V} {ds : List D} (hz : xs.length ≤ sizeLine) (r : RepL K F xs ds) (h : ∀ H1 : Hp, Same F H1 → Same B H1 → SqT K H1 a xs) : Src K F B (Itt K a) ds where
  small := r.length ▸ hz
  go := fun F1 H1 s1 s2 s3 i d e => by
    obtain ⟨v, e1, e2⟩ := r.get e
    exact ⟨xs, v, h H1 (s1.trans s2) s3, e1⟩
  yld := fun F1 H1 s1 s2 s3 i d e x H2 y => by
    obtain ⟨e1, e2⟩ := y
    subst e1
    exact ⟨F1, fun B' A c => ⟨Go.refl, c⟩, (rep_at r e (e2 xs (h _ (s1.trans s2) s3))).mono s1⟩
  stop := fun F1 H1 s1 s2 s3 i l => ⟨xs, h H1 (s1.trans s2) s3, by rw [r.length]; exact l⟩
/-- a pair made at each turn -/
theorem pair_new {F1 H1 : Hp} {p : Addr} {x y : V} {d e : D} (h : H1 p = none) (r : Rep K F1 x d) (r' : Rep K F1 y e) :
    ∃ F2, (∀ (B' : Hp) (A : List Addr), Cn F1 B' H1 A → Go F1 H1 A F2 (upd H1 p (.tup [x, y])) A ∧ Cn F2 B' (upd H1 p (.tup [x, y])) A) ∧ (Same F1 H1 → Rep K F2 (.ref p) (.tuple [d, e])) := by
  refine ⟨upd F1 p (.tup [x, y]), fun B' A c => c.newF h, fun s => ?_⟩
  have sm : Same F1 (upd F1 p (.tup [x, y])) := fun b u z => by
    rw [upd_ne (ne_of_none (s b u z) h)]
    exact z
  exact .tup (.inl (.inl upd_same)) (show 2 ≤ sizeLine by rw [sizeLine_eq]; decide) (.cons (r.mono sm) (.cons (r'.mono sm) .nil))
def enumFrom : Nat → List D → List D
  | _, [] => []
  | n, d :: ds => .tuple [.int (n : Nat), d] :: enumFrom (n + 1) ds
theorem enum_len : ∀ (n : Nat) (ds : List D), (enumFrom n ds).length = ds.length
  | _, [] => rfl
  | n, _ :: ds => congrArg (· + 1) (enum_len (n + 1) ds)
theorem enum_get : ∀ (ds : List D) (n i : Nat), (enumFrom n ds)[i]? = (ds[i]?).map fun d => .tuple [.int ((n + i : Nat) : Int), d]
  | [], _, _ => by simp [enumFrom]
  | d :: ds, n, 0 => by simp [enumFrom]
  | d :: ds, n, i + 1 => by
    have q := enum_get ds (n + 1) i
    simp only [enumFrom, List.getElem?_cons_succ, q]
    rw [show n + 1 + i = n + (i + 1) by omega]
theorem src_enum {a : Addr} {xs : List V} {ds : List D} (hz : xs.length ≤ sizeLine) (r : RepL K F xs ds) (h : ∀ H1 : Hp, Same F H1 → Same B H1 → SqL K H1 a xs) : Src K F B (Ite K a) (enumFrom 0 ds) where
  small := by rw [enum_len]; exact r.length ▸ hz
  go := fun F1 H1 s1 s2 s3 i d e => by
    rw [enum_get] at e
    obtain ⟨d', e1, e2⟩ := Option.map_eq_some_iff.mp e
    obtain ⟨v, e3, e4⟩ := r.get e1
    exact ⟨xs, v, h H1 (s1.trans s2) s3, e3⟩
  yld := fun F1 H1 s1 s2 s3 i d e x H2 y => by
    rw [enum_get] at e
    obtain ⟨d', e1, e2⟩ := Option.map_eq_some_iff.mp e
    subst e2
    obtain ⟨p, z, rfl, np, rfl, q⟩ := y
    have rz := (rep_at r e1 (q xs (h _ (s1.trans s2) s3))).mono s1
    obtain ⟨F2, w1, w2⟩ := pair_new np (Rep.int (K := K) (F := F1) ((i : Nat) : Int)) rz
    rw [Nat.zero_add]
    exact ⟨F2, w1, w2 s2⟩
  stop := fun F1 H1 s1 s2 s3 i l => ⟨xs, h H1 (s1.trans s2) s3, by rw [enum_len] at l; rw [r.length]; exact l⟩
def zipD : List D → List D → List D
  | d :: ds, e :: es => .tuple [d, e] :: zipD ds es
  | _, _ => []
theorem zipD_len : ∀ (ds es : List D), (zipD ds es).length = min ds.length es.length
  | [], _ => by simp [zipD]
  | _ :: _, [] => by simp [zipD]
  | d :: ds, e :: es => by simp only [zipD, zipD_len ds es, List.length_cons]; omega
theorem zipD_get : ∀ (ds es : List D) (i : Nat) (p : D), (zipD ds es)[i]? = some p → ∃ d e, ds[i]? = some d ∧ es[i]? = some e ∧ p = .tuple [d, e]
  | [], _, _, _, h => by simp [zipD] at h
  | _ :: _, [], _, _, h => by simp [zipD] at h
  | d :: ds, e :: es, 0, p, h => by
    simp [zipD] at h
    exact ⟨d, e, rfl, rfl, h.symm⟩
  | d :: ds, e :: es, i + 1, p, h => by
    simp only [zipD, List.getElem?_cons_succ] at h ⊢
    exact zipD_get ds es i p h
theorem src_zipL {a b : Addr} {xs ys : List V} {ds es : List D} (hz : xs.length ≤ sizeLine) (r : RepL K F xs ds) (r' : RepL K F ys es) (h : ∀ H1 : Hp, Same F H1 → Same B H1 → SqL K H1 a xs)
    (h' : ∀ H1 : Hp, Same F H1 → Same B H1 → SqL K H1 b ys) : Src K F B (Itz K a b) (zipD ds es) where
  small := by
    have := r.length
    rw [zipD_len]
    omega
  go := fun F1 H1 s1 s2 s3 i d e => by
    obtain ⟨d', e', e1, e2, e3⟩ := zipD_get _ _ _ _ e
    obtain ⟨v, f1, f2⟩ := r.get e1
    obtain ⟨v', f3, f4⟩ := r'.get e2
    exact ⟨xs, ys, v, v', h H1 (s1.trans s2) s3, h' H1 (s1.trans s2) s3, f1, f3⟩
  yld := fun F1 H1 s1 s2 s3 i d e x H2 y => by
    obtain ⟨d', e', e1, e2, rfl⟩ := zipD_get _ _ _ _ e
    obtain ⟨p, z, z', rfl, np, rfl, q, q'⟩ := y
    have rz := (rep_at r e1 (q xs (h _ (s1.trans s2) s3))).mono s1
    have rz' := (rep_at r' e2 (q' ys (h' _ (s1.trans s2) s3))).mono s1
    obtain ⟨F2, w1, w2⟩ := pair_new np rz rz'
    exact ⟨F2, w1, w2 s2⟩
  stop := fun F1 H1 s1 s2 s3 i l => ⟨xs, ys, h H1 (s1.trans s2) s3, h' H1 (s1.trans s2) s3, by
    have e1 := r.length
    have e2 := r'.length
    rw [zipD_len] at l
    omega⟩
theorem src_zipT {a b : Addr} {xs ys : List V} {ds es : List D} (hz : xs.length ≤ sizeLine) (r : RepL K F xs ds) (r' : RepL K F ys es) (h : ∀ H1 : Hp, Same F H1 → Same B H1 → SqT K H1 a xs)
    (h' : ∀ H1 : Hp, Same F H1 → Same B H1 → SqT K H1 b ys) : Src K F B (ItzT K a b) (zipD ds es) where
  small := by
    have := r.length
    rw [zipD_len]
    omega
  go := fun F1 H1 s1 s2 s3 i d e => by
    obtain ⟨d', e', e1, e2, e3⟩ := zipD_get _ _ _ _ e
    obtain ⟨v, f1, f2⟩ := r.get e1
    obtain ⟨v', f3, f4⟩ := r'.get e2
    exact ⟨xs, ys, v, v', h H1 (s1.trans s2) s3, h' H1 (s1.trans s2) s3, f1, f3⟩
  yld := fun F1 H1 s1 s2 s3 i d e x H2 y => by
    obtain ⟨d', e', e1, e2, rfl⟩ := zipD_get _ _ _ _ e
    obtain ⟨p, z, z', rfl, np, rfl, q, q'⟩ := y
    have rz := (rep_at r e1 (q xs (h _ (s1.trans s2) s3))).mono s1
    have rz' := (rep_at r' e2 (q' ys (h' _ (s1.trans s2) s3))).mono s1
    obtain ⟨F2, w1, w2⟩ := pair_new np rz rz'
    exact ⟨F2, w1, w2 s2⟩
  stop := fun F1 H1 s1 s2 s3 i l => ⟨xs, ys, h H1 (s1.trans s2) s3, h' H1 (s1.trans s2) s3, by
    have e1 := r.length
    have e2 := r'.length
    rw [zipD_len] at l
    omega⟩
/-- lo, lo + c, .. -/
def rangeD (lo c : Int) (n : Nat) : List D := (List.range n).map fun i => .int (lo + (i : Nat) * c)
theorem rangeD_get {lo c : Int} {n i : Nat} {d : D} (e : (rangeD lo c n)[i]? = some d) : i < n ∧ d = .int (lo + (i : Nat) * c) := by
  unfold rangeD at e
  rw [List.getElem?_map] at e
  obtain ⟨j, e1, e2⟩ := Option.map_eq_some_iff.mp e
  obtain ⟨h1, h2⟩ := List.getElem?_eq_some_iff.mp e1
  rw [List.getElem_range] at h2
  rw [List.length_range] at h1
  subst h2
  exact ⟨h1, e2.symm⟩
theorem rangeD_len (lo c : Int) (n : Nat) : (rangeD lo c n).length = n := by
  unfold rangeD
  rw [List.length_map, List.length_range]
theorem src_range {lo : Int} {n : Nat} (hz : n ≤ sizeLine) : Src K F B (Itr lo n) (rangeD lo 1 n) where
  small := by rw [rangeD_len]; exact hz
  go := fun F1 H1 s1 s2 s3 i d e => (rangeD_get e).1
  yld := fun F1 H1 s1 s2 s3 i d e x H2 y => by
    obtain ⟨_, rfl⟩ := rangeD_get e
    obtain ⟨rfl, rfl⟩ := y
    refine ⟨F1, fun B' A c => ⟨Go.refl, c⟩, ?_⟩
    rw [Int.mul_one]
    exact .int _
  stop := fun F1 H1 s1 s2 s3 i l => by
    rw [rangeD_len] at l
    exact l
end

section
variable {X : Cx} {tg e e2 : Expr}
/-- a list or a tuple -/
def iSeq (m : MV) : MI := fun ro τ => (m ro τ).bind fun p => p.1.its.map fun q => (q.2, p.2)
theorem ir_seq {m : MV} (h : ER X e m) : IR X tg e (iSeq m) := ⟨fun ro τ ds τ' em F B H σ A Rr a k => by
  obtain ⟨⟨r, τ1⟩, e1, e2⟩ := Option.bind_eq_some_iff.mp em
  obtain ⟨⟨isL, es⟩, e3, e4⟩ := Option.map_eq_some_iff.mp e2
  cases e4
  cases isL with
  | true =>
    refine wI (pi_list peW) (h.run ro τ r _ e1 F B H σ A _ a fun F1 H1 v A1 A2 g1 c1 o1 t1 => ?_)
    obtain ⟨F2, p, xs, g2, c2, s2, rfl, hz, rl, sq⟩ := its_of c1 o1 e3
    have sq' : ∀ H1 : Hp, Same F2 H1 → Same B H1 → SqL X.K H1 p xs := fun H1 a b => sq H1 a b
    exact ⟨p, rfl, ⟨xs, sq' H1 c2.fh c2.bh⟩, k F2 H1 A2 _ (g1.trans g2) c2 (t1.stay s2 fun _ _ _ q => q) (src_list hz rl sq')⟩
  | false =>
    refine wI (pi_tup peW) (h.run ro τ r _ e1 F B H σ A _ a fun F1 H1 v A1 A2 g1 c1 o1 t1 => ?_)
    obtain ⟨F2, p, xs, g2, c2, s2, rfl, hz, rl, sq⟩ := its_of c1 o1 e3
    have sq' : ∀ H1 : Hp, Same F2 H1 → Same B H1 → SqT X.K H1 p xs := fun H1 a b => sq H1 a b
    exact ⟨p, rfl, ⟨xs, sq' H1 c2.fh c2.bh⟩, k F2 H1 A2 _ (g1.trans g2) c2 (t1.stay s2 fun _ _ _ q => q) (src_tup hz rl sq')⟩⟩
theorem wpA1 {Q : List V → Hp → Prop} {m : MV} (h : ER X e m) (hs : starEach [e] X.env = (false, eval e X.env) :: starEach [] X.env) {ro : Ro} {τ τ' : Tau} {r : R} (em : m ro τ = some (r, τ')) {F B H : Hp} {σ : L2.St} {A : List Addr} (a : At X.K F B H σ ro τ A)
    (k : ∀ (F' H' : Hp) (v : V) (A1 A2 : List Addr), Go F H A F' H' (A1 ++ A2) → Cn F' B H' (A1 ++ A2) → ROk X.K F' B H' r v A1 → TauOk X.K F' H' σ τ' A2 → Q [v] H') : wpA X [e] σ H Q :=
  wA (pa_cons peW pa_nil hs) (h.run ro τ r τ' em F B H σ A _ a k)
variable {p pos tpos : Pos} {elts : List Expr} {kk : Nat}
def iEnumM (m : MV) : MI := fun ro τ => (m ro τ).bind fun p => p.1.its.bind fun q => if q.1 = true then some (enumFrom 0 q.2, p.2) else none
theorem ir_enum {m : MV} (h : ER X e m) (hg : Gl X "enumerate") (hm : X.mg "enumerate" = none) (hs : starEach [e] X.env = (false, eval e X.env) :: starEach [] X.env := by rfl) (hs' : starEach [e] X.env = [(false, eval e X.env)] := by rfl) :
    IR X (.Tuple elts kk tpos) (.Call (.Name "enumerate" p) [e] [] pos) (iEnumM m) := ⟨fun ro τ ds τ' em F B H σ A Rr a k => by
  obtain ⟨⟨r, τ1⟩, e1, e2⟩ := Option.bind_eq_some_iff.mp em
  obtain ⟨⟨isL, es⟩, e3, e4⟩ := Option.bind_eq_some_iff.mp e2
  cases isL with
  | false => cases e4
  | true =>
    cases e4
    refine wI (pi_enum hg hm paW hs') (wpA1 h hs e1 a fun F1 H1 v A1 A2 g1 c1 o1 t1 => ?_)
    obtain ⟨F2, b, xs, g2, c2, s2, rfl, hz, rl, sq⟩ := its_of c1 o1 e3
    have sq' : ∀ H1 : Hp, Same F2 H1 → Same B H1 → SqL X.K H1 b xs := fun H1 a b => sq H1 a b
    exact ⟨b, xs, rfl, sq' H1 c2.fh c2.bh, k F2 H1 A2 _ (g1.trans g2) c2 (t1.stay s2 fun _ _ _ q => q) (src_enum hz rl sq')⟩⟩
def iRevM (m : MV) : MI := fun ro τ => (m ro τ).bind fun p => p.1.its.bind fun q => if q.1 = true then some (q.2.reverse, p.2) else none
/-- zip of two lists, of two tuples -/
def iZipM (m n : MV) : MI := fun ro τ => (m ro τ).bind fun p => p.1.its.bind fun q => (n ro p.2).bind fun p' => p'.1.its.bind fun q' => if q.1 = q'.1 then some (zipD q.2 q'.2, p'.2) else none
theorem ir_zip {m n : MV} (h : ER X e m) (h' : ER X e2 n) (hg : Gl X "zip") (hm : X.mg "zip" = none)
    (hs : starEach [e, e2] X.env = (false, eval e X.env) :: starEach [e2] X.env := by rfl) (hs2 : starEach [e2] X.env = (false, eval e2 X.env) :: starEach [] X.env := by rfl) (hpl : (backTo pos (starEach [e2] X.env)).any (·.1) = false := by rfl) :
    IR X (.Tuple elts kk tpos) (.Call (.Name "zip" p) [e, e2] [] pos) (iZipM m n) := ⟨fun ro τ ds τ' em F B H σ A Rr a k => by
  obtain ⟨⟨r, τ1⟩, e1, em⟩ := Option.bind_eq_some_iff.mp em
  obtain ⟨⟨isL, es⟩, e3, em⟩ := Option.bind_eq_some_iff.mp em
  obtain ⟨⟨r', τ2⟩, e1', em⟩ := Option.bind_eq_some_iff.mp em
  obtain ⟨⟨isL', es'⟩, e3', em⟩ := Option.bind_eq_some_iff.mp em
  have em' : (if isL = isL' then some (zipD es es', τ2) else none) = some (ds, τ') := em
  by_cases q : isL = isL'
  · rw [if_pos q] at em'
    subst q
    cases em'
    refine wI (pi_zipA hg hm paW hs hpl) (wA (pa_cons peW (pa_cons peW pa_nil hs2) hs) (h.run ro τ r τ1 e1 F B H σ A _ a fun F1 H1 v A1 A2 g1 c1 o1 t1 => ?_))
    refine h'.run ro τ1 r' _ e1' F1 B H1 σ A2 _ (a.next g1 c1 t1) fun F2 H2 v' A3 A4 g2 c2 o2 t2 => ?_
    obtain ⟨g3, c3⟩ := Go.framed c1 g2 c2
    have o1' := Go.ros c1 g2 o1
    obtain ⟨F3, b, xs, g4, c4, s4, rfl, hz, rl, sq⟩ := its_of c3 o1' e3
    obtain ⟨F4, b', xs', g5, c5, s5, rfl, hz', rl', sq'⟩ := its_of c4 (o2.stay s4 fun _ _ _ q => q) e3'
    have t3 := t2.stay (s4.trans s5) fun _ _ _ q => q
    have gg := ((g1.trans g3).trans g4).trans g5
    cases isL with
    | true => exact ⟨b, b', xs, xs', rfl, .inl ⟨sq _ (s5.trans c5.fh) c5.bh, sq' _ c5.fh c5.bh, k F4 _ A4 _ gg c5 t3 (src_zipL hz (rl.mono s5) rl' (fun H1 a c => sq H1 (s5.trans a) c) fun H1 a c => sq' H1 a c)⟩⟩
    | false => exact ⟨b, b', xs, xs', rfl, .inr ⟨sq _ (s5.trans c5.fh) c5.bh, sq' _ c5.fh c5.bh, k F4 _ A4 _ gg c5 t3 (src_zipT hz (rl.mono s5) rl' (fun H1 a c => sq H1 (s5.trans a) c) fun H1 a c => sq' H1 a c)⟩⟩
  · rw [if_neg q] at em'
    cases em'⟩
/-- range -/
def asInts : List R → Option (List Int)
  | [] => some []
  | .val (.leaf (.int i)) :: rs => (asInts rs).map (i :: ·)
  | _ => none
theorem asInts_of {K : PySem.W.Frag} {F B H : Hp} : ∀ {rs : List R} {vs : List V} {A : List Addr} {ns : List Int}, RsOk K F B H rs vs A → asInts rs = some ns → vs = ns.map V.int
  | _, _, _, _, .nil, e => by
    cases e
    rfl
  | .val (.leaf (.int i)) :: rs, _, _, _, .cons o t, e => by
    have e' : (asInts rs).map (i :: ·) = some _ := e
    obtain ⟨ns, e1, e2⟩ := Option.map_eq_some_iff.mp e'
    subst e2
    rw [asInts_of t e1]
    cases o with
    | leaf r =>
      cases r
      rfl
  | .vw _ :: _, _, _, _, .cons _ _, e => by cases e
  | .val (.leaf .none) :: _, _, _, _, .cons _ _, e => by cases e
  | .val (.leaf (.bool _)) :: _, _, _, _, .cons _ _, e => by cases e
  | .val (.leaf (.str _)) :: _, _, _, _, .cons _ _, e => by cases e
  | .val (.leaf (.list _)) :: _, _, _, _, .cons _ _, e => by cases e
  | .val (.leaf (.tuple _)) :: _, _, _, _, .cons _ _, e => by cases e
  | .val (.leaf (.dict _)) :: _, _, _, _, .cons _ _, e => by cases e
  | .val (.fl _) :: _, _, _, _, .cons _ _, e => by cases e
  | .val (.ls _) :: _, _, _, _, .cons _ _, e => by cases e
  | .val (.tup _) :: _, _, _, _, .cons _ _, e => by cases e
  | .val (.dk _) :: _, _, _, _, .cons _ _, e => by cases e
  | .val (.dn _) :: _, _, _, _, .cons _ _, e => by cases e
  | .val (.scr _) :: _, _, _, _, .cons _ _, e => by cases e
  | .val (.ob _ _ _) :: _, _, _, _, .cons _ _, e => by cases e
def rngOf : List Int → Option (List D)
  | [j] => if -8000000 ≤ j ∧ j ≤ 8000000 then some (rangeD 0 1 j.toNat) else none
  | [i, j] => if (-8000000 ≤ i ∧ i ≤ 8000000) ∧ -8000000 ≤ j ∧ j ≤ 8000000 then some (rangeD i 1 (j - i).toNat) else none
  | [i, j, c] => if c = -1 ∧ (-8000000 ≤ i ∧ i ≤ 8000000) ∧ -8000000 ≤ j ∧ j ≤ 8000000 then some (rangeD i c (i - j).toNat) else none
  | _ => none
def iRng (l : ML) : MI := fun ro τ => (l ro τ).bind fun p => (asInts p.1).bind fun ns => (rngOf ns).map fun ds => (ds, p.2)
theorem small8 {n : Nat} (h : n ≤ 16000000) : n ≤ sizeLine := by
  rw [sizeLine_eq]
  omega
theorem ir_range1 {a : Expr} {l : ML} (ha : AR X [a] l) (hg : Gl X "range") (hm : X.mg "range" = none) (hs : starEach [a] X.env = [(false, eval a X.env)] := by rfl) : IR X tg (.Call (.Name "range" p) [a] [] pos) (iRng l) := ⟨fun ro τ ds τ' em F B H σ A Rr at_ k => by
  obtain ⟨⟨rs, τ1⟩, e1, em⟩ := Option.bind_eq_some_iff.mp em
  obtain ⟨ns, e2, em⟩ := Option.bind_eq_some_iff.mp em
  obtain ⟨es, e3, em⟩ := Option.map_eq_some_iff.mp em
  cases em
  refine wI (pi_range1 hg hm paW hs) (ha.run ro τ rs _ e1 F B H σ A _ at_ fun F1 H1 vs A1 A2 g1 c1 o1 t1 => ?_)
  have ev := asInts_of o1 e2
  have hl := ha.len _ _ _ _ e1
  match ns, e3 with
  | [j], e3 =>
    have e3' : (if -8000000 ≤ j ∧ j ≤ 8000000 then some (rangeD 0 1 j.toNat) else none) = some ds := e3
    by_cases q : -8000000 ≤ j ∧ j ≤ 8000000
    · rw [if_pos q] at e3'
      cases e3'
      obtain ⟨q1, q2⟩ := q
      exact ⟨j, ev, by omega, by omega, k F1 H1 A2 _ (g1.trans (Go.less fun _ m => List.mem_append_right _ m)) c1.right t1 (src_range (small8 (by omega)))⟩
    · rw [if_neg q] at e3'
      cases e3'
  | [i, j], e3 =>
    have := o1.length
    rw [ev] at this
    simp at this hl
    omega
  | [i, j, c], e3 =>
    have := o1.length
    rw [ev] at this
    simp at this hl
    omega⟩
end
end Tl

namespace Tl
open PySem PySem.Spec PyProof.Rows L2

abbrev MG := D → Fz → Option Fz
abbrev MGs := List D → Fz → Option Fz
section
variable (K : PySem.W.Frag)
structure GV (t : TG) (ws : List Nat) (m : MG) : Prop where
  run : ∀ (d : D) (fz fz' : Fz), m d fz = some fz' → ∀ (F H : Hp) (σ : L2.St) (v : V) (Q : L2.St → Hp → Prop), Rep K F v d → Same F H → FzOk K F σ fz →
    (∀ σ' : L2.St, FzOk K F σ' fz' → σ'.length = σ.length → (∀ j, j ∉ ws → σ'[j]? = σ[j]?) → Q σ' H) → t v σ H Q
structure GVs (n : Nat) (t : TGs) (ws : List Nat) (m : MGs) : Prop where
  len : ∀ (ds : List D) (fz fz' : Fz), m ds fz = some fz' → ds.length = n
  run : ∀ (ds : List D) (fz fz' : Fz), m ds fz = some fz' → ∀ (F H : Hp) (σ : L2.St) (vs : List V) (Q : L2.St → Hp → Prop), RepL K F vs ds → Same F H → FzOk K F σ fz →
    (∀ σ' : L2.St, FzOk K F σ' fz' → σ'.length = σ.length → (∀ j, j ∉ ws → σ'[j]? = σ[j]?) → Q σ' H) → t vs σ H Q
end
def wpGs (X : Cx) (ts : List Expr) : TGs := fun vs σ H Q => ∀ (pins : List (Addr × Obj)) (s : Shared) (us : List Value), Inv X pins σ H s → Vals vs us →
  wpAny (model X.prog X.w) X.A (assignInOrder ((assignEach ts X.env).map (·.2)) us) (fun _ s' => ∃ σ' H', Inv X pins σ' H' s' ∧ Q σ' H') X.xe s
abbrev GR (X : Cx) (tg : Expr) (ws : List Nat) (m : MG) : Prop := GV X.K (wpG X tg) ws m
abbrev GRs (X : Cx) (ts : List Expr) (ws : List Nat) (m : MGs) : Prop := GVs X.K ts.length (wpGs X ts) ws m
section
variable {X : Cx} {tg e : Expr} {es : List Expr} {i : Nat} {pos : Pos} {K : PySem.W.Frag} {F H : Hp}
theorem pgsW : PGs X es (wpGs X es) := ⟨fun pins s σ H vs us Q I r h => h pins s us I r⟩
theorem wGs {t : TGs} {vs : List V} {σ : L2.St} {Q : L2.St → Hp → Prop} (p : PGs X es t) (h : t vs σ H Q) : wpGs X es vs σ H Q := fun pins s us I r => p.run pins s σ H vs us Q I r h
theorem FzOk.set {σ : L2.St} {fz : Fz} {v : V} {d : D} (o : FzOk K F σ fz) (r : Rep K F v d) (i : Nat) : FzOk K F (σ.set i (some v)) (fset fz i (some d)) := by
  refine ⟨by rw [fset_length, List.length_set]; exact o.1, fun j e h => ?_⟩
  by_cases q : j = i
  · subst q
    cases fget_set_same h
    have l := fget_lt h
    rw [fset_length, o.1] at l
    exact ⟨v, by rw [List.getElem?_set_self l], r⟩
  · rw [fget_set_ne q] at h
    obtain ⟨u, h1, h2⟩ := o.2 j e h
    exact ⟨u, by rw [List.getElem?_set_ne (fun z => q z.symm)]; exact h1, h2⟩
def gtN (i : Nat) : MG := fun d fz => some (fset fz i (some d))
theorem gr_name (h : PG X tg (gName i)) : GR X tg [i] (gtN i) := ⟨fun d fz fz' em F H σ v Q r s o k => by
  cases em
  refine wG h (k _ (o.set r i) List.length_set fun j n => ?_)
  rw [List.getElem?_set_ne fun z => n (by rw [z]; exact List.mem_singleton.mpr rfl)]⟩
def gtNil : MGs := fun ds fz => match ds with
  | [] => some fz
  | _ => none
def gtCons (m : MG) (l : MGs) : MGs := fun ds fz => match ds with
  | d :: r => (m d fz).bind fun fz1 => l r fz1
  | [] => none
theorem grs_nil : GRs X [] [] gtNil := by
  refine ⟨fun ds fz fz' em => ?_, fun ds fz fz' em F H σ vs Q r s o k => ?_⟩
  · cases ds with
    | nil => rfl
    | cons d ds => cases em
  · cases ds with
    | cons d ds => cases em
    | nil =>
      cases em
      cases r
      exact wGs pgs_nil ⟨rfl, k σ o rfl fun _ _ => rfl⟩
theorem grs_cons {ws ws' : List Nat} {m : MG} {l : MGs} (h : GR X e ws m) (t : GRs X es ws' l) (hs : (assignEach (e :: es) X.env).map (·.2) = assign e X.env :: (assignEach es X.env).map (·.2) := by rfl) : GRs X (e :: es) (ws ++ ws') (gtCons m l) := by
  refine ⟨fun ds fz fz' em => ?_, fun ds fz fz' em F H σ vs Q r s o k => ?_⟩
  · cases ds with
    | nil => cases em
    | cons d ds =>
      obtain ⟨fz1, e1, e2⟩ := Option.bind_eq_some_iff.mp em
      show ds.length + 1 = es.length + 1
      rw [t.len _ _ _ e2]
  · cases ds with
    | nil => cases em
    | cons d ds =>
      obtain ⟨fz1, e1, e2⟩ := Option.bind_eq_some_iff.mp em
      cases r with
      | cons r1 r2 =>
        refine wGs (pgs_cons pgW pgsW hs) ⟨_, _, rfl, h.run d fz fz1 e1 F H σ _ _ r1 s o fun σ1 o1 l1 k1 => ?_⟩
        refine t.run ds fz1 fz' e2 F H σ1 _ Q r2 s o1 fun σ2 o2 l2 k2 => ?_
        exact k σ2 o2 (l2.trans l1) fun j n => (k2 j fun z => n (List.mem_append_right _ z)).trans (k1 j fun z => n (List.mem_append_left _ z))
def gtT (l : MGs) : MG := fun d fz => match d with
  | .tuple ds => l ds fz
  | .list ds => l ds fz
  | _ => none
theorem gr_tup {ws : List Nat} {l : MGs} {k : Nat} (hc : X.calm = true) (t : GRs X es ws l) (hn : (assignEach es X.env).length = es.length := by rfl) (hst : (assignEach es X.env).findIdx? (·.1) = none := by rfl) : GR X (.Tuple es k pos) ws (gtT l) :=
  ⟨fun d fz fz' em F H σ v Q r s o kk => by
  cases d with
  | tuple ds =>
    cases r with
    | tup h1 h2 h3 =>
      refine wG (pg_tup hc pgsW hn hst) ⟨_, _, rfl, sameT s h1, ?_, t.run ds fz fz' em F H σ _ Q h3 s o kk⟩
      rw [h3.length]
      exact t.len _ _ _ em
  | list ds =>
    cases r with
    | lst h1 h2 h3 =>
      refine wG (pg_unl hc pgsW hn hst) ⟨_, _, rfl, SqL.of (s _ _ h1), ?_, t.run ds fz fz' em F H σ _ Q h3 s o kk⟩
      rw [h3.length]
      exact t.len _ _ _ em
  | _ => cases em⟩
end

def inN : List Nat → Nat → Bool
  | [], _ => false
  | j :: r, i => if j = i then true else inN r i
def tout (ns : List Nat) : Tau → Tau
  | [] => []
  | (i, t) :: r => if inN ns i = true then tout ns r else (i, t) :: tout ns r
def fwipe (f : Fz) : List Nat → Fz
  | [] => f
  | v :: vs => fset (fwipe f vs) v none
theorem mem_inN : ∀ {ns : List Nat} {i : Nat}, i ∈ ns → inN ns i = true
  | j :: r, i, h => by
    show (if j = i then true else inN r i) = true
    by_cases q : j = i
    · rw [if_pos q]
    · rw [if_neg q]
      exact mem_inN ((List.mem_cons.mp h).resolve_left fun z => q z.symm)
theorem tout_sub : ∀ {ns : List Nat} {τ : Tau} {p : Nat × T}, p ∈ tout ns τ → p ∈ τ ∧ p.1 ∉ ns
  | ns, (i, t) :: r, p, h => by
    have h' : p ∈ (if inN ns i = true then tout ns r else (i, t) :: tout ns r) := h
    by_cases q : inN ns i = true
    · rw [if_pos q] at h'
      have z := tout_sub h'
      exact ⟨List.mem_cons_of_mem _ z.1, z.2⟩
    · rw [if_neg q] at h'
      rcases List.mem_cons.mp h' with e | m
      · rw [e]
        exact ⟨List.mem_cons_self, fun z => q (mem_inN z)⟩
      · have z := tout_sub m
        exact ⟨List.mem_cons_of_mem _ z.1, z.2⟩
section
variable {K : PySem.W.Frag} {F F' B H H' : Hp} {σ σ' : L2.St} {A A1 A2 : List Addr}
theorem fget_wipe : ∀ {vs : List Nat} {f : Fz} {i : Nat} {d : D}, fget (fwipe f vs) i = some d → fget f i = some d ∧ i ∉ vs
  | [], f, i, d, h => ⟨h, fun z => nomatch z⟩
  | v :: vs, f, i, d, h => by
    have h' : fget (fset (fwipe f vs) v none) i = some d := h
    by_cases q : i = v
    · subst q
      cases fget_set_same h'
    · rw [fget_set_ne q] at h'
      obtain ⟨h1, h2⟩ := fget_wipe h'
      exact ⟨h1, fun z => (List.mem_cons.mp z).elim q h2⟩
theorem fwipe_length (f : Fz) : ∀ vs : List Nat, (fwipe f vs).length = f.length
  | [] => rfl
  | v :: vs => by
    show (fset (fwipe f vs) v none).length = f.length
    rw [fset_length, fwipe_length f vs]
theorem FzOk.wipe {f : Fz} (o : FzOk K F σ f) (vs : List Nat) : FzOk K F (wipe σ vs) (fwipe f vs) := by
  refine ⟨by rw [fwipe_length, wipe_length]; exact o.1, fun i d h => ?_⟩
  obtain ⟨h1, h2⟩ := fget_wipe h
  obtain ⟨v, e1, e2⟩ := o.2 i d h1
  exact ⟨v, by rw [wipe_out h2]; exact e1, e2⟩
theorem VwOk.move {τ : Tau} (o : VwOk K F B σ τ) (h : ∀ p ∈ τ, σ'[p.1]? = σ[p.1]?) : VwOk K F B σ' τ := fun p m => by
  obtain ⟨v, A, e, r⟩ := o p m
  exact ⟨v, A, (h p m).trans e, r⟩
theorem TauOk.move : ∀ {τ : Tau} {A : List Addr}, TauOk K F H σ τ A → (∀ p ∈ τ, σ'[p.1]? = σ[p.1]?) → TauOk K F H σ' τ A
  | _, _, .nil, _ => .nil
  | _, _, .cons h o t, k => .cons ((k _ List.mem_cons_self).trans h) o (TauOk.move t fun p m => k p (List.mem_cons_of_mem _ m))
theorem TauOk.out : ∀ {τ : Tau} {A : List Addr} (ns : List Nat), TauOk K F H σ τ A → A.Nodup → ∃ A', TauOk K F H σ (tout ns τ) A' ∧ A'.Nodup ∧ ∀ a ∈ A', a ∈ A
  | _, _, _, .nil, n => ⟨[], .nil, n, fun _ m => m⟩
  | (j, u) :: r, _, ns, .cons (A := A) (A' := A0) h o t, n => by
    obtain ⟨n1, n2, n3⟩ := List.nodup_append.mp n
    obtain ⟨A', t', n', s'⟩ := TauOk.out ns t n2
    by_cases q : inN ns j = true
    · refine ⟨A', ?_, n', fun a m => List.mem_append_right _ (s' a m)⟩
      show TauOk K F H σ (if inN ns j = true then tout ns r else (j, u) :: tout ns r) A'
      rw [if_pos q]
      exact t'
    · refine ⟨A ++ A', ?_, List.nodup_append.mpr ⟨n1, n', fun a m b m2 => n3 a m b (s' b m2)⟩, fun a m => ?_⟩
      · show TauOk K F H σ (if inN ns j = true then tout ns r else (j, u) :: tout ns r) (A ++ A')
        rw [if_neg q]
        exact .cons h o t'
      · rcases List.mem_append.mp m with z | z
        · exact List.mem_append_left _ z
        · exact List.mem_append_right _ (s' a z)
/-- wiped again -/
theorem wipe_eq {vs : List Nat} {σ σ2 : L2.St} (hl : σ2.length = σ.length) (h : ∀ j, j ∉ vs → σ2[j]? = (wipe σ vs)[j]?) : wipe σ2 vs = wipe σ vs := by
  refine List.ext_getElem? fun j => ?_
  by_cases q : j ∈ vs
  · have none_at : ∀ τ : L2.St, j < τ.length → (wipe τ vs)[j]? = some none := fun τ hj => by
      have hj' : j < (wipe τ vs).length := by rw [wipe_length]; exact hj
      cases e : (wipe τ vs)[j]? with
      | none =>
        rw [List.getElem?_eq_none_iff] at e
        omega
      | some o =>
        cases o with
        | none => rfl
        | some x => exact absurd q (wipe_some e).2
    by_cases hj : j < σ.length
    · rw [none_at σ hj, none_at σ2 (hl ▸ hj)]
    · rw [List.getElem?_eq_none (by rw [wipe_length]; omega), List.getElem?_eq_none (by rw [wipe_length]; omega)]
  · rw [wipe_out q, h j q]
end
/-- the turns: the items to come, the items made -/
def lcLoop (vs : List Nat) (mt : MG) (mc : MB) (me : MV) (fw : Fz) (vw : Tau) : List D → List D → Tau → Option (List D × Tau)
  | [], acc, τ => some (acc, τ)
  | d :: ds, acc, τ => (mt d fw).bind fun fz => (mc ⟨fz, vw⟩ τ).bind fun p =>
      if p.1 = true then (me ⟨fz, vw⟩ p.2).bind fun q => q.1.st.bind fun y => lcLoop vs mt mc me fw vw ds (acc ++ [y]) (tout vs q.2) else lcLoop vs mt mc me fw vw ds acc (tout vs p.2)
def mLc (vs : List Nat) (mi : MI) (mt : MG) (mc : MB) (me : MV) : MV := fun ro τ => (mi ro τ).bind fun p => (lcLoop vs mt mc me (fwipe ro.fz vs) (tout vs ro.vw) p.1 [] (tout vs p.2)).map fun q => (.val (.fl q.1), q.2)
def mYes : MB := fun _ τ => some (true, τ)
section
variable {K : PySem.W.Frag}
/-- what holds at a turn -/
structure LcAt (K : PySem.W.Frag) (F1 B H1 : Hp) (A1 : List Addr) (σ : L2.St) (vs : List Nat) (p : Addr) (τ : Tau) (acc : List D) (i : Nat) (Fc Hc : Hp) (Ac : List Addr) (xs : List V) : Prop where
  go : Go F1 H1 A1 Fc Hc (p :: Ac)
  cn : Cn Fc B Hc (p :: Ac)
  at_ : Hc p = some (.lst xs)
  rl : RepL K Fc xs acc
  tau : TauOk K Fc Hc σ τ Ac
  out : ∀ q ∈ τ, q.1 ∉ vs
  len : xs.length ≤ i
theorem lc_ev {wi : TI} {g : TG} {tt : TT} {te : TE} {vs ws : List Nat} {mi : MI} {mt : MG} {mc : MB} {me : MV} (hi : IV K wi mi) (hg : GV K g ws mt) (hw : ∀ j ∈ ws, j ∈ vs) (ht : TV K tt mc) (he : EV K te me) :
    EV K (tLc wi g tt te vs) (mLc vs mi mt mc me) := ⟨fun ro τ r τ' em F B H σ A Q a k => by
  obtain ⟨⟨ds, τ1⟩, e1, em⟩ := Option.bind_eq_some_iff.mp em
  obtain ⟨⟨out, τ2⟩, e2, em⟩ := Option.map_eq_some_iff.mp em
  cases em
  refine hi.run ro τ ds τ1 e1 F B H σ A _ a fun F1 H1 A1 J g1 c1 t1 src => ?_
  intro p hp
  have ro1 := a.ro.mono g1.ff
  refine ⟨fun i m Hc => m = ds.length - i ∧ i ≤ ds.length ∧ ∃ (Fc : Hp) (τc : Tau) (acc : List D) (xs : List V) (Ac : List Addr), lcLoop vs mt mc me (fwipe ro.fz vs) (tout vs ro.vw) (ds.drop i) acc τc = some (out, τ2) ∧
      LcAt K F1 B H1 A1 σ vs p τc acc i Fc Hc Ac xs, ⟨ds.length, ?_⟩, ?_⟩
  · obtain ⟨A0, t0, n0, s0⟩ := t1.out vs c1.nd
    have g0 : Go F1 H1 A1 F1 H1 A0 := Go.less s0
    obtain ⟨g2, c2⟩ := (c1.sub n0 s0).newO (o := .lst []) hp
    refine ⟨by omega, Nat.zero_le _, F1, _, [], [], A0, e2, ⟨g0.trans g2, c2, upd_same, .nil, t0.stay g2.ff fun b m o q => ?_, fun q m => (tout_sub m).2, Nat.le_refl _⟩⟩
    rw [upd_ne (ne_of_none q hp)]
    exact q
  · rintro i m Hc ⟨rfl, hi', Fc, τc, acc, xs, Ac, el, L⟩
    have s1c : Same F1 Fc := L.go.ff
    have cc := L.cn
    by_cases hlt : i < ds.length
    · refine .inr ?_
      have ei : ds[i]? = some ds[i] := List.getElem?_eq_getElem hlt
      refine ⟨src.go Fc Hc s1c cc.fh cc.bh i _ ei, fun H' => ∃ (Fc : Hp) (τc : Tau) (acc : List D) (xs : List V) (Ac : List Addr), lcLoop vs mt mc me (fwipe ro.fz vs) (tout vs ro.vw) (ds.drop (i + 1)) acc τc = some (out, τ2) ∧
        LcAt K F1 B H1 A1 σ vs p τc acc (i + 1) Fc H' Ac xs, fun H' q => ⟨ds.length - (i + 1), by omega, rfl, hlt, q⟩, fun x H2 y => ?_⟩
      obtain ⟨F2, w1, rx⟩ := src.yld Fc Hc s1c cc.fh cc.bh i _ ei x H2 y
      obtain ⟨g2, c2⟩ := w1 B (p :: Ac) cc
      rw [List.drop_eq_getElem_cons hlt] at el
      obtain ⟨fz, f1, el⟩ := Option.bind_eq_some_iff.mp el
      obtain ⟨⟨b, τ3⟩, f2, el⟩ := Option.bind_eq_some_iff.mp el
      have stand : ∀ (b : Addr) (u : HO), Hc b = some u → H2 b = some u := fun b u q => (w1 noH [] ⟨cc.fh, same_noH, .nil, (fun _ z => nomatch z), (fun _ z => nomatch z), (fun _ z => nomatch z)⟩).1.keep b u (fun z => nomatch z) q
      have hp2 := stand _ _ L.at_
      have rl2 := L.rl.mono g2.ff
      have tc2 := L.tau.stay g2.ff fun b _ u q => stand b u q
      have ro2 := ro1.mono (s1c.trans g2.ff)
      refine hg.run _ _ fz f1 F2 H2 (wipe σ vs) x _ rx c2.fh (ro2.fz.wipe vs) fun σ2 o2 l2 k2 => ⟨?_, ?_⟩
      · exact wipe_eq (l2.trans (wipe_length _ _)) fun j n => k2 j fun z => n (hw j z)
      · have offslot : ∀ j, j ∉ vs → σ2[j]? = σ[j]? := fun j n => (k2 j fun z => n (hw j z)).trans (wipe_out n)
        have to2 : TauOk K F2 H2 σ2 τc Ac := tc2.move fun q m => offslot q.1 (L.out q m)
        have vw2 : VwOk K F2 B σ2 (tout vs ro.vw) := VwOk.move (fun q m => ro2.vw q (tout_sub m).1) fun q m => offslot q.1 (tout_sub m).2
        have back : ∀ {τ : Tau} {F' H' : Hp} {A : List Addr}, TauOk K F' H' σ2 τ A → A.Nodup → ∃ A', TauOk K F' H' σ (tout vs τ) A' ∧ A'.Nodup ∧ ∀ a ∈ A', a ∈ A := fun t n => by
          obtain ⟨A', t', n', s'⟩ := t.out vs n
          exact ⟨A', t'.move fun q m => (offslot q.1 (tout_sub m).2).symm, n', s'⟩
        refine ht.run ⟨fz, tout vs ro.vw⟩ τc b τ3 f2 F2 B H2 σ2 Ac _ ⟨Cn.right (A1 := [p]) c2, ⟨o2, vw2⟩, to2⟩ fun F3 H3 A3 g3 c3 t3 => ?_
        obtain ⟨g3', c3'⟩ := Go.framed (A1 := [p]) c2 g3 c3
        have pn2 : p ∉ Ac := Cn.apart (A1 := [p]) c2 p (List.mem_singleton.mpr rfl)
        have hp3 : H3 p = some (.lst xs) := g3.keep p _ pn2 hp2
        have g13 := (L.go.trans g2).trans g3'
        have keepin : ∀ {A A' : List Addr} {F H : Hp}, Cn F B H ([p] ++ A) → A'.Nodup → (∀ a ∈ A', a ∈ A) → Go F H ([p] ++ A) F H (p :: A') ∧ Cn F B H (p :: A') := fun {A A' F H} c n s => by
          have sub : ∀ b ∈ p :: A', b ∈ [p] ++ A := fun b m => (List.mem_cons.mp m).elim (fun z => z ▸ List.mem_cons_self) fun z => List.mem_cons_of_mem _ (s b z)
          exact ⟨Go.less sub, c.sub (List.nodup_cons.mpr ⟨fun z => (List.nodup_cons.mp c.nd).1 (s p z), n⟩) sub⟩
        cases b with
        | false =>
          rw [if_neg Bool.false_ne_true] at el ⊢
          obtain ⟨A', t', n', s'⟩ := back t3 c3.nd
          obtain ⟨g4, c4⟩ := keepin c3' n' s'
          exact ⟨F3, tout vs τ3, acc, xs, A', el, ⟨g13.trans g4, c4, hp3, rl2.mono g3.ff, t', fun q m => (tout_sub m).2, Nat.le_succ_of_le L.len⟩⟩
        | true =>
          rw [if_pos rfl] at el ⊢
          obtain ⟨⟨z, τ4⟩, f3, el⟩ := Option.bind_eq_some_iff.mp el
          obtain ⟨yd, f4, el⟩ := Option.bind_eq_some_iff.mp el
          have ro3 : RoOk K F3 B σ2 ⟨fz, tout vs ro.vw⟩ := ⟨o2.mono g3.ff, vw2.mono g3.ff⟩
          refine he.run ⟨fz, tout vs ro.vw⟩ τ3 z τ4 f3 F3 B H3 σ2 A3 _ ⟨c3, ro3, t3⟩ fun F4 H4 u A4 A5 g4 c4 o4 t4 => ?_
          obtain ⟨g4', c4'⟩ := Go.framed (A1 := [p]) c3' g4 c4
          have pn3 : p ∉ A3 := Cn.apart (A1 := [p]) c3' p (List.mem_singleton.mpr rfl)
          have hp4 : H4 p = some (.lst xs) := g4.keep p _ pn3 hp3
          obtain ⟨F5, g5, c5, s5, ry⟩ := o4.freeze c4 f4
          obtain ⟨g5', c5'⟩ := Go.framed (A1 := [p]) c4' g5 c5
          have t5 := t4.stay s5 fun _ _ _ q => q
          obtain ⟨A', t', n', s'⟩ := back t5 c5.nd
          obtain ⟨g6, c6⟩ := keepin c5' n' s'
          obtain ⟨g7, c7⟩ := c6.write (o := .lst (xs ++ [u])) (p := p) List.mem_cons_self
          refine ⟨xs, hp4, Nat.lt_of_le_of_lt L.len (Nat.lt_of_lt_of_le hlt src.small), F5, tout vs τ4, acc ++ [yd], xs ++ [u], A', el, ⟨((((g13.trans g4').trans g5').trans g6).trans g7), c7, upd_same, ?_, t'.stay g7.ff fun b m o q => ?_, fun q m => (tout_sub m).2, ?_⟩⟩
          · exact (((rl2.mono g3.ff).mono g4.ff).mono s5).append (.cons ry .nil)
          · have nb : b ≠ p := fun z => (List.nodup_cons.mp c6.nd).1 (by rw [← z]; exact m)
            rw [upd_ne nb]
            exact q
          · rw [List.length_append]
            exact Nat.succ_le_succ L.len
    · have e : i = ds.length := by omega
      subst e
      rw [List.drop_length] at el
      cases el
      refine .inl ⟨src.stop Fc Hc s1c cc.fh cc.bh _ (Nat.le_refl _), ?_⟩
      exact k Fc Hc (.ref p) [p] Ac (g1.trans L.go) cc (.fl L.at_ (Nat.le_trans L.len src.small) L.rl) L.tau⟩
theorem tv_yes : TV K tYes mYes := ⟨fun ro τ r τ' em F B H σ A Q a k => by
  cases em
  exact k F H A Go.refl a.cn a.tau⟩
end
section
variable (X : Cx) (scope : Scope)
def bE (e : Expr) : TE := fun σ H Q => ∀ (s : Shared) (H0 : Hp) (C : Addr) (cl : List (Str × Addr)) (fp : List Addr), wpE (X.blk s H0 scope (compEnvC scope cl C X.env) fp) e σ H Q
def bT (e : Expr) : TT := fun σ H Q => ∀ (s : Shared) (H0 : Hp) (C : Addr) (cl : List (Str × Addr)) (fp : List Addr), wpT (X.blk s H0 scope (compEnvC scope cl C X.env) fp) e σ H Q
def bG (e : Expr) : TG := fun v σ H Q => ∀ (s : Shared) (H0 : Hp) (C : Addr) (cl : List (Str × Addr)) (fp : List Addr), wpG (X.blk s H0 scope (compEnvC scope cl C X.env) fp) e v σ H Q
end
section
variable {X : Cx} {scope : Scope} {elt tg iter c : Expr} {own : List (Str × Nat)} {pos : Pos} {ws : List Nat} {mi : MI} {mt : MG} {mc : MB} {me : MV}
theorem bE_of (h : ∀ (s : Shared) (H0 : Hp) (C : Addr) (cl : List (Str × Addr)) (fp : List Addr), ER (X.blk s H0 scope (compEnvC scope cl C X.env) fp) elt me) : EV X.K (bE X scope elt) me :=
  ⟨fun ro τ r τ' em F B H σ A Q a k s H0 C cl fp => (h s H0 C cl fp).run ro τ r τ' em F B H σ A Q a k⟩
theorem bT_of (h : ∀ (s : Shared) (H0 : Hp) (C : Addr) (cl : List (Str × Addr)) (fp : List Addr), TR (X.blk s H0 scope (compEnvC scope cl C X.env) fp) c mc) : TV X.K (bT X scope c) mc :=
  ⟨fun ro τ r τ' em F B H σ A Q a k s H0 C cl fp => (h s H0 C cl fp).run ro τ r τ' em F B H σ A Q a k⟩
theorem bG_of (h : ∀ (s : Shared) (H0 : Hp) (C : Addr) (cl : List (Str × Addr)) (fp : List Addr), GR (X.blk s H0 scope (compEnvC scope cl C X.env) fp) tg ws mt) : GV X.K (bG X scope tg) ws mt :=
  ⟨fun d fz fz' em F H σ v Q r s o k s H0 C cl fp => (h s H0 C cl fp).run d fz fz' em F H σ v Q r ‹_› o k⟩
theorem bE_pe (s : Shared) (H0 : Hp) (C : Addr) (cl : List (Str × Addr)) (fp : List Addr) : PE (X.blk s H0 scope (compEnvC scope cl C X.env) fp) elt (bE X scope elt) := ⟨fun pins s' σ H Q I h => h s H0 C cl fp pins s' I⟩
theorem bT_pt (s : Shared) (H0 : Hp) (C : Addr) (cl : List (Str × Addr)) (fp : List Addr) : PT (X.blk s H0 scope (compEnvC scope cl C X.env) fp) c (bT X scope c) := ⟨fun pins s' σ H Q I h => h s H0 C cl fp pins s' I⟩
theorem bG_pg (s : Shared) (H0 : Hp) (C : Addr) (cl : List (Str × Addr)) (fp : List Addr) : PG (X.blk s H0 scope (compEnvC scope cl C X.env) fp) tg (bG X scope tg) := ⟨fun pins s' σ H v u Q I r h => h s H0 C cl fp pins s' u I r⟩
/-- its reading, with no test, with one -/
abbrev tLc0 (X : Cx) (scope : Scope) (tg iter elt : Expr) (vs : List Nat) : TE := tLc (wpI X tg iter) (bG X scope tg) tYes (bE X scope elt) vs
abbrev tLc1 (X : Cx) (scope : Scope) (tg iter c elt : Expr) (vs : List Nat) : TE := tLc (wpI X tg iter) (bG X scope tg) (bT X scope c) (bE X scope elt) vs
theorem ev_lc0 (hi : IR X tg iter mi) (hg : ∀ (s : Shared) (H0 : Hp) (C : Addr) (cl : List (Str × Addr)) (fp : List Addr), GR (X.blk s H0 scope (compEnvC scope cl C X.env) fp) tg ws mt) (hw : ∀ j ∈ ws, j ∈ own.map (·.2))
    (he : ∀ (s : Shared) (H0 : Hp) (C : Addr) (cl : List (Str × Addr)) (fp : List Addr), ER (X.blk s H0 scope (compEnvC scope cl C X.env) fp) elt me) : EV X.K (tLc0 X scope tg iter elt (own.map (·.2))) (mLc (own.map (·.2)) mi mt mYes me) :=
  lc_ev hi (bG_of hg) hw tv_yes (bE_of he)
theorem ev_lc1 (hi : IR X tg iter mi) (hg : ∀ (s : Shared) (H0 : Hp) (C : Addr) (cl : List (Str × Addr)) (fp : List Addr), GR (X.blk s H0 scope (compEnvC scope cl C X.env) fp) tg ws mt) (hw : ∀ j ∈ ws, j ∈ own.map (·.2))
    (hc : ∀ (s : Shared) (H0 : Hp) (C : Addr) (cl : List (Str × Addr)) (fp : List Addr), TR (X.blk s H0 scope (compEnvC scope cl C X.env) fp) c mc)
    (he : ∀ (s : Shared) (H0 : Hp) (C : Addr) (cl : List (Str × Addr)) (fp : List Addr), ER (X.blk s H0 scope (compEnvC scope cl C X.env) fp) elt me) : EV X.K (tLc1 X scope tg iter c elt (own.map (·.2))) (mLc (own.map (·.2)) mi mt mc me) :=
  lc_ev hi (bG_of hg) hw (bT_of hc) (bE_of he)
theorem pe_lc0 (hc : X.calm = true) (hN : X.N.Nodup) (ok : BlkOk X.N X.env.scope scope own) (hs : ∀ x, foldedSetIterable iter X.env x = pure x := by intro _; rfl) : PE X (.ListComp elt [⟨tg, iter, [], 0⟩] scope pos) (tLc0 X scope tg iter elt (own.map (·.2))) :=
  pe_lc hc hN piW ok bG_pg (fun _ _ _ _ _ => pts_nil) bE_pe hs
theorem pe_lc1 (hc : X.calm = true) (hN : X.N.Nodup) (ok : BlkOk X.N X.env.scope scope own) (hs : ∀ x, foldedSetIterable iter X.env x = pure x := by intro _; rfl) : PE X (.ListComp elt [⟨tg, iter, [c], 0⟩] scope pos) (tLc1 X scope tg iter c elt (own.map (·.2))) :=
  pe_lc hc hN piW ok bG_pg (fun s H0 C cl fp => pts_one (bT_pt s H0 C cl fp)) bE_pe hs
theorem ev_er {e : Expr} {t : TE} {m : MV} (p : PE X e t) (h : EV X.K t m) : ER X e m := ⟨fun ro τ r τ' em F B H σ A Q a k => wE p (h.run ro τ r τ' em F B H σ A Q a k)⟩
end
end Tl

namespace Tl
open PySem PySem.Spec PyProof.Rows L2

structure SS where
  fz : Fz
  ow : Tau
inductive Out where
  | nx (s : SS)
  | rt (t : T) (s : SS)
  | bk (s : SS)
  | ct (s : SS)
abbrev MS := SS → Option Out
abbrev MX := SS → Option (T × SS)
abbrev MXB := SS → Option (Bool × SS)
abbrev MXI := SS → Option (List D × SS)
structure SAt (K : PySem.W.Frag) (F H : Hp) (σ : L2.St) (s : SS) (A : List Addr) : Prop where
  cn : Cn F noH H A
  fz : FzOk K F σ s.fz
  ow : TauOk K F H σ s.ow A
/-- the kept slots (a def's parameters that are handed back) -/
def Agree (Pr : List Nat) (σ σ' : L2.St) : Prop := ∀ i ∈ Pr, σ'[i]? = σ[i]?
/-- what is wanted where a piece ends so -/
def OutOk (K : PySem.W.Frag) (Pr : List Nat) (F H : Hp) (σ : L2.St) (A : List Addr) (D : Ends) : Out → Prop
  | .nx s => ∀ (F' H' : Hp) (σ' : L2.St) (A' : List Addr), Go F H A F' H' A' → SAt K F' H' σ' s A' → Agree Pr σ σ' → D.nx σ' H'
  | .bk s => ∀ (F' H' : Hp) (σ' : L2.St) (A' : List Addr), Go F H A F' H' A' → SAt K F' H' σ' s A' → Agree Pr σ σ' → D.bk σ' H'
  | .ct s => ∀ (F' H' : Hp) (σ' : L2.St) (A' : List Addr), Go F H A F' H' A' → SAt K F' H' σ' s A' → Agree Pr σ σ' → D.ct σ' H'
  | .rt t s => ∀ (F' H' : Hp) (σ' : L2.St) (v : V) (A1 A2 : List Addr), Go F H A F' H' (A1 ++ A2) → Cn F' noH H' (A1 ++ A2) → Own K F' H' v t A1 → FzOk K F' σ' s.fz → TauOk K F' H' σ' s.ow A2 → Agree Pr σ σ' → D.rt v H'
section
variable (K : PySem.W.Frag)
structure SV (Pr : List Nat) (t : TS) (m : MS) : Prop where
  run : ∀ (s : SS) (o : Out), m s = some o → ∀ (F H : Hp) (σ : L2.St) (A : List Addr) (D : Ends), SAt K F H σ s A → OutOk K Pr F H σ A D o → t D σ H
structure XV (t : TE) (m : MX) : Prop where
  run : ∀ (s : SS) (x : T) (s' : SS), m s = some (x, s') → ∀ (F H : Hp) (σ : L2.St) (A : List Addr) (Q : VK), SAt K F H σ s A →
    (∀ (F' H' : Hp) (v : V) (A1 A2 : List Addr), Go F H A F' H' (A1 ++ A2) → Cn F' noH H' (A1 ++ A2) → Own K F' H' v x A1 → FzOk K F' σ s'.fz → TauOk K F' H' σ s'.ow A2 → Q v H') → t σ H Q
structure XB (t : TT) (m : MXB) : Prop where
  run : ∀ (s : SS) (b : Bool) (s' : SS), m s = some (b, s') → ∀ (F H : Hp) (σ : L2.St) (A : List Addr) (Q : Bool → Hp → Prop), SAt K F H σ s A →
    (∀ (F' H' : Hp) (A' : List Addr), Go F H A F' H' A' → SAt K F' H' σ s' A' → Q b H') → t σ H Q
structure XI (t : TI) (m : MXI) : Prop where
  run : ∀ (s : SS) (ds : List D) (s' : SS), m s = some (ds, s') → ∀ (F H : Hp) (σ : L2.St) (A : List Addr) (Rr : It → Hp → Prop), SAt K F H σ s A →
    (∀ (F' H' : Hp) (A' : List Addr) (J : It), Go F H A F' H' A' → SAt K F' H' σ s' A' → Src K F' noH J ds → Rr J H') → t σ H Rr
end
abbrev SR (X : Cx) (Pr : List Nat) (st : Stmt) (m : MS) : Prop := SV X.K Pr (wpS X st) m
abbrev SRs (X : Cx) (Pr : List Nat) (st : List Stmt) (m : MS) : Prop := SV X.K Pr (wpB X st) m
section
variable {K : PySem.W.Frag} {Pr : List Nat} {F F' H H' F1 H1 : Hp} {σ σ1 : L2.St} {A A' A1 A2 : List Addr}
theorem SAt.at_ {s : SS} (a : SAt K F H σ s A) : At K F noH H σ ⟨s.fz, []⟩ s.ow A := ⟨a.cn, ⟨a.fz, fun _ m => nomatch m⟩, a.ow⟩
theorem OutOk.behind {D : Ends} {o : Out} (k : OutOk K Pr F H σ A D o) (g : Go F H A F1 H1 A1) (e : Agree Pr σ σ1) : OutOk K Pr F1 H1 σ1 A1 D o := by
  cases o with
  | nx s => exact fun F' H' σ' A' g' a e' => k F' H' σ' A' (g.trans g') a fun i m => (e' i m).trans (e i m)
  | bk s => exact fun F' H' σ' A' g' a e' => k F' H' σ' A' (g.trans g') a fun i m => (e' i m).trans (e i m)
  | ct s => exact fun F' H' σ' A' g' a e' => k F' H' σ' A' (g.trans g') a fun i m => (e' i m).trans (e i m)
  | rt t s => exact fun F' H' σ' v A1 A2 g' c o f t e' => k F' H' σ' v A1 A2 (g.trans g') c o f t fun i m => (e' i m).trans (e i m)
theorem Agree.refl : Agree Pr σ σ := fun _ _ => rfl

def mX (m : MV) : MX := fun s => (m ⟨s.fz, []⟩ s.ow).bind fun p => match p.1 with
  | .val x => some (x, ⟨s.fz, p.2⟩)
  | .vw (.leaf d) => some (.leaf d, ⟨s.fz, p.2⟩)
  | .vw _ => none
theorem xv {t : TE} {m : MV} (h : EV K t m) : XV K t (mX m) := ⟨fun s x s' em F H σ A Q a k => by
  obtain ⟨⟨z, τ1⟩, e1, em⟩ := Option.bind_eq_some_iff.mp em
  obtain ⟨ex, es⟩ : (z = .val x ∨ ∃ d, z = .vw (.leaf d) ∧ x = .leaf d) ∧ s' = ⟨s.fz, τ1⟩ := by
    cases z with
    | val y =>
      cases em
      exact ⟨.inl rfl, rfl⟩
    | vw y =>
      cases y with
      | leaf d =>
        cases em
        exact ⟨.inr ⟨d, rfl, rfl⟩, rfl⟩
      | _ => cases em
  subst es
  exact h.run _ _ z τ1 e1 F noH H σ A Q a.at_ fun F' H' v A1 A2 g c o t => k F' H' v A1 A2 g c (o.solid ex) (a.fz.mono g.ff) t⟩
def mXB (m : MB) : MXB := fun s => (m ⟨s.fz, []⟩ s.ow).map fun p => (p.1, ⟨s.fz, p.2⟩)
theorem xb {t : TT} {m : MB} (h : TV K t m) : XB K t (mXB m) := ⟨fun s b s' em F H σ A Q a k => by
  obtain ⟨⟨z, τ1⟩, e1, em⟩ := Option.map_eq_some_iff.mp em
  cases em
  exact h.run _ _ _ τ1 e1 F noH H σ A Q a.at_ fun F' H' A2 g c t => k F' H' A2 g ⟨c, a.fz.mono g.ff, t⟩⟩
def mXI (m : MI) : MXI := fun s => (m ⟨s.fz, []⟩ s.ow).map fun p => (p.1, ⟨s.fz, p.2⟩)
theorem xi {t : TI} {m : MI} (h : IV K t m) : XI K t (mXI m) := ⟨fun s b s' em F H σ A Q a k => by
  obtain ⟨⟨z, τ1⟩, e1, em⟩ := Option.map_eq_some_iff.mp em
  cases em
  exact h.run _ _ _ τ1 e1 F noH H σ A _ a.at_ fun F' H' A2 J g c t src => k F' H' A2 J g ⟨c, a.fz.mono g.ff, t⟩ src⟩

variable {X : Cx} {st : Stmt} {sts : List Stmt} {e : Expr} {pos : Pos} {i : Nat}
def mSeq (m n : MS) : MS := fun s => (m s).bind fun o => match o with
  | .nx s' => n s'
  | .rt t s' => some (.rt t s')
  | .bk s' => some (.bk s')
  | .ct s' => some (.ct s')
def mNx : MS := fun s => some (.nx s)
theorem sr_nil : SRs X Pr [] mNx := ⟨fun s o em F H σ A D a k => by
  cases em
  exact wB pss_nil (k F H σ A Go.refl a Agree.refl)⟩
theorem sr_cons {m n : MS} (h : SR X Pr st m) (t : SRs X Pr sts n) : SRs X Pr (st :: sts) (mSeq m n) := ⟨fun s o em F H σ A D a k => by
  obtain ⟨o1, e1, em⟩ := Option.bind_eq_some_iff.mp em
  refine wB (pss_cons psW pssW) (h.run s o1 e1 F H σ A _ a ?_)
  cases o1 with
  | nx s1 => exact fun F' H' σ' A' g' a' e' => t.run s1 o em F' H' σ' A' D a' (k.behind g' e')
  | rt t s1 =>
    cases em
    exact k
  | bk s1 =>
    cases em
    exact k
  | ct s1 =>
    cases em
    exact k⟩
def mBrk : MS := fun s => some (.bk s)
def mCnt : MS := fun s => some (.ct s)
def mIfS (c : MXB) (m n : MS) : MS := fun s => (c s).bind fun p => if p.1 = true then m p.2 else n p.2
theorem sr_if {c : Expr} {as bs : List Stmt} {mc : MB} {m n : MS} (hc : TR X c mc) (h : SRs X Pr as m) (h' : SRs X Pr bs n) : SR X Pr (.If c as bs pos) (mIfS (mXB mc) m n) := ⟨fun s o em F H σ A D a k => by
  obtain ⟨⟨b, s1⟩, e1, em⟩ := Option.bind_eq_some_iff.mp em
  refine wS (ps_if ptW pssW pssW) ((xb hc).run s b s1 e1 F H σ A _ a fun F1 H1 A1 g1 a1 => ?_)
  cases b with
  | true =>
    rw [if_pos rfl] at em ⊢
    exact h.run s1 o em F1 H1 σ A1 D a1 (k.behind g1 Agree.refl)
  | false =>
    rw [if_neg Bool.false_ne_true] at em ⊢
    exact h'.run s1 o em F1 H1 σ A1 D a1 (k.behind g1 Agree.refl)⟩
def mRet (m : MX) : MS := fun s => (m s).map fun p => .rt p.1 p.2
theorem sr_ret {m : MV} (h : ER X e m) : SR X Pr (.Return (some e) pos) (mRet (mX m)) := ⟨fun s o em F H σ A D a k => by
  obtain ⟨⟨x, s1⟩, e1, em⟩ := Option.map_eq_some_iff.mp em
  cases em
  exact wS (ps_ret peW) ((xv h).run s x s1 e1 F H σ A _ a fun F' H' v A1 A2 g c o f t => k F' H' σ v A1 A2 g c o f t Agree.refl)⟩
def mRetN : MS := fun s => some (.rt (.leaf .none) s)
/-- an expression for what it does -/
def mDo (m : MX) : MS := fun s => (m s).map fun p => .nx p.2
theorem sr_do {m : MV} (h : ER X e m) (hs : swapsWith e none pos.line X.env = pure false := by rfl) : SR X Pr (.Expr e pos) (mDo (mX m)) := ⟨fun s o em F H σ A D a k => by
  obtain ⟨⟨x, s1⟩, e1, em⟩ := Option.map_eq_some_iff.mp em
  cases em
  exact wS (ps_expr peW hs) ((xv h).run s x s1 e1 F H σ A _ a fun F' H' v A1 A2 g c o f t => k F' H' σ A2 (g.trans (Go.less fun _ m => List.mem_append_right _ m)) ⟨c.right, f, t⟩ Agree.refl)⟩
/-- x = e, kept as plain data -/
def mSet (i : Nat) (m : MX) : MS := fun s => (m s).bind fun p => p.1.fz.map fun d => .nx ⟨fset p.2.fz i (some d), tdel p.2.ow i⟩
theorem agree_set {v : V} (hi : i ∉ Pr) : Agree Pr σ (σ.set i (some v)) := fun j m => by
  have nb : i ≠ j := fun z => hi (by rw [z]; exact m)
  rw [List.getElem?_set_ne nb]
theorem TauOk.setD {τ : Tau} {A : List Addr} (t : TauOk K F H σ τ A) (n : A.Nodup) (i : Nat) (v : V) : ∃ A', TauOk K F H (σ.set i (some v)) (tdel τ i) A' ∧ A'.Nodup ∧ ∀ a ∈ A', a ∈ A := by
  obtain ⟨A', t', n', s'⟩ := t.del i n
  exact ⟨A', t'.move fun p m => by rw [List.getElem?_set_ne fun z => (tdel_sub m).2 z.symm], n', s'⟩
theorem sv_set {t : TE} {m : MV} (h : EV K t m) (hi : i ∉ Pr) : SV K Pr (tAsg t (gName i)) (mSet i (mX m)) := ⟨fun s o em F H σ A D a k => by
  obtain ⟨⟨x, s1⟩, e1, em⟩ := Option.bind_eq_some_iff.mp em
  obtain ⟨d, e2, em⟩ := Option.map_eq_some_iff.mp em
  cases em
  refine (xv h).run s x s1 e1 F H σ A _ a fun F1 H1 v A1 A2 g1 c1 o1 f1 t1 => ?_
  obtain ⟨g2, c2, s2, h2⟩ := c1.freeze
  obtain ⟨A3, t3, n3, s3⟩ := (t1.stay s2 fun _ _ _ q => q).setD c2.nd i v
  exact k _ H1 _ A3 ((g1.trans g2).trans (Go.less s3)) ⟨c2.sub n3 s3, (f1.mono s2).set (Own.rep s2 o1 h2 e2) i, t3⟩ (agree_set hi)⟩
theorem sr_set {t : TE} {m : MV} (p : PS X st (tAsg t (gName i))) (h : EV X.K t m) (hi : i ∉ Pr := by decide) : SR X Pr st (mSet i (mX m)) := ⟨fun s o em F H σ A D a k => wS p ((sv_set h hi).run s o em F H σ A D a k)⟩
theorem FzOk.drop {fz : Fz} (o : FzOk K F σ fz) (i : Nat) (v : V) : FzOk K F (σ.set i (some v)) (fset fz i none) := by
  refine ⟨by rw [fset_length, List.length_set]; exact o.1, fun j e h => ?_⟩
  by_cases q : j = i
  · subst q
    cases fget_set_same h
  · rw [fget_set_ne q] at h
    obtain ⟨u, h1, h2⟩ := o.2 j e h
    exact ⟨u, by rw [List.getElem?_set_ne (fun z => q z.symm)]; exact h1, h2⟩
theorem tset_eq : ∀ (τ : Tau) (i : Nat) (t : T), tset τ i t = tset (tset τ i .hole) i t
  | [], i, t => by
    show [(i, t)] = (if i = i then (i, t) :: [] else _)
    rw [if_pos rfl]
  | (j, u) :: r, i, t => by
    show (if j = i then (i, t) :: r else (j, u) :: tset r i t) = tset (if j = i then (i, T.hole) :: r else (j, u) :: tset r i .hole) i t
    by_cases q : j = i
    · rw [if_pos q, if_pos q]
      show _ = (if i = i then (i, t) :: r else _)
      rw [if_pos rfl]
    · rw [if_neg q, if_neg q]
      show _ = (if j = i then (i, t) :: tset r i .hole else (j, u) :: tset (tset r i .hole) i t)
      rw [if_neg q, tset_eq r i t]
/-- a slot overwritten by an owned thing; other entries of the slot must not be (the list holds each slot once) -/
def once : Tau → Bool
  | [] => true
  | (j, _) :: r => (tget r j).isNone && once r
theorem tget_none : ∀ {τ : Tau} {i : Nat}, tget τ i = none → ∀ p ∈ τ, p.1 ≠ i
  | (j, u) :: r, i, h, p, m => by
    have h' : (if j = i then some u else tget r i) = none := h
    by_cases q : j = i
    · rw [if_pos q] at h'
      cases h'
    · rw [if_neg q] at h'
      rcases List.mem_cons.mp m with e | m
      · rw [e]
        exact q
      · exact tget_none h' p m
theorem TauOk.setO : ∀ {τ : Tau} {A2 : List Addr} {i : Nat} {t : T} {v : V} {A1 : List Addr}, once τ = true → TauOk K F H σ τ A2 → i < σ.length → Own K F H v t A1 → (A1 ++ A2).Nodup →
    ∃ A', TauOk K F H (σ.set i (some v)) (tset τ i t) A' ∧ A'.Nodup ∧ ∀ a ∈ A', a ∈ A1 ++ A2
  | [], _, i, t, v, A1, _, .nil, hv, o, n => ⟨A1 ++ [], .cons (by rw [List.getElem?_set_self hv]) o .nil, n, fun a m => m⟩
  | (j, u) :: r, _, i, t, v, A1, w, .cons (A := A) (A' := A0) h o' tt, hv, o, n => by
    obtain ⟨n1, n2, n3⟩ := List.nodup_append.mp n
    obtain ⟨m1, m2, m3⟩ := List.nodup_append.mp n2
    have w' : ((tget r j).isNone && once r) = true := w
    rw [Bool.and_eq_true, Option.isNone_iff_eq_none] at w'
    by_cases q : j = i
    · refine ⟨A1 ++ A0, ?_, List.nodup_append.mpr ⟨n1, m2, fun a m b m' => n3 a m b (List.mem_append_right _ m')⟩, fun a m => ?_⟩
      · show TauOk K F H (σ.set i (some v)) (if j = i then (i, t) :: r else (j, u) :: tset r i t) (A1 ++ A0)
        rw [if_pos q]
        exact .cons (by rw [List.getElem?_set_self hv]) o (tt.move fun p m => by rw [List.getElem?_set_ne fun z => tget_none w'.1 p m (z.symm.trans q.symm)])
      · rcases List.mem_append.mp m with z | z
        · exact List.mem_append_left _ z
        · exact List.mem_append_right _ (List.mem_append_right _ z)
    · have nn : (A1 ++ A0).Nodup := List.nodup_append.mpr ⟨n1, m2, fun a m b m' => n3 a m b (List.mem_append_right _ m')⟩
      obtain ⟨A', t', n', s'⟩ := TauOk.setO w'.2 tt hv o nn
      refine ⟨A ++ A', ?_, List.nodup_append.mpr ⟨m1, n', fun a m b m' => ?_⟩, fun a m => ?_⟩
      · show TauOk K F H (σ.set i (some v)) (if j = i then (i, t) :: r else (j, u) :: tset r i t) (A ++ A')
        rw [if_neg q]
        exact .cons (by rw [List.getElem?_set_ne fun z => q z.symm]; exact h) o' t'
      · rcases List.mem_append.mp (s' b m') with z | z
        · exact fun e => n3 b z a (List.mem_append_left _ m) e.symm
        · exact m3 a m b z
      · rcases List.mem_append.mp m with z | z
        · exact List.mem_append_right _ (List.mem_append_left _ z)
        · rcases List.mem_append.mp (s' a z) with z | z
          · exact List.mem_append_left _ z
          · exact List.mem_append_right _ (List.mem_append_right _ z)
def mSetO (i : Nat) (m : MX) : MS := fun s => (m s).bind fun p => if once p.2.ow = true ∧ i < p.2.fz.length then some (.nx ⟨fset p.2.fz i none, tset p.2.ow i p.1⟩) else none
theorem sv_setO {t : TE} {m : MV} (h : EV K t m) (hi : i ∉ Pr) : SV K Pr (tAsg t (gName i)) (mSetO i (mX m)) := ⟨fun s o em F H σ A D a k => by
  obtain ⟨⟨x, s1⟩, e1, em⟩ := Option.bind_eq_some_iff.mp em
  by_cases q : once s1.ow = true ∧ i < s1.fz.length
  · rw [if_pos q] at em
    cases em
    refine (xv h).run s x s1 e1 F H σ A _ a fun F1 H1 v A1 A2 g1 c1 o1 f1 t1 => ?_
    obtain ⟨A3, t3, n3, s3⟩ := t1.setO q.1 (by rw [← f1.1]; exact q.2) o1 c1.nd
    exact k F1 H1 _ A3 (g1.trans (Go.less s3)) ⟨c1.sub n3 s3, f1.drop i v, t3⟩ (agree_set hi)
  · rw [if_neg q] at em
    cases em⟩
theorem sr_setO {t : TE} {m : MV} (p : PS X st (tAsg t (gName i))) (h : EV X.K t m) (hi : i ∉ Pr := by decide) : SR X Pr st (mSetO i (mX m)) := ⟨fun s o em F H σ A D a k => wS p ((sv_setO h hi).run s o em F H σ A D a k)⟩
/-- target = e -/
def mAsg (ws : List Nat) (mt : MG) (m : MX) : MS := fun s => (m s).bind fun p => p.1.fz.bind fun d => (mt d p.2.fz).map fun fz => .nx ⟨fz, tout ws p.2.ow⟩
theorem TauOk.offs {τ : Tau} {A : List Addr} {σ' : L2.St} (t : TauOk K F H σ τ A) (n : A.Nodup) (ws : List Nat) (h : ∀ j, j ∉ ws → σ'[j]? = σ[j]?) : ∃ A', TauOk K F H σ' (tout ws τ) A' ∧ A'.Nodup ∧ ∀ a ∈ A', a ∈ A := by
  obtain ⟨A', t', n', s'⟩ := t.out ws n
  exact ⟨A', t'.move fun p m => h p.1 (tout_sub m).2, n', s'⟩
/-- x, y = e, e' -/
def mPar (i j : Nat) (l : ML) : MS := fun s => (l ⟨s.fz, []⟩ s.ow).bind fun p => (stL p.1).bind fun ds => match ds with
  | [d, e] => some (.nx ⟨fset (fset s.fz i (some d)) j (some e), tdel (tdel p.2 i) j⟩)
  | _ => none
/-- x op= e -/
def mAug (i : Nat) (g : List R → Option R) (m : MV) : MS := fun s => (fget s.fz i).bind fun d => (m ⟨s.fz, []⟩ s.ow).bind fun p => (g [rd d, p.1]).bind fun r => r.st.map fun z => .nx ⟨fset s.fz i (some z), tdel p.2 i⟩
theorem sr_aug {ti : TIp} {g : List R → Option R} {m : MV} (p : PS X st (tAug i (wpE X e) ti)) (vr : VR X.K (two ti) g) (h : ER X e m) (hi : i ∉ Pr := by decide) : SR X Pr st (mAug i g m) := ⟨fun s o em F H σ A D a k => by
  obtain ⟨d, e0, em⟩ := Option.bind_eq_some_iff.mp em
  obtain ⟨⟨y, τ1⟩, e1, em⟩ := Option.bind_eq_some_iff.mp em
  obtain ⟨r, e2, em⟩ := Option.bind_eq_some_iff.mp em
  obtain ⟨z, e3, em⟩ := Option.map_eq_some_iff.mp em
  cases em
  obtain ⟨v, hv, rv⟩ := a.fz.2 i d e0
  refine wS p ⟨v, hv, h.run _ _ y τ1 e1 F noH H σ A _ a.at_ fun F1 H1 u A1 A2 g1 c1 o1 t1 => ?_⟩
  have ov : RsOk X.K F1 noH H1 [rd d, y] [v, u] ([] ++ (A1 ++ [])) := .cons (.leaf (rv.mono g1.ff)) (.cons o1 .nil)
  rw [List.append_nil, List.nil_append] at ov
  have big : two ti [v, u] H1 fun w H2 => D.nx (σ.set i (some w)) H2 := vr _ r e2 F1 noH H1 [v, u] A1 _ c1.left ov fun F2 H2 w A' g2 c2 o2 => by
    obtain ⟨g3, c3⟩ := Go.framedR c1 g2 c2
    obtain ⟨F3, g4, c4, s4, rw'⟩ := o2.freeze c3 e3
    have t3 := (t1.stay g2.ff fun b m x q => g2.keep b x (fun z => c1.apart b z m) q).stay s4 fun _ _ _ q => q
    obtain ⟨A3, t5, n5, s5⟩ := t3.setD c4.nd i w
    exact k F3 H2 _ A3 (((g1.trans g3).trans g4).trans (Go.less s5)) ⟨c4.sub n5 s5, (((a.fz.mono g1.ff).mono g3.ff).mono s4).set rw' i, t5⟩ (agree_set hi)
  obtain ⟨_, _, e4, q⟩ := big
  cases e4
  exact q⟩
/-- a slot's thing frozen, by the proof alone -/
def mFrz (i : Nat) : SS → Option SS := fun s => (tget s.ow i).bind fun t => t.fz.map fun d => ⟨fset s.fz i (some d), tdel s.ow i⟩
def mPre (f : SS → Option SS) (m : MS) : MS := fun s => (f s).bind m
theorem sr_frz {m : MS} (h : SR X Pr st m) (i : Nat) : SR X Pr st (mPre (mFrz i) m) := ⟨fun s o em F H σ A D a k => by
  obtain ⟨s1, e1, em⟩ := Option.bind_eq_some_iff.mp em
  obtain ⟨t, e2, e3⟩ := Option.bind_eq_some_iff.mp e1
  obtain ⟨d, e4, e5⟩ := Option.map_eq_some_iff.mp e3
  subst e5
  obtain ⟨v, A1, A2, hv, ov, t', n, sb⟩ := a.ow.take a.cn.nd e2
  have c := a.cn.sub n sb
  obtain ⟨g2, c2, s2, h2⟩ := c.freeze
  have same : σ.set i (some v) = σ := by
    refine List.ext_getElem? fun j => ?_
    by_cases q : j = i
    · subst q
      obtain ⟨hl, _⟩ := List.getElem?_eq_some_iff.mp hv
      rw [List.getElem?_set_self hl, hv]
    · rw [List.getElem?_set_ne fun z => q z.symm]
  have rv := Own.rep s2 ov h2 e4
  obtain ⟨A3, t3, n3, s3⟩ := (t'.stay s2 fun _ _ _ q => q).del i c2.nd
  have td : ∀ (τ : Tau), tdel (tset τ i .hole) i = tdel τ i := fun τ => by
    induction τ with
    | nil =>
      show (if i = i then ([] : Tau) else _) = []
      rw [if_pos rfl]
    | cons p r ih =>
      obtain ⟨j, u⟩ := p
      show tdel (if j = i then (i, T.hole) :: r else (j, u) :: tset r i .hole) i = (if j = i then tdel r i else (j, u) :: tdel r i)
      by_cases q : j = i
      · rw [if_pos q, if_pos q]
        show (if i = i then tdel r i else _) = tdel r i
        rw [if_pos rfl]
      · rw [if_neg q, if_neg q]
        show (if j = i then tdel (tset r i .hole) i else (j, u) :: tdel (tset r i .hole) i) = _
        rw [if_neg q, ih]
  rw [td] at t3
  have f2 := (a.fz.mono s2).set rv i
  rw [same] at f2
  exact h.run _ o em _ H σ A3 D ⟨c2.sub n3 s3, f2, t3⟩ (k.behind (((Go.less sb).trans g2).trans (Go.less s3)) Agree.refl)⟩

def forL (ws : List Nat) (mt : MG) (body : MS) : List D → SS → Option Out
  | [], s => some (.nx s)
  | d :: ds, s => (mt d s.fz).bind fun fz => (body ⟨fz, tout ws s.ow⟩).bind fun o => match o with
    | .nx s1 => forL ws mt body ds s1
    | .ct s1 => forL ws mt body ds s1
    | .bk s1 => some (.nx s1)
    | .rt t s1 => some (.rt t s1)
def mFor (ws : List Nat) (mi : MXI) (mt : MG) (body : MS) : MS := fun s => (mi s).bind fun p => forL ws mt body p.1 p.2
theorem sr_for {ws : List Nat} {tg iter : Expr} {body : List Stmt} {mi : MI} {mt : MG} {mb : MS} (hp : PassesOwn (model X.prog X.w) X.A X.env X.xe) (hc : X.calm = true) (hi : IR X tg iter mi) (hg : GR X tg ws mt) (hb : SRs X Pr body mb)
    (hw : ∀ j ∈ ws, j ∉ Pr := by decide) (hs : ∀ x, foldedSetIterable iter X.env x = pure x := by intro _; rfl) : SR X Pr (.For tg iter body [] pos) (mFor ws (mXI mi) mt mb) := ⟨fun s o em F H σ A D a k => by
  obtain ⟨⟨ds, s1⟩, e1, em⟩ := Option.bind_eq_some_iff.mp em
  refine wS (ps_for hp hc piW pgW pssW hs) ((xi hi).run s ds s1 e1 F H σ A _ a fun F1 H1 A1 J g1 a1 src => ?_)
  have k1 := k.behind g1 (Agree.refl (σ := σ))
  refine ⟨fun i m σi Hi => m = ds.length - i ∧ i ≤ ds.length ∧ ∃ (Fi : Hp) (si : SS) (Ai : List Addr), forL ws mt mb (ds.drop i) si = some o ∧ Go F1 H1 A1 Fi Hi Ai ∧ SAt X.K Fi Hi σi si Ai ∧ Agree Pr σ σi,
    ⟨ds.length, by omega, Nat.zero_le _, F1, s1, A1, em, Go.refl, a1, Agree.refl⟩, ?_⟩
  rintro i m σi Hi ⟨rfl, hi', Fi, si, Ai, el, gi, ai, ag⟩
  have ki := k1.behind gi ag
  by_cases hlt : i < ds.length
  · refine .inr ?_
    have ei : ds[i]? = some ds[i] := List.getElem?_eq_getElem hlt
    refine ⟨src.go Fi Hi gi.ff ai.cn.fh same_noH i _ ei, fun σ' H' => ∃ (Fi : Hp) (si : SS) (Ai : List Addr), forL ws mt mb (ds.drop (i + 1)) si = some o ∧ Go F1 H1 A1 Fi H' Ai ∧ SAt X.K Fi H' σ' si Ai ∧ Agree Pr σ σ',
      fun σ' H' q => ⟨ds.length - (i + 1), by omega, rfl, hlt, q⟩, fun x H2 y => ?_⟩
    obtain ⟨F2, w1, rx⟩ := src.yld Fi Hi gi.ff ai.cn.fh same_noH i _ ei x H2 y
    obtain ⟨g2, c2⟩ := w1 noH Ai ai.cn
    have stand : ∀ (b : Addr) (u : HO), Hi b = some u → H2 b = some u := fun b u q => (w1 noH [] ⟨ai.cn.fh, same_noH, .nil, (fun _ z => nomatch z), (fun _ z => nomatch z), (fun _ z => nomatch z)⟩).1.keep b u (fun z => nomatch z) q
    have t2 := ai.ow.stay g2.ff fun b _ u q => stand b u q
    rw [List.drop_eq_getElem_cons hlt] at el
    obtain ⟨fz, f1, el⟩ := Option.bind_eq_some_iff.mp el
    obtain ⟨ob, f2, el⟩ := Option.bind_eq_some_iff.mp el
    refine hg.run _ _ fz f1 F2 H2 σi x _ rx c2.fh (ai.fz.mono g2.ff) fun σ2 o2 l2 k2 => ?_
    obtain ⟨A3, t3, n3, s3⟩ := t2.offs c2.nd ws k2
    have ag2 : Agree Pr σi σ2 := fun j m => k2 j fun z => hw j z m
    have g3 : Go Fi Hi Ai F2 H2 A3 := g2.trans (Go.less s3)
    refine hb.run _ ob f2 F2 H2 σ2 A3 _ ⟨c2.sub n3 s3, o2, t3⟩ ?_
    have k2' := ki.behind g3 ag2
    cases ob with
    | nx s4 => exact fun F' H' σ' A' g' a' e' => ⟨F', s4, A', el, (gi.trans g3).trans g', a', fun j m => ((e' j m).trans (ag2 j m)).trans (ag j m)⟩
    | ct s4 => exact fun F' H' σ' A' g' a' e' => ⟨F', s4, A', el, (gi.trans g3).trans g', a', fun j m => ((e' j m).trans (ag2 j m)).trans (ag j m)⟩
    | bk s4 =>
      cases el
      exact fun F' H' σ' A' g' a' e' => k2' F' H' σ' A' g' a' e'
    | rt t s4 =>
      cases el
      exact fun F' H' σ' v A1 A2 g' c o f t e' => k2' F' H' σ' v A1 A2 g' c o f t e'
  · have e : i = ds.length := by omega
    subst e
    rw [List.drop_length] at el
    cases el
    exact .inl ⟨src.stop Fi Hi gi.ff ai.cn.fh same_noH _ (Nat.le_refl _), ki Fi Hi σi Ai Go.refl ai Agree.refl⟩⟩
/-- while, so many turns at most -/
def whL (mc : MXB) (body : MS) : Nat → SS → Option Out
  | 0, _ => none
  | n + 1, s => (mc s).bind fun p => if p.1 = true then (body p.2).bind fun o => match o with
      | .nx s1 => whL mc body n s1
      | .ct s1 => whL mc body n s1
      | .bk s1 => some (.nx s1)
      | .rt t s1 => some (.rt t s1)
    else some (.nx p.2)
def mWhile (n : Nat) (mc : MXB) (body : MS) : MS := fun s => whL mc body n s
theorem sr_while {c : Expr} {body : List Stmt} {mc : MB} {mb : MS} (n : Nat) (hp : PassesOwn (model X.prog X.w) X.A X.env X.xe) (hc : TR X c mc) (hb : SRs X Pr body mb) : SR X Pr (.While c body [] pos) (mWhile n (mXB mc) mb) := ⟨fun s o em F H σ A D a k => by
  refine wS (ps_while hp ptW pssW) ?_
  refine ⟨fun m σi Hi => ∃ (Fi : Hp) (si : SS) (Ai : List Addr), whL (mXB mc) mb m si = some o ∧ Go F H A Fi Hi Ai ∧ SAt X.K Fi Hi σi si Ai ∧ Agree Pr σ σi, ⟨n, F, s, A, em, Go.refl, a, Agree.refl⟩, ?_⟩
  rintro m σi Hi ⟨Fi, si, Ai, el, gi, ai, ag⟩
  have ki := k.behind gi ag
  cases m with
  | zero => cases el
  | succ m =>
    obtain ⟨⟨b, s1⟩, e1, el⟩ := Option.bind_eq_some_iff.mp el
    refine (xb hc).run si b s1 e1 Fi Hi σi Ai _ ai fun F1 H1 A1 g1 a1 => ?_
    cases b with
    | false =>
      rw [if_neg Bool.false_ne_true] at el ⊢
      cases el
      exact ki F1 H1 σi A1 g1 a1 Agree.refl
    | true =>
      rw [if_pos rfl] at el ⊢
      obtain ⟨ob, f2, el⟩ := Option.bind_eq_some_iff.mp el
      refine ⟨fun σ' H' => ∃ (Fi : Hp) (si : SS) (Ai : List Addr), whL (mXB mc) mb m si = some o ∧ Go F H A Fi H' Ai ∧ SAt X.K Fi H' σ' si Ai ∧ Agree Pr σ σ', fun σ' H' q => ⟨m, Nat.lt_succ_self m, q⟩, ?_⟩
      refine hb.run _ ob f2 F1 H1 σi A1 _ a1 ?_
      have k2' := ki.behind g1 (Agree.refl (σ := σi))
      cases ob with
      | nx s4 => exact fun F' H' σ' A' g' a' e' => ⟨F', s4, A', el, (gi.trans g1).trans g', a', fun j m => (e' j m).trans (ag j m)⟩
      | ct s4 => exact fun F' H' σ' A' g' a' e' => ⟨F', s4, A', el, (gi.trans g1).trans g', a', fun j m => (e' j m).trans (ag j m)⟩
      | bk s4 =>
        cases el
        exact fun F' H' σ' A' g' a' e' => k2' F' H' σ' A' g' a' e'
      | rt t s4 =>
        cases el
        exact fun F' H' σ' v A1 A2 g' c o f t e' => k2' F' H' σ' v A1 A2 g' c o f t e'⟩
end
end Tl

namespace Tl
open PySem PySem.Spec PyProof.Rows L2

/-- a def's mirror: its arguments, the result and the arguments as they are behind -/
abbrev MF := List T → Option (T × List T)
def spM (K : PySem.W.Frag) (n : Nat) (m : MF) : Sp := fun vs H Q _ => vs.length = n ∧ ∃ (F : Hp) (A : List Addr) (ts : List T) (r : T) (ts' : List T), Cn F noH H A ∧ OwnL K F H vs ts A ∧ m ts = some (r, ts') ∧
  ∀ (F' H' : Hp) (v : V) (A1 A2 : List Addr), Go F H A F' H' (A1 ++ A2) → Cn F' noH H' (A1 ++ A2) → Own K F' H' v r A1 → OwnL K F' H' vs ts' A2 → Q v H'
def inFz : List Bool → List T → Option Fz
  | [], [] => some []
  | true :: ks, _ :: ts => (inFz ks ts).map (none :: ·)
  | false :: ks, .leaf d :: ts => (inFz ks ts).map (some d :: ·)
  | _, _ => none
def inTau : Nat → List Bool → List T → Tau
  | i, true :: ks, t :: ts => (i, t) :: inTau (i + 1) ks ts
  | i, false :: ks, _ :: ts => inTau (i + 1) ks ts
  | _, _, _ => []
def outT : Nat → List Bool → List T → Tau → Option (List T)
  | _, [], [], _ => some []
  | i, true :: ks, _ :: ts, τ => (tget τ i).bind fun t => (outT (i + 1) ks ts (tset τ i .hole)).map (t :: ·)
  | i, false :: ks, t :: ts, τ => (outT (i + 1) ks ts τ).map (t :: ·)
  | _, _, _, _ => none
def outP : Nat → List Bool → List Nat
  | _, [] => []
  | i, true :: ks => i :: outP (i + 1) ks
  | i, false :: ks => outP (i + 1) ks
def mFn (ks : List Bool) (n : Nat) (body : MS) : MF := fun ts => (inFz ks ts).bind fun fz => (body ⟨fz ++ List.replicate (n - ks.length) none, inTau 0 ks ts⟩).bind fun o => match o with
  | .rt t s => (outT 0 ks ts s.ow).map fun ts' => (t, ts')
  | .nx s => (outT 0 ks ts s.ow).map fun ts' => (.leaf .none, ts')
  | _ => none
section
variable {K : PySem.W.Frag} {F F' H H' : Hp} {σ : L2.St}
theorem inFz_ok : ∀ {ks : List Bool} {vs : List V} {ts : List T} {A : List Addr} {fz : Fz}, OwnL K F H vs ts A → inFz ks ts = some fz → fz.length = vs.length ∧ ks.length = vs.length ∧ ∀ i d, fget fz i = some d → ∃ v, vs[i]? = some v ∧ Rep K F v d
  | [], _, _, _, _, .nil, e => by
    cases e
    exact ⟨rfl, rfl, fun i d h => nomatch h⟩
  | [], _, _, _, _, .cons _ _, e => nomatch e
  | true :: _, _, _, _, _, .nil, e => nomatch e
  | false :: _, _, _, _, _, .nil, e => nomatch e
  | true :: ks, _, t :: ts, _, _, .cons o tt, e => by
    have e' : (inFz ks ts).map (none :: ·) = some _ := e
    obtain ⟨f, e1, e2⟩ := Option.map_eq_some_iff.mp e'
    subst e2
    obtain ⟨h1, h2, h3⟩ := inFz_ok tt e1
    refine ⟨congrArg (· + 1) h1, congrArg (· + 1) h2, fun i d h => ?_⟩
    cases i with
    | zero => cases h
    | succ i => exact h3 i d h
  | false :: ks, _, t :: ts, _, _, .cons o tt, e => by
    cases t with
    | leaf d0 =>
      have e' : (inFz ks ts).map (some d0 :: ·) = some _ := e
      obtain ⟨f, e1, e2⟩ := Option.map_eq_some_iff.mp e'
      subst e2
      obtain ⟨h1, h2, h3⟩ := inFz_ok tt e1
      refine ⟨congrArg (· + 1) h1, congrArg (· + 1) h2, fun i d h => ?_⟩
      cases i with
      | zero =>
        cases h
        cases o with
        | leaf r => exact ⟨_, rfl, r⟩
      | succ i => exact h3 i d h
    | _ => cases e
theorem inTau_ok : ∀ {ks : List Bool} {vs : List V} {ts : List T} {A : List Addr} {fz : Fz} (j : Nat), OwnL K F H vs ts A → inFz ks ts = some fz → (∀ i v, vs[i]? = some v → σ[j + i]? = some (some v)) → TauOk K F H σ (inTau j ks ts) A
  | [], _, _, _, _, j, .nil, e, h => .nil
  | [], _, _, _, _, j, .cons _ _, e, h => nomatch e
  | true :: _, _, _, _, _, j, .nil, e, h => nomatch e
  | false :: _, _, _, _, _, j, .nil, e, h => nomatch e
  | true :: ks, v :: vs, t :: ts, _, _, j, .cons o tt, e, h => by
    have e' : (inFz ks ts).map (none :: ·) = some _ := e
    obtain ⟨f, e1, e2⟩ := Option.map_eq_some_iff.mp e'
    exact .cons (h 0 v rfl) o (inTau_ok (j + 1) tt e1 fun i w q => by
      rw [show j + 1 + i = j + (i + 1) by omega]
      exact h (i + 1) w q)
  | false :: ks, v :: vs, t :: ts, _, _, j, .cons o tt, e, h => by
    cases t with
    | leaf d0 =>
      have e' : (inFz ks ts).map (some d0 :: ·) = some _ := e
      obtain ⟨f, e1, e2⟩ := Option.map_eq_some_iff.mp e'
      cases o with
      | leaf r =>
        exact inTau_ok (j + 1) tt e1 fun i w q => by
          rw [show j + 1 + i = j + (i + 1) by omega]
          exact h (i + 1) w q
    | _ => cases e
theorem outT_ok : ∀ {ks : List Bool} {vs : List V} {ts ts' : List T} {A A0 : List Addr} {F0 H0 : Hp} {fz : Fz} {τ : Tau} (j : Nat), OwnL K F0 H0 vs ts A0 → Same F0 F → inFz ks ts = some fz → TauOk K F H σ τ A → A.Nodup →
    (∀ i v, vs[i]? = some v → j + i ∈ outP j ks → σ[j + i]? = some (some v)) → outT j ks ts τ = some ts' → ∃ A', OwnL K F H vs ts' A' ∧ A'.Nodup ∧ ∀ a ∈ A', a ∈ A
  | [], _, _, _, _, _, _, _, _, _, j, .nil, s, e, t, n, h, w => by
    cases w
    exact ⟨[], .nil, .nil, fun _ m => nomatch m⟩
  | [], _, _, _, _, _, _, _, _, _, j, .cons _ _, s, e, t, n, h, w => nomatch e
  | true :: _, _, _, _, _, _, _, _, _, _, j, .nil, s, e, t, n, h, w => nomatch e
  | false :: _, _, _, _, _, _, _, _, _, _, j, .nil, s, e, t, n, h, w => nomatch e
  | true :: ks, v :: vs, t0 :: ts, _, _, _, _, _, _, τ, j, .cons o tt, s, e, t, n, h, w => by
    have e' : (inFz ks ts).map (none :: ·) = some _ := e
    obtain ⟨f, e1, e2⟩ := Option.map_eq_some_iff.mp e'
    have w' : (tget τ j).bind (fun t => (outT (j + 1) ks ts (tset τ j .hole)).map (t :: ·)) = some _ := w
    obtain ⟨t1, e3, w'⟩ := Option.bind_eq_some_iff.mp w'
    obtain ⟨ts1, e4, e5⟩ := Option.map_eq_some_iff.mp w'
    subst e5
    obtain ⟨u, A1, A2, hu, ou, t2, n2, s2⟩ := t.take n e3
    have hv : σ[j]? = some (some v) := h 0 v rfl (by show j ∈ j :: outP (j + 1) ks; exact List.mem_cons_self)
    rw [hu] at hv
    cases hv
    obtain ⟨A3, o3, n3, s3⟩ := outT_ok (j + 1) tt s e1 t2 (List.nodup_append.mp n2).2.1 (fun i x q m => by
      have := h (i + 1) x q (by
        show j + (i + 1) ∈ j :: outP (j + 1) ks
        rw [show j + (i + 1) = j + 1 + i by omega]
        exact List.mem_cons_of_mem _ m)
      rw [show j + 1 + i = j + (i + 1) by omega]
      exact this) e4
    refine ⟨A1 ++ A3, .cons ou o3, List.nodup_append.mpr ⟨(List.nodup_append.mp n2).1, n3, fun a m b m' => (List.nodup_append.mp n2).2.2 a m b (s3 b m')⟩, fun a m => ?_⟩
    rcases List.mem_append.mp m with z | z
    · exact s2 a (List.mem_append_left _ z)
    · exact s2 a (List.mem_append_right _ (s3 a z))
  | false :: ks, v :: vs, t0 :: ts, _, _, _, _, _, _, τ, j, .cons o tt, s, e, t, n, h, w => by
    cases t0 with
    | leaf d0 =>
      have e' : (inFz ks ts).map (some d0 :: ·) = some _ := e
      obtain ⟨f, e1, e2⟩ := Option.map_eq_some_iff.mp e'
      have w' : (outT (j + 1) ks ts τ).map (T.leaf d0 :: ·) = some _ := w
      obtain ⟨ts1, e4, e5⟩ := Option.map_eq_some_iff.mp w'
      subst e5
      obtain ⟨A3, o3, n3, s3⟩ := outT_ok (j + 1) tt s e1 t n (fun i x q m => by
        have := h (i + 1) x q (by
          show j + (i + 1) ∈ outP (j + 1) ks
          rw [show j + (i + 1) = j + 1 + i by omega]
          exact m)
        rw [show j + 1 + i = j + (i + 1) by omega]
        exact this) e4
      cases o with
      | leaf r => exact ⟨[] ++ A3, .cons (.leaf (r.mono s)) o3, n3, s3⟩
    | _ => cases e
end
/-- a def that is called by its name -/
structure Fm (P : Program) (w : World) (K : PySem.W.Frag) (mg : Str → Option Value) (base : Heap) (k : Nat) (x : Str) (n : Nat) (m : MF) : Prop where
  ex : ∃ (f : Addr) (fd : FuncData) (ps : List Str), FnG P w K mg base CX0 k f fd ps (spM K n m) ∧ mg x = some (.ref f) ∧ PySem.W.keepIn K (.ref f) = true ∧ Binds K fd ps []
theorem fget_rep : ∀ {k i : Nat} {d : D}, fget (List.replicate k none) i = some d → False
  | 0, i, d, h => nomatch h
  | k + 1, 0, d, h => nomatch (show (none : Option D) = some d from h)
  | k + 1, i + 1, d, h => fget_rep (k := k) (i := i) h
theorem fgetA : ∀ {f : Fz} {k i : Nat} {d : D}, fget (f ++ List.replicate k none) i = some d → fget f i = some d
  | [], k, i, d, h => (fget_rep (k := k) (i := i) h).elim
  | x :: r, k, 0, d, h => h
  | x :: r, k, i + 1, d, h => fgetA (f := r) (k := k) (i := i) h
section
variable {P : Program} {w : World} {K : PySem.W.Frag} {mg : Str → Option Value} {base : Heap}
theorem wpB_nox {X : Cx} {sts : List Stmt} {D : Ends} {σ : L2.St} {H : Hp} (h : wpB X.nox sts D σ H) : wpB X sts D σ H := wB (PSs.nox pssW) h
theorem fm_of {x : Str} {st : Stmt} {f : Addr} {fd : FuncData} {N ps : List Str} {k : Nat} (F : Fun K x x st f fd) (S : FnScope N ps (defScope st)) (hb : Binds K fd ps []) (hm : mg x = some (.ref f)) (ks : List Bool) (hk : ks.length = ps.length)
    {mb : MS} (body : ∀ (cdv : Value) (Ar : Around) (up : List Env) (s : Shared) (H : Hp) (E : XK), RmG k (Ar.deeper (envOfC x (defScope st) s.heap.objs.size f cdv)) →
      SRs (cxOf CX0 P w K mg base N x (defScope st) f cdv Ar up s H E).nox (outP 0 ks) (defBody st) mb) : Fm P w K mg base (k + 1) x ps.length (mFn ks N.length mb) := by
  refine ⟨f, fd, ps, defG F S (fun vs H Q E h => h.1) fun cdv Ar up s H vs Q E hr h => ?_, hm, F.kp, hb⟩
  obtain ⟨hl, Fz0, A, ts, r, ts', c, o, em, kk⟩ := h
  obtain ⟨fz, e1, em⟩ := Option.bind_eq_some_iff.mp em
  obtain ⟨out, e2, em⟩ := Option.bind_eq_some_iff.mp em
  obtain ⟨l1, l2, l3⟩ := inFz_ok o e1
  have hN : ps.length ≤ N.length := by
    have := congrArg List.length S.pre
    rw [List.length_take] at this
    omega
  have slen : (L2.start N vs).length = N.length := by
    unfold L2.start
    rw [List.length_append, List.length_map, List.length_replicate]
    omega
  have sat : ∀ i v, vs[i]? = some v → (L2.start N vs)[i]? = some (some v) := fun i v q => by
    have hi : i < vs.length := (List.getElem?_eq_some_iff.mp q).1
    unfold L2.start
    rw [List.getElem?_append_left (by rw [List.length_map]; exact hi), List.getElem?_map, q]
    rfl
  have fok : FzOk K Fz0 (L2.start N vs) (fz ++ List.replicate (N.length - ks.length) none) := by
    refine ⟨by rw [List.length_append, List.length_replicate, slen]; omega, fun i d q => ?_⟩
    obtain ⟨v, q1, q2⟩ := l3 i d (fgetA q)
    exact ⟨v, sat i v q1, q2⟩
  have tok : TauOk K Fz0 H (L2.start N vs) (inTau 0 ks ts) A := inTau_ok 0 o e1 fun i v q => by
    rw [Nat.zero_add]
    exact sat i v q
  have back : ∀ {F' H' : Hp} {σ' : L2.St} {τ : Tau} {A1 A2 : List Addr} {v : V} {r0 : T}, Go Fz0 H A F' H' (A1 ++ A2) → Cn F' noH H' (A1 ++ A2) → Own K F' H' v r0 A1 → TauOk K F' H' σ' τ A2 → Agree (outP 0 ks) (L2.start N vs) σ' →
      r = r0 → outT 0 ks ts τ = some ts' → Q v H' := fun {F' H' σ' τ A1 A2 v r0} g c' ov t ag er eo => by
    subst er
    obtain ⟨A3, o3, n3, s3⟩ := outT_ok 0 o g.ff e1 t c'.right.nd (fun i u q m => by
      rw [Nat.zero_add] at m ⊢
      rw [ag i m]
      exact sat i u q) eo
    have sub : ∀ a ∈ A1 ++ A3, a ∈ A1 ++ A2 := fun a m => (List.mem_append.mp m).elim (fun z => List.mem_append_left _ z) fun z => List.mem_append_right _ (s3 a z)
    have nd : (A1 ++ A3).Nodup := List.nodup_append.mpr ⟨c'.left.nd, n3, fun a m b m' e => c'.apart a m (e ▸ s3 b m')⟩
    exact kk F' H' v A1 A3 (g.trans (Go.less sub)) (c'.sub nd sub) ov o3
  refine wpB_nox ((body cdv Ar up s H E hr).run _ out e2 Fz0 H (L2.start N vs) A _ ⟨c, fok, tok⟩ ?_)
  cases out with
  | nx s1 =>
    obtain ⟨t1, e3, e4⟩ := Option.map_eq_some_iff.mp em
    cases e4
    exact fun F' H' σ' A' g a' ag => back (A1 := []) (A2 := A') g a'.cn (.leaf .non) a'.ow ag rfl e3
  | rt t s1 =>
    obtain ⟨t1, e3, e4⟩ := Option.map_eq_some_iff.mp em
    cases e4
    exact fun F' H' σ' v A1 A2 g c' ov f' t' ag => back g c' ov t' ag rfl e3
  | bk s1 => cases em
  | ct s1 => cases em
end

inductive CArg where
  | d (d : D)
  | io (j : Nat)
  | ow (t : T)
abbrev MCA := Ro → Tau → Option (List CArg × Tau)
section
variable (K : PySem.W.Frag)
/-- G: where what is handed frozen lies -/
inductive CsOk (G F H : Hp) (σ : L2.St) : List CArg → List V → List Addr → Prop
  | nil : CsOk G F H σ [] [] []
  | d {v : V} {d : D} {cs : List CArg} {vs : List V} {A : List Addr} : Rep K G v d → CsOk G F H σ cs vs A → CsOk G F H σ (.d d :: cs) (v :: vs) A
  | io {v : V} {j : Nat} {cs : List CArg} {vs : List V} {A : List Addr} : σ[j]? = some (some v) → CsOk G F H σ cs vs A → CsOk G F H σ (.io j :: cs) (v :: vs) A
  | ow {v : V} {t : T} {cs : List CArg} {vs : List V} {A A' : List Addr} : Own K F H v t A' → CsOk G F H σ cs vs A → CsOk G F H σ (.ow t :: cs) (v :: vs) (A' ++ A)
structure CAV (bor : Bool) (wp : L2.St → Hp → (List V → Hp → Prop) → Prop) (n : Nat) (m : MCA) : Prop where
  len : ∀ (ro : Ro) (τ : Tau) (r : List CArg) (τ' : Tau), m ro τ = some (r, τ') → r.length = n
  run : ∀ (ro : Ro) (τ : Tau) (r : List CArg) (τ' : Tau), m ro τ = some (r, τ') → ∀ (F B H : Hp) (σ : L2.St) (A : List Addr) (Q : List V → Hp → Prop), At K F B H σ ro τ A →
    (∀ (F' H' : Hp) (v : List V) (A1 A2 : List Addr), Go F H A F' H' (A1 ++ A2) → Cn F' B H' (A1 ++ A2) → CsOk K (if bor = true then H' else F') F' H' σ r v A1 → TauOk K F' H' σ τ' A2 → Q v H') → wp σ H Q
end
theorem CsOk.stay {K : PySem.W.Frag} {G G' F F' H H' : Hp} {σ : L2.St} (g : Same G G') (s : Same F F') : ∀ {cs : List CArg} {vs : List V} {A : List Addr}, CsOk K G F H σ cs vs A → (∀ a ∈ A, ∀ o, H a = some o → H' a = some o) → CsOk K G' F' H' σ cs vs A
  | _, _, _, .nil, _ => .nil
  | _, _, _, .d r t, k => .d (r.mono g) (CsOk.stay g s t k)
  | _, _, _, .io r t, k => .io r (CsOk.stay g s t k)
  | _, _, _, .ow o t, k => .ow (o.stay s fun a m => k a (List.mem_append_left _ m)) (CsOk.stay g s t fun a m => k a (List.mem_append_right _ m))
theorem CsOk.length {K : PySem.W.Frag} {G F H : Hp} {σ : L2.St} : ∀ {cs : List CArg} {vs : List V} {A : List Addr}, CsOk K G F H σ cs vs A → vs.length = cs.length
  | _, _, _, .nil => rfl
  | _, _, _, .d r t => congrArg (· + 1) (CsOk.length t)
  | _, _, _, .io r t => congrArg (· + 1) (CsOk.length t)
  | _, _, _, .ow r t => congrArg (· + 1) (CsOk.length t)
abbrev CA (X : Cx) (bor : Bool) (es : List Expr) (m : MCA) : Prop := CAV X.K bor (wpA X es) es.length m
section
variable {X : Cx} {e : Expr} {es : List Expr} {bor : Bool}
def cNil : MCA := fun _ τ => some ([], τ)
def cCons (m : MV) (l : MCA) : MCA := fun ro τ => (m ro τ).bind fun p => p.1.st.bind fun d => (l ro p.2).map fun q => (.d d :: q.1, q.2)
/-- .. seen through a glass -/
def cSee (m : MV) (l : MCA) : MCA := fun ro τ => (m ro τ).bind fun p => p.1.er.bind fun d => (l ro p.2).map fun q => (.d d :: q.1, q.2)
def cIo (j : Nat) (l : MCA) : MCA := fun ro τ => (tget τ j).bind fun _ => (l ro τ).map fun q => (.io j :: q.1, q.2)
/-- a new thing, handed over -/
def cOw (m : MV) (l : MCA) : MCA := fun ro τ => (m ro τ).bind fun p => match p.1 with
  | .val t => (l ro p.2).map fun q => (.ow t :: q.1, q.2)
  | .vw _ => none
theorem ca_nil : CA X bor [] cNil := ⟨fun ro τ r τ' em => by cases em; rfl, fun ro τ r τ' em F B H σ A Q a k => by
  cases em
  exact wA pa_nil (k F H [] [] A Go.refl a.cn .nil a.tau)⟩
theorem ca_cons {m : MV} {l : MCA} (h : ER X e m) (t : CA X bor es l) (hs : starEach (e :: es) X.env = (false, eval e X.env) :: starEach es X.env := by rfl) : CA X bor (e :: es) (cCons m l) := by
  refine ⟨fun ro τ r τ' em => ?_, fun ro τ r τ' em F B H σ A Q a k => ?_⟩
  · obtain ⟨⟨z, τ1⟩, e1, em⟩ := Option.bind_eq_some_iff.mp em
    obtain ⟨d, e2, em⟩ := Option.bind_eq_some_iff.mp em
    obtain ⟨⟨cs, τ2⟩, e3, em⟩ := Option.map_eq_some_iff.mp em
    cases em
    show cs.length + 1 = es.length + 1
    rw [t.len _ _ _ _ e3]
  · obtain ⟨⟨z, τ1⟩, e1, em⟩ := Option.bind_eq_some_iff.mp em
    obtain ⟨d, e2, em⟩ := Option.bind_eq_some_iff.mp em
    obtain ⟨⟨cs, τ2⟩, e3, em⟩ := Option.map_eq_some_iff.mp em
    cases em
    refine wA (pa_cons peW paW hs) (h.run ro τ z τ1 e1 F B H σ A _ a fun F1 H1 v A1 A2 g1 c1 o1 t1 => ?_)
    obtain ⟨F2, g2, c2, s2, rv⟩ := o1.freeze c1 e2
    refine t.run ro τ1 cs _ e3 F2 B H1 σ A2 _ (a.next0 (g1.trans g2) c2 (t1.stay s2 fun _ _ _ q => q)) fun F3 H3 vs A3 A4 g3 c3 o3 t3 => ?_
    refine k F3 H3 (v :: vs) A3 A4 ((g1.trans g2).trans g3) c3 (.d ?_ o3) t3
    cases bor with
    | true => exact (rv.mono g3.ff).mono c3.fh
    | false => exact rv.mono g3.ff
theorem ca_own {m : MV} {l : MCA} (h : ER X e m) (t : CA X false es l) (hs : starEach (e :: es) X.env = (false, eval e X.env) :: starEach es X.env := by rfl) : CA X false (e :: es) (cOw m l) := by
  refine ⟨fun ro τ r τ' em => ?_, fun ro τ r τ' em F B H σ A Q a k => ?_⟩
  · obtain ⟨⟨z, τ1⟩, e1, em⟩ := Option.bind_eq_some_iff.mp em
    cases z with
    | vw z => cases em
    | val z =>
      obtain ⟨⟨cs, τ2⟩, e3, em⟩ := Option.map_eq_some_iff.mp (show (l ro τ1).map (fun q => (CArg.ow z :: q.1, q.2)) = some (r, τ') from em)
      cases em
      show cs.length + 1 = es.length + 1
      rw [t.len _ _ _ _ e3]
  · obtain ⟨⟨z, τ1⟩, e1, em⟩ := Option.bind_eq_some_iff.mp em
    cases z with
    | vw z => cases em
    | val z =>
      obtain ⟨⟨cs, τ2⟩, e3, em⟩ := Option.map_eq_some_iff.mp (show (l ro τ1).map (fun q => (CArg.ow z :: q.1, q.2)) = some (r, τ') from em)
      cases em
      refine wA (pa_cons peW paW hs) (h.run ro τ _ τ1 e1 F B H σ A _ a fun F1 H1 v A1 A2 g1 c1 o1 t1 => ?_)
      refine t.run ro τ1 cs _ e3 F1 B H1 σ A2 _ (a.next g1 c1 t1) fun F3 H3 vs A3 A4 g3 c3 o3 t3 => ?_
      obtain ⟨g4, c4⟩ := Go.framed c1 g3 c3
      have o4 : Own X.K F1 H1 v z A1 := o1
      rw [← List.append_assoc] at g4 c4
      exact k F3 H3 (v :: vs) (A1 ++ A3) A4 (g1.trans g4) c4 (.ow (Go.beside c1 g3 o4) o3) t3
/-- what is not owned stands -/
theorem same_of {F B H H' F' : Hp} {A A2 : List Addr} (g : Go F H A F' H' A2) {G : Hp} (s : Same G H) (n : ∀ a ∈ A, G a = none) : Same G H' := fun b o q => g.keep b o (fun m => by rw [n b m] at q; cases q) (s b o q)
theorem ca_see {m : MV} {l : MCA} (h : ER X e m) (t : CA X true es l) (hs : starEach (e :: es) X.env = (false, eval e X.env) :: starEach es X.env := by rfl) : CA X true (e :: es) (cSee m l) := by
  refine ⟨fun ro τ r τ' em => ?_, fun ro τ r τ' em F B H σ A Q a k => ?_⟩
  · obtain ⟨⟨z, τ1⟩, e1, em⟩ := Option.bind_eq_some_iff.mp em
    obtain ⟨d, e2, em⟩ := Option.bind_eq_some_iff.mp em
    obtain ⟨⟨cs, τ2⟩, e3, em⟩ := Option.map_eq_some_iff.mp em
    cases em
    show cs.length + 1 = es.length + 1
    rw [t.len _ _ _ _ e3]
  · obtain ⟨⟨z, τ1⟩, e1, em⟩ := Option.bind_eq_some_iff.mp em
    obtain ⟨d, e2, em⟩ := Option.bind_eq_some_iff.mp em
    obtain ⟨⟨cs, τ2⟩, e3, em⟩ := Option.map_eq_some_iff.mp em
    cases em
    refine wA (pa_cons peW paW hs) (h.run ro τ z τ1 e1 F B H σ A _ a fun F1 H1 v A1 A2 g1 c1 o1 t1 => ?_)
    -- what is read lies in G: all that A2 does not own
    let G : Hp := fun b => if b ∈ A2 then none else H1 b
    have inG : ∀ b o, b ∉ A2 → H1 b = some o → G b = some o := fun b o n q => by
      show (if b ∈ A2 then none else H1 b) = some o
      rw [if_neg n]
      exact q
    have gH : Same G H1 := fun b o q => by
      have q' : (if b ∈ A2 then none else H1 b) = some o := q
      by_cases n : b ∈ A2
      · rw [if_pos n] at q'
        cases q'
      · rw [if_neg n] at q'
        exact q'
    have nG : ∀ b ∈ A2, G b = none := fun b m => by
      show (if b ∈ A2 then none else H1 b) = none
      rw [if_pos m]
    have rv : Rep X.K G v d := o1.rep (fun b o q => inG b o (fun m => by rw [c1.fa b (List.mem_append_right _ m)] at q; cases q) (c1.fh b o q))
      (fun b o q => inG b o (fun m => by rw [c1.ba b (List.mem_append_right _ m)] at q; cases q) (c1.bh b o q)) (fun b m o q => inG b o (c1.apart b m) q) e2
    refine t.run ro τ1 cs _ e3 F1 B H1 σ A2 _ (a.next g1 c1 t1) fun F3 H3 vs A3 A4 g3 c3 o3 t3 => ?_
    exact k F3 H3 (v :: vs) A3 A4 ((g1.trans (Go.less fun _ m => List.mem_append_right _ m)).trans g3) c3 (.d (rv.mono (same_of (B := B) g3 gH nG)) o3) t3
theorem ca_io {j : Nat} {l : MCA} (h : PE X e (tVar j)) (t : CA X false es l) (hs : starEach (e :: es) X.env = (false, eval e X.env) :: starEach es X.env := by rfl) : CA X false (e :: es) (cIo j l) := by
  refine ⟨fun ro τ r τ' em => ?_, fun ro τ r τ' em F B H σ A Q a k => ?_⟩
  · obtain ⟨u, e0, em⟩ := Option.bind_eq_some_iff.mp em
    obtain ⟨⟨cs, τ2⟩, e3, em⟩ := Option.map_eq_some_iff.mp em
    cases em
    show cs.length + 1 = es.length + 1
    rw [t.len _ _ _ _ e3]
  · obtain ⟨u, e0, em⟩ := Option.bind_eq_some_iff.mp em
    obtain ⟨⟨cs, τ2⟩, e3, em⟩ := Option.map_eq_some_iff.mp em
    cases em
    obtain ⟨v, A1, A2, hv, _⟩ := a.tau.take a.cn.nd e0
    refine wA (pa_cons h paW hs) ⟨v, hv, t.run ro τ cs _ e3 F B H σ A _ a fun F3 H3 vs A3 A4 g3 c3 o3 t3 => ?_⟩
    exact k F3 H3 (v :: vs) A3 A4 g3 c3 (.io hv o3) t3
def buildT : List CArg → Tau → Option (List T × Tau)
  | [], τ => some ([], τ)
  | .d d :: cs, τ => (buildT cs τ).map fun p => (.leaf d :: p.1, p.2)
  | .ow t :: cs, τ => (buildT cs τ).map fun p => (t :: p.1, p.2)
  | .io j :: cs, τ => (tget τ j).bind fun t => (buildT cs (tset τ j .hole)).map fun p => (t :: p.1, p.2)
def backT : List CArg → List T → Tau → Option Tau
  | [], [], τ => some τ
  | .d _ :: cs, _ :: ts, τ => backT cs ts τ
  | .ow _ :: cs, _ :: ts, τ => backT cs ts τ
  | .io j :: cs, t :: ts, τ => (backT cs ts τ).map fun τ' => tset τ' j t
  | _, _, _ => none
variable {K : PySem.W.Frag} {F H : Hp} {σ : L2.St}
theorem buildT_ok : ∀ {cs : List CArg} {vs : List V} {τ τ1 : Tau} {ts : List T} {A0 A : List Addr}, CsOk K F F H σ cs vs A0 → TauOk K F H σ τ A → (A0 ++ A).Nodup → buildT cs τ = some (ts, τ1) →
    ∃ A1 A2, OwnL K F H vs ts A1 ∧ TauOk K F H σ τ1 A2 ∧ (A1 ++ A2).Nodup ∧ ∀ a ∈ A1 ++ A2, a ∈ A0 ++ A
  | _, _, τ, _, _, _, A, .nil, t, n, e => by
    cases e
    exact ⟨[], A, .nil, t, n, fun _ m => m⟩
  | .d d :: cs, _, τ, _, _, _, A, .d r c, t, n, e => by
    obtain ⟨⟨ts, τ2⟩, e1, e2⟩ := Option.map_eq_some_iff.mp (show (buildT cs τ).map _ = some _ from e)
    cases e2
    obtain ⟨A1, A2, o, t', n', s'⟩ := buildT_ok c t n e1
    exact ⟨[] ++ A1, A2, .cons (.leaf r) o, t', n', s'⟩
  | .ow u :: cs, _, τ, _, _, _, A, .ow (A := Ab) (A' := Aa) r c, t, n, e => by
    obtain ⟨⟨ts, τ2⟩, e1, e2⟩ := Option.map_eq_some_iff.mp (show (buildT cs τ).map _ = some _ from e)
    cases e2
    rw [List.append_assoc] at n
    obtain ⟨n1, n2, n3⟩ := List.nodup_append.mp n
    obtain ⟨A1, A2, o, t', n', s'⟩ := buildT_ok c t n2 e1
    refine ⟨Aa ++ A1, A2, .cons r o, t', ?_, fun a m => ?_⟩
    · rw [List.append_assoc]
      exact List.nodup_append.mpr ⟨n1, n', fun a m b m' => n3 a m b (s' b m')⟩
    · rw [List.append_assoc] at m ⊢
      rcases List.mem_append.mp m with z | z
      · exact List.mem_append_left _ z
      · exact List.mem_append_right _ (s' a z)
  | .io j :: cs, v :: vs, τ, _, _, A0, A, .io hv c, t, n, e => by
    obtain ⟨u, e0, e⟩ := Option.bind_eq_some_iff.mp (show (tget τ j).bind _ = some _ from e)
    obtain ⟨⟨ts, τ2⟩, e1, e2⟩ := Option.map_eq_some_iff.mp e
    cases e2
    obtain ⟨m1, m2, m3⟩ := List.nodup_append.mp n
    obtain ⟨w, A1, A2, hw, o, t2, n2, s2⟩ := t.take m2 e0
    rw [hv] at hw
    cases hw
    obtain ⟨n3, n4, n5⟩ := List.nodup_append.mp n2
    obtain ⟨A3, A4, o4, t4, n6, s4⟩ := buildT_ok c t2 (List.nodup_append.mpr ⟨m1, n4, fun a m b m' => m3 a m b (s2 b (List.mem_append_right _ m'))⟩) e1
    have in1 : ∀ a ∈ A1, a ∈ A := fun a m => s2 a (List.mem_append_left _ m)
    refine ⟨A1 ++ A3, A4, .cons o o4, t4, ?_, fun a m => ?_⟩
    · rw [List.append_assoc]
      refine List.nodup_append.mpr ⟨n3, n6, fun a m b m' => ?_⟩
      rcases List.mem_append.mp (s4 b m') with z | z
      · exact fun q => m3 b z a (in1 a m) q.symm
      · exact n5 a m b z
    · rw [List.append_assoc] at m
      rcases List.mem_append.mp m with z | z
      · exact List.mem_append_right _ (in1 a z)
      · rcases List.mem_append.mp (s4 a z) with z | z
        · exact List.mem_append_left _ z
        · exact List.mem_append_right _ (s2 a (List.mem_append_right _ z))
theorem backT_ok : ∀ {cs : List CArg} {G0 F0 H0 : Hp} {vs : List V} {τ τ' : Tau} {ts : List T} {A0 A1 A2 : List Addr}, CsOk K G0 F0 H0 σ cs vs A0 → OwnL K F H vs ts A1 → TauOk K F H σ τ A2 → (A1 ++ A2).Nodup → backT cs ts τ = some τ' → ∃ A', TauOk K F H σ τ' A' ∧ A'.Nodup ∧ ∀ a ∈ A', a ∈ A1 ++ A2
  | _, _, _, _, _, τ, _, _, _, _, A2, .nil, .nil, t, n, e => by
    cases e
    exact ⟨A2, t, n, fun _ m => m⟩
  | .d d :: cs, _, _, _, _, τ, _, t0 :: ts, _, _, A2, .d r c, .cons (A := Aa) (B := Ab) o os, t, n, e => by
    rw [List.append_assoc] at n
    obtain ⟨A', t', n', s'⟩ := backT_ok c os t (List.nodup_append.mp n).2.1 (show backT cs ts τ = some _ from e)
    refine ⟨A', t', n', fun a m => ?_⟩
    rw [List.append_assoc]
    exact List.mem_append_right _ (s' a m)
  | .ow d :: cs, _, _, _, _, τ, _, t0 :: ts, _, _, A2, .ow r c, .cons (A := Aa) (B := Ab) o os, t, n, e => by
    rw [List.append_assoc] at n
    obtain ⟨A', t', n', s'⟩ := backT_ok c os t (List.nodup_append.mp n).2.1 (show backT cs ts τ = some _ from e)
    refine ⟨A', t', n', fun a m => ?_⟩
    rw [List.append_assoc]
    exact List.mem_append_right _ (s' a m)
  | .io j :: cs, _, _, _, _, τ, _, t0 :: ts, _, _, A2, .io hv c, .cons (A := Aa) (B := Ab) o os, t, n, e => by
    obtain ⟨τ2, e1, e2⟩ := Option.map_eq_some_iff.mp (show (backT cs ts τ).map _ = some _ from e)
    subst e2
    rw [List.append_assoc] at n
    obtain ⟨n1, n2, n3⟩ := List.nodup_append.mp n
    obtain ⟨A', t', n', s'⟩ := backT_ok c os t n2 e1
    obtain ⟨A3, t3, n4, s3⟩ := t'.put hv o (List.nodup_append.mpr ⟨n1, n', fun a m b m' => n3 a m b (s' b m')⟩)
    refine ⟨A3, t3, n4, fun a m => ?_⟩
    rw [List.append_assoc]
    rcases List.mem_append.mp (s3 a m) with z | z
    · exact List.mem_append_left _ z
    · exact List.mem_append_right _ (s' a z)
/-- f(..), f a def of the text -/
def mCall (m : MF) (l : MCA) : MV := fun ro τ => (l ro τ).bind fun p => (buildT p.1 p.2).bind fun q => (m q.1).bind fun r => (backT p.1 r.2 q.2).map fun τ' => (.val r.1, τ')
def isScal : T → Bool
  | .leaf .none => true
  | .leaf (.bool _) => true
  | .leaf (.int _) => true
  | .leaf (.str _) => true
  | _ => false
def leafs : List CArg → Option (List T)
  | [] => some []
  | .d d :: cs => (leafs cs).map (.leaf d :: ·)
  | .io _ :: _ => none
  | .ow _ :: _ => none
/-- .. that only looks at its arguments and tells a scalar -/
def mLook (m : MF) (l : MCA) : MV := fun ro τ => (l ro τ).bind fun p => (leafs p.1).bind fun ts => (m ts).bind fun r => if isScal r.1 = true then some (.val r.1, p.2) else none
theorem scal_rep {v : V} {t : T} {A : List Addr} (h : isScal t = true) (o : Own K F H v t A) : A = [] ∧ ∀ F' H' : Hp, Own K F' H' v t [] := by
  cases o with
  | leaf r =>
    cases r with
    | non => exact ⟨rfl, fun _ _ => .leaf .non⟩
    | bl b => exact ⟨rfl, fun _ _ => .leaf (.bl b)⟩
    | int i => exact ⟨rfl, fun _ _ => .leaf (.int i)⟩
    | str x => exact ⟨rfl, fun _ _ => .leaf (.str x)⟩
    | _ => cases h
  | _ => cases h
variable {x : Str} {p pos : Pos} {k n : Nat} {m : MF} {l : MCA}
theorem er_call (c : Fm X.prog X.w X.K X.mg X.base k x n m) {j : Nat} (hr : RmG j X.A) (ha : CA X false (e :: es) l) (hkj : k ≤ j := by decide) (hn : (e :: es).length = n := by rfl) (hg : Gl X x := by rfl) (hdb : (x == ("__debug__" : Str)) = false := by decide)
    (he : starEach (e :: es) X.env = (false, eval e X.env) :: starEach es X.env := by rfl) (hpl : (backTo pos (starEach es X.env)).any (·.1) = false := by rfl) : ER X (.Call (.Name x p) (e :: es) [] pos) (mCall m l) := ⟨fun ro τ r τ' em F B H σ A Q a kk => by
  obtain ⟨f, fd, ps, G, hm, hk, hb⟩ := c.ex
  obtain ⟨⟨cs, τ1⟩, e1, em⟩ := Option.bind_eq_some_iff.mp em
  obtain ⟨⟨ts, τ2⟩, e2, em⟩ := Option.bind_eq_some_iff.mp em
  obtain ⟨⟨z, ts'⟩, e3, em⟩ := Option.bind_eq_some_iff.mp em
  obtain ⟨τ3, e4, em⟩ := Option.map_eq_some_iff.mp em
  cases em
  refine wE (peCallG (E := E0) G (hr.mono hkj) hg hm hk hb pass0 paW hdb he hpl) (ha.run ro τ cs τ1 e1 F B H σ A _ a fun F1 H1 vs A0 A1 g1 c1 o1 t1 => ?_)
  have hl : vs.length = n := o1.length.trans ((ha.len _ _ _ _ e1).trans hn)
  obtain ⟨A2, A3, o2, t2, n2, s2⟩ := buildT_ok o1 t1 c1.nd e2
  have c2 := c1.sub n2 s2
  refine ⟨hl, F1, A2, ts, z, ts', ⟨c2.fh, same_noH, c2.left.nd, c2.left.fa, fun _ _ => rfl, c2.left.ha⟩, o2, e3, fun F4 H4 v A4 A5 g4 c4 o4 os4 => ?_⟩
  have c4' : Cn F4 B H4 (A4 ++ A5) := by
    refine ⟨c4.fh, same_of (B := B) g4 c2.bh c2.left.ba, c4.nd, c4.fa, fun b m => ?_, c4.ha⟩
    cases q : B b with
    | none => rfl
    | some o =>
      rcases g4.sub b m with z | z
      · rw [c2.left.ba b z] at q
        cases q
      · rw [c2.bh b o q] at z
        cases z
  obtain ⟨g5, c5⟩ := Go.framedR c2 g4 c4'
  have t3 := t2.stay g4.ff fun b m w q => g4.keep b w (fun z => c2.apart b z m) q
  rw [List.append_assoc] at g5 c5
  obtain ⟨A6, t6, n6, s6⟩ := backT_ok o1 os4 t3 c5.right.nd e4
  have sub : ∀ b ∈ A4 ++ A6, b ∈ A4 ++ (A5 ++ A3) := fun b m => (List.mem_append.mp m).elim (fun z => List.mem_append_left _ z) fun z => List.mem_append_right _ (s6 b z)
  have nd : (A4 ++ A6).Nodup := List.nodup_append.mpr ⟨c5.left.nd, n6, fun b m b' m' q => c5.apart b m (q ▸ s6 b' m')⟩
  exact kk F4 H4 v A4 A6 (((g1.trans (Go.less s2)).trans g5).trans (Go.less sub)) (c5.sub nd sub) o4 t6⟩
theorem leafs_ok {G F H : Hp} : ∀ {cs : List CArg} {vs : List V} {ts : List T} {A : List Addr}, CsOk K G F H σ cs vs A → leafs cs = some ts → OwnL K G G vs ts []
  | _, _, _, _, .nil, e => by
    cases e
    exact .nil
  | .d d :: cs, _, _, _, .d r c, e => by
    obtain ⟨ts, e1, e2⟩ := Option.map_eq_some_iff.mp (show (leafs cs).map _ = some _ from e)
    subst e2
    exact .cons (A := []) (.leaf r) (leafs_ok c e1)
  | .io _ :: _, _, _, _, .io _ _, e => nomatch e
  | .ow _ :: _, _, _, _, .ow _ _, e => nomatch e
theorem er_look (c : Fm X.prog X.w X.K X.mg X.base k x n m) {j : Nat} (hr : RmG j X.A) (ha : CA X true (e :: es) l) (hkj : k ≤ j := by decide) (hn : (e :: es).length = n := by rfl) (hg : Gl X x := by rfl) (hdb : (x == ("__debug__" : Str)) = false := by decide)
    (he : starEach (e :: es) X.env = (false, eval e X.env) :: starEach es X.env := by rfl) (hpl : (backTo pos (starEach es X.env)).any (·.1) = false := by rfl) : ER X (.Call (.Name x p) (e :: es) [] pos) (mLook m l) := ⟨fun ro τ r τ' em F B H σ A Q a kk => by
  obtain ⟨f, fd, ps, G, hm, hk, hb⟩ := c.ex
  obtain ⟨⟨cs, τ1⟩, e1, em⟩ := Option.bind_eq_some_iff.mp em
  obtain ⟨ts, e2, em⟩ := Option.bind_eq_some_iff.mp em
  obtain ⟨⟨z, ts'⟩, e3, em⟩ := Option.bind_eq_some_iff.mp em
  have em' : (if isScal z = true then some (R.val z, τ1) else none) = some (r, τ') := em
  by_cases q : isScal z = true
  · rw [if_pos q] at em'
    cases em'
    refine wE (peCallG (E := E0) G (hr.mono hkj) hg hm hk hb pass0 paW hdb he hpl) (ha.run ro τ cs _ e1 F B H σ A _ a fun F1 H1 vs A0 A1 g1' c1' o1 t1 => ?_)
    have hl : vs.length = n := o1.length.trans ((ha.len _ _ _ _ e1).trans hn)
    have g1 : Go F H A F1 H1 A1 := g1'.trans (Go.less fun _ m => List.mem_append_right _ m)
    have c1 : Cn F1 B H1 A1 := c1'.right
    -- all that stands and is not owned is frozen for the callee
    refine ⟨hl, H1, [], ts, z, ts', ⟨Same.refl H1, same_noH, .nil, (fun _ m => nomatch m), (fun _ _ => rfl), (fun _ m => nomatch m)⟩, leafs_ok o1 e2, e3, fun F4 H4 v A4 A5 g4 c4 o4 os4 => ?_⟩
    obtain ⟨_, sc⟩ := scal_rep q o4
    have sm : Same H1 H4 := fun b o z => g4.keep b o (fun m => nomatch m) z
    refine kk F1 H4 v [] A1 (g1.trans ⟨Same.refl F1, fun b o _ z => sm b o z, fun _ _ _ => rfl, fun b m => .inl m⟩) ⟨c1.fh.trans sm, c1.bh.trans sm, c1.nd, c1.fa, c1.ba, fun b m => ?_⟩ (sc F1 H4) (t1.stay (Same.refl F1) fun b _ o z => sm b o z)
    obtain ⟨o, z⟩ := some_ne (c1.ha b m)
    rw [sm b o z]
    exact fun z => nomatch z
  · rw [if_neg q] at em'
    cases em'⟩
end
end Tl

namespace Tl
open PySem PySem.Spec PyProof.Rows L2

section
variable {K : PySem.W.Frag} {F F1 B H : Hp} {A : List Addr} {X : Cx}
theorem RepL.two {vs : List V} {a b : D} (r : RepL K F vs [a, b]) : ∃ v w, vs = [v, w] ∧ Rep K F v a ∧ Rep K F w b := by
  cases r with
  | cons r1 r2 =>
    cases r2 with
    | cons r2 r3 =>
      cases r3
      exact ⟨_, _, rfl, r1, r2⟩
theorem RepL.one {vs : List V} {a : D} (r : RepL K F vs [a]) : ∃ v, vs = [v] ∧ Rep K F v a := by
  cases r with
  | cons r1 r2 =>
    cases r2
    exact ⟨_, rfl, r1⟩
theorem Rep.toInt {v : V} {i : Int} (r : Rep K F v (.int i)) : v = .int i := by
  cases r
  rfl
theorem Rep.toStr {v : V} {i : Str} (r : Rep K F v (.str i)) : v = .str i := by
  cases r
  rfl
theorem Rep.toBl {v : V} {i : Bool} (r : Rep K F v (.bool i)) : v = .bl i := by
  cases r
  rfl
theorem Rep.toNon {v : V} (r : Rep K F v .none) : v = .non := by
  cases r
  rfl

def pI2 (ok : Int → Int → Bool) (f : Int → Int → Int) : List D → Option D
  | [.int a, .int b] => if ok a b = true then some (.int (f a b)) else none
  | _ => none
theorem vr_i2 {C : Int → Int → Prop} {ok : Int → Int → Bool} {f : Int → Int → Int} (h : ∀ a b, ok a b = true → C a b) : VR K (two (rI C fun i j => .int (f i j))) (gp (pI2 ok f)) :=
  VR.plain fun ds d e H vs Q r k => by
  match ds, e with
  | [.int a, .int b], e =>
    have e' : (if ok a b = true then some (PyData.int (f a b)) else none) = some d := e
    by_cases q : ok a b = true
    · rw [if_pos q] at e'
      cases e'
      obtain ⟨v, w, rfl, r1, r2⟩ := r.two
      exact ⟨v, w, rfl, a, b, r1.toInt, r2.toInt, h a b q, k _ fun F => .int _⟩
    · rw [if_neg q] at e'
      cases e'
def pC2 (f : Int → Int → Bool) : List D → Option D
  | [.int a, .int b] => some (.bool (f a b))
  | _ => none
theorem vr_c2 {f : Int → Int → Bool} : VR K (two (rI0 fun i j => .bl (f i j))) (gp (pC2 f)) :=
  VR.plain fun ds d e H vs Q r k => by
  match ds, e with
  | [.int a, .int b], e =>
    cases e
    obtain ⟨v, w, rfl, r1, r2⟩ := r.two
    exact ⟨v, w, rfl, a, b, r1.toInt, r2.toInt, k _ fun F => .bl _⟩
def okMul (a b : Int) : Bool := decide ((-(2 ^ 64) < a ∧ a < 2 ^ 64) ∨ (-(2 ^ 64) < b ∧ b < 2 ^ 64))
def okPow (a b : Int) : Bool := decide (0 ≤ b ∧ b ≤ 1000000 ∧ a.natAbs < 2 ^ 64)
abbrev gSub : List R → Option R := gp (pI2 (fun _ _ => true) fun a b => a - b)
abbrev gMod : List R → Option R := gp (pI2 (fun _ b => decide (0 < b)) fun a b => a % b)
abbrev gDiv : List R → Option R := gp (pI2 (fun _ b => decide (0 < b ∧ b < 1073741824)) fun a b => a / b)
abbrev gPow : List R → Option R := gp (pI2 okPow fun a b => a ^ b.toNat)
abbrev gLt : List R → Option R := gp (pC2 fun a b => decide (a < b))
abbrev gGt : List R → Option R := gp (pC2 fun a b => decide (b < a))
abbrev gGe : List R → Option R := gp (pC2 fun a b => decide (b ≤ a))
theorem op_sub' : OpR X (binaryOp .Sub) (rI (fun _ _ => True) fun i j => .int (i - j)) := opI fun _ _ _ _ _ _ _ _ q => sub_int q
theorem vr_sub : VR K (two (rI (fun _ _ => True) fun i j => .int (i - j))) gSub := vr_i2 fun _ _ _ => True.intro
theorem vr_mod : VR K (two (rI (fun _ j => 0 < j) fun i j => .int (i % j))) gMod := vr_i2 fun _ _ h => of_decide_eq_true h
theorem vr_div : VR K (two (rI CDiv fun i j => .int (i / j))) gDiv := vr_i2 fun a b h => by
  have h' : 0 < b ∧ b < 1073741824 := of_decide_eq_true h
  exact h'
theorem vr_pow : VR K (two (rI CPow fun i j => .int (i ^ j.toNat))) gPow := vr_i2 fun a b h => by
  have h' : 0 ≤ b ∧ b ≤ 1000000 ∧ a.natAbs < 2 ^ 64 := of_decide_eq_true h
  exact h'
def pNeg : List D → Option D
  | [.int a] => some (.int (-a))
  | _ => none
theorem vr_neg : VR K (one (rU fun i => .int (-i))) (gp pNeg) := VR.plain fun ds d e H vs Q r k => by
  match ds, e with
  | [.int a], e =>
    cases e
    obtain ⟨v, rfl, r1⟩ := r.one
    exact ⟨v, rfl, a, r1.toInt, k _ fun F => .int _⟩

def R.lst? : R → Option (List D)
  | .val t => match t.fz with
    | some (.list ds) => some ds
    | _ => none
  | .vw (.leaf (.list ds)) => some ds
  | .vw (.fl ds) => some ds
  | .vw _ => none
theorem lst_of {r : R} {v : V} {ds : List D} (o : ROk K F B H r v A) (e : r.lst? = some ds) (h : ∀ a ∈ A, ∀ o, H a = some o → F1 a = some o) (s : Same F F1) (f : Same F1 H) (b : Same B H) :
    ∃ a xs, v = .ref a ∧ H a = some (.lst xs) ∧ xs.length ≤ sizeLine ∧ RepL K F1 xs ds := by
  cases r with
  | val t =>
    have e' : (match t.fz with
    | some (.list ds) => some ds
    | _ => none) = some ds := e
    cases q : t.fz with
    | none =>
      rw [q] at e'
      cases e'
    | some d =>
      rw [q] at e'
      have rr := Own.rep s o h q
      cases d with
      | list es =>
        cases e'
        cases rr with
        | lst h1 h2 h3 => exact ⟨_, _, rfl, f _ _ h1, h2, h3⟩
      | _ => cases e'
  | vw t =>
    obtain ⟨e0, A', o⟩ := o
    cases t with
    | leaf d =>
      cases o with
      | leaf rr =>
        cases d with
        | list es =>
          cases e
          cases rr with
          | lst h1 h2 h3 => exact ⟨_, _, rfl, f _ _ (s _ _ h1), h2, h3.mono s⟩
        | _ => cases e
    | fl es =>
      cases e
      cases o with
      | fl h1 h2 h3 => exact ⟨_, _, rfl, b _ _ h1, h2, h3.mono s⟩
    | _ => cases e
theorem seq_of {r : R} {v : V} {isL : Bool} {ds : List D} (o : ROk K F B H r v A) (e : r.its = some (isL, ds)) (h : ∀ a ∈ A, ∀ o, H a = some o → F1 a = some o) (s : Same F F1) (f : Same F1 H) (b : Same B H) :
    ∃ a xs, v = .ref a ∧ SqAt K H isL a xs ∧ xs.length ≤ sizeLine ∧ RepL K F1 xs ds := by
  cases r with
  | val t =>
    have e' : (match t.fz with
    | some (.list ds) => some (true, ds)
    | some (.tuple ds) => some (false, ds)
    | _ => none) = some (isL, ds) := e
    cases q : t.fz with
    | none =>
      rw [q] at e'
      cases e'
    | some d =>
      rw [q] at e'
      have rr := Own.rep s o h q
      cases d with
      | list es =>
        cases e'
        cases rr with
        | lst h1 h2 h3 => exact ⟨_, _, rfl, SqL.of (f _ _ h1), h2, h3⟩
      | tuple es =>
        cases e'
        cases rr with
        | tup h1 h2 h3 => exact ⟨_, _, rfl, sameT f h1, h2, h3⟩
      | _ => cases e'
  | vw t =>
    obtain ⟨e0, A', o⟩ := o
    cases t with
    | leaf d =>
      cases o with
      | leaf rr =>
        cases d with
        | list es =>
          cases e
          cases rr with
          | lst h1 h2 h3 => exact ⟨_, _, rfl, SqL.of (f _ _ (s _ _ h1)), h2, h3.mono s⟩
        | tuple es =>
          cases e
          cases rr with
          | tup h1 h2 h3 => exact ⟨_, _, rfl, sameT f (sameT s h1), h2, h3.mono s⟩
        | _ => cases e
    | fl es =>
      cases e
      cases o with
      | fl h1 h2 h3 => exact ⟨_, _, rfl, SqL.of (b _ _ h1), h2, h3.mono s⟩
    | scr es =>
      cases e
      cases o with
      | scr h1 h2 h3 => exact ⟨_, _, rfl, f.seq (s.seq h1), h2, h3.mono s⟩
    | _ => cases e
/-- one and two arguments, all that they own frozen -/
theorem rs_two {x y : R} {vs : List V} (c : Cn F B H A) (o : RsOk K F B H [x, y] vs A) : ∃ v w A1 A2, vs = [v, w] ∧ ROk K F B H x v A1 ∧ ROk K F B H y w A2 ∧ Go F H A (joinH F H A) H [] ∧ Cn (joinH F H A) B H [] ∧ Same F (joinH F H A) ∧
    (∀ a ∈ A1, ∀ o, H a = some o → joinH F H A a = some o) ∧ (∀ a ∈ A2, ∀ o, H a = some o → joinH F H A a = some o) := by
  have c' : Cn F B H (A ++ []) := by
    rw [List.append_nil]
    exact c
  obtain ⟨g, c1, s, h⟩ := c'.freeze
  rw [List.append_nil] at g
  cases o with
  | cons o1 o2 =>
    cases o2 with
    | cons o2 o3 =>
      cases o3
      exact ⟨_, _, _, _, rfl, o1, o2, g, c1, s, fun a m => h a (List.mem_append_left _ m), fun a m => h a (List.mem_append_right _ (List.mem_append_left _ m))⟩
theorem rs_one {x : R} {vs : List V} (c : Cn F B H A) (o : RsOk K F B H [x] vs A) : ∃ v A1, vs = [v] ∧ ROk K F B H x v A1 ∧ Go F H A (joinH F H A) H [] ∧ Cn (joinH F H A) B H [] ∧ Same F (joinH F H A) ∧
    (∀ a ∈ A1, ∀ o, H a = some o → joinH F H A a = some o) := by
  have c' : Cn F B H (A ++ []) := by
    rw [List.append_nil]
    exact c
  obtain ⟨g, c1, s, h⟩ := c'.freeze
  rw [List.append_nil] at g
  cases o with
  | cons o1 o2 =>
    cases o2
    exact ⟨_, _, rfl, o1, g, c1, s, fun a m => h a (List.mem_append_left _ m)⟩
theorem small16 {n : Nat} (h : n ≤ 16000000) : n ≤ sizeLine := by
  rw [sizeLine_eq]
  omega
/-- a new list at the end -/
theorem new_list {Q : VK} {xs : List V} {ds : List D} (g : Go F H A F1 H []) (c : Cn F1 B H []) (hz : xs.length ≤ sizeLine) (r : RepL K F1 xs ds)
    (k : ∀ (F' H' : Hp) (u : V) (A' : List Addr), Go F H A F' H' A' → Cn F' B H' A' → ROk K F' B H' (.val (.fl ds)) u A' → Q u H') : ∀ p, H p = none → Q (.ref p) (upd H p (.lst xs)) := fun p hp => by
  obtain ⟨g2, c2⟩ := c.newO (o := .lst xs) hp
  exact k _ _ (.ref p) [p] (g.trans g2) c2 (.fl upd_same hz r)
/-- a new tuple at the end -/
theorem new_tup {Q : VK} {xs : List V} {ds : List D} (g : Go F H A F1 H []) (c : Cn F1 B H []) (hz : xs.length ≤ sizeLine) (r : RepL K F1 xs ds)
    (k : ∀ (F' H' : Hp) (u : V) (A' : List Addr), Go F H A F' H' A' → Cn F' B H' A' → ROk K F' B H' (rd (.tuple ds)) u A' → Q u H') : ∀ p, H p = none → Q (.ref p) (upd H p (.tup xs)) := fun p hp => by
  obtain ⟨g2, c2⟩ := c.newF (o := .tup xs) hp
  exact k _ _ (.ref p) [] (g.trans g2) c2 (.leaf (.tup (.inl (.inl upd_same)) hz (r.mono g2.ff)))

def gAdd : List R → Option R
  | [x, y] => match x.er, y.er with
    | some (.int a), some (.int b) => some (rInt (a + b))
    | some (.str a), some (.str b) => if a.length + b.length ≤ 16000000 then some (rd (.str (a ++ b))) else none
    | _, _ => match x.st, y.st with
      | some (.tuple ds), some (.tuple es) => if ds.length + es.length ≤ 16000000 then some (rd (.tuple (ds ++ es))) else none
      | _, _ => x.lst?.bind fun ds => y.lst?.bind fun es => if ds.length + es.length ≤ 16000000 then some (.val (.fl (ds ++ es))) else none
  | _ => none
def rAddS : R2 := fun x y H Q => ∃ i j, x = .str i ∧ y = .str j ∧ i.length + j.length ≤ sizeLine ∧ Q (.str (i ++ j)) H
def rAddAll : R2 := fun x y H Q => (rI0 fun i j => .int (i + j)) x y H Q ∨ rAddS x y H Q ∨ rCat x y H Q
def rAddAllT (K : PySem.W.Frag) : R2 := fun x y H Q => rAddAll x y H Q ∨ rCatA K x y H Q
theorem op_addAll : OpR X (binaryOp .Add) (rAddAllT X.K) := OpR.or (r := rAddAll) (OpR.or op_add (OpR.or (r := rAddS) op_add_str op_cat)) op_catA
theorem add_lists {x y z : R} {vs : List V} {Q : VK} (e : (x.lst?.bind fun ds => y.lst?.bind fun es => if ds.length + es.length ≤ 16000000 then some (R.val (.fl (ds ++ es))) else none) = some z) (c : Cn F B H A) (o : RsOk K F B H [x, y] vs A)
    (k : ∀ (F' H' : Hp) (u : V) (A' : List Addr), Go F H A F' H' A' → Cn F' B H' A' → ROk K F' B H' z u A' → Q u H') : two rAddAll vs H Q := by
  obtain ⟨ds, e1, e⟩ := Option.bind_eq_some_iff.mp e
  obtain ⟨es, e2, e⟩ := Option.bind_eq_some_iff.mp e
  by_cases q : ds.length + es.length ≤ 16000000
  · rw [if_pos q] at e
    cases e
    obtain ⟨v, w, A1, A2, rfl, o1, o2, g, c1, s, h1, h2⟩ := rs_two c o
    obtain ⟨a, xs, rfl, ha, za, ra⟩ := lst_of o1 e1 h1 s c1.fh c1.bh
    obtain ⟨b, ys, rfl, hb, zb, rb⟩ := lst_of o2 e2 h2 s c1.fh c1.bh
    have hz : xs.length + ys.length ≤ sizeLine := by
      rw [ra.length, rb.length]
      exact small16 q
    exact ⟨_, _, rfl, .inr (.inr ⟨a, b, xs, ys, rfl, rfl, ha, hb, hz, new_list g c1 (by rw [List.length_append]; exact hz) (ra.append rb) k⟩)⟩
  · rw [if_neg q] at e
    cases e
theorem plain_two {x y : R} {vs : List V} {a b : D} (c : Cn F B H A) (o : RsOk K F B H [x, y] vs A) (e1 : x.er = some a) (e2 : y.er = some b) : ∃ v w, vs = [v, w] ∧ Rep K H v a ∧ Rep K H w b := by
  have e : erL [x, y] = some [a, b] := by
    show x.er.bind (fun d => (y.er.bind fun d => (some []).bind fun ds => some (d :: ds)).bind fun ds => some (d :: ds)) = _
    rw [e1, e2]
    rfl
  exact (o.rep c.fh c.bh (fun _ _ _ q => q) e).two
/-- a scalar at the end -/
theorem end_scal {Q : VK} {z : D} {u : V} (c : Cn F B H A) (k : ∀ (F' H' : Hp) (u : V) (A' : List Addr), Go F H A F' H' A' → Cn F' B H' A' → ROk K F' B H' (rd z) u A' → Q u H') (r : ∀ F : Hp, Rep K F u z) : Q u H :=
  k F H u [] (Go.less fun _ m => nomatch m) (c.sub .nil fun _ m => nomatch m) (.leaf (r F))
theorem two_l {vs : List V} {Q : VK} (h : two rAddAll vs H Q) : two (rAddAllT K) vs H Q := by
  obtain ⟨v, w, e, q⟩ := h
  exact ⟨v, w, e, .inl q⟩
theorem add_tups {x y : R} {vs : List V} {ds es : List D} {Q : VK} (e1 : x.st = some (.tuple ds)) (e2 : y.st = some (.tuple es)) (hz : ds.length + es.length ≤ 16000000) (c : Cn F B H A) (o : RsOk K F B H [x, y] vs A)
    (k : ∀ (F' H' : Hp) (u : V) (A' : List Addr), Go F H A F' H' A' → Cn F' B H' A' → ROk K F' B H' (rd (.tuple (ds ++ es))) u A' → Q u H') : two (rAddAllT K) vs H Q := by
  have e : stL [x, y] = some [.tuple ds, .tuple es] := by
    show x.st.bind (fun d => (y.st.bind fun d => (some []).bind fun ds => some (d :: ds)).bind fun ds => some (d :: ds)) = _
    rw [e1, e2]
    rfl
  have c' : Cn F B H (A ++ []) := by
    rw [List.append_nil]
    exact c
  obtain ⟨F1, g, c1, s, rl⟩ := o.freeze c' e
  rw [List.append_nil] at g
  obtain ⟨v, w, rfl, r1, r2⟩ := rl.two
  cases r1 with
  | tup h1 h2 h3 =>
    cases r2 with
    | tup h4 h5 h6 =>
      rename_i a xs b ys
      have hl : xs.length + ys.length ≤ sizeLine := by
        rw [h3.length, h6.length]
        exact small16 hz
      refine ⟨_, _, rfl, .inr ⟨a, b, xs, ys, rfl, rfl, sameT c1.fh h1, sameT c1.fh h4, hl, fun z => ?_, fun _ z => ?_, fun _ _ => new_tup g c1 (by rw [List.length_append]; exact hl) (h3.append h6) k⟩⟩
      · subst z
        cases h3
        exact k F1 H (.ref b) [] g c1 (.leaf (.tup h4 h5 h6))
      · subst z
        cases h6
        rw [List.append_nil] at k
        exact k F1 H (.ref a) [] g c1 (.leaf (.tup h1 h2 h3))
theorem vr_add : VR K (two (rAddAllT K)) gAdd := by
  intro rs z e F B H vs A Q c o k
  match rs, e with
  | [x, y], e =>
    have e' : (match x.er, y.er with
    | some (.int a), some (.int b) => some (rInt (a + b))
    | some (.str a), some (.str b) => if a.length + b.length ≤ 16000000 then some (rd (.str (a ++ b))) else none
    | _, _ => match x.st, y.st with
      | some (.tuple ds), some (.tuple es) => if ds.length + es.length ≤ 16000000 then some (rd (.tuple (ds ++ es))) else none
      | _, _ => x.lst?.bind fun ds => y.lst?.bind fun es => if ds.length + es.length ≤ 16000000 then some (.val (.fl (ds ++ es))) else none) = some z := e
    split at e'
    · rename_i a b e1 e2
      cases e'
      obtain ⟨v, w, rfl, r1, r2⟩ := plain_two c o e1 e2
      exact two_l ⟨v, w, rfl, .inl ⟨a, b, r1.toInt, r2.toInt, end_scal c k fun F => .int _⟩⟩
    · rename_i a b e1 e2
      by_cases q : a.length + b.length ≤ 16000000
      · rw [if_pos q] at e'
        cases e'
        obtain ⟨v, w, rfl, r1, r2⟩ := plain_two c o e1 e2
        exact two_l ⟨v, w, rfl, .inr (.inl ⟨a, b, r1.toStr, r2.toStr, small16 q, end_scal c k fun F => .str _⟩)⟩
      · rw [if_neg q] at e'
        cases e'
    · split at e'
      · rename_i ds es e1 e2
        by_cases q : ds.length + es.length ≤ 16000000
        · rw [if_pos q] at e'
          cases e'
          exact add_tups e1 e2 q c o k
        · rw [if_neg q] at e'
          cases e'
      · exact two_l (add_lists e' c o k)
def repD (ds : List D) (n : Nat) : List D := (List.replicate n ds).flatten
def gMul : List R → Option R
  | [x, y] => match x.er, y.er with
    | some (.int a), some (.int b) => if okMul a b = true then some (rInt (a * b)) else none
    | _, some (.int k) => x.lst?.bind fun ds => if (-4000000 ≤ k ∧ k ≤ 4000000) ∧ ds.length * k.toNat ≤ 16000000 then some (.val (.fl (repD ds k.toNat))) else none
    | _, _ => none
  | _ => none
def rMulAll : R2 := fun x y H Q => (rI CMul fun i j => .int (i * j)) x y H Q ∨ rRep x y H Q
theorem op_mulAll : OpR X (binaryOp .Mult) rMulAll := OpR.or op_mul op_rep
theorem RepL.repn {xs : List V} {ds : List D} (r : RepL K F xs ds) : ∀ n : Nat, RepL K F (List.replicate n xs).flatten (List.replicate n ds).flatten
  | 0 => .nil
  | n + 1 => by
    rw [List.replicate_succ, List.replicate_succ, List.flatten_cons, List.flatten_cons]
    exact r.append (RepL.repn r n)
theorem vr_mul : VR K (two rMulAll) gMul := by
  intro rs z e F B H vs A Q c o k
  match rs, e with
  | [x, y], e =>
    have e' : (match x.er, y.er with
    | some (.int a), some (.int b) => if okMul a b = true then some (rInt (a * b)) else none
    | _, some (.int k) => x.lst?.bind fun ds => if (-4000000 ≤ k ∧ k ≤ 4000000) ∧ ds.length * k.toNat ≤ 16000000 then some (.val (.fl (repD ds k.toNat))) else none
    | _, _ => none) = some z := e
    split at e'
    · rename_i a b e1 e2
      by_cases q : okMul a b = true
      · rw [if_pos q] at e'
        cases e'
        obtain ⟨v, w, rfl, r1, r2⟩ := plain_two c o e1 e2
        have q' : (-(2 ^ 64) < a ∧ a < 2 ^ 64) ∨ (-(2 ^ 64) < b ∧ b < 2 ^ 64) := of_decide_eq_true q
        exact ⟨v, w, rfl, .inl ⟨a, b, r1.toInt, r2.toInt, q', end_scal c k fun F => .int _⟩⟩
      · rw [if_neg q] at e'
        cases e'
    · rename_i n e2 _
      obtain ⟨ds, e1, e'⟩ := Option.bind_eq_some_iff.mp e'
      by_cases q : (-4000000 ≤ n ∧ n ≤ 4000000) ∧ ds.length * n.toNat ≤ 16000000
      · rw [if_pos q] at e'
        cases e'
        obtain ⟨v, w, A1, A2, rfl, o1, o2, g, c1, s, h1, h2⟩ := rs_two c o
        obtain ⟨a, xs, rfl, ha, za, ra⟩ := lst_of o1 e1 h1 s c1.fh c1.bh
        have rw' : Rep K H w (.int n) := o2.rep c.fh c.bh (fun _ _ _ q => q) e2
        have hz : xs.length * n.toNat ≤ sizeLine := by
          rw [ra.length]
          exact small16 q.2
        have hz' : ((List.replicate n.toNat xs).flatten).length ≤ sizeLine := by
          rw [List.length_flatten, List.map_replicate, List.sum_replicate_nat, Nat.mul_comm]
          exact hz
        exact ⟨_, _, rfl, .inr ⟨a, n, xs, rfl, rw'.toInt, ha, by omega, by omega, hz, new_list g c1 hz' (ra.repn _) k⟩⟩
      · rw [if_neg q] at e'
        cases e'
    · cases e'

mutual
theorem Rep.dp : ∀ (d : D) {v : V}, d.canLay0 = true → Rep K H v d → Dp K H v d
  | .none, _, _, r => by
    cases r
    exact .non
  | .bool b, _, _, r => by
    cases r
    exact .bl b
  | .int i, _, _, r => by
    cases r
    exact .int i
  | .str x, _, _, r => by
    cases r
    exact .str x
  | .list ds, _, e, r => by
    cases r with
    | lst h1 h2 h3 => exact .lst (SqL.of h1) (RepL.dp ds (by simpa only [PyData.canLay0] using e) h3)
  | .tuple ds, _, e, r => by
    cases r with
    | tup h1 h2 h3 => exact .tup h1 (RepL.dp ds (by simpa only [PyData.canLay0] using e) h3)
  | .dict es, _, e, r => by simp only [PyData.canLay0] at e; cases e
theorem RepL.dp : ∀ (ds : List D) {vs : List V}, PyData.canLayAll0 ds = true → RepL K H vs ds → DpAll K H vs ds
  | [], _, _, r => by
    cases r
    exact .nil
  | d :: ds, _, e, r => by
    cases r with
    | cons r1 r2 =>
      have e' : (d.canLay0 && PyData.canLayAll0 ds) = true := by simpa only [PyData.canLayAll0] using e
      rw [Bool.and_eq_true] at e'
      exact .cons (Rep.dp d e'.1 r1) (RepL.dp ds e'.2 r2)
end
theorem shaped_lay {d : D} (h : SeqAt.shaped d = true) : d.canLay0 = true := by
  have h' : (d.canLay0 && decide (d.depth ≤ 64)) = true := h
  rw [Bool.and_eq_true] at h'
  exact h'.1
def pEq : List D → Option D
  | [a, b] => if SeqAt.shaped a = true ∧ SeqAt.shaped b = true then some (.bool (PyData.eqv a b)) else none
  | _ => none
def pNe : List D → Option D
  | [a, b] => if SeqAt.shaped a = true ∧ SeqAt.shaped b = true then some (.bool (!PyData.eqv a b)) else none
  | _ => none
theorem vr_eq : VR K (two (rEqD K)) (gp pEq) := VR.plain fun ds d e H vs Q r k => by
  match ds, e with
  | [a, b], e =>
    have e' : (if SeqAt.shaped a = true ∧ SeqAt.shaped b = true then some (PyData.bool (PyData.eqv a b)) else none) = some d := e
    by_cases q : SeqAt.shaped a = true ∧ SeqAt.shaped b = true
    · rw [if_pos q] at e'
      cases e'
      obtain ⟨v, w, rfl, r1, r2⟩ := r.two
      exact ⟨v, w, rfl, a, b, r1.dp a (shaped_lay q.1), r2.dp b (shaped_lay q.2), q.1, q.2, k _ fun F => .bl _⟩
    · rw [if_neg q] at e'
      cases e'
theorem vr_ne : VR K (two (rNeD K)) (gp pNe) := VR.plain fun ds d e H vs Q r k => by
  match ds, e with
  | [a, b], e =>
    have e' : (if SeqAt.shaped a = true ∧ SeqAt.shaped b = true then some (PyData.bool (!PyData.eqv a b)) else none) = some d := e
    by_cases q : SeqAt.shaped a = true ∧ SeqAt.shaped b = true
    · rw [if_pos q] at e'
      cases e'
      obtain ⟨v, w, rfl, r1, r2⟩ := r.two
      exact ⟨v, w, rfl, a, b, r1.dp a (shaped_lay q.1), r2.dp b (shaped_lay q.2), q.1, q.2, k _ fun F => .bl _⟩
    · rw [if_neg q] at e'
      cases e'
def isNone : D → Bool
  | .none => true
  | _ => false
def pIsN : List D → Option D
  | [a, .none] => some (.bool (isNone a))
  | _ => none
def pNotN : List D → Option D
  | [a, .none] => some (.bool (!isNone a))
  | _ => none
theorem isNone_of {v : V} {a : D} (r : Rep K H v a) : decide (v = V.non) = isNone a := by
  cases r <;> simp [isNone]
theorem vr_isN : VR K (two fun x y H Q => y = .non ∧ Q (.bl (decide (x = .non))) H) (gp pIsN) := VR.plain fun ds d e H vs Q r k => by
  match ds, e with
  | [a, .none], e =>
    cases e
    obtain ⟨v, w, rfl, r1, r2⟩ := r.two
    refine ⟨v, w, rfl, r2.toNon, ?_⟩
    rw [isNone_of r1]
    exact k _ fun F => .bl _
theorem vr_notN : VR K (two fun x y H Q => y = .non ∧ Q (.bl (!decide (x = .non))) H) (gp pNotN) := VR.plain fun ds d e H vs Q r k => by
  match ds, e with
  | [a, .none], e =>
    cases e
    obtain ⟨v, w, rfl, r1, r2⟩ := r.two
    refine ⟨v, w, rfl, r2.toNon, ?_⟩
    rw [isNone_of r1]
    exact k _ fun F => .bl _

theorem RepL.atI {xs : List V} {ds : List D} {i : Int} {d : D} (r : RepL K F xs ds) (e : atI ds i = some d) : ∃ v, L2.atI xs i = some v ∧ Rep K F v d := by
  obtain ⟨j, e1, e2⟩ := Option.bind_eq_some_iff.mp (show (ixN ds.length i).bind (fun j => ds[j]?) = some d from e)
  obtain ⟨v, e3, e4⟩ := r.get e2
  refine ⟨v, ?_, e4⟩
  show (ixN xs.length i).bind (fun j => xs[j]?) = some v
  rw [r.length, e1]
  exact e3
theorem OwnL.get : ∀ {vs : List V} {ts : List T} {A : List Addr} {i : Nat} {t : T}, OwnL K F H vs ts A → ts[i]? = some t → ∃ v A', vs[i]? = some v ∧ Own K F H v t A'
  | _, _, _, i, _, .nil, e => by simp at e
  | _, _, _, 0, _, .cons o _, e => by
    simp at e
    subst e
    exact ⟨_, _, rfl, o⟩
  | _, _, _, i + 1, t, .cons _ os, e => by
    obtain ⟨v, A', h1, h2⟩ := OwnL.get (i := i) (t := t) os (by simpa using e)
    exact ⟨v, A', by simpa using h1, h2⟩
theorem OwnL.length : ∀ {vs : List V} {ts : List T} {A : List Addr}, OwnL K F H vs ts A → vs.length = ts.length
  | _, _, _, .nil => rfl
  | _, _, _, .cons _ os => congrArg (· + 1) (OwnL.length os)
theorem OwnL.atI {xs : List V} {ts : List T} {i : Int} {t : T} (r : OwnL K F H xs ts A) (e : L2.atI ts i = some t) : ∃ v A', L2.atI xs i = some v ∧ Own K F H v t A' := by
  obtain ⟨j, e1, e2⟩ := Option.bind_eq_some_iff.mp (show (ixN ts.length i).bind (fun j => ts[j]?) = some t from e)
  obtain ⟨v, A', e3, e4⟩ := r.get e2
  refine ⟨v, A', ?_, e4⟩
  show (ixN xs.length i).bind (fun j => xs[j]?) = some v
  rw [r.length, e1]
  exact e3
/-- the pieces of a thing seen through a glass -/
def R.parts : R → Option (Bool × List T)
  | .vw (.ls ts) => some (true, ts)
  | .vw (.tup ts) => some (false, ts)
  | _ => none
def gIx : List R → Option R
  | [x, y] => match y.er with
    | some (.int i) => match x.its with
      | some (_, ds) => (atI ds i).map rd
      | none => match x.parts with
        | some (_, ts) => (atI ts i).map .vw
        | none => match x.er with
          | some (.str z) => if z.length ≤ 16000000 then (atI z.cps.toList i).map fun c => rd (.str ⟨#[c]⟩) else none
          | _ => none
    | _ => none
  | _ => none
theorem vr_ix : VR K (two (rIx K)) gIx := by
  intro rs z e F B H vs A Q c o k
  match rs, e with
  | [x, y], e =>
    have e' : (match y.er with
    | some (.int i) => match x.its with
      | some (_, ds) => (atI ds i).map rd
      | none => match x.parts with
        | some (_, ts) => (atI ts i).map .vw
        | none => match x.er with
          | some (.str z) => if z.length ≤ 16000000 then (atI z.cps.toList i).map fun c => rd (.str ⟨#[c]⟩) else none
          | _ => none
    | _ => none) = some z := e
    obtain ⟨v, w, A1, A2, rfl, o1, o2, g, c1, s, h1, h2⟩ := rs_two c o
    split at e'
    · rename_i i ey
      have rw' : Rep K H w (.int i) := o2.rep c.fh c.bh (fun _ _ _ q => q) ey
      split at e'
      · rename_i isL ds ex
        obtain ⟨d, e1, e2⟩ := Option.map_eq_some_iff.mp e'
        subst e2
        obtain ⟨a, xs, rfl, ha, za, ra⟩ := seq_of o1 ex h1 s c1.fh c1.bh
        obtain ⟨u, e3, e4⟩ := ra.atI e1
        have q : Q u H := k _ H u [] g c1 (.leaf e4)
        refine ⟨_, _, rfl, ?_⟩
        cases isL with
        | true => exact .inl ⟨a, xs, i, u, rfl, rw'.toInt, ha, e3, q⟩
        | false => exact .inr (.inl ⟨a, xs, i, u, rfl, rw'.toInt, ha, e3, q⟩)
      · split at e'
        · rename_i isL ts ex
          obtain ⟨t, e1, e2⟩ := Option.map_eq_some_iff.mp e'
          subst e2
          cases x with
          | val t => cases ex
          | vw t0 =>
            obtain ⟨e0, A', ow⟩ := o1
            cases t0 with
            | ls ts0 =>
              cases ex
              cases ow with
              | ls h3 h4 h5 =>
                obtain ⟨u, A3, e3, e4⟩ := h5.atI e1
                exact ⟨_, _, rfl, .inl ⟨_, _, i, u, rfl, rw'.toInt, SqL.of (c.bh _ _ h3), e3, k F H u [] (Go.less fun _ m => nomatch m) (c.sub .nil fun _ m => nomatch m) ⟨rfl, A3, e4⟩⟩⟩
            | tup ts0 =>
              cases ex
              cases ow with
              | tup h3 h4 h5 =>
                obtain ⟨u, A3, e3, e4⟩ := h5.atI e1
                exact ⟨_, _, rfl, .inr (.inl ⟨_, _, i, u, rfl, rw'.toInt, sameT c.fh h3, e3, k F H u [] (Go.less fun _ m => nomatch m) (c.sub .nil fun _ m => nomatch m) ⟨rfl, A3, e4⟩⟩)⟩
            | _ => cases ex
        · split at e'
          · rename_i y ex
            by_cases q : y.length ≤ 16000000
            · rw [if_pos q] at e'
              obtain ⟨ch, e1, e2⟩ := Option.map_eq_some_iff.mp e'
              subst e2
              have rv : Rep K H v (.str y) := o1.rep c.fh c.bh (fun _ _ _ q => q) ex
              exact ⟨_, _, rfl, .inr (.inr ⟨y, i, ch, rv.toStr, rw'.toInt, small16 q, e1, end_scal c k fun F => .str _⟩)⟩
            · rw [if_neg q] at e'
              cases e'
          · cases e'
    · cases e'

def gLen : List R → Option R
  | [x] => match x.its with
    | some (_, ds) => some (rInt ds.length)
    | none => match x.parts with
      | some (_, ts) => some (rInt ts.length)
      | none => match x.er with
        | some (.str z) => if z.length ≤ 16000000 then some (rInt z.length) else none
        | _ => none
  | _ => none
theorem vr_len : VR K (fun xs H Q => ∃ x n, xs = [x] ∧ LenV K x H n ∧ Q (.int (n : Nat)) H) gLen := by
  intro rs z e F B H vs A Q c o k
  match rs, e with
  | [x], e =>
    have e' : (match x.its with
    | some (_, ds) => some (rInt ds.length)
    | none => match x.parts with
      | some (_, ts) => some (rInt ts.length)
      | none => match x.er with
        | some (.str z) => if z.length ≤ 16000000 then some (rInt z.length) else none
        | _ => none) = some z := e
    obtain ⟨v, A1, rfl, o1, g, c1, s, h1⟩ := rs_one c o
    split at e'
    · rename_i isL ds ex
      cases e'
      obtain ⟨a, xs, rfl, ha, za, ra⟩ := seq_of o1 ex h1 s c1.fh c1.bh
      rw [← ra.length] at k
      refine ⟨_, xs.length, rfl, ?_, end_scal c k fun F => .int _⟩
      cases isL with
      | true => exact .inl ⟨xs, ha, rfl⟩
      | false => exact .inr ⟨xs, ha, rfl⟩
    · split at e'
      · rename_i isL ts ex
        cases e'
        cases x with
        | val t => cases ex
        | vw t0 =>
          obtain ⟨e0, A', ow⟩ := o1
          cases t0 with
          | ls ts0 =>
            cases ex
            cases ow with
            | ls h3 h4 h5 =>
              rw [← h5.length] at k
              exact ⟨_, _, rfl, .inl ⟨_, SqL.of (c.bh _ _ h3), rfl⟩, end_scal c k fun F => .int _⟩
          | tup ts0 =>
            cases ex
            cases ow with
            | tup h3 h4 h5 =>
              rw [← h5.length] at k
              exact ⟨_, _, rfl, .inr ⟨_, sameT c.fh h3, rfl⟩, end_scal c k fun F => .int _⟩
          | _ => cases ex
      · split at e'
        · rename_i y ex
          by_cases q : y.length ≤ 16000000
          · rw [if_pos q] at e'
            cases e'
            have rv : Rep K H v (.str y) := o1.rep c.fh c.bh (fun _ _ _ q => q) ex
            cases rv.toStr
            exact ⟨_, y.length, rfl, ⟨small16 q, rfl⟩, end_scal c k fun F => .int _⟩
          · rw [if_neg q] at e'
            cases e'
        · cases e'
def pAbs : List D → Option D
  | [.int a] => some (.int (if a < 0 then -a else a))
  | _ => none
theorem vr_abs : VR K (fun xs H Q => ∃ i, xs = [.int i] ∧ Q (.int (if i < 0 then -i else i)) H) (gp pAbs) := VR.plain fun ds d e H vs Q r k => by
  match ds, e with
  | [.int a], e =>
    cases e
    obtain ⟨v, rfl, r1⟩ := r.one
    cases r1.toInt
    exact ⟨a, rfl, k _ fun F => .int _⟩
def pMin2 : List D → Option D
  | [.int a, .int b] => some (.int (if b < a then b else a))
  | _ => none
def pMax2 : List D → Option D
  | [.int a, .int b] => some (.int (if b > a then b else a))
  | _ => none
theorem vr_min2 : VR K (fun xs H Q => ∃ i j, xs = [.int i, .int j] ∧ Q (.int (if j < i then j else i)) H) (gp pMin2) := VR.plain fun ds d e H vs Q r k => by
  match ds, e with
  | [.int a, .int b], e =>
    cases e
    obtain ⟨v, w, rfl, r1, r2⟩ := r.two
    cases r1.toInt
    cases r2.toInt
    exact ⟨a, b, rfl, k _ fun F => .int _⟩
def pInt : List D → Option D
  | [.int a] => some (.int a)
  | [.bool b] => some (.int (if b = true then 1 else 0))
  | _ => none
theorem vr_int : VR K (fun xs H Q => (∃ i, xs = [.int i] ∧ Q (.int i) H) ∨ ∃ k, xs = [.bl k] ∧ Q (.int (if k then 1 else 0)) H) (gp pInt) := VR.plain fun ds d e H vs Q r k => by
  match ds, e with
  | [.int a], e =>
    cases e
    obtain ⟨v, rfl, r1⟩ := r.one
    cases r1.toInt
    exact .inl ⟨a, rfl, k _ fun F => .int _⟩
  | [.bool a], e =>
    cases e
    obtain ⟨v, rfl, r1⟩ := r.one
    cases r1.toBl
    exact .inr ⟨a, rfl, k _ fun F => .int _⟩
/-- list(..) of a list, a tuple -/
def gList : List R → Option R
  | [x] => x.its.map fun p => .val (.fl p.2)
  | _ => none
theorem vr_list : VR K (fun xs H Q => ∃ p ys, xs = [.ref p] ∧ (SqL K H p ys ∨ SqT K H p ys) ∧ ∀ l, H l = none → Q (.ref l) (upd H l (.lst ys))) gList := by
  intro rs z e F B H vs A Q c o k
  match rs, e with
  | [x], e =>
    obtain ⟨⟨isL, ds⟩, e1, e2⟩ := Option.map_eq_some_iff.mp (show x.its.map _ = some z from e)
    subst e2
    obtain ⟨v, A1, rfl, o1, g, c1, s, h1⟩ := rs_one c o
    obtain ⟨a, xs, rfl, ha, za, ra⟩ := seq_of o1 e1 h1 s c1.fh c1.bh
    refine ⟨a, xs, rfl, ?_, new_list g c1 za ra k⟩
    cases isL with
    | true => exact .inl ha
    | false => exact .inr ha
/-- tuple(..) -/
def gTuple : List R → Option R
  | [x] => x.its.map fun p => rd (.tuple p.2)
  | _ => none
theorem vr_tuple : VR K (fun xs H Q => ∃ p ys, xs = [.ref p] ∧ ((SqL K H p ys ∧ ∀ l, H l = none → Q (.ref l) (upd H l (.tup ys))) ∨ (SqT K H p ys ∧ Q (.ref p) H))) gTuple := by
  intro rs z e F B H vs A Q c o k
  match rs, e with
  | [x], e =>
    obtain ⟨⟨isL, ds⟩, e1, e2⟩ := Option.map_eq_some_iff.mp (show x.its.map _ = some z from e)
    subst e2
    obtain ⟨v, A1, rfl, o1, g, c1, s, h1⟩ := rs_one c o
    obtain ⟨a, xs, rfl, ha, za, ra⟩ := seq_of o1 e1 h1 s c1.fh c1.bh
    refine ⟨a, xs, rfl, ?_⟩
    cases isL with
    | true => exact .inl ⟨ha, new_tup g c1 za ra k⟩
    | false =>
      refine .inr ⟨ha, ?_⟩
      have rr : Rep K (joinH F H A) (.ref a) (.tuple ds) := by
        cases x with
        | val t =>
          cases q : t.fz with
          | none =>
            have e' := e1
            simp only [R.its, q] at e'
            cases e'
          | some d =>
            have e' := e1
            simp only [R.its, q] at e'
            have rr := Own.rep s o1 h1 q
            cases d with
            | tuple es =>
              cases e'
              exact rr
            | _ => cases e'
        | vw t =>
          obtain ⟨e0, A', ow⟩ := o1
          cases t with
          | leaf d =>
            cases ow with
            | leaf rr =>
              cases d with
              | tuple es =>
                cases e1
                exact rr.mono s
              | _ => cases e1
          | _ => cases e1
      exact k _ H _ [] g c1 (.leaf rr)
/-- all, any of a list of truths -/
def boolsD : List D → Option (List Bool)
  | [] => some []
  | .bool b :: r => (boolsD r).map (b :: ·)
  | _ => none
theorem boolsD_map : ∀ {ds : List D} {bs : List Bool}, boolsD ds = some bs → ds = bs.map PyData.bool
  | [], _, e => by
    cases e
    rfl
  | .bool b :: r, _, e => by
    obtain ⟨bs, e1, e2⟩ := Option.map_eq_some_iff.mp (show (boolsD r).map (b :: ·) = some _ from e)
    subst e2
    rw [boolsD_map e1]
    rfl
def gAll : List R → Option R
  | [x] => x.its.bind fun p => if p.1 = true then (boolsD p.2).map fun bs => rBool (bs.all id) else none
  | _ => none
def gAny : List R → Option R
  | [x] => x.its.bind fun p => if p.1 = true then (boolsD p.2).map fun bs => rBool (bs.any id) else none
  | _ => none
end
end Tl

namespace Tl
open PySem PySem.Spec PyProof.Rows L2

section
variable {K : PySem.W.Frag} {F F1 B H : Hp} {A : List Addr} {X : Cx}
theorem RepL.boolsOf : ∀ {vs : List V} {ds : List D} {bs : List Bool}, RepL K F vs ds → boolsD ds = some bs → vs = bs.map V.bl := fun r e => by
  rw [boolsD_map e] at r
  exact r.bools
theorem vr_all : VR K (rAll K) gAll := by
  intro rs z e F B H vs A Q c o k
  match rs, e with
  | [x], e =>
    obtain ⟨⟨isL, ds⟩, e1, e⟩ := Option.bind_eq_some_iff.mp (show x.its.bind _ = some z from e)
    obtain ⟨v, A1, rfl, o1, g, c1, s, h1⟩ := rs_one c o
    obtain ⟨a, xs, rfl, ha, za, ra⟩ := seq_of o1 e1 h1 s c1.fh c1.bh
    cases isL with
    | false => cases e
    | true =>
      obtain ⟨bs, e2, e3⟩ := Option.map_eq_some_iff.mp (show (boolsD ds).map _ = some z from e)
      subst e3
      have ev := ra.boolsOf e2
      subst ev
      exact ⟨a, bs, rfl, ha, end_scal c k fun F => .bl _⟩
theorem vr_any : VR K (rAny K) gAny := by
  intro rs z e F B H vs A Q c o k
  match rs, e with
  | [x], e =>
    obtain ⟨⟨isL, ds⟩, e1, e⟩ := Option.bind_eq_some_iff.mp (show x.its.bind _ = some z from e)
    obtain ⟨v, A1, rfl, o1, g, c1, s, h1⟩ := rs_one c o
    obtain ⟨a, xs, rfl, ha, za, ra⟩ := seq_of o1 e1 h1 s c1.fh c1.bh
    cases isL with
    | false => cases e
    | true =>
      obtain ⟨bs, e2, e3⟩ := Option.map_eq_some_iff.mp (show (boolsD ds).map _ = some z from e)
      subst e3
      have ev := ra.boolsOf e2
      subst ev
      exact ⟨a, bs, rfl, ha, end_scal c k fun F => .bl _⟩
/-- lists of whole numbers -/
def intsD : List D → Option (List Int)
  | [] => some []
  | .int b :: r => (intsD r).map (b :: ·)
  | _ => none
theorem intsD_map : ∀ {ds : List D} {bs : List Int}, intsD ds = some bs → ds = bs.map PyData.int
  | [], _, e => by
    cases e
    rfl
  | .int b :: r, _, e => by
    obtain ⟨bs, e1, e2⟩ := Option.map_eq_some_iff.mp (show (intsD r).map (b :: ·) = some _ from e)
    subst e2
    rw [intsD_map e1]
    rfl
theorem intsD_of : ∀ ns : List Int, intsD (ns.map PyData.int) = some ns
  | [] => rfl
  | n :: ns => by
    show (intsD (ns.map PyData.int)).map (n :: ·) = _
    rw [intsD_of ns]
    rfl
/-- the greatest, the least of a list -/
def gMax : List R → Option R
  | [x] => x.its.bind fun p => if p.1 = true then (intsD p.2).bind fun ns => ns.max?.map rInt else none
  | _ => none
def gMin : List R → Option R
  | [x] => x.its.bind fun p => if p.1 = true then (intsD p.2).bind fun ns => ns.min?.map rInt else none
  | _ => none
theorem vr_max : VR K (rMax K) gMax := by
  intro rs z e F B H vs A Q c o k
  match rs, e with
  | [x], e =>
    obtain ⟨⟨isL, ds⟩, e1, e⟩ := Option.bind_eq_some_iff.mp (show x.its.bind _ = some z from e)
    obtain ⟨v, A1, rfl, o1, g, c1, s, h1⟩ := rs_one c o
    obtain ⟨a, xs, rfl, ha, za, ra⟩ := seq_of o1 e1 h1 s c1.fh c1.bh
    cases isL with
    | false => cases e
    | true =>
      obtain ⟨bs, e2, e⟩ := Option.bind_eq_some_iff.mp (show (intsD ds).bind _ = some z from e)
      obtain ⟨m, e3, e4⟩ := Option.map_eq_some_iff.mp e
      subst e4
      rw [intsD_map e2] at ra
      have ev := ra.ints
      subst ev
      obtain ⟨hm, hle⟩ := List.max?_eq_some_iff.mp e3
      refine ⟨a, bs, rfl, ha, List.length_pos_of_mem hm, fun m' hm' hle' => ?_⟩
      have : m' = m := Int.le_antisymm (hle m' hm') (hle' m hm)
      subst this
      exact end_scal c k fun F => .int _
def cutD (xs : List D) (lo hi : Option Int) : List D := (xs.drop (HT.sIx xs.length 0 lo)).take (HT.sIx xs.length xs.length hi - HT.sIx xs.length 0 lo)
/-- one end of a slice -/
abbrev MO := Ro → Tau → Option (Option Int × Tau)
def oNone : MO := fun _ τ => some (none, τ)
def asI : R → Option Int
  | .val (.leaf (.int i)) => some i
  | _ => none
def oSome (m : MV) : MO := fun ro τ => (m ro τ).bind fun p => (asI p.1).map fun i => (some i, p.2)
theorem asI_of {r : R} {i : Int} {v : V} (h : asI r = some i) (o : ROk K F B H r v A) : v = .int i := by
  cases r with
  | vw t => cases h
  | val t =>
    cases t with
    | leaf d =>
      cases d with
      | int c =>
        cases h
        cases o with
        | leaf r => exact r.toInt
      | _ => cases h
    | _ => cases h
/-- x[lo:hi] of a list, a tuple, a text -/
def cutR (r : R) (lo hi : Option Int) : Option R := match r.its with
  | some (true, ds) => some (.val (.fl (cutD ds lo hi)))
  | some (false, ds) => some (rd (.tuple (cutD ds lo hi)))
  | none => match r.er with
    | some (.str z) => if z.length ≤ 16000000 then some (rd (.str (cutS z lo hi))) else none
    | _ => none
def mCut (m : MV) (l h : MO) : MV := fun ro τ => (m ro τ).bind fun p => (l ro p.2).bind fun q => (h ro q.2).bind fun w => (cutR p.1 q.1 w.1).map fun r => (r, w.2)
def okShow (d : D) : Bool := d.canLay0 && d.showable && decide (d.depth ≤ 150) && decide (d.shown.length ≤ 16000000)
def strOf : D → Str
  | .str x => x
  | d => d.shown
def pStr : List D → Option D
  | [d] => if okShow d = true then some (.str (strOf d)) else none
  | _ => none
def pRepr : List D → Option D
  | [d] => if okShow d = true then some (.str d.shown) else none
  | _ => none
def rRepr (K : PySem.W.Frag) : List V → Hp → VK → Prop := fun xs H Q => ∃ x d, xs = [x] ∧ Dp K H x d ∧ okShow d = true ∧ Q (.str d.shown) H
theorem okShow_all {d : D} (h : okShow d = true) : d.canLay0 = true ∧ d.showable = true ∧ d.depth ≤ 150 ∧ d.shown.length ≤ sizeLine := by
  have h' : (d.canLay0 && d.showable && decide (d.depth ≤ 150) && decide (d.shown.length ≤ 16000000)) = true := h
  simp only [Bool.and_eq_true, decide_eq_true_eq] at h'
  exact ⟨h'.1.1.1, h'.1.1.2, h'.1.2, small16 h'.2⟩
theorem call_repr {j : Nat} (hr : RmG j X.A) : CallR X (.builtin "repr") (rRepr X.K) := by
  intro pins s σ H xs us Q I r h
  obtain ⟨x, d, rfl, hd, ok, q⟩ := h
  obtain ⟨o1, o2, o3, o4⟩ := okShow_all ok
  obtain ⟨u, rfl, ru⟩ := vals1 r
  obtain ⟨as, rr⟩ := Dp.reads I d x u hd ru
  have un := hr.rm.un
  cases hd with
  | non =>
    cases ru
    exact PySem.P.repr_of_none ⟨.str _, H, I.tok _, ⟨_, rfl⟩, q⟩
  | bl b =>
    cases ru
    exact PySem.P.repr_of_bool ⟨.str _, H, I.tok _, ⟨_, rfl⟩, q⟩
  | int i =>
    obtain ⟨t, rfl⟩ := ru
    exact PySem.P.repr_of_int (of_decide_eq_true (by simpa only [PyData.showable] using o2)) ⟨.str _, H, I.tok _, ⟨_, rfl⟩, q⟩
  | str y =>
    obtain ⟨t, rfl⟩ := ru
    exact PySem.P.repr_of_str ⟨.str _, H, I.tok _, ⟨_, rfl⟩, q⟩ o4
  | lst h1 h2 =>
    cases ru
    refine repr_of_reads' (h₀ := s.heap) rr o2 (PyData.noDict_hsm (PyData.hasDict_of_canLay _ o1)) hr.gd (by omega) (fun _ _ e => e) (fun h' u tk hk => ?_) o4
    exact ⟨.str _, H, I.kept hk, ⟨_, rfl⟩, q⟩
  | tup h1 h2 =>
    cases ru
    refine repr_of_reads' (h₀ := s.heap) rr o2 (PyData.noDict_hsm (PyData.hasDict_of_canLay _ o1)) hr.gd (by omega) (fun _ _ e => e) (fun h' u tk hk => ?_) o4
    exact ⟨.str _, H, I.kept hk, ⟨_, rfl⟩, q⟩
theorem vr_repr : VR K (rRepr K) (gp pRepr) := VR.plain fun ds d e H vs Q r k => by
  match ds, e with
  | [a], e =>
    have e' : (if okShow a = true then some (PyData.str a.shown) else none) = some d := e
    by_cases q : okShow a = true
    · rw [if_pos q] at e'
      cases e'
      obtain ⟨v, rfl, r1⟩ := r.one
      exact ⟨v, a, rfl, r1.dp a (okShow_all q).1, q, k _ fun F => .str _⟩
    · rw [if_neg q] at e'
      cases e'

def tyD : D → String
  | .none => "NoneType"
  | .bool _ => "bool"
  | .int _ => "int"
  | .str _ => "str"
  | .list _ => "list"
  | .tuple _ => "tuple"
  | .dict _ => "dict"
/-- the type of a value; dicts with tuples as keys too -/
inductive TyZ (K : PySem.W.Frag) (H : Hp) : V → Value → Prop where
  | base {x : V} {t : Value} (h : TyX K H x t) : TyZ K H x t
  | dn {a : Addr} {kvs : List (NK × Addr × V)} (e : H a = some (dnO a kvs)) : TyZ K H (.ref a) (.type "dict")
  | dl {a : Addr} {o : Obj} {kvs : List (NK × Addr × V)} (e : H a = some (.frz o (dnO a kvs))) : TyZ K H (.ref a) (.type "dict")
theorem kitz_of {X : Cx} {pins : List (Addr × Obj)} {σ : L2.St} {H : Hp} {s : Shared} {x : V} {u t : Value} (I : Inv X pins σ H s) (rx : RelV x u) (ty : TyZ X.K H x t) : ∃ P : Heap → Prop, PySem.W.KitX X.K u t P ∧ P s.heap ∧ u ≠ .builtin "__main__.__loader__#opaque" := by
  cases ty with
  | base h => exact kit_of I rx h
  | @dn a kvs ea =>
    cases (show u = Value.ref a from rx)
    obtain ⟨⟨_, _, xs, _, o, es, ep, h1, h2, _⟩, _⟩ := (show ObjOk X.prog X.w H s.heap a (dnO a kvs) from I.hok a _ ea)
    exact ⟨_, PySem.W.kitx_dict, ⟨o, h1, h2.1⟩, fun z => nomatch z⟩
  | @dl a ob kvs ea =>
    cases (show u = Value.ref a from rx)
    obtain ⟨_, ⟨_, _, xs, _, o, es, ep, h1, h2, _⟩, _⟩ := (show ObjOk X.prog X.w H s.heap a (.frz ob (dnO a kvs)) from I.hok a _ ea)
    exact ⟨_, PySem.W.kitx_dict, ⟨o, h1, h2.1⟩, fun z => nomatch z⟩
def rIsiZ (K : PySem.W.Frag) : List V → Hp → VK → Prop := fun xs H Q => ∃ (x c : V) (t u : Value) (b : Bool), xs = [x, c] ∧ ClsV c u ∧ TyZ K H x t ∧ PySem.W.kitOne K t u = some b ∧ Q (.bl b) H
def rIsiTZ (K : PySem.W.Frag) : List V → Hp → VK → Prop := fun xs H Q => ∃ (x : V) (tp : Addr) (cs : List V) (t : Value) (us : List Value) (b : Bool), xs = [x, .ref tp] ∧ H tp = some (.tup cs) ∧ Paired ClsV cs us ∧ TyZ K H x t ∧ PySem.W.kitAny K t us = some b ∧ Q (.bl b) H
theorem call_isiZ {X : Cx} : CallR X (.builtin "isinstance") (rIsiZ X.K) := by
  intro pins s σ H xs us Q I r h
  obtain ⟨x, c, t, u, b, rfl, k, ty, e, q⟩ := h
  obtain ⟨u1, u2, rfl, r1, r2⟩ := vals2 r
  have e2 := k.eq r2
  subst e2
  obtain ⟨P, Z, p, hx⟩ := kitz_of I r1 ty
  exact PySem.W.kia_one Z I.kIn p e hx fun tk => ⟨.bl b, H, I.tok tk, rfl, q⟩
theorem call_isiTZ {X : Cx} : CallR X (.builtin "isinstance") (rIsiTZ X.K) := by
  intro pins s σ H xs us Q I r h
  obtain ⟨x, tp, cs, t, ws, b, rfl, hT, k, ty, e, q⟩ := h
  obtain ⟨u1, u2, rfl, r1, r2⟩ := vals2 r
  cases (show u2 = Value.ref tp from r2)
  obtain ⟨P, Z, p, hx⟩ := kitz_of I r1 ty
  obtain ⟨_, its, rv, o, h1, h2, n, h3⟩ := (show ObjOk X.prog X.w H s.heap tp (.tup cs) from I.hok tp _ hT)
  have e3 := ClsV.all k rv
  subst e3
  obtain ⟨oc, od, dt, sl⟩ := o
  simp only at h2 h3
  subst h2 h3
  exact PySem.W.kia_tup Z I.kIn p h1 e hx fun tk => ⟨.bl b, H, I.tok tk, rfl, q⟩
theorem tyX_of {v : V} {d : D} (r : Rep K H v d) : TyZ K H v (.type (tyD d)) := by
  cases r with
  | non => exact .base (.base .non)
  | bl b => exact .base (.base (.bl b))
  | int i => exact .base (.base (.int i))
  | str x => exact .base (.base (.str x))
  | lst h1 _ _ => exact .base (.base (.lst h1))
  | tup h1 _ _ =>
    rcases h1 with (h1 | ⟨o, h1⟩) | ⟨o, its, n, h1, h2, _⟩
    · exact .base (.base (.tup h1))
    · exact .base (.fTuple h1)
    · exact .base (.kTuple h1 h2)
  | dk h1 _ => exact .base (.base (.dK h1))
  | dn h1 _ => exact .dn h1
  | dl h1 _ => exact .dl h1
/-- what isinstance says of data for a class -/
structure IsT (n : String) (f : D → Bool) : Prop where
  ok : ∀ d, kitB (tyD d) n = some (f d)
def isIntD : D → Bool
  | .int _ => true
  | .bool _ => true
  | _ => false
def isBoolD : D → Bool
  | .bool _ => true
  | _ => false
def isStrD : D → Bool
  | .str _ => true
  | _ => false
def isListD : D → Bool
  | .list _ => true
  | _ => false
def isTupD : D → Bool
  | .tuple _ => true
  | _ => false
theorem isT_int : IsT "int" isIntD := ⟨fun d => match d with
  | .none => (by decide +kernel : kitB "NoneType" "int" = some false)
  | .bool _ => (by decide +kernel : kitB "bool" "int" = some true)
  | .int _ => (by decide +kernel : kitB "int" "int" = some true)
  | .str _ => (by decide +kernel : kitB "str" "int" = some false)
  | .list _ => (by decide +kernel : kitB "list" "int" = some false)
  | .tuple _ => (by decide +kernel : kitB "tuple" "int" = some false)
  | .dict _ => (by decide +kernel : kitB "dict" "int" = some false)⟩
theorem isT_bool : IsT "bool" isBoolD := ⟨fun d => match d with
  | .none => (by decide +kernel : kitB "NoneType" "bool" = some false)
  | .bool _ => (by decide +kernel : kitB "bool" "bool" = some true)
  | .int _ => (by decide +kernel : kitB "int" "bool" = some false)
  | .str _ => (by decide +kernel : kitB "str" "bool" = some false)
  | .list _ => (by decide +kernel : kitB "list" "bool" = some false)
  | .tuple _ => (by decide +kernel : kitB "tuple" "bool" = some false)
  | .dict _ => (by decide +kernel : kitB "dict" "bool" = some false)⟩
theorem isT_str : IsT "str" isStrD := ⟨fun d => match d with
  | .none => (by decide +kernel : kitB "NoneType" "str" = some false)
  | .bool _ => (by decide +kernel : kitB "bool" "str" = some false)
  | .int _ => (by decide +kernel : kitB "int" "str" = some false)
  | .str _ => (by decide +kernel : kitB "str" "str" = some true)
  | .list _ => (by decide +kernel : kitB "list" "str" = some false)
  | .tuple _ => (by decide +kernel : kitB "tuple" "str" = some false)
  | .dict _ => (by decide +kernel : kitB "dict" "str" = some false)⟩
theorem isT_list : IsT "list" isListD := ⟨fun d => match d with
  | .none => (by decide +kernel : kitB "NoneType" "list" = some false)
  | .bool _ => (by decide +kernel : kitB "bool" "list" = some false)
  | .int _ => (by decide +kernel : kitB "int" "list" = some false)
  | .str _ => (by decide +kernel : kitB "str" "list" = some false)
  | .list _ => (by decide +kernel : kitB "list" "list" = some true)
  | .tuple _ => (by decide +kernel : kitB "tuple" "list" = some false)
  | .dict _ => (by decide +kernel : kitB "dict" "list" = some false)⟩
theorem isT_tuple : IsT "tuple" isTupD := ⟨fun d => match d with
  | .none => (by decide +kernel : kitB "NoneType" "tuple" = some false)
  | .bool _ => (by decide +kernel : kitB "bool" "tuple" = some false)
  | .int _ => (by decide +kernel : kitB "int" "tuple" = some false)
  | .str _ => (by decide +kernel : kitB "str" "tuple" = some false)
  | .list _ => (by decide +kernel : kitB "list" "tuple" = some false)
  | .tuple _ => (by decide +kernel : kitB "tuple" "tuple" = some true)
  | .dict _ => (by decide +kernel : kitB "dict" "tuple" = some false)⟩
def mIsi (f : D → Bool) (m : MV) : MV := fun ro τ => (m ro τ).bind fun p => p.1.er.map fun d => (rBool (f d), p.2)
theorem er_isi {e eT : Expr} {n : String} {f : D → Bool} {m : MV} {p pos : Pos} (t : IsT n f) (h : ER X e m) (hT : PE X eT (tC (.ty n))) (hg : Gl X "isinstance" := by rfl) (hm : X.mg "isinstance" = none) (hv : bootBuiltins "isinstance" = some (.builtin "isinstance") := by decide +kernel)
    (h1 : starEach [e, eT] X.env = (false, eval e X.env) :: starEach [eT] X.env := by rfl) (h2 : starEach [eT] X.env = (false, eval eT X.env) :: starEach [] X.env := by rfl) (hpl : (backTo pos (starEach [eT] X.env)).any (·.1) = false := by rfl) :
    ER X (.Call (.Name "isinstance" p) [e, eT] [] pos) (mIsi f m) := ⟨fun ro τ r τ' em F B H σ A Q a k => by
  obtain ⟨⟨z, τ1⟩, e1, em⟩ := Option.bind_eq_some_iff.mp em
  obtain ⟨d, e2, em⟩ := Option.map_eq_some_iff.mp em
  cases em
  refine wE (pe_callB call_isiZ hg hm hv (pa_cons peW (pa_cons hT pa_nil h2) h1) (by decide) (by decide) h1 hpl) (h.run ro τ z _ e1 F B H σ A _ a fun F1 H1 v A1 A2 g1 c1 o1 t1 => ?_)
  have rv : Rep X.K H1 v d := o1.rep c1.fh c1.bh (fun _ _ _ q => q) e2
  exact ⟨v, .ty n, .type (tyD d), .type n, f d, rfl, .ty n, tyX_of rv, kit_ty (t.ok d), k F1 H1 _ [] A2 (g1.trans (Go.less fun _ m => List.mem_append_right _ m)) c1.right (.leaf (.bl _)) t1⟩⟩
def mIsi2 (f g : D → Bool) (m : MV) : MV := fun ro τ => (m ro τ).bind fun p => p.1.er.map fun d => (rBool (f d || g d), p.2)
theorem er_isi2 {e eT eS : Expr} {n n' : String} {f f' : D → Bool} {m : MV} {p pos tp : Pos} {kk : Nat} (t : IsT n f) (t' : IsT n' f') (h : ER X e m) (hT : PE X eT (tC (.ty n))) (hS : PE X eS (tC (.ty n'))) (hg : Gl X "isinstance" := by rfl) (hm : X.mg "isinstance" = none) (hv : bootBuiltins "isinstance" = some (.builtin "isinstance") := by decide +kernel)
    (h1 : starEach [e, .Tuple [eT, eS] kk tp] X.env = (false, eval e X.env) :: starEach [.Tuple [eT, eS] kk tp] X.env := by rfl) (h2 : starEach [.Tuple [eT, eS] kk tp] X.env = (false, eval (.Tuple [eT, eS] kk tp) X.env) :: starEach [] X.env := by rfl)
    (h3 : starEach [eT, eS] X.env = (false, eval eT X.env) :: starEach [eS] X.env := by rfl) (h4 : starEach [eS] X.env = (false, eval eS X.env) :: starEach [] X.env := by rfl) (hpl : (backTo pos (starEach [.Tuple [eT, eS] kk tp] X.env)).any (·.1) = false := by rfl) :
    ER X (.Call (.Name "isinstance" p) [e, .Tuple [eT, eS] kk tp] [] pos) (mIsi2 f f' m) := ⟨fun ro τ r τ' em F B H σ A Q a k => by
  obtain ⟨⟨z, τ1⟩, e1, em⟩ := Option.bind_eq_some_iff.mp em
  obtain ⟨d, e2, em⟩ := Option.map_eq_some_iff.mp em
  cases em
  refine wE (pe_callB call_isiTZ hg hm hv (pa_cons peW (pa_cons (pe_tup (pa_cons hT (pa_cons hS pa_nil h4) h3)) pa_nil h2) h1) (by decide) (by decide) h1 hpl) (h.run ro τ z _ e1 F B H σ A _ a fun F1 H1 v A1 A2 g1 c1 o1 t1 => ?_)
  have rv : Rep X.K H1 v d := o1.rep c1.fh c1.bh (fun _ _ _ q => q) e2
  refine ⟨by rw [sizeLine_eq]; show 2 ≤ 16777216; decide, fun p hp => ?_⟩
  obtain ⟨g2, c2⟩ := c1.right.newF (o := .tup [.ty n, .ty n']) hp
  have sm : Same H1 (upd H1 p (.tup [.ty n, .ty n'])) := fun b u z => by
    rw [upd_ne (ne_of_none z hp)]
    exact z
  refine ⟨v, p, [.ty n, .ty n'], .type (tyD d), [.type n, .type n'], f d || f' d, rfl, upd_same, .cons (.ty n) (.cons (.ty n') .nil), tyX_of (rv.mono sm), ?_, ?_⟩
  · refine kitAny_cons (kit_ty (t.ok d)) (fun hf => kitAny_cons (r := f d || f' d) (kit_ty (t'.ok d)) (fun hf' => ?_) fun hf' => ?_) fun hf => ?_
    · rw [hf, hf']
      rfl
    · rw [hf']
      exact Bool.or_true _
    · rw [hf]
      rfl
  · exact k _ _ _ [] A2 ((g1.trans (Go.less fun _ m => List.mem_append_right _ m)).trans g2) c2 (.leaf (.bl _)) (t1.stay g2.ff fun b m w q => sm b w q)⟩

theorem RepL.rng (lo hi : Int) : RepL K F (rgV lo hi) (rangeD lo 1 (hi - lo).toNat) := by
  unfold rgV rangeD
  generalize (hi - lo).toNat = n
  have q : ∀ l : List Nat, RepL K F (l.map fun i => V.int (lo + (i : Nat))) (l.map fun i => PyData.int (lo + (i : Nat) * 1)) := fun l => by
    induction l with
    | nil => exact .nil
    | cons i l ih =>
      refine .cons ?_ ih
      show Rep K F (V.int (lo + (i : Nat))) (PyData.int (lo + (i : Nat) * 1))
      rw [Int.mul_one]
      exact .int _
  exact q _
def mLRng (m : MV) : MV := fun ro τ => (m ro τ).bind fun p => (asI p.1).bind fun n => if 0 ≤ n ∧ n ≤ 16000000 then some (.val (.fl (rangeD 0 1 n.toNat)), p.2) else none
theorem er_lrng {e : Expr} {m : MV} {p pos p2 pos2 : Pos} (h : ER X e m) (hc : X.calm = true := by rfl) (hg : Gl X "list" := by rfl) (hm : X.mg "list" = none) (hg2 : Gl X "range" := by rfl) (hm2 : X.mg "range" = none)
    (na : starEach [e] X.env = (false, eval e X.env) :: starEach [] X.env := by rfl) (na2 : starEach [.Call (.Name "range" p2) [e] [] pos2] X.env = (false, eval (.Call (.Name "range" p2) [e] [] pos2) X.env) :: starEach [] X.env := by rfl) :
    ER X (.Call (.Name "list" p) [.Call (.Name "range" p2) [e] [] pos2] [] pos) (mLRng m) := ⟨fun ro τ r τ' em F B H σ A Q a k => by
  obtain ⟨⟨z, τ1⟩, e1, em⟩ := Option.bind_eq_some_iff.mp em
  obtain ⟨n, e2, em⟩ := Option.bind_eq_some_iff.mp em
  have em' : (if 0 ≤ n ∧ n ≤ 16000000 then some (R.val (.fl (rangeD 0 1 n.toNat)), τ1) else none) = some (r, τ') := em
  by_cases q : 0 ≤ n ∧ n ≤ 16000000
  · rw [if_pos q] at em'
    cases em'
    refine wE (pe_listRg hc hg hm (prg_1 hg2 hm2 peW na) na2) (h.run ro τ z _ e1 F B H σ A _ a fun F1 H1 v A1 A2 g1 c1 o1 t1 => ⟨n, asI_of e2 o1, RgOk.of_le (by omega) (by omega) (by omega) q.1, fun p hp => ?_⟩)
    obtain ⟨g2, c2⟩ := c1.right.newO (o := .lst (rgV 0 n)) hp
    have rl : RepL X.K F1 (rgV 0 n) (rangeD 0 1 n.toNat) := by simpa using RepL.rng (K := X.K) (F := F1) 0 n
    refine k _ _ (.ref p) [p] A2 ((g1.trans (Go.less fun _ m => List.mem_append_right _ m)).trans g2) c2 (.fl upd_same ?_ rl) (t1.stay g2.ff fun b m w q => ?_)
    · rw [rgV_length]
      exact small16 (by omega)
    · rw [upd_ne (ne_of_none q hp)]
      exact q
  · rw [if_neg q] at em'
    cases em'⟩

def MU (K : PySem.W.Frag) (r : V → List V → Hp → VK → Prop) (g : T → List D → Option (D × T)) : Prop :=
  ∀ (t : T) (ds : List D) (z : D) (t' : T), g t ds = some (z, t') → ∀ (F B H : Hp) (v : V) (vs : List V) (A : List Addr) (Q : VK), Cn F B H A → Own K F H v t A → RepL K F vs ds →
    (∀ (H' : Hp) (u : V) (A' : List Addr), Go F H A F H' A' → Cn F B H' A' → Own K F H' v t' A' → Rep K F u z → Q u H') → r v vs H Q
def isLs : T → Bool
  | .fl _ => true
  | .ls _ => true
  | _ => false
def mMut (i : Nat) (g : T → List D → Option (D × T)) (l : ML) : MV := fun ro τ => (tget τ i).bind fun t0 => if isLs t0 = true then (l ro τ).bind fun p => (stL p.1).bind fun ds => (tget p.2 i).bind fun t => (g t ds).map fun q => (rd q.1, tset p.2 i q.2) else none
theorem ls_at {v : V} {t : T} {A : List Addr} (h : isLs t = true) (o : Own K F H v t A) : tyV K "list" v H := by
  cases o with
  | fl h1 _ _ => exact .inl ⟨rfl, _, .inl (.inl h1)⟩
  | ls h1 _ _ => exact .inl ⟨rfl, _, .inl (.inl h1)⟩
  | _ => cases h
theorem mut_end {σ : L2.St} {i : Nat} {g : T → List D → Option (D × T)} {r : V → List V → Hp → VK → Prop} (mu : MU K r g) {F0 H0 : Hp} {A0 A1 A2 : List Addr} {rs : List R} {vs : List V} {ds : List D} {t t' : T} {z : D} {τ : Tau} {v : V} {Q : VK}
    (g0 : Go F0 H0 A0 F H (A1 ++ A2)) (c : Cn F B H (A1 ++ A2)) (o : RsOk K F B H rs vs A1) (tk : TauOk K F H σ τ A2) (e1 : stL rs = some ds) (e2 : tget τ i = some t) (e3 : g t ds = some (z, t')) (hv : σ[i]? = some (some v))
    (k : ∀ (F' H' : Hp) (u : V) (A1 A2 : List Addr), Go F0 H0 A0 F' H' (A1 ++ A2) → Cn F' B H' (A1 ++ A2) → ROk K F' B H' (rd z) u A1 → TauOk K F' H' σ (tset τ i t') A2 → Q u H') : r v vs H Q := by
  obtain ⟨F1, g1, c1, s1, rl⟩ := o.freeze c e1
  have t1 := tk.stay s1 fun _ _ _ q => q
  obtain ⟨w, A3, A4, hw, ow, t2, n2, s2⟩ := t1.take c1.nd e2
  rw [hv] at hw
  cases hw
  have c2 := c1.sub n2 s2
  refine mu t ds z t' e3 F1 B H v vs A3 Q c2.left ow rl fun H' u A' g3 c3 o3 ru => ?_
  obtain ⟨g4, c4⟩ := Go.framedR c2 g3 c3
  have t4 := t2.stay g3.ff fun b m w q => g3.keep b w (fun z => c2.apart b z m) q
  obtain ⟨A5, t5, n5, s5⟩ := t4.put hv o3 c4.nd
  rw [← tset_eq] at t5
  exact k F1 H' u [] A5 ((((g0.trans g1).trans (Go.less s2)).trans g4).trans (Go.less s5)) (c4.sub n5 s5) (.leaf ru) t5
theorem er_mut {o e : Expr} {es : List Expr} {name : Str} {apos cpos : Pos} {id : String} {r : V → List V → Hp → VK → Prop} {g : T → List D → Option (D × T)} {l : ML} {i : Nat} (mu : MU X.K r g)
    (slot : Slot "list" name id) (hty : typeOf (.builtin id) = pure (.type "method_descriptor")) (hm : MtR X id r) (ho : PE X o (tVar i)) (ha : AR X (e :: es) l)
    (hbase : attributeBase o name X.env (eval o X.env) = eval o X.env := by rfl)
    (hfew : ((backTo cpos (starEach (e :: es) X.env)).all (fun x => !x.1) && (backToKw cpos (keywordEach [] X.env)).all (fun x => x.1.isSome)
      && decide ((e :: es).length + ([] : List Keyword).length + (if ([] : List Keyword).isEmpty then 0 else 1) < 30)) = true := by rfl)
    (hline : (apos.endLine == cpos.line) = true := by rfl) (hs : starEach (e :: es) X.env = (false, eval e X.env) :: starEach es X.env := by rfl) (hplain : (backTo cpos (starEach es X.env)).any (·.1) = false := by rfl) :
    ER X (.Call (.Attribute o name apos) (e :: es) [] cpos) (mMut i g l) := ⟨fun ro τ r' τ' em F B H σ A Q a k => by
  obtain ⟨t0, e0, em⟩ := Option.bind_eq_some_iff.mp em
  by_cases q0 : isLs t0 = true
  · rw [if_pos q0] at em
    obtain ⟨⟨rs, τ1⟩, e1, em⟩ := Option.bind_eq_some_iff.mp em
    obtain ⟨ds, e2, em⟩ := Option.bind_eq_some_iff.mp em
    obtain ⟨t, e3, em⟩ := Option.bind_eq_some_iff.mp em
    obtain ⟨⟨z, t'⟩, e4, em⟩ := Option.map_eq_some_iff.mp em
    cases em
    obtain ⟨v, A1, A2, hv, ow, _⟩ := a.tau.take a.cn.nd e0
    refine wE (pe_bm PySem.F.plainAttrs_list slot hty hm ho paW hbase hfew hline hs hplain) ⟨v, hv, ls_at q0 ow, ha.run ro τ rs τ1 e1 F B H σ A _ a fun F1 H1 vs A3 A4 g1 c1 o1 t1 => ?_⟩
    exact mut_end mu g1 c1 o1 t1 e2 e3 e4 hv k
  · rw [if_neg q0] at em
    cases em⟩
theorem er_mut0 {o : Expr} {name : Str} {apos cpos : Pos} {id : String} {r : V → List V → Hp → VK → Prop} {g : T → List D → Option (D × T)} {i : Nat} (mu : MU X.K r g)
    (slot : Slot "list" name id) (hty : typeOf (.builtin id) = pure (.type "method_descriptor")) (hm : MtR X id r) (ho : PE X o (tVar i))
    (hbase : attributeBase o name X.env (eval o X.env) = eval o X.env := by rfl) (hline : (apos.endLine == cpos.line) = true := by rfl) : ER X (.Call (.Attribute o name apos) [] [] cpos) (mMut i g mNil) := ⟨fun ro τ r' τ' em F B H σ A Q a k => by
  obtain ⟨t0, e0, em⟩ := Option.bind_eq_some_iff.mp em
  by_cases q0 : isLs t0 = true
  · rw [if_pos q0] at em
    obtain ⟨⟨rs, τ1⟩, e1, em⟩ := Option.bind_eq_some_iff.mp em
    obtain ⟨ds, e2, em⟩ := Option.bind_eq_some_iff.mp em
    obtain ⟨t, e3, em⟩ := Option.bind_eq_some_iff.mp em
    obtain ⟨⟨z, t'⟩, e4, em⟩ := Option.map_eq_some_iff.mp em
    cases em
    cases e1
    obtain ⟨v, A1, A2, hv, ow, _⟩ := a.tau.take a.cn.nd e0
    refine wE (pe_bm0 PySem.F.plainAttrs_list slot hty hm ho hbase hline) ⟨v, hv, ls_at q0 ow, ?_⟩
    exact mut_end (A1 := []) mu (Go.refl (A := A)) a.cn .nil a.tau e2 e3 e4 hv k
  · rw [if_neg q0] at em
    cases em⟩
theorem fl_write {F B H : Hp} {A : List Addr} {a : Addr} {ys : List V} {ds : List D} (c : Cn F B H A) (hA : A = [a]) (hz : ys.length ≤ sizeLine) (r : RepL K F ys ds) :
    Go F H A F (upd H a (.lst ys)) A ∧ Cn F B (upd H a (.lst ys)) A ∧ Own K F (upd H a (.lst ys)) (.ref a) (.fl ds) A := by
  subst hA
  obtain ⟨g, c'⟩ := c.write (o := .lst ys) (p := a) (List.mem_singleton.mpr rfl)
  exact ⟨g, c', .fl upd_same hz r⟩
theorem lt16 {n : Nat} (h : n < 16000000) : n < sizeLine := by
  rw [sizeLine_eq]
  omega
theorem OwnL.append {F H : Hp} : ∀ {xs ys : List V} {ts us : List T} {A B : List Addr}, OwnL K F H xs ts A → OwnL K F H ys us B → OwnL K F H (xs ++ ys) (ts ++ us) (A ++ B)
  | [], _, _, _, _, _, .nil, h => h
  | _ :: _, _, _, _, _, _, .cons o t, h => by
    rw [List.append_assoc]
    exact .cons o (OwnL.append t h)
def gAppend : T → List D → Option (D × T)
  | .fl xs, [d] => if xs.length < 16000000 then some (.none, .fl (xs ++ [d])) else none
  | .ls ts, [d] => if ts.length < 16000000 then some (.none, .ls (ts ++ [.leaf d])) else none
  | _, _ => none
theorem mu_append : MU K rAppend gAppend := by
  intro t ds z t' e F B H v vs A Q c o r k
  match t, ds, e with
  | .ls ts, [d], e =>
    have e' : (if ts.length < 16000000 then some (PyData.none, T.ls (ts ++ [.leaf d])) else none) = some (z, t') := e
    by_cases q : ts.length < 16000000
    · rw [if_pos q] at e'
      cases e'
      cases o with
      | @ls a ys _ A0 h1 h2 h3 =>
        obtain ⟨u, rfl, ru⟩ := r.one
        have hl := OwnL.length h3
        obtain ⟨g, c'⟩ := c.write (o := .lst (ys ++ [u])) (p := a) List.mem_cons_self
        have hz : (ys ++ [u]).length ≤ sizeLine := by
          rw [List.length_append, List.length_singleton]
          exact lt16 (by omega)
        have np : ∀ b ∈ A0, b ≠ a := fun b m z => (List.nodup_cons.mp c.nd).1 (z ▸ m)
        have o3 : OwnL K F (upd H a (.lst (ys ++ [u]))) (ys ++ [u]) (ts ++ [.leaf d]) (A0 ++ ([] ++ [])) := ((h3.stay (Same.refl F) fun b m o q => by
          rw [upd_ne (np b m)]
          exact q)).append (.cons (.leaf ru) .nil)
        rw [List.append_nil, List.append_nil] at o3
        exact ⟨a, ys, u, rfl, rfl, h1, lt16 (by omega), k _ .non _ g c' (.ls upd_same hz o3) .non⟩
    · rw [if_neg q] at e'
      cases e'
  | .fl xs, [d], e =>
    have e' : (if xs.length < 16000000 then some (PyData.none, T.fl (xs ++ [d])) else none) = some (z, t') := e
    by_cases q : xs.length < 16000000
    · rw [if_pos q] at e'
      cases e'
      cases o with
      | fl h1 h2 h3 =>
        obtain ⟨u, rfl, ru⟩ := r.one
        have hl := h3.length
        have hz : ∀ ys : List V, ys.length < 16000000 → (ys ++ [u]).length ≤ sizeLine := fun ys hy => by
          rw [List.length_append, List.length_singleton]
          exact lt16 hy
        rename_i a ys
        obtain ⟨g, c', o'⟩ := fl_write c rfl (hz ys (by omega)) (h3.append (.cons ru .nil))
        exact ⟨a, ys, u, rfl, rfl, h1, lt16 (by omega), k _ .non _ g c' o' .non⟩
    · rw [if_neg q] at e'
      cases e'
def gExtend : T → List D → Option (D × T)
  | .fl xs, [.list es] => if xs.length + es.length ≤ 16000000 then some (.none, .fl (xs ++ es)) else none
  | _, _ => none
theorem mu_extend : MU K rExtend gExtend := by
  intro t ds z t' e F B H v vs A Q c o r k
  match t, ds, e with
  | .fl xs, [.list es], e =>
    have e' : (if xs.length + es.length ≤ 16000000 then some (PyData.none, T.fl (xs ++ es)) else none) = some (z, t') := e
    by_cases q : xs.length + es.length ≤ 16000000
    · rw [if_pos q] at e'
      cases e'
      cases o with
      | fl h1 h2 h3 =>
        obtain ⟨u, rfl, ru⟩ := r.one
        cases ru with
        | lst f1 f2 f3 =>
          rename_i a ys b zs
          have hl := h3.length
          have hl2 := f3.length
          have hz : ys.length + zs.length ≤ sizeLine := small16 (by omega)
          obtain ⟨g, c', o'⟩ := fl_write c rfl (by rw [List.length_append]; exact hz) (h3.append f3)
          exact ⟨a, b, ys, zs, rfl, rfl, h1, c.fh _ _ f1, hz, k _ .non _ g c' o' .non⟩
    · rw [if_neg q] at e'
      cases e'
def gInsert : T → List D → Option (D × T)
  | .fl xs, [.int i, d] => if xs.length < 16000000 ∧ 0 ≤ i ∧ i ≤ 16000000 then some (.none, .fl (xs.take i.toNat ++ [d] ++ xs.drop i.toNat)) else none
  | _, _ => none
def gPop : T → List D → Option (D × T)
  | .fl xs, [] => (xs[xs.length - 1]?).map fun d => (d, .fl xs.dropLast)
  | _, _ => none
theorem mu_pop : MU K rPop gPop := by
  intro t ds z t' e F B H v vs A Q c o r k
  match t, ds, e with
  | .fl xs, [], e =>
    obtain ⟨d, e1, e2⟩ := Option.map_eq_some_iff.mp (show (xs[xs.length - 1]?).map (fun d => (d, T.fl xs.dropLast)) = some (z, t') from e)
    cases e2
    cases r
    cases o with
    | fl h1 h2 h3 =>
      rename_i a ys
      obtain ⟨u, e3, ru⟩ := h3.get e1
      rw [← h3.length] at e3
      obtain ⟨g, c', o'⟩ := fl_write c rfl (Nat.le_trans (by rw [List.length_dropLast]; omega) h2) h3.dropLast
      exact ⟨a, ys, u, rfl, rfl, h1, e3, k _ u _ g c' o' ru⟩
def gPopAt : T → List D → Option (D × T)
  | .fl xs, [.int i] => if -16000000 ≤ i ∧ i ≤ 16000000 then (seqIndex? i xs.length).bind fun k => (xs[k]?).map fun d => (d, .fl (xs.eraseIdx k)) else none
  | _, _ => none
theorem mu_popAt : MU K rPopAt gPopAt := by
  intro t ds z t' e F B H v vs A Q c o r k
  match t, ds, e with
  | .fl xs, [.int i], e =>
    have e' : (if -16000000 ≤ i ∧ i ≤ 16000000 then (seqIndex? i xs.length).bind fun k => (xs[k]?).map fun d => (d, T.fl (xs.eraseIdx k)) else none) = some (z, t') := e
    by_cases q : -16000000 ≤ i ∧ i ≤ 16000000
    · rw [if_pos q] at e'
      obtain ⟨j, e1, e'⟩ := Option.bind_eq_some_iff.mp e'
      obtain ⟨d, e2, e3⟩ := Option.map_eq_some_iff.mp e'
      cases e3
      cases o with
      | fl h1 h2 h3 =>
        obtain ⟨w, rfl, rw'⟩ := r.one
        cases rw'.toInt
        rename_i a ys
        obtain ⟨u, e4, ru⟩ := h3.get e2
        rw [← h3.length] at e1
        obtain ⟨g, c', o'⟩ := fl_write c rfl (Nat.le_trans (len_erase ys j) h2) (h3.eraseIdx j)
        exact ⟨a, ys, i, j, u, rfl, rfl, h1, by omega, by omega, e1, e4, k _ u _ g c' o' ru⟩
    · rw [if_neg q] at e'
      cases e'
def gReverse : T → List D → Option (D × T)
  | .fl xs, [] => some (.none, .fl xs.reverse)
  | _, _ => none
def gClear : T → List D → Option (D × T)
  | .fl xs, [] => some (.none, .fl [])
  | .ls xs, [] => some (.none, .fl [])
  | _, _ => none
def putAt : T → Int → D → Option T
  | .fl xs, i, d => (ixN xs.length i).map fun j => .fl (xs.set j d)
  | _, _, _ => none
end
end Tl

namespace Tl
open PySem PySem.Spec PyProof.Rows L2

/-- the abstract heap at the law's entry: the script alone, locked -/
def lone (a : Addr) (o : Obj) (u : HO) : Hp := fun b => if b = a then some (.frz o u) else none
section
variable {P : Program} {w : World} {K : PySem.W.Frag} {mg mb : Str → Option Value} {k : Nat} {fa a : Addr} {x : Str} {m : MF} {s : Shared} {vs : List Value} {ns : List Int}
theorem law_from {H : Hp} (KX : K.In s.heap) (hns : s.heap.Ns mainGlobals mg) (hb : s.heap.Ns builtinsNs mb) (hbb : ∀ x : Str, x ≠ "__name__" → mb x = bootBuiltins x) (hlim : s.heap.NoLimit) (hg : s.gens = #[])
    (G : ∀ base : Heap, K.In base → base.Ns mainGlobals mg → Fm P w K mg base k x 1 m) (hfa : mg x = some (.ref fa)) (hr : RmG k callerA) (hm : ∃ ts', m [.scr (ns.map PyData.int)] = some (.leaf (.bool true), ts')) (hl : ns.length ≤ 63)
    (hS : SqL K H a (ns.map V.int)) (hok : HOk P w H s.heap) (only : ∀ b u, H b = some u → ∃ o xs, u = .frz o (.lst xs)) (apart : ∀ b u, H b = some u → K.lookup b = none) :
    codeAny (model P w) callerA (.call (.ref fa) ⟨[.ref a], []⟩) (fun r s' => r = .ok (.ret (.bool true)) ∧ OldK s.heap s'.heap ∧ s'.os = s.os ∧ AllBare s'.gens) s := by
  -- what is no list stands in the hidden heap, too
  have nodict : ∀ {b : Addr} {ob : Obj} {es : Array DictEntry} {ep : Nat}, s.heap.get? b = some ob → ob.data = .dict es ep → H b = none := fun {b ob es ep} e d => by
    cases q : H b with
    | none => rfl
    | some u =>
      obtain ⟨o, xs, rfl⟩ := only b u q
      obtain ⟨e1, z, its, n, _, e2⟩ : s.heap.get? b = some o ∧ xs.length ≤ sizeLine ∧ ∃ (its : List Value) (n : Nat), Vals xs its ∧ s.heap.get? b = some { cls := .type "list", data := .seq its.toArray n } := hok b _ q
      rw [e] at e2
      cases e2
      cases d
  have nsH : ∀ {b : Addr} {f : Str → Option Value}, s.heap.Ns b f → (hidT s.heap H).Ns b f := fun {b f} ⟨ob, es, ep, e, d, r⟩ => ⟨ob, es, ep, hidT_get e (nodict e d), d, r⟩
  have kin : K.In (hidT s.heap H) := fun b ob e => hidT_get (KX b ob e) (by
    cases q : H b with
    | none => rfl
    | some u =>
      rw [apart b u q] at e
      cases e)
  have md : Mod K mg (hidT s.heap H) := ⟨kin, nsH hns, ⟨mb, nsH hb, hbb⟩, let ⟨mc, h1, h2⟩ := hlim; ⟨mc, nsH h1, h2⟩⟩
  have e0 : Env0 P w K mg (hidT s.heap H) callerA [] s H := ⟨rfl, md, fun b o e => of_hidT e, Nat.le_of_eq (hidT_size _ _), True.intro, (fun b hb => nomatch hb), hok, .of_eq hg⟩
  obtain ⟨f, fd, ps, FG, hf, kp, hb'⟩ := (G _ kin (nsH hns)).ex
  rw [hfa] at hf
  cases hf
  obtain ⟨ts', hm⟩ := hm
  have sp : spM K 1 m [.ref a] H (fun v _ => v = .bl true) E0 := by
    refine ⟨rfl, H, [], [.scr (ns.map PyData.int)], .leaf (.bool true), ts', ⟨Same.refl H, same_noH, .nil, (fun _ z => nomatch z), (fun _ _ => rfl), (fun _ z => nomatch z)⟩, ?_, hm, fun F' H' v A1 A2 g c o os => ?_⟩
    · have hz : (ns.map V.int).length ≤ sizeLine := by
        rw [List.length_map, sizeLine_eq]
        omega
      exact .cons (A := []) (.scr hS hz (RepL.ofInts ns)) .nil
    · cases o with
      | leaf r => exact r.toBl
  have hl1 := FG.len _ _ _ _ sp
  have bd := hb' s [.ref a] KX (by rw [List.append_nil]; exact hl1)
  rw [List.append_nil] at bd
  refine codeAny_mono (FG.go callerA [] s H ⟨[.ref a], []⟩ [.ref a] [.ref a] _ _ hr e0 bd (.cons rfl .nil) sp) fun r s' h => ?_
  match r, h with
  | .error e, h => exact h.elim
  | .ok .next, h => exact h.elim
  | .ok .brk, h => exact h.elim
  | .ok .cont, h => exact h.elim
  | .ok (.ret u), ⟨v, H', os, bare, un, hok', rv, q⟩ =>
    have q' : v = .bl true := q
    subst q'
    cases rv
    refine ⟨rfl, OldK.of_keep fun b ob e => ?_, os, bare⟩
    cases z : H b with
    | none => exact un.keep b ob e z (fun z => nomatch z) (fun z => nomatch z)
    | some u =>
      obtain ⟨o, xs, rfl⟩ := only b u z
      have z2 := un.frzs b o _ z
      obtain ⟨e1, _⟩ := hok b _ z
      obtain ⟨e2, _⟩ := hok' b _ z2
      rw [e] at e1
      cases e1
      exact e2
theorem law_goes (KX : K.In s.heap) (hns : s.heap.Ns mainGlobals mg) (hb : s.heap.Ns builtinsNs mb) (hbb : ∀ x : Str, x ≠ "__name__" → mb x = bootBuiltins x) (hlim : s.heap.NoLimit) (hg : s.gens = #[])
    (ha : s.heap.get? a = some { cls := .type "list", data := .seq vs.toArray }) (hi : IntsAre vs ns) (hl : ns.length ≤ 63)
    (G : ∀ base : Heap, K.In base → base.Ns mainGlobals mg → Fm P w K mg base k x 1 m) (hfa : mg x = some (.ref fa)) (hr : RmG k callerA) (hm : ∃ ts', m [.scr (ns.map PyData.int)] = some (.leaf (.bool true), ts')) :
    codeAny (model P w) callerA (.call (.ref fa) ⟨[.ref a], []⟩) (fun r s' => r = .ok (.ret (.bool true)) ∧ OldK s.heap s'.heap ∧ s'.os = s.os ∧ AllBare s'.gens) s := by
  have rv := vals_ints hi
  have lv := hi.length
  have hz : ns.length ≤ sizeLine := by
    rw [sizeLine_eq]
    omega
  cases hk : K.lookup a with
  | some o =>
    have e := KX a o hk
    rw [ha] at e
    cases e
    exact law_from (H := noH) KX hns hb hbb hlim hg G hfa hr hm hl (.inr ⟨_, vs.toArray, _, hk, rfl, rfl, rfl, by rw [List.size_toArray, lv]; exact hz, by simpa using rv⟩) (fun _ _ z => nomatch z) (fun _ _ z => nomatch z) fun _ _ z => nomatch z
  | none =>
    have at_ : lone a { cls := .type "list", data := .seq vs.toArray } (.lst (ns.map V.int)) a = some (.frz { cls := .type "list", data := .seq vs.toArray } (.lst (ns.map V.int))) := if_pos rfl
    have only1 : ∀ b u, lone a { cls := .type "list", data := .seq vs.toArray } (.lst (ns.map V.int)) b = some u → b = a ∧ u = .frz { cls := .type "list", data := .seq vs.toArray } (.lst (ns.map V.int)) := fun b u z => by
      have z' : (if b = a then some (HO.frz { cls := .type "list", data := .seq vs.toArray } (.lst (ns.map V.int))) else none) = some u := z
      by_cases q : b = a
      · rw [if_pos q] at z'
        exact ⟨q, (Option.some.inj z').symm⟩
      · rw [if_neg q] at z'
        cases z'
    refine law_from (H := lone a { cls := .type "list", data := .seq vs.toArray } (.lst (ns.map V.int))) KX hns hb hbb hlim hg G hfa hr hm hl (.inl (.inr ⟨_, at_⟩)) (fun b u z => ?_) (fun b u z => ?_) fun b u z => ?_
    · obtain ⟨rfl, rfl⟩ := only1 b u z
      exact ⟨ha, by rw [List.length_map]; exact hz, vs, _, rv, ha⟩
    · obtain ⟨rfl, rfl⟩ := only1 b u z
      exact ⟨_, _, rfl⟩
    · obtain ⟨rfl, rfl⟩ := only1 b u z
      exact hk
end
/-- the goal that the head leaves, from the mirror of the law -/
theorem law_end {l : PySem.W.OpenLaw} {k : Nat} {q : Program} {loose : List Str} {XP : (Str → Option Value) → Heap → Prop} {YP : World → Heap → Prop} {d : DefRec} {K : Params → PySem.W.Frag} {m : MF}
    (hn : l.most = some 63) (hdf : d.params.defaults = []) (hr : RmG k callerA) (hY : ∀ (w : World) (h : Heap), YP w h → (K w.params).In h)
    (G : ∀ (w : World) (mg : Str → Option Value) (h : Heap), (K w.params).In h → h.Ns mainGlobals mg → ∀ base : Heap, (K w.params).In base → base.Ns mainGlobals mg → Fm l.prog w (K w.params) mg base k d.name 1 m)
    (hm : ∀ ns : List Int, ns.length ≤ 63 → ∃ ts', m [.scr (ns.map PyData.int)] = some (.leaf (.bool true), ts')) : PySem.W.WalkO q loose XP YP l.row.toRowW d [] (fun f vs => PySem.call f vs) :=
  Att.attach_call hn hdf fun w s₀ s₁ mg mb fa o pm cd doc a vs ns Gr Y ho hd hcd hmg hobj hints hlen hg =>
    law_goes (hY w _ Y) Gr.T.g Gr.T.b Gr.T.builtins Gr.T.nolimit hg hobj hints hlen (G w mg _ (hY w _ Y) Gr.T.g) hmg hr (hm ns hlen)
theorem rm_caller {k : Nat} (h : k ≤ 200 := by decide) : RmG k callerA := ⟨Room.mono (j := k) (k := 200) ⟨rfl, by decide, by decide⟩ h, rfl⟩
end Tl

namespace Tl
open PySem PySem.Spec PyProof.Rows L2
section
variable {X : Cx} {K : PySem.W.Frag} {F F' B B' H H' F1 H1 : Hp} {σ : L2.St} {A A' A1 A2 : List Addr} {e a b : Expr} {pos p pos2 p2 : Pos} {i : Nat} {ro : Ro} {τ τ' : Tau}
def mSee (i : Nat) : MV := fun ro τ => match tget ro.vw i with
  | some t => some (.vw t, τ)
  | none => (fget ro.fz i).map fun d => (rd d, τ)
theorem er_see (h : PE X e (tVar i)) : ER X e (mSee i) := ⟨fun ro τ r τ' em F B H σ A Q a k => by
  unfold mSee at em
  cases q : tget ro.vw i with
  | some t =>
    rw [q] at em
    exact (er_vw h).run ro τ r τ' (by show (tget ro.vw i).map _ = _; rw [q]; exact em) F B H σ A Q a k
  | none =>
    rw [q] at em
    exact (er_var h).run ro τ r τ' em F B H σ A Q a k⟩
def isHole : T → Bool
  | .hole => true
  | _ => false
def mBr (i : Nat) (m : MV) : MV := fun ro τ => match tget τ i with
  | some t => if isHole t = true then m ro τ else mBor i m ro τ
  | none => m ro τ
theorem ev_br {t : TE} {m : MV} (h : EV K t m) (i : Nat) : EV K t (mBr i m) := ⟨fun ro τ r τ' em F B H σ A Q a k => by
  unfold mBr at em
  cases q : tget τ i with
  | some t =>
    rw [q] at em
    have em : (if isHole t = true then m ro τ else mBor i m ro τ) = some (r, τ') := em
    by_cases z : isHole t = true
    · rw [if_pos z] at em
      exact h.run ro τ r τ' em F B H σ A Q a k
    · rw [if_neg z] at em
      exact (ev_bor h).run ro τ r τ' em F B H σ A Q a k
  | none =>
    rw [q] at em
    exact h.run ro τ r τ' em F B H σ A Q a k⟩
/-- a test under a glass: a test is an expression that tells its truth -/
def tOf (t : TT) : TE := fun σ H Q => t σ H fun k H1 => Q (.bl k) H1
def mOfB (m : MB) : MV := fun ro τ => (m ro τ).map fun p => (rBool p.1, p.2)
theorem ev_of {t : TT} {m : MB} (h : TV K t m) : EV K (tOf t) (mOfB m) := ⟨fun ro τ r τ' em F B H σ A Q a k => by
  obtain ⟨⟨z, τ1⟩, e1, em⟩ := Option.map_eq_some_iff.mp em
  cases em
  exact h.run _ _ _ τ1 e1 F B H σ A _ a fun F' H' A2 g c t => k F' H' (.bl z) [] A2 g c (.leaf (.bl z)) t⟩
def mBrB (i : Nat) (m : MB) : MB := fun ro τ => (mBr i (mOfB m) ro τ).bind fun p => (asB p.1).map fun b => (b, p.2)
theorem wpT_mono {Q Q' : Bool → Hp → Prop} (h : ∀ v H, Q v H → Q' v H) (w : wpT X e σ H Q) : wpT X e σ H Q' := fun pins s I => thn (w pins s I) fun u s' ⟨H', I', q⟩ => ⟨H', I', h u H' q⟩
theorem tr_br {m : MB} (h : TR X e m) (i : Nat) : TR X e (mBrB i m) := ⟨fun ro τ r τ' em F B H σ A Q a k => by
  obtain ⟨⟨z, τ1⟩, e1, em⟩ := Option.bind_eq_some_iff.mp em
  obtain ⟨bb, e2, em⟩ := Option.map_eq_some_iff.mp em
  cases em
  have := (ev_br (ev_of h) i).run ro τ z τ1 e1 F B H σ A (fun v H1 => ∃ k, v = .bl k ∧ Q k H1) a fun F' H' v A1 A2 g c o t => by
    have e3 := asB_of e2 o
    subst e3
    refine ⟨r, rfl, k F' H' A2 (g.trans (Go.less fun _ m => List.mem_append_right _ m)) c.right t⟩
  exact wpT_mono (Q := fun k H1 => ∃ k', V.bl k = .bl k' ∧ Q k' H1) (fun v H1 ⟨k', e4, q⟩ => by cases e4; exact q) this⟩
def mFz (i : Nat) : SS → Option SS := fun s => match tget s.ow i with
  | some _ => mFrz i s
  | none => some s
theorem sr_fz {Pr : List Nat} {st : Stmt} {m : MS} (h : SR X Pr st m) (i : Nat) : SR X Pr st (mPre (mFz i) m) := ⟨fun s o em F H σ A D a k => by
  cases q : tget s.ow i with
  | some t => exact (sr_frz h i).run s o (by unfold mPre mFz at em; rw [q] at em; exact em) F H σ A D a k
  | none =>
    unfold mPre mFz at em
    rw [q] at em
    exact h.run s o em F H σ A D a k⟩
section
variable {scope : Scope} {own : List (Str × Nat)} {tg iter elt c : Expr} {mi : MI} {mt : MG} {mc : MB} {me : MV} {ws : List Nat} {y : Str} {py spos : Pos}
theorem ps_lc0 (hc : X.calm = true) (hN : X.N.Nodup) (hk : X.env.scope.kind = .function) (hy : X.N[i]? = some y) (hyl : X.env.scope.names.lookup y = some .local) (ok : BlkOk X.N X.env.scope scope own)
    (hl : (py.line == pos.line) = true := by rfl) (ha : (scope.names.any fun (n, k) => n == y && (k == .local || k == .cell)) = false := by decide +kernel) (hs : ∀ x, foldedSetIterable iter X.env x = pure x := by intro _; rfl) :
    PS X (.Assign [.Name y py] (.ListComp elt [⟨tg, iter, [], 0⟩] scope pos) spos) (tAsg (tLc0 X scope tg iter elt (own.map (·.2))) (gName i)) :=
  ps_setLc hc hN hy hyl (sw_true hk hyl hl ha) piW ok bG_pg (fun s H C cl fp => pts_nil) bE_pe hs
theorem ps_lc1 (hc : X.calm = true) (hN : X.N.Nodup) (hk : X.env.scope.kind = .function) (hy : X.N[i]? = some y) (hyl : X.env.scope.names.lookup y = some .local) (ok : BlkOk X.N X.env.scope scope own)
    (hl : (py.line == pos.line) = true := by rfl) (ha : (scope.names.any fun (n, k) => n == y && (k == .local || k == .cell)) = false := by decide +kernel) (hs : ∀ x, foldedSetIterable iter X.env x = pure x := by intro _; rfl) :
    PS X (.Assign [.Name y py] (.ListComp elt [⟨tg, iter, [c], 0⟩] scope pos) spos) (tAsg (tLc1 X scope tg iter c elt (own.map (·.2))) (gName i)) :=
  ps_setLc hc hN hy hyl (sw_true hk hyl hl ha) piW ok bG_pg (fun s H C cl fp => pts_one (bT_pt s H C cl fp)) bE_pe hs
end
end
end Tl

namespace Tl
open PySem PySem.Spec PyProof.Rows L2
section
variable {X : Cx} {K : PySem.W.Frag} {F F' B B' H H' F1 H1 : Hp} {σ : L2.St} {A A' A1 A2 : List Addr} {e a b : Expr} {pos p pos2 p2 : Pos} {i : Nat} {ro : Ro} {τ τ' : Tau}
def R.t : R → Option T
  | .val x => some x
  | .vw (.leaf d) => some (.leaf d)
  | .vw _ => none
def tsR : List R → Option (List T)
  | [] => some []
  | r :: rs => r.t.bind fun d => (tsR rs).bind fun ds => some (d :: ds)
theorem ROk.own {r : R} {v : V} {t : T} (o : ROk K F B H r v A) (e : r.t = some t) : Own K F H v t A := o.solid (by
  cases r with
  | val x =>
    cases e
    exact .inl rfl
  | vw x =>
    cases x with
    | leaf d =>
      cases e
      exact .inr ⟨d, rfl, rfl⟩
    | _ => cases e)
theorem RsOk.own : ∀ {rs : List R} {vs : List V} {A : List Addr} {ts : List T}, RsOk K F B H rs vs A → tsR rs = some ts → OwnL K F H vs ts A
  | [], _, _, _, o, e => by
    cases o
    cases e
    exact .nil
  | r :: rs, _, _, _, o, e => by
    cases o with
    | cons o1 o2 =>
      obtain ⟨t, e1, e⟩ := Option.bind_eq_some_iff.mp (show r.t.bind (fun d => (tsR rs).bind fun ds => some (d :: ds)) = some _ from e)
      obtain ⟨ts, e2, e⟩ := Option.bind_eq_some_iff.mp e
      cases e
      exact .cons (o1.own e1) (RsOk.own o2 e2)
def gLstT : List R → Option R := fun rs => (tsR rs).map fun ds => .val (.ls ds)
def T.kids : T → Option (List T)
  | .ls ts => some ts
  | .tup ts => some ts
  | _ => none
def getP : T → List Int → Option T
  | t, [] => some t
  | t, i :: is => t.kids.bind fun ts => (L2.atI ts i).bind fun u => getP u is
def T.put : T → Nat → T → Option T
  | .ls ts, j, u => some (.ls (ts.set j u))
  | .tup ts, j, u => some (.tup (ts.set j u))
  | _, _, _ => none
def setP : T → List Int → T → Option T
  | _, [], u => some u
  | t, i :: is, u => t.kids.bind fun ts => (ixN ts.length i).bind fun j => (ts[j]?).bind fun w => (setP w is u).bind fun w' => t.put j w'
/-- the value at the way's end -/
def wayV (K : PySem.W.Frag) (F H : Hp) : V → List Int → V → Prop
  | v, [], w => v = w
  | v, i :: is, w => ∃ (p : Addr) (xs : List V) (y : V), v = .ref p ∧ (H p = some (.lst xs) ∨ SqT K F p xs) ∧ L2.atI xs i = some y ∧ wayV K F H y is w
theorem atI_ix {α : Type} {xs : List α} {i : Int} {x : α} (h : L2.atI xs i = some x) : ∃ j, ixN xs.length i = some j ∧ xs[j]? = some x := by
  unfold L2.atI at h
  cases q : ixN xs.length i with
  | none =>
    rw [q] at h
    cases h
  | some j =>
    rw [q] at h
    exact ⟨j, rfl, h⟩
theorem wayV.stay (s : Same F F') : ∀ {is : List Int} {v w : V}, wayV K F H v is w → Same H H' → wayV K F' H' v is w
  | [], _, _, h, _ => h
  | i :: is, _, _, ⟨p, xs, y, e, q, e2, h⟩, k => ⟨p, xs, y, e, q.imp (fun z => k _ _ z) (fun z => sameT s z), e2, wayV.stay s h k⟩
theorem wayV.app : ∀ {is : List Int} {v w : V}, wayV K F H v is w → ∀ {js : List Int} {u : V}, wayV K F H w js u → wayV K F H v (is ++ js) u
  | [], _, _, h, _, _, k => by
    have h' : _ = _ := h
    subst h'
    exact k
  | i :: is, _, _, ⟨p, xs, y, e, q, e2, h⟩, _, _, k => ⟨p, xs, y, e, q, e2, wayV.app h k⟩
/-- one of a list of trees, put for another -/
theorem OwnL.split : ∀ {vs : List V} {ts : List T} {A : List Addr} {j : Nat} {t : T}, OwnL K F H vs ts A → ts[j]? = some t → ∃ w B C, vs[j]? = some w ∧ Own K F H w t B ∧ A.Perm (B ++ C) ∧
    ∀ (F' H' : Hp) (t' : T) (B' : List Addr), Same F F' → (∀ a ∈ C, ∀ o, H a = some o → H' a = some o) → Own K F' H' w t' B' → ∃ A', OwnL K F' H' vs (ts.set j t') A' ∧ A'.Perm (B' ++ C)
  | _, [], _, j, t, o, e => by cases e
  | _, t0 :: ts, _, 0, t, o, e => by
    cases o with
    | cons o1 o2 =>
      cases e
      exact ⟨_, _, _, rfl, o1, List.Perm.refl _, fun F' H' t' B' s k o' => ⟨_, .cons o' (o2.stay s k), List.Perm.refl _⟩⟩
  | _, t0 :: ts, _, j + 1, t, o, e => by
    cases o with
    | cons o1 o2 =>
      rename_i v vs A1 A2
      obtain ⟨w, B, C, h1, h2, h3, h4⟩ := OwnL.split o2 (show ts[j]? = some t from e)
      refine ⟨w, B, A1 ++ C, h1, h2, ?_, fun F' H' t' B' s k o' => ?_⟩
      · refine (List.Perm.append_left A1 h3).trans ?_
        rw [← List.append_assoc, ← List.append_assoc]
        exact List.Perm.append_right C List.perm_append_comm
      · obtain ⟨A', o3, p3⟩ := h4 F' H' t' B' s (fun a m => k a (List.mem_append_right _ m)) o'
        refine ⟨A1 ++ A', .cons (o1.stay s fun a m => k a (List.mem_append_left _ m)) o3, ?_⟩
        refine (List.Perm.append_left A1 p3).trans ?_
        rw [← List.append_assoc, ← List.append_assoc]
        exact List.Perm.append_right C List.perm_append_comm
theorem Own.kids {v : V} {t : T} {A : List Addr} {ts : List T} (o : Own K F H v t A) (e : t.kids = some ts) : ∃ p xs, v = .ref p ∧ (H p = some (.lst xs) ∨ SqT K F p xs) ∧ ∃ A0, OwnL K F H xs ts A0 ∧ xs.length = ts.length := by
  cases o with
  | ls h z l =>
    cases e
    exact ⟨_, _, rfl, .inl h, _, l, OwnL.length l⟩
  | tup h z l =>
    cases e
    exact ⟨_, _, rfl, .inr h, _, l, OwnL.length l⟩
  | _ => cases e
/-- .. at the end of a way -/
theorem Own.at : ∀ {is : List Int} {v : V} {t : T} {A : List Addr} {u : T}, Own K F H v t A → getP t is = some u → ∃ w B C, wayV K F H v is w ∧ Own K F H w u B ∧ A.Perm (B ++ C) ∧
    ∀ (F' H' : Hp) (u' t' : T) (B' : List Addr), Same F F' → (∀ a ∈ C, ∀ o, H a = some o → H' a = some o) → Own K F' H' w u' B' → setP t is u' = some t' → ∃ A', Own K F' H' v t' A' ∧ A'.Perm (B' ++ C)
  | [], v, t, A, u, o, e => by
    cases e
    refine ⟨v, A, [], rfl, o, by rw [List.append_nil], fun F' H' u' t' B' s k o' e' => ?_⟩
    cases e'
    exact ⟨B', o', by rw [List.append_nil]⟩
  | i :: is, v, t, A, u, o, e => by
    obtain ⟨ts, e1, e⟩ := Option.bind_eq_some_iff.mp (show t.kids.bind (fun ts => (L2.atI ts i).bind fun u => getP u is) = some u from e)
    obtain ⟨u1, e2, e⟩ := Option.bind_eq_some_iff.mp e
    obtain ⟨j, ej, ej2⟩ := atI_ix e2
    have key : ∀ {xs : List V} {A0 : List Addr}, OwnL K F H xs ts A0 → ∃ w y B C, L2.atI xs i = some y ∧ wayV K F H y is w ∧ Own K F H w u B ∧ A0.Perm (B ++ C) ∧
        ∀ (F' H' : Hp) (u' t' : T) (B' : List Addr), Same F F' → (∀ a ∈ C, ∀ o, H a = some o → H' a = some o) → Own K F' H' w u' B' → setP t (i :: is) u' = some t' → ∃ ts' A', OwnL K F' H' xs ts' A' ∧ A'.Perm (B' ++ C) ∧ t.put j (ts'[j]?.getD .hole) = some t' ∧ ts' = ts.set j (ts'[j]?.getD .hole) := fun {xs A0} l => by
      obtain ⟨y, B1, C1, h1, h2, h3, h4⟩ := l.split ej2
      obtain ⟨w, B, C, w1, w2, w3, w4⟩ := Own.at h2 e
      refine ⟨w, y, B, C ++ C1, ?_, w1, w2, ?_, fun F' H' u' t' B' s k o' e' => ?_⟩
      · unfold L2.atI
        rw [OwnL.length l, ej]
        exact h1
      · rw [← List.append_assoc]
        exact h3.trans (List.Perm.append_right C1 w3)
      · obtain ⟨ts0, f1, e'⟩ := Option.bind_eq_some_iff.mp (show t.kids.bind (fun ts => (ixN ts.length i).bind fun j => (ts[j]?).bind fun w => (setP w is u').bind fun w' => t.put j w') = some t' from e')
        rw [e1] at f1
        cases f1
        rw [ej] at e'
        obtain ⟨w9, f2, e'⟩ := Option.bind_eq_some_iff.mp (show (ts[j]?).bind (fun w => (setP w is u').bind fun w' => t.put j w') = some t' from e')
        rw [ej2] at f2
        cases f2
        obtain ⟨w', f3, e'⟩ := Option.bind_eq_some_iff.mp e'
        obtain ⟨A3, o3, p3⟩ := w4 F' H' u' w' B' s (fun a m => k a (List.mem_append_left _ m)) o' f3
        obtain ⟨A4, o4, p4⟩ := h4 F' H' w' A3 s (fun a m => k a (List.mem_append_right _ m)) o3
        have hj : j < ts.length := (List.getElem?_eq_some_iff.mp ej2).1
        have q : ((ts.set j w')[j]?).getD T.hole = w' := by
          rw [List.getElem?_set_self hj]
          rfl
        refine ⟨_, A4, o4, ?_, by rw [q]; exact e', by rw [q]⟩
        rw [← List.append_assoc]
        exact p4.trans (List.Perm.append_right C1 p3)
    cases o with
    | ls h z l =>
      rename_i p xs ts0 A0
      cases e1
      obtain ⟨w, y, B, C, k1, k2, k3, k4, k5⟩ := key l
      refine ⟨w, B, p :: C, ⟨p, xs, y, rfl, .inl h, k1, k2⟩, k3, ?_, fun F' H' u' t' B' s k o' e' => ?_⟩
      · exact (List.Perm.cons p k4).trans List.perm_middle.symm
      · obtain ⟨ts', A', q1, q2, q3, q4⟩ := k5 F' H' u' t' B' s (fun a m => k a (List.mem_cons_of_mem _ m)) o' e'
        have q5 : some (T.ls (ts.set j (ts'[j]?.getD .hole))) = some t' := q3
        rw [← q4] at q5
        cases q5
        exact ⟨p :: A', .ls (k p List.mem_cons_self _ h) z q1, (List.Perm.cons p q2).trans List.perm_middle.symm⟩
    | tup h z l =>
      rename_i p xs ts0
      cases e1
      obtain ⟨w, y, B, C, k1, k2, k3, k4, k5⟩ := key l
      refine ⟨w, B, C, ⟨p, xs, y, rfl, .inr h, k1, k2⟩, k3, k4, fun F' H' u' t' B' s k o' e' => ?_⟩
      obtain ⟨ts', A', q1, q2, q3, q4⟩ := k5 F' H' u' t' B' s k o' e'
      have q5 : some (T.tup (ts.set j (ts'[j]?.getD .hole))) = some t' := q3
      rw [← q4] at q5
      cases q5
      exact ⟨A', .tup (sameT s h) z q1, q2⟩
    | _ => cases e1
theorem glass {u : T} (a : At K F B H σ ro τ A) (e1 : tget τ i = some u) : ∃ v A1 A2 B', σ[i]? = some (some v) ∧ Own K F H v u A1 ∧ TauOk K F H σ (tset τ i .hole) A2 ∧ Cn F B H (A1 ++ A2) ∧ (∀ b ∈ A1 ++ A2, b ∈ A) ∧ Same B B' ∧
    Own K F B' v u A1 ∧ At K F B' H σ ⟨ro.fz, (i, u) :: ro.vw⟩ (tset τ i .hole) A2 := by
  obtain ⟨v, A1, A2, hv, o, t', n, s⟩ := a.tau.take a.cn.nd e1
  have c := a.cn.sub n s
  let B' : Hp := fun b => if b ∈ A1 then H b else B b
  have bs : Same B B' := fun b w e => by
    have nb : b ∉ A1 := fun z => by
      rw [c.ba b (List.mem_append_left _ z)] at e
      cases e
    show (if b ∈ A1 then H b else B b) = some w
    rw [if_neg nb]
    exact e
  have hb : ∀ b ∈ A1, ∀ w, H b = some w → B' b = some w := fun b m w e => by
    show (if b ∈ A1 then H b else B b) = some w
    rw [if_pos m]
    exact e
  have c2 : Cn F B' H A2 := ⟨c.fh, fun b w e => (by
      have e' : (if b ∈ A1 then H b else B b) = some w := e
      by_cases q : b ∈ A1
      · rw [if_pos q] at e'
        exact e'
      · rw [if_neg q] at e'
        exact c.bh b w e'), c.right.nd, c.right.fa, fun b m => (by
      show (if b ∈ A1 then H b else B b) = none
      rw [if_neg fun z => c.apart b z m]
      exact c.right.ba b m), c.right.ha⟩
  have vw' : VwOk K F B' σ ((i, u) :: ro.vw) := fun p m => by
    rcases List.mem_cons.mp m with e | m
    · subst e
      exact ⟨v, A1, hv, o.stay (Same.refl F) hb⟩
    · obtain ⟨w, A', hw, ow⟩ := a.ro.vw p m
      exact ⟨w, A', hw, ow.stay (Same.refl F) fun b m w e => bs b w e⟩
  exact ⟨v, A1, A2, B', hv, o, t', c, s, bs, o.stay (Same.refl F) hb, c2, ⟨a.ro.fz, vw'⟩, t'⟩
theorem unglass (bs : Same B B') (c' : Cn F B' H A) : Cn F B H A := ⟨c'.fh, fun b w e => c'.bh b w (bs b w e), c'.nd, c'.fa, fun b m => (by
  cases e : B b with
  | none => rfl
  | some w =>
    have := c'.ba b m
    rw [bs b w e] at this
    cases this), c'.ha⟩
theorem wayV.snoc : ∀ {is : List Int} {v w : V} {j : Int}, wayV K F H v (is ++ [j]) w → ∃ x p xs, wayV K F H v is x ∧ x = .ref p ∧ (H p = some (.lst xs) ∨ SqT K F p xs) ∧ L2.atI xs j = some w
  | [], v, w, j, ⟨p, xs, y, e, q, e2, h⟩ => by
    have h' : y = w := h
    subst h'
    exact ⟨v, p, xs, rfl, e, q, e2⟩
  | i :: is, v, w, j, ⟨p, xs, y, e, q, e2, h⟩ => by
    obtain ⟨x, p', xs', h1, h2, h3, h4⟩ := wayV.snoc h
    exact ⟨x, p', xs', ⟨p, xs, y, e, q, e2, h1⟩, h2, h3, h4⟩
theorem getP_snoc : ∀ {is : List Int} {u w w' : T} {ts : List T} {j : Int}, getP u is = some w → w.kids = some ts → L2.atI ts j = some w' → getP u (is ++ [j]) = some w'
  | [], u, w, w', ts, j, h, h1, h2 => by
    cases h
    show u.kids.bind (fun ts => (L2.atI ts j).bind fun u => getP u []) = _
    rw [h1]
    show (L2.atI ts j).bind (fun u => getP u []) = _
    rw [h2]
    rfl
  | i :: is, u, w, w', ts, j, h, h1, h2 => by
    obtain ⟨ts1, e1, h⟩ := Option.bind_eq_some_iff.mp (show u.kids.bind (fun ts => (L2.atI ts i).bind fun u => getP u is) = some w from h)
    obtain ⟨u1, e2, h⟩ := Option.bind_eq_some_iff.mp h
    show u.kids.bind (fun ts => (L2.atI ts i).bind fun u => getP u (is ++ [j])) = _
    rw [e1]
    show (L2.atI ts1 i).bind (fun u => getP u (is ++ [j])) = _
    rw [e2]
    exact getP_snoc h h1 h2
abbrev MP := T → Ro → Tau → Option ((List Int × T) × Tau)
structure PV (K : PySem.W.Frag) (x : Nat) (t : TE) (m : MP) : Prop where
  get : ∀ (u : T) (ro : Ro) (τ : Tau) (is : List Int) (w : T) (τ' : Tau), m u ro τ = some ((is, w), τ') → getP u is = some w
  run : ∀ (u : T) (ro : Ro) (τ : Tau) (is : List Int) (w : T) (τ' : Tau), m u ro τ = some ((is, w), τ') → ∀ (F B H : Hp) (σ : L2.St) (A : List Addr) (Q : VK) (v y : V), At K F B H σ ro τ A → σ[x]? = some (some v) → wayV K F B v is y →
    (∀ (F' H' : Hp) (A2 : List Addr), Go F H A F' H' A2 → Cn F' B H' A2 → TauOk K F' H' σ τ' A2 → Q y H') → t σ H Q
def pHere : MP := fun u _ τ => some (([], u), τ)
def pAt (mb : MP) (mi : MV) : MP := fun u ro τ => (mb u ro τ).bind fun p => (mi ro p.2).bind fun q => (asI q.1).bind fun i => p.1.2.kids.bind fun ts => (L2.atI ts i).map fun w => ((p.1.1 ++ [i], w), q.2)
theorem pv_here {o : Expr} {x : Nat} (h : PE X o (tVar x)) : PV X.K x (wpE X o) pHere := ⟨fun u ro τ is w τ' em => by
  cases em
  rfl, fun u ro τ is w τ' em F B H σ A Q v y a hv hw k => by
  cases em
  have hw' : v = y := hw
  subst hw'
  exact wE h ⟨v, hv, k F H A Go.refl a.cn a.tau⟩⟩
theorem pv_at {o ix : Expr} {x : Nat} {mb : MP} {mi : MV} (h : PV X.K x (wpE X o) mb) (hi : ER X ix mi) (hs : PlainIx ix) : PV X.K x (wpE X (.Subscript o ix pos)) (pAt mb mi) := ⟨fun u ro τ is w τ' em => by
  obtain ⟨⟨⟨is0, w0⟩, τ1⟩, e1, em⟩ := Option.bind_eq_some_iff.mp em
  obtain ⟨⟨r, τ2⟩, e2, em⟩ := Option.bind_eq_some_iff.mp em
  obtain ⟨j, e3, em⟩ := Option.bind_eq_some_iff.mp em
  obtain ⟨ts, e4, em⟩ := Option.bind_eq_some_iff.mp em
  obtain ⟨w', e5, em⟩ := Option.map_eq_some_iff.mp em
  cases em
  exact getP_snoc (h.get _ _ _ _ _ _ e1) e4 e5, fun u ro τ is w τ' em F B H σ A Q v y a hv hw k => by
  obtain ⟨⟨⟨is0, w0⟩, τ1⟩, e1, em⟩ := Option.bind_eq_some_iff.mp em
  obtain ⟨⟨r, τ2⟩, e2, em⟩ := Option.bind_eq_some_iff.mp em
  obtain ⟨j, e3, em⟩ := Option.bind_eq_some_iff.mp em
  obtain ⟨ts, e4, em⟩ := Option.bind_eq_some_iff.mp em
  obtain ⟨w', e5, em⟩ := Option.map_eq_some_iff.mp em
  cases em
  obtain ⟨x0, p, xs, k1, rfl, k3, k4⟩ := wayV.snoc hw
  refine wE (pe_ix ix_seq peW peW hs) (h.run _ _ _ _ _ _ e1 F B H σ A _ v _ a hv k1 fun F1 H1 A2 g1 c1 t1 => ?_)
  refine hi.run _ _ r _ e2 F1 B H1 σ A2 _ ⟨c1, a.ro.mono g1.ff, t1⟩ fun F2 H2 z A3 A4 g2 c2 o2 t2 => ?_
  have ez : z = .int j := asI_of e3 o2
  subst ez
  have q := k F2 H2 A4 (g1.trans (g2.trans (Go.less fun _ m => List.mem_append_right _ m))) c2.right t2
  rcases k3 with k3 | k3
  · exact .inl ⟨p, xs, j, y, rfl, rfl, SqL.of (c2.bh _ _ k3), k4, q⟩
  · exact .inr (.inl ⟨p, xs, j, y, rfl, rfl, sameT ((g1.ff.trans g2.ff).trans c2.fh) k3, k4, q⟩)⟩
def mMutP (x : Nat) (mp : MP) (g : T → List D → Option (D × T)) (l : ML) : MV := fun ro τ => (tget τ x).bind fun u => (mp u ⟨ro.fz, (x, u) :: ro.vw⟩ (tset τ x .hole)).bind fun p => if isLs p.1.2 = true then
  (l ⟨ro.fz, (x, u) :: ro.vw⟩ p.2).bind fun q => (stL q.1).bind fun ds => (g p.1.2 ds).bind fun r => (setP u p.1.1 r.2).map fun u' => (rd r.1, tset q.2 x u') else none
theorem mutP_end {x : Nat} {g : T → List D → Option (D × T)} {r : V → List V → Hp → VK → Prop} (mu : MU K r g) {F0 H0 : Hp} {A0 A1 B0 C0 R1 R2 : List Addr} {rs : List R} {vs : List V} {ds : List D} {u u' w w' : T} {z : D} {v y : V} {Q : VK} {is : List Int}
    (g0 : Go F0 H0 A0 F H (A1 ++ (R1 ++ R2))) (c : Cn F B H (A1 ++ (R1 ++ R2))) (o : RsOk K F B' H rs vs R1) (bs : Same B B') (cb : Same B' H) (tk : TauOk K F H σ τ R2) (hv : σ[x]? = some (some v)) (e1 : stL rs = some ds) (e3 : g w ds = some (z, w')) (pm : A1.Perm (B0 ++ C0))
    (ow : Own K F B' y w B0) (back : ∀ (F' H' : Hp) (u' t' : T) (B1 : List Addr), Same F F' → (∀ a ∈ C0, ∀ o, B' a = some o → H' a = some o) → Own K F' H' y u' B1 → setP u is u' = some t' → ∃ A', Own K F' H' v t' A' ∧ A'.Perm (B1 ++ C0)) (e4 : setP u is w' = some u')
    (k : ∀ (F' H' : Hp) (u : V) (A1 A2 : List Addr), Go F0 H0 A0 F' H' (A1 ++ A2) → Cn F' B H' (A1 ++ A2) → ROk K F' B H' (rd z) u A1 → TauOk K F' H' σ (tset τ x u') A2 → Q u H') : r y vs H Q := by
  have pm1 : (A1 ++ (R1 ++ R2)).Perm (R1 ++ (B0 ++ (C0 ++ R2))) := by
    refine (List.Perm.append_right _ pm).trans ?_
    rw [← List.append_assoc]
    refine (List.Perm.append_right R2 List.perm_append_comm).trans ?_
    rw [List.append_assoc, List.append_assoc]
  have c0 := c.perm pm1
  -- the results are frozen
  obtain ⟨f1, f2, f3, f4⟩ := c0.freeze
  have rl : RepL K (joinH F H R1) vs ds := o.keep f3 f4 e1
  have ow2 : Own K (joinH F H R1) H y w B0 := (ow.stay f3 fun _ _ _ q => q).stay (Same.refl _) fun b m o q => cb b o q
  refine mu w ds z w' e3 _ B H y vs B0 Q f2.left ow2 rl fun H' uu A' g3 c3 o3 ru => ?_
  obtain ⟨g4, c4⟩ := Go.framedR f2 g3 c3
  have kp : ∀ b ∈ C0 ++ R2, ∀ q, H b = some q → H' b = some q := fun b m q z => g3.keep b q (fun z' => f2.apart b z' m) z
  obtain ⟨A5, o5, p5⟩ := back (joinH F H R1) H' w' u' A' f3 (fun b m q z => kp b (List.mem_append_left _ m) q (cb b q z)) o3 e4
  have t5 := (tk.stay f3 fun _ _ _ q => q).stay (Same.refl _) fun b m q z => kp b (List.mem_append_right _ m) q z
  have pm2 : (A' ++ (C0 ++ R2)).Perm (A5 ++ R2) := by
    rw [← List.append_assoc]
    exact (List.Perm.append_right R2 p5).symm
  have c6 := c4.perm pm2
  obtain ⟨A6, t6, n6, s6⟩ := t5.put hv o5 c6.nd
  have g6 : Go F0 H0 A0 (joinH F H R1) H' (A5 ++ R2) := ((g0.perm (List.Perm.refl _) pm1).trans f1).trans (g4.perm (List.Perm.refl _) pm2)
  exact k _ H' uu [] A6 (g6.trans (Go.less s6)) (c6.sub n6 s6) (.leaf ru) t6
def gPut (j : Int) : T → List D → Option (D × T)
  | w, [d] => (putAt w j d).map fun w' => (.none, w')
  | _, _ => none
theorem mu_put (j : Int) : MU K (fun o vs H Q => ∃ v, vs = [v] ∧ rSetL o (.int j) v H fun H3 => Q .non H3) (gPut j) := by
  intro t ds z t' e F B H v vs A Q c o r k
  match t, ds, e with
  | t, [d], e =>
    obtain ⟨w', e1, e2⟩ := Option.map_eq_some_iff.mp (show (putAt t j d).map (fun w' => (PyData.none, w')) = some (z, t') from e)
    cases e2
    obtain ⟨u, rfl, ru⟩ := r.one
    cases t with
    | fl xs =>
      obtain ⟨n, e3, e4⟩ := Option.map_eq_some_iff.mp (show (ixN xs.length j).map (fun j => T.fl (xs.set j d)) = some _ from e1)
      subst e4
      cases o with
      | fl h1 h2 h3 =>
        obtain ⟨g5, c5, o5⟩ := fl_write c rfl (by rw [List.length_set]; exact h2) (h3.set ru n)
        exact ⟨u, rfl, _, _, j, n, rfl, rfl, h1, by rw [h3.length]; exact e3, k _ .non _ g5 c5 o5 .non⟩
    | _ => cases e1
def mSetP (x : Nat) (mp : MP) (me mi : MV) : MS := fun s => (me ⟨s.fz, []⟩ s.ow).bind fun p => p.1.st.bind fun d => (tget p.2 x).bind fun u => (mp u ⟨s.fz, [(x, u)]⟩ (tset p.2 x .hole)).bind fun q => (mi ⟨s.fz, [(x, u)]⟩ q.2).bind fun r => (asI r.1).bind fun i =>
  (gPut i q.1.2 [d]).bind fun w => (setP u q.1.1 w.2).map fun u' => .nx ⟨s.fz, tset r.2 x u'⟩
theorem sr_setP {Pr : List Nat} {st : Stmt} {e o ix : Expr} {x : Nat} {mp : MP} {me mi : MV} (p : PS X st (tAsg (wpE X e) (L2.gSub (wpE X o) (wpE X ix) rSetL))) (he : ER X e me) (ho : PV X.K x (wpE X o) mp) (hi : ER X ix mi) : SR X Pr st (mSetP x mp me mi) := ⟨fun s out em F H σ A Dd a k => by
  obtain ⟨⟨r, τ1⟩, e1, em⟩ := Option.bind_eq_some_iff.mp em
  obtain ⟨d, e2, em⟩ := Option.bind_eq_some_iff.mp em
  obtain ⟨u, e3, em⟩ := Option.bind_eq_some_iff.mp em
  obtain ⟨⟨⟨is, w⟩, τ2⟩, e4, em⟩ := Option.bind_eq_some_iff.mp em
  obtain ⟨⟨r', τ3⟩, e5, em⟩ := Option.bind_eq_some_iff.mp em
  obtain ⟨j, e6, em⟩ := Option.bind_eq_some_iff.mp em
  obtain ⟨⟨z, w'⟩, e7, em⟩ := Option.bind_eq_some_iff.mp em
  obtain ⟨u', e8, em⟩ := Option.map_eq_some_iff.mp em
  cases em
  refine wS p (he.run _ _ r τ1 e1 F noH H σ A _ a.at_ fun F1 H1 v0 A1 A2 g1 c1 o1 t1 => ?_)
  obtain ⟨F2, g2, c2, s2, rv⟩ := o1.freeze c1 e2
  have at2 : At X.K F2 noH H1 σ ⟨s.fz, []⟩ τ1 A2 := ⟨c2, a.at_.ro.mono (g1.ff.trans s2), t1.stay s2 fun _ _ _ q => q⟩
  obtain ⟨v, A3, A4, B', hv, oH, tH, c, s', bs, oB, a2⟩ := glass at2 e3
  obtain ⟨y, B0, C0, hw, ow, pm, back⟩ := Own.at oB (ho.get _ _ _ _ _ _ e4)
  refine ho.run _ _ _ _ _ _ e4 F2 B' H1 σ A4 _ v y a2 hv hw fun F3 H3 A5 g3 c3 t3 => ?_
  refine hi.run _ _ r' τ3 e5 F3 B' H3 σ A5 _ ⟨c3, a2.ro.mono g3.ff, t3⟩ fun F4 H4 i0 A6 A7 g4 c4 o4 t4 => ?_
  have ei : i0 = .int j := asI_of e6 o4
  subst ei
  have g34 : Go F2 H1 A4 F4 H4 A7 := g3.trans (g4.trans (Go.less fun _ m => List.mem_append_right _ m))
  obtain ⟨g5, c5⟩ := Go.framed c g34 (unglass bs c4.right)
  have rv4 : RepL X.K F4 [v0] [d] := .cons (rv.mono g34.ff) .nil
  have o5 : RsOk X.K F4 B' H4 [rd d] [v0] [] := .cons (A := []) (show ROk X.K F4 B' H4 (rd d) v0 [] from .leaf (rv.mono g34.ff)) .nil
  have := mutP_end (K := X.K) (R1 := []) (Q := fun _ H3 => Dd.nx σ H3) (mu_put j) (((g1.trans g2).trans (Go.less s')).trans g5) c5 o5 bs c4.bh t4 hv (by rfl) e7 pm (ow.stay g34.ff fun _ _ _ q => q) (fun F' H' u' t' B1 s' k' o' e' => back F' H' u' t' B1 (g34.ff.trans s') k' o' e') e8 fun F' H' uu A1 A2 g c o t =>
    k F' H' σ A2 (g.trans (Go.less fun _ m => List.mem_append_right _ m)) ⟨c.right, (a.fz.mono (g.ff)), t⟩ Agree.refl
  obtain ⟨v1, q1, q2⟩ := this
  cases q1
  exact q2⟩
end
end Tl

namespace Tl
open PySem PySem.Spec PyProof.Rows L2
/-- the built-ins stand under their own names -/
structure Bt (mg : Str → Option Value) : Prop where
  len : mg "len" = none
  range : mg "range" = none
  enumerate : mg "enumerate" = none
  zip : mg "zip" = none
  reversed : mg "reversed" = none
  abs : mg "abs" = none
  min : mg "min" = none
  max : mg "max" = none
  int : mg "int" = none
  bool : mg "bool" = none
  list : mg "list" = none
  tuple : mg "tuple" = none
  set : mg "set" = none
  dict : mg "dict" = none
  sorted : mg "sorted" = none
  sum : mg "sum" = none
  all : mg "all" = none
  any : mg "any" = none
  str : mg "str" = none
  repr : mg "repr" = none
  isinstance : mg "isinstance" = none
theorem bt_len : bootBuiltins "len" = some (.builtin "len") := by decide +kernel
theorem bt_abs : bootBuiltins "abs" = some (.builtin "abs") := by decide +kernel
theorem bt_min : bootBuiltins "min" = some (.builtin "min") := by decide +kernel
theorem bt_max : bootBuiltins "max" = some (.builtin "max") := by decide +kernel
theorem bt_all : bootBuiltins "all" = some (.builtin "all") := by decide +kernel
theorem bt_any : bootBuiltins "any" = some (.builtin "any") := by decide +kernel
theorem bt_repr : bootBuiltins "repr" = some (.builtin "repr") := by decide +kernel
theorem bt_int : bootBuiltins "int" = some (.type "int") := by decide +kernel
theorem bt_bool : bootBuiltins "bool" = some (.type "bool") := by decide +kernel
theorem bt_list : bootBuiltins "list" = some (.type "list") := by decide +kernel
theorem bt_tuple : bootBuiltins "tuple" = some (.type "tuple") := by decide +kernel
theorem bt_dict : bootBuiltins "dict" = some (.type "dict") := by decide +kernel
theorem bt_str : bootBuiltins "str" = some (.type "str") := by decide +kernel
section
variable {X : Cx} {e : Expr} {pos : Pos} {i : Nat}
/-- the value of a slot, wherever it stands -/
def mTk (i : Nat) : MV := fun ro τ => match tget τ i with
  | some t => some (.val t, tset τ i .hole)
  | none => (fget ro.fz i).map fun d => (rd d, τ)
theorem er_tk (h : PE X e (tVar i)) : ER X e (mTk i) := ⟨fun ro τ r τ' em F B H σ A Q a k => by
  unfold mTk at em
  cases q : tget τ i with
  | some t =>
    rw [q] at em
    exact (er_take h).run ro τ r τ' (by show (tget τ i).map _ = _; rw [q]; exact em) F B H σ A Q a k
  | none =>
    rw [q] at em
    exact (er_var h).run ro τ r τ' em F B H σ A Q a k⟩
theorem hu_eq {j : Nat} (hr : RmG j X.A) : X.A.units + 64 < cLine := hr.rm.units
end
def Dn (K : PySem.W.Frag) (mg : Str → Option Value) (x : Str) (st : Stmt) (ps : List Str) : Prop := ∃ (f : Addr) (fd : FuncData), Fun K x x st f fd ∧ Binds K fd ps [] ∧ mg x = some (.ref f)
theorem dn_mk {K : PySem.W.Frag} {h : Heap} {mg : Str → Option Value} {x : Str} {st : Stmt} {ps : List Str} {f : Addr} {oc : Value} {od an : Option Addr} {osl : Array (Option Value)} {kV doc pm cdv ct : Value} (X : K.In h) (G : h.Ns mainGlobals mg)
    (a : PySem.W.nsIn K mainGlobals x = some (some (.ref f))) (l : K.lookup f = some ⟨oc, od, .func (PySem.W.fnOf x x (defArgs st) (defBody st) (defScope st) .none kV doc pm an cdv ct), osl⟩) (c : PySem.W.codeIn K cdv x = true) (k : PySem.W.keepIn K (.ref f) = true)
    (b : ∀ (kV doc pm : Value) (an : Option Addr) (cdv ct : Value) (us : List Value), us.length = ps.length → bindArgs (PySem.W.fnOf x x (defArgs st) (defBody st) (defScope st) .none kV doc pm an cdv ct) ⟨us, []⟩ = pure (ps.zip us)) : Dn K mg x st ps :=
  have F := fun_mk l c k
  ⟨f, _, F, F.binds b, PySem.W.mg_of X G a⟩
theorem fm_mk {P : Program} {w : World} {K : PySem.W.Frag} {mg : Str → Option Value} {base : Heap} {x : Str} {st : Stmt} {N ps : List Str} {k : Nat} (D : Dn K mg x st ps) (S : FnScope N ps (defScope st)) (ks : List Bool) (hk : ks.length = ps.length)
    {mb : MS} (body : ∀ (f : Addr) (cdv : Value) (Ar : Around) (up : List Env) (s : Shared) (H : Hp) (E : XK), RmG k (Ar.deeper (envOfC x (defScope st) s.heap.objs.size f cdv)) →
      SRs (cxOf CX0 P w K mg base N x (defScope st) f cdv Ar up s H E).nox (outP 0 ks) (defBody st) mb) : Fm P w K mg base (k + 1) x ps.length (mFn ks N.length mb) := by
  obtain ⟨f, fd, F, b, hm⟩ := D
  exact fm_of F S b hm ks hk (body f)
/-- turns of a while, at most -/
def whF : Nat := 1000000
end Tl

namespace Tl
open PySem PySem.Spec PyProof.Rows L2
def bd {α β : Type} (x : Option α) (f : α → Option β) : Option β := x.bind f
@[simp] theorem bd_some {α β : Type} (a : α) (f : α → Option β) : bd (some a) f = f a := rfl
@[simp] theorem bd_none {α β : Type} (f : α → Option β) : bd none f = none := rfl
theorem bd_of {α β : Type} {x : Option α} {f g : α → Option β} (h : ∀ a, f a = g a) : x.bind f = bd x g := by
  cases x with
  | none => rfl
  | some a => exact h a
theorem bd_om {α β : Type} {x : Option α} {f : α → β} {g : α → Option β} (h : ∀ a, some (f a) = g a) : x.map f = bd x g := by
  cases x with
  | none => rfl
  | some a => exact h a
@[simp] theorem tget_nil (i : Nat) : tget [] i = none := rfl
@[simp] theorem tget_cons (j : Nat) (t : T) (r : Tau) (i : Nat) : tget ((j, t) :: r) i = if j = i then some t else tget r i := rfl
@[simp] theorem tdel_nil (i : Nat) : tdel [] i = [] := rfl
@[simp] theorem tdel_cons (j : Nat) (t : T) (r : Tau) (i : Nat) : tdel ((j, t) :: r) i = if j = i then tdel r i else (j, t) :: tdel r i := rfl
@[simp] theorem tset_nil (i : Nat) (t : T) : tset [] i t = [(i, t)] := rfl
@[simp] theorem tset_cons (j : Nat) (u : T) (r : Tau) (i : Nat) (t : T) : tset ((j, u) :: r) i t = if j = i then (i, t) :: r else (j, u) :: tset r i t := rfl
@[simp] theorem fget_z (x : Option D) (r : Fz) : fget (x :: r) 0 = x := rfl
@[simp] theorem fget_s (x : Option D) (r : Fz) (n : Nat) : fget (x :: r) (n + 1) = fget r n := rfl
@[simp] theorem fset_z (x : Option D) (r : Fz) (d : Option D) : fset (x :: r) 0 d = d :: r := rfl
@[simp] theorem fset_s (x : Option D) (r : Fz) (n : Nat) (d : Option D) : fset (x :: r) (n + 1) d = x :: fset r n d := rfl
@[simp] theorem inN_nil (i : Nat) : inN [] i = false := rfl
@[simp] theorem inN_cons (j : Nat) (r : List Nat) (i : Nat) : inN (j :: r) i = if j = i then true else inN r i := rfl
@[simp] theorem tout_nil (ns : List Nat) : tout ns [] = [] := rfl
@[simp] theorem tout_cons (ns : List Nat) (i : Nat) (t : T) (r : Tau) : tout ns ((i, t) :: r) = if inN ns i = true then tout ns r else (i, t) :: tout ns r := rfl
@[simp] theorem fwipe_nil (f : Fz) : fwipe f [] = f := rfl
@[simp] theorem fwipe_cons (f : Fz) (v : Nat) (vs : List Nat) : fwipe f (v :: vs) = fset (fwipe f vs) v none := rfl
@[simp] theorem once_nil : once [] = true := rfl
@[simp] theorem once_cons (j : Nat) (u : T) (r : Tau) : once ((j, u) :: r) = ((tget r j).isNone && once r) := rfl
@[simp] theorem fz_leaf (d : D) : T.fz (.leaf d) = some d := rfl
@[simp] theorem fz_fl (d : List D) : T.fz (.fl d) = some (.list d) := rfl
@[simp] def lsK (ds : List D) : Option D := some (.list ds)
@[simp] def tpK (ds : List D) : Option D := some (.tuple ds)
@[simp] theorem fz_ls (d : List T) : T.fz (.ls d) = bd (T.fzL d) lsK := by
  show (T.fzL d).map PyData.list = _
  exact bd_om fun a => rfl
@[simp] theorem fz_tup (d : List T) : T.fz (.tup d) = bd (T.fzL d) tpK := by
  show (T.fzL d).map PyData.tuple = _
  exact bd_om fun a => rfl
@[simp] theorem fzL_nil : T.fzL [] = some [] := rfl
@[simp] def fzK2 (d : D) (ds : List D) : Option (List D) := some (d :: ds)
@[simp] def fzK1 (ts : List T) (d : D) : Option (List D) := bd (T.fzL ts) (fzK2 d)
@[simp] theorem fzL_cons (t : T) (ts : List T) : T.fzL (t :: ts) = bd (T.fz t) (fzK1 ts) := rfl
@[simp] theorem er_val (t : T) : R.er (.val t) = t.fz := rfl
@[simp] theorem er_vw_ (t : T) : R.er (.vw t) = t.fz := rfl
@[simp] theorem st_val (t : T) : R.st (.val t) = t.fz := rfl
@[simp] theorem st_vwl (d : D) : R.st (.vw (.leaf d)) = some d := rfl
@[simp] theorem rt_val (t : T) : R.t (.val t) = some t := rfl
@[simp] theorem rt_vwl (d : D) : R.t (.vw (.leaf d)) = some (.leaf d) := rfl
@[simp] def erK1 (rs : List R) (d : D) : Option (List D) := bd (erL rs) (fzK2 d)
@[simp] theorem erL_nil : erL [] = some [] := rfl
@[simp] theorem erL_cons (r : R) (rs : List R) : erL (r :: rs) = bd r.er (erK1 rs) := rfl
@[simp] def stK1 (rs : List R) (d : D) : Option (List D) := bd (stL rs) (fzK2 d)
@[simp] theorem stL_nil : stL [] = some [] := rfl
@[simp] theorem stL_cons (r : R) (rs : List R) : stL (r :: rs) = bd r.st (stK1 rs) := rfl
@[simp] def tsK2 (d : T) (ds : List T) : Option (List T) := some (d :: ds)
@[simp] def tsK1 (rs : List R) (d : T) : Option (List T) := bd (tsR rs) (tsK2 d)
@[simp] theorem tsR_nil : tsR [] = some [] := rfl
@[simp] theorem tsR_cons (r : R) (rs : List R) : tsR (r :: rs) = bd r.t (tsK1 rs) := rfl
@[simp] theorem asB_v (b : Bool) : asB (.val (.leaf (.bool b))) = some b := rfl
@[simp] theorem asI_v (b : Int) : asI (.val (.leaf (.int b))) = some b := rfl
@[simp] def insK (i : Int) (is : List Int) : Option (List Int) := some (i :: is)
@[simp] theorem asInts_nil : asInts [] = some [] := rfl
@[simp] theorem asInts_cons (i : Int) (rs : List R) : asInts (.val (.leaf (.int i)) :: rs) = bd (asInts rs) (insK i) := by
  show (asInts rs).map (i :: ·) = _
  exact bd_om fun a => rfl
@[simp] theorem r_mC (d : D) (ro : Ro) (τ : Tau) : mC d ro τ = some (rd d, τ) := rfl
@[simp] def varK (τ : Tau) (d : D) : Option (R × Tau) := some (rd d, τ)
@[simp] theorem r_mVar (i : Nat) (fz : Fz) (vw : Tau) (τ : Tau) : mVar i ⟨fz, vw⟩ τ = bd (fget fz i) (varK τ) := bd_om fun a => rfl
@[simp] def seeK (fz : Fz) (i : Nat) (τ : Tau) : Option T → Option (R × Tau)
  | some t => some (.vw t, τ)
  | none => bd (fget fz i) (varK τ)
@[simp] theorem r_mSee (i : Nat) (fz : Fz) (vw : Tau) (τ : Tau) : mSee i ⟨fz, vw⟩ τ = seeK fz i τ (tget vw i) := by
  unfold mSee
  cases h : tget vw i with
  | some t => simp [h]
  | none =>
    simp only [h]
    exact bd_om fun a => rfl
@[simp] def tkK (fz : Fz) (i : Nat) (τ : Tau) : Option T → Option (R × Tau)
  | some t => some (.val t, tset τ i .hole)
  | none => bd (fget fz i) (varK τ)
@[simp] theorem r_mTk (i : Nat) (fz : Fz) (vw : Tau) (τ : Tau) : mTk i ⟨fz, vw⟩ τ = tkK fz i τ (tget τ i) := by
  unfold mTk
  cases h : tget τ i with
  | some t => simp
  | none => exact bd_om fun a => rfl
@[simp] def borK (i : Nat) (t : T) : R × Tau → Option (R × Tau)
  | (.val x, τ) => some (.val x, tset τ i t)
  | (.vw (.leaf d), τ) => some (rd d, tset τ i t)
  | (.vw _, _) => none
def brK2 (i : Nat) (m : MV) (fz : Fz) (vw : Tau) (τ : Tau) (t : T) : Bool → Option (R × Tau)
  | true => m ⟨fz, vw⟩ τ
  | false => bd (m ⟨fz, (i, t) :: vw⟩ (tset τ i .hole)) (borK i t)
@[simp] theorem brK2_t (i : Nat) (m : MV) (fz : Fz) (vw : Tau) (τ : Tau) (t : T) : brK2 i m fz vw τ t true = m ⟨fz, vw⟩ τ := rfl
@[simp] theorem brK2_f (i : Nat) (m : MV) (fz : Fz) (vw : Tau) (τ : Tau) (t : T) : brK2 i m fz vw τ t false = bd (m ⟨fz, (i, t) :: vw⟩ (tset τ i .hole)) (borK i t) := rfl
@[simp] def brK (i : Nat) (m : MV) (fz : Fz) (vw : Tau) (τ : Tau) : Option T → Option (R × Tau)
  | none => m ⟨fz, vw⟩ τ
  | some t => brK2 i m fz vw τ t (isHole t)
@[simp] theorem hole_t : isHole .hole = true := rfl
@[simp] theorem hole_fl (ds : List D) : isHole (.fl ds) = false := rfl
@[simp] theorem hole_ls (ds : List T) : isHole (.ls ds) = false := rfl
@[simp] theorem hole_scr (ds : List D) : isHole (.scr ds) = false := rfl
@[simp] theorem hole_leaf (ds : D) : isHole (.leaf ds) = false := rfl
@[simp] theorem hole_tup (ds : List T) : isHole (.tup ds) = false := rfl
@[simp] theorem r_mBr (i : Nat) (m : MV) (fz : Fz) (vw : Tau) (τ : Tau) : mBr i m ⟨fz, vw⟩ τ = brK i m fz vw τ (tget τ i) := by
  unfold mBr
  cases h : tget τ i with
  | none => rfl
  | some t =>
    show (if isHole t = true then m ⟨fz, vw⟩ τ else mBor i m ⟨fz, vw⟩ τ) = brK2 i m fz vw τ t (isHole t)
    cases z : isHole t with
    | true => rw [if_pos rfl]; rfl
    | false =>
      rw [if_neg Bool.false_ne_true]
      unfold mBor
      rw [h]
      show (m ⟨fz, (i, t) :: vw⟩ (tset τ i .hole)).bind _ = bd _ _
      refine bd_of fun a => ?_
      obtain ⟨r, τ'⟩ := a
      cases r with
      | val x => rfl
      | vw x => cases x <;> rfl
@[simp] def ofBK : Bool × Tau → Option (R × Tau)
  | (b, τ) => some (rBool b, τ)
@[simp] theorem r_mOfB (m : MB) (ro : Ro) (τ : Tau) : mOfB m ro τ = bd (m ro τ) ofBK := bd_om fun a => rfl
@[simp] def toBK2 (τ : Tau) (b : Bool) : Option (Bool × Tau) := some (b, τ)
@[simp] def toBK : R × Tau → Option (Bool × Tau)
  | (r, τ) => bd (asB r) (toBK2 τ)
@[simp] theorem r_mBrB (i : Nat) (m : MB) (ro : Ro) (τ : Tau) : mBrB i m ro τ = bd (mBr i (mOfB m) ro τ) toBK := bd_of fun a => bd_om fun b => rfl
@[simp] theorem r_mTst (m : MV) (ro : Ro) (τ : Tau) : mTst m ro τ = bd (m ro τ) toBK := bd_of fun a => bd_om fun b => rfl
@[simp] def truK1 (τ : Tau) (d : D) : Option (Bool × Tau) := bd (truD d) (toBK2 τ)
@[simp] def truK : R × Tau → Option (Bool × Tau)
  | (r, τ) => bd r.er (truK1 τ)
@[simp] theorem r_mTru (m : MV) (ro : Ro) (τ : Tau) : mTru m ro τ = bd (m ro τ) truK := bd_of fun a => bd_of fun b => bd_om fun c => rfl
@[simp] theorem truD_b (b : Bool) : truD (.bool b) = some b := rfl
@[simp] def ofK2 (τ : Tau) (r : R) : Option (R × Tau) := some (r, τ)
@[simp] def opK (g : List R → Option R) : List R × Tau → Option (R × Tau)
  | (rs, τ) => bd (g rs) (ofK2 τ)
@[simp] theorem r_mOp (g : List R → Option R) (l : ML) (ro : Ro) (τ : Tau) : mOp g l ro τ = bd (l ro τ) (opK g) := bd_of fun a => bd_om fun b => rfl
@[simp] def opBK (g : List R → Option R) : List R × Tau → Option (Bool × Tau)
  | (rs, τ) => bd (g rs) (opBK2 τ)
where @[simp] opBK2 (τ : Tau) : R → Option (Bool × Tau)
  | .val (.leaf (.bool b)) => some (b, τ)
  | _ => none
@[simp] theorem r_mOpB (g : List R → Option R) (l : ML) (ro : Ro) (τ : Tau) : mOpB g l ro τ = bd (l ro τ) (opBK g) := bd_of fun a => bd_of fun b => rfl
@[simp] theorem r_mNil (ro : Ro) (τ : Tau) : mNil ro τ = some ([], τ) := rfl
@[simp] def csK2 (r : R) : List R × Tau → Option (List R × Tau)
  | (rs, τ) => some (r :: rs, τ)
@[simp] def csK (l : ML) (ro : Ro) : R × Tau → Option (List R × Tau)
  | (r, τ) => bd (l ro τ) (csK2 r)
@[simp] theorem r_mCons (m : MV) (l : ML) (ro : Ro) (τ : Tau) : mCons m l ro τ = bd (m ro τ) (csK l ro) := bd_of fun a => bd_of fun b => rfl
def ifK (m n : MV) (ro : Ro) : Bool × Tau → Option (R × Tau)
  | (true, τ) => m ro τ
  | (false, τ) => n ro τ
@[simp] theorem ifK_t (m n : MV) (ro : Ro) (τ : Tau) : ifK m n ro (true, τ) = m ro τ := rfl
@[simp] theorem ifK_f (m n : MV) (ro : Ro) (τ : Tau) : ifK m n ro (false, τ) = n ro τ := rfl
@[simp] theorem r_mIf (c : MB) (m n : MV) (ro : Ro) (τ : Tau) : mIf c m n ro τ = bd (c ro τ) (ifK m n ro) := bd_of fun a => by
  obtain ⟨b, τ'⟩ := a
  cases b <;> rfl
def andBK (n : MB) (ro : Ro) : Bool × Tau → Option (Bool × Tau)
  | (true, τ) => n ro τ
  | (false, τ) => some (false, τ)
@[simp] theorem andBK_t (n : MB) (ro : Ro) (τ : Tau) : andBK n ro (true, τ) = n ro τ := rfl
@[simp] theorem andBK_f (n : MB) (ro : Ro) (τ : Tau) : andBK n ro (false, τ) = some (false, τ) := rfl
def orBK (n : MB) (ro : Ro) : Bool × Tau → Option (Bool × Tau)
  | (true, τ) => some (true, τ)
  | (false, τ) => n ro τ
@[simp] theorem orBK_t (n : MB) (ro : Ro) (τ : Tau) : orBK n ro (true, τ) = some (true, τ) := rfl
@[simp] theorem orBK_f (n : MB) (ro : Ro) (τ : Tau) : orBK n ro (false, τ) = n ro τ := rfl
@[simp] def notBK : Bool × Tau → Option (Bool × Tau)
  | (b, τ) => some (!b, τ)
@[simp] theorem r_mAndB (m n : MB) (ro : Ro) (τ : Tau) : mAndB m n ro τ = bd (m ro τ) (andBK n ro) := bd_of fun a => by
  obtain ⟨b, τ'⟩ := a
  cases b <;> rfl
@[simp] theorem r_mOrB (m n : MB) (ro : Ro) (τ : Tau) : mOrB m n ro τ = bd (m ro τ) (orBK n ro) := bd_of fun a => by
  obtain ⟨b, τ'⟩ := a
  cases b <;> rfl
@[simp] theorem r_mNotB (m : MB) (ro : Ro) (τ : Tau) : mNotB m ro τ = bd (m ro τ) notBK := bd_om fun a => rfl
def andK2 (n : MV) (ro : Ro) (τ : Tau) : Bool → Option (R × Tau)
  | true => n ro τ
  | false => some (rBool false, τ)
@[simp] theorem andK2_t (n : MV) (ro : Ro) (τ : Tau) : andK2 n ro τ true = n ro τ := rfl
@[simp] theorem andK2_f (n : MV) (ro : Ro) (τ : Tau) : andK2 n ro τ false = some (rBool false, τ) := rfl
def orK2 (n : MV) (ro : Ro) (τ : Tau) : Bool → Option (R × Tau)
  | true => some (rBool true, τ)
  | false => n ro τ
@[simp] theorem orK2_t (n : MV) (ro : Ro) (τ : Tau) : orK2 n ro τ true = some (rBool true, τ) := rfl
@[simp] theorem orK2_f (n : MV) (ro : Ro) (τ : Tau) : orK2 n ro τ false = n ro τ := rfl
@[simp] def notK2 (τ : Tau) (b : Bool) : Option (R × Tau) := some (rBool !b, τ)
@[simp] def andK (n : MV) (ro : Ro) : R × Tau → Option (R × Tau)
  | (r, τ) => bd (asB r) (andK2 n ro τ)
@[simp] def orK (n : MV) (ro : Ro) : R × Tau → Option (R × Tau)
  | (r, τ) => bd (asB r) (orK2 n ro τ)
@[simp] def notK : R × Tau → Option (R × Tau)
  | (r, τ) => bd (asB r) (notK2 τ)
@[simp] theorem r_mAnd (m n : MV) (ro : Ro) (τ : Tau) : mAnd m n ro τ = bd (m ro τ) (andK n ro) := bd_of fun a => bd_of fun b => by cases b <;> rfl
@[simp] theorem r_mOr (m n : MV) (ro : Ro) (τ : Tau) : mOr m n ro τ = bd (m ro τ) (orK n ro) := bd_of fun a => bd_of fun b => by cases b <;> rfl
@[simp] theorem r_mNot (m : MV) (ro : Ro) (τ : Tau) : mNot m ro τ = bd (m ro τ) notK := bd_of fun a => bd_om fun b => rfl
@[simp] def isiK1 (f : D → Bool) (τ : Tau) (d : D) : Option (R × Tau) := some (rBool (f d), τ)
@[simp] def isiK (f : D → Bool) : R × Tau → Option (R × Tau)
  | (r, τ) => bd r.er (isiK1 f τ)
@[simp] theorem r_mIsi (f : D → Bool) (m : MV) (ro : Ro) (τ : Tau) : mIsi f m ro τ = bd (m ro τ) (isiK f) := bd_of fun a => bd_om fun b => rfl
@[simp] def isi2K1 (f g : D → Bool) (τ : Tau) (d : D) : Option (R × Tau) := some (rBool (f d || g d), τ)
@[simp] def isi2K (f g : D → Bool) : R × Tau → Option (R × Tau)
  | (r, τ) => bd r.er (isi2K1 f g τ)
@[simp] theorem r_mIsi2 (f g : D → Bool) (m : MV) (ro : Ro) (τ : Tau) : mIsi2 f g m ro τ = bd (m ro τ) (isi2K f g) := bd_of fun a => bd_om fun b => rfl
@[simp] def lrngK2 (τ : Tau) (n : Int) : Option (R × Tau) := if 0 ≤ n ∧ n ≤ 16000000 then some (.val (.fl (rangeD 0 1 n.toNat)), τ) else none
@[simp] def lrngK : R × Tau → Option (R × Tau)
  | (r, τ) => bd (asI r) (lrngK2 τ)
@[simp] theorem r_mLRng (m : MV) (ro : Ro) (τ : Tau) : mLRng m ro τ = bd (m ro τ) lrngK := bd_of fun a => bd_of fun b => rfl
@[simp] theorem r_oNone (ro : Ro) (τ : Tau) : oNone ro τ = some (none, τ) := rfl
@[simp] def oK2 (τ : Tau) (i : Int) : Option (Option Int × Tau) := some (some i, τ)
@[simp] def oK : R × Tau → Option (Option Int × Tau)
  | (r, τ) => bd (asI r) (oK2 τ)
@[simp] theorem r_oSome (m : MV) (ro : Ro) (τ : Tau) : oSome m ro τ = bd (m ro τ) oK := bd_of fun a => bd_om fun b => rfl
@[simp] def cutK3 (r : R) (i : Option Int) : Option Int × Tau → Option (R × Tau)
  | (j, τ) => bd (cutR r i j) (ofK2 τ)
@[simp] def cutK2 (h : MO) (ro : Ro) (r : R) : Option Int × Tau → Option (R × Tau)
  | (i, τ) => bd (h ro τ) (cutK3 r i)
@[simp] def cutK (l h : MO) (ro : Ro) : R × Tau → Option (R × Tau)
  | (r, τ) => bd (l ro τ) (cutK2 h ro r)
@[simp] theorem r_mCut (m : MV) (l h : MO) (ro : Ro) (τ : Tau) : mCut m l h ro τ = bd (m ro τ) (cutK l h ro) := bd_of fun a => bd_of fun b => bd_of fun c => bd_om fun d => rfl
@[simp] theorem r_cNil (ro : Ro) (τ : Tau) : cNil ro τ = some ([], τ) := rfl
@[simp] def caK3 (c : CArg) : List CArg × Tau → Option (List CArg × Tau)
  | (cs, τ) => some (c :: cs, τ)
@[simp] def caK2 (l : MCA) (ro : Ro) (τ : Tau) (d : D) : Option (List CArg × Tau) := bd (l ro τ) (caK3 (.d d))
@[simp] def caK (l : MCA) (ro : Ro) : R × Tau → Option (List CArg × Tau)
  | (r, τ) => bd r.st (caK2 l ro τ)
@[simp] def caSK (l : MCA) (ro : Ro) : R × Tau → Option (List CArg × Tau)
  | (r, τ) => bd r.er (caK2 l ro τ)
@[simp] theorem r_cCons (m : MV) (l : MCA) (ro : Ro) (τ : Tau) : cCons m l ro τ = bd (m ro τ) (caK l ro) := bd_of fun a => bd_of fun b => bd_om fun c => rfl
@[simp] theorem r_cSee (m : MV) (l : MCA) (ro : Ro) (τ : Tau) : cSee m l ro τ = bd (m ro τ) (caSK l ro) := bd_of fun a => bd_of fun b => bd_om fun c => rfl
@[simp] def caIK (l : MCA) (ro : Ro) (τ : Tau) (j : Nat) (t : T) : Option (List CArg × Tau) := bd (l ro τ) (caK3 (.io j))
@[simp] theorem r_cIo (j : Nat) (l : MCA) (ro : Ro) (τ : Tau) : cIo j l ro τ = bd (tget τ j) (caIK l ro τ j) := bd_of fun a => bd_om fun b => rfl
@[simp] def caOK (l : MCA) (ro : Ro) : R × Tau → Option (List CArg × Tau)
  | (.val t, τ) => bd (l ro τ) (caK3 (.ow t))
  | (.vw _, _) => none
@[simp] theorem r_cOw (m : MV) (l : MCA) (ro : Ro) (τ : Tau) : cOw m l ro τ = bd (m ro τ) (caOK l ro) := bd_of fun a => by
  obtain ⟨r, τ'⟩ := a
  cases r with
  | val t => exact bd_om fun b => rfl
  | vw t => rfl
@[simp] theorem bt_nil (τ : Tau) : buildT [] τ = some ([], τ) := rfl
@[simp] def btK (t : T) : List T × Tau → Option (List T × Tau)
  | (ts, τ) => some (t :: ts, τ)
@[simp] theorem bt_d (d : D) (cs : List CArg) (τ : Tau) : buildT (.d d :: cs) τ = bd (buildT cs τ) (btK (.leaf d)) := bd_om fun a => rfl
@[simp] theorem bt_ow (d : T) (cs : List CArg) (τ : Tau) : buildT (.ow d :: cs) τ = bd (buildT cs τ) (btK d) := bd_om fun a => rfl
@[simp] def btIK (j : Nat) (cs : List CArg) (τ : Tau) (t : T) : Option (List T × Tau) := bd (buildT cs (tset τ j .hole)) (btK t)
@[simp] theorem bt_io (d : Nat) (cs : List CArg) (τ : Tau) : buildT (.io d :: cs) τ = bd (tget τ d) (btIK d cs τ) := bd_of fun a => bd_om fun b => rfl
@[simp] theorem bk_nil (τ : Tau) : backT [] [] τ = some τ := rfl
@[simp] theorem bk_d (d : D) (cs : List CArg) (t : T) (ts : List T) (τ : Tau) : backT (.d d :: cs) (t :: ts) τ = backT cs ts τ := rfl
@[simp] theorem bk_ow (d : T) (cs : List CArg) (t : T) (ts : List T) (τ : Tau) : backT (.ow d :: cs) (t :: ts) τ = backT cs ts τ := rfl
@[simp] def bkK (j : Nat) (t : T) (τ : Tau) : Option Tau := some (tset τ j t)
@[simp] theorem bk_io (j : Nat) (cs : List CArg) (t : T) (ts : List T) (τ : Tau) : backT (.io j :: cs) (t :: ts) τ = bd (backT cs ts τ) (bkK j t) := bd_om fun a => rfl
@[simp] def callK3 (r : T) (τ : Tau) : Option (R × Tau) := some (.val r, τ)
@[simp] def callK2 (cs : List CArg) (τ : Tau) : T × List T → Option (R × Tau)
  | (r, ts) => bd (backT cs ts τ) (callK3 r)
@[simp] def callK1 (f : MF) (cs : List CArg) : List T × Tau → Option (R × Tau)
  | (ts, τ) => bd (f ts) (callK2 cs τ)
@[simp] def callK (f : MF) : List CArg × Tau → Option (R × Tau)
  | (cs, τ) => bd (buildT cs τ) (callK1 f cs)
@[simp] theorem r_mCall (f : MF) (l : MCA) (ro : Ro) (τ : Tau) : mCall f l ro τ = bd (l ro τ) (callK f) := bd_of fun a => bd_of fun b => bd_of fun c => bd_om fun d => rfl
@[simp] theorem lf_nil : leafs [] = some [] := rfl
@[simp] def lfK (d : D) (ts : List T) : Option (List T) := some (.leaf d :: ts)
@[simp] theorem lf_d (d : D) (cs : List CArg) : leafs (.d d :: cs) = bd (leafs cs) (lfK d) := by
  show (leafs cs).map (T.leaf d :: ·) = _
  exact bd_om fun a => rfl
@[simp] def lookK2 (τ : Tau) : T × List T → Option (R × Tau)
  | (r, _) => if isScal r = true then some (.val r, τ) else none
@[simp] def lookK1 (f : MF) (τ : Tau) (ts : List T) : Option (R × Tau) := bd (f ts) (lookK2 τ)
@[simp] def lookK (f : MF) : List CArg × Tau → Option (R × Tau)
  | (cs, τ) => bd (leafs cs) (lookK1 f τ)
@[simp] theorem r_mLook (f : MF) (l : MCA) (ro : Ro) (τ : Tau) : mLook f l ro τ = bd (l ro τ) (lookK f) := bd_of fun a => bd_of fun b => bd_of fun c => rfl
@[simp] theorem sc_b (b : Bool) : isScal (.leaf (.bool b)) = true := rfl
@[simp] theorem sc_i (b : Int) : isScal (.leaf (.int b)) = true := rfl
@[simp] theorem sc_s (b : Str) : isScal (.leaf (.str b)) = true := rfl
@[simp] theorem sc_n : isScal (.leaf .none) = true := rfl
end Tl

namespace Tl
open PySem PySem.Spec PyProof.Rows L2
@[simp] theorem isLs_fl (ds : List D) : isLs (.fl ds) = true := rfl
@[simp] theorem isLs_ls (ds : List T) : isLs (.ls ds) = true := rfl
@[simp] def mutK4 (i : Nat) (τ : Tau) : D × T → Option (R × Tau)
  | (z, t) => some (rd z, tset τ i t)
@[simp] def mutK3 (i : Nat) (g : T → List D → Option (D × T)) (τ : Tau) (ds : List D) (t : T) : Option (R × Tau) := bd (g t ds) (mutK4 i τ)
@[simp] def mutK2 (i : Nat) (g : T → List D → Option (D × T)) (τ : Tau) (ds : List D) : Option (R × Tau) := bd (tget τ i) (mutK3 i g τ ds)
@[simp] def mutK1 (i : Nat) (g : T → List D → Option (D × T)) : List R × Tau → Option (R × Tau)
  | (rs, τ) => bd (stL rs) (mutK2 i g τ)
@[simp] def mutK0 (i : Nat) (g : T → List D → Option (D × T)) (l : ML) (ro : Ro) (τ : Tau) : Bool → Option (R × Tau)
  | true => bd (l ro τ) (mutK1 i g)
  | false => none
@[simp] def mutK (i : Nat) (g : T → List D → Option (D × T)) (l : ML) (ro : Ro) (τ : Tau) (t : T) : Option (R × Tau) := mutK0 i g l ro τ (isLs t)
@[simp] theorem r_mMut (i : Nat) (g : T → List D → Option (D × T)) (l : ML) (ro : Ro) (τ : Tau) : mMut i g l ro τ = bd (tget τ i) (mutK i g l ro τ) := bd_of fun t => by
  unfold mutK
  cases z : isLs t with
  | false => rw [if_neg Bool.false_ne_true]; rfl
  | true =>
    rw [if_pos rfl]
    exact bd_of fun a => bd_of fun b => bd_of fun c => bd_om fun d => rfl
@[simp] theorem r_pHere (u : T) (ro : Ro) (τ : Tau) : pHere u ro τ = some (([], u), τ) := rfl
@[simp] def pAtK4 (is : List Int) (i : Int) (τ : Tau) (w : T) : Option ((List Int × T) × Tau) := some ((is ++ [i], w), τ)
@[simp] def pAtK3 (is : List Int) (i : Int) (τ : Tau) (ts : List T) : Option ((List Int × T) × Tau) := bd (L2.atI ts i) (pAtK4 is i τ)
@[simp] def pAtK2 (is : List Int) (w : T) (τ : Tau) (i : Int) : Option ((List Int × T) × Tau) := bd w.kids (pAtK3 is i τ)
@[simp] def pAtK1 (is : List Int) (w : T) : R × Tau → Option ((List Int × T) × Tau)
  | (r, τ) => bd (asI r) (pAtK2 is w τ)
@[simp] def pAtK (mi : MV) (ro : Ro) : (List Int × T) × Tau → Option ((List Int × T) × Tau)
  | ((is, w), τ) => bd (mi ro τ) (pAtK1 is w)
@[simp] theorem r_pAt (mb : MP) (mi : MV) (u : T) (ro : Ro) (τ : Tau) : pAt mb mi u ro τ = bd (mb u ro τ) (pAtK mi ro) := bd_of fun a => bd_of fun b => bd_of fun c => bd_of fun d => bd_om fun e => rfl
@[simp] theorem kids_ls (ts : List T) : T.kids (.ls ts) = some ts := rfl
@[simp] theorem kids_tup (ts : List T) : T.kids (.tup ts) = some ts := rfl
@[simp] theorem put_ls (ts : List T) (j : Nat) (u : T) : T.put (.ls ts) j u = some (.ls (ts.set j u)) := rfl
@[simp] theorem put_tup (ts : List T) (j : Nat) (u : T) : T.put (.tup ts) j u = some (.tup (ts.set j u)) := rfl
@[simp] theorem setP_nil (t u : T) : setP t [] u = some u := rfl
@[simp] def setPK3 (t : T) (j : Nat) (w : T) : Option T := t.put j w
@[simp] def setPK2 (t : T) (is : List Int) (u : T) (j : Nat) (w : T) : Option T := bd (setP w is u) (setPK3 t j)
@[simp] def setPK1 (t : T) (is : List Int) (u : T) (ts : List T) (j : Nat) : Option T := bd (ts[j]?) (setPK2 t is u j)
@[simp] def setPK (t : T) (i : Int) (is : List Int) (u : T) (ts : List T) : Option T := bd (ixN ts.length i) (setPK1 t is u ts)
@[simp] theorem setP_cons (t : T) (i : Int) (is : List Int) (u : T) : setP t (i :: is) u = bd t.kids (setPK t i is u) := by
  show t.kids.bind _ = _
  exact bd_of fun ts => bd_of fun j => bd_of fun w => bd_of fun w' => rfl
@[simp] def mpK5 (x : Nat) (z : D) (τ : Tau) (u : T) : Option (R × Tau) := some (rd z, tset τ x u)
@[simp] def mpK4 (x : Nat) (u : T) (is : List Int) (τ : Tau) : D × T → Option (R × Tau)
  | (z, w) => bd (setP u is w) (mpK5 x z τ)
@[simp] def mpK3 (x : Nat) (g : T → List D → Option (D × T)) (u : T) (is : List Int) (w : T) (τ : Tau) (ds : List D) : Option (R × Tau) := bd (g w ds) (mpK4 x u is τ)
@[simp] def mpK2 (x : Nat) (g : T → List D → Option (D × T)) (u : T) (is : List Int) (w : T) : List R × Tau → Option (R × Tau)
  | (rs, τ) => bd (stL rs) (mpK3 x g u is w τ)
@[simp] def mpK1 (x : Nat) (g : T → List D → Option (D × T)) (l : ML) (fz : Fz) (vw : Tau) (u : T) (is : List Int) (w : T) (τ : Tau) : Bool → Option (R × Tau)
  | true => bd (l ⟨fz, (x, u) :: vw⟩ τ) (mpK2 x g u is w)
  | false => none
@[simp] def mpK0 (x : Nat) (g : T → List D → Option (D × T)) (l : ML) (fz : Fz) (vw : Tau) (u : T) : (List Int × T) × Tau → Option (R × Tau)
  | ((is, w), τ) => mpK1 x g l fz vw u is w τ (isLs w)
@[simp] def mpK (x : Nat) (mp : MP) (g : T → List D → Option (D × T)) (l : ML) (fz : Fz) (vw : Tau) (τ : Tau) (u : T) : Option (R × Tau) := bd (mp u ⟨fz, (x, u) :: vw⟩ (tset τ x .hole)) (mpK0 x g l fz vw u)
@[simp] theorem r_mMutP (x : Nat) (mp : MP) (g : T → List D → Option (D × T)) (l : ML) (fz : Fz) (vw : Tau) (τ : Tau) : mMutP x mp g l ⟨fz, vw⟩ τ = bd (tget τ x) (mpK x mp g l fz vw τ) := bd_of fun u => bd_of fun a => by
  obtain ⟨⟨is, w⟩, τ'⟩ := a
  show _ = mpK1 x g l fz vw u is w τ' (isLs w)
  cases z : isLs w with
  | false => rw [if_neg Bool.false_ne_true]; rfl
  | true =>
    rw [if_pos rfl]
    exact bd_of fun a => bd_of fun b => bd_of fun c => bd_om fun d => rfl
@[simp] theorem g_append (xs : List D) (d : D) : gAppend (.fl xs) [d] = if xs.length < 16000000 then some (.none, .fl (xs ++ [d])) else none := rfl
@[simp] theorem g_appendls (xs : List T) (d : D) : gAppend (.ls xs) [d] = if xs.length < 16000000 then some (.none, .ls (xs ++ [.leaf d])) else none := rfl
@[simp] theorem g_clearls (xs : List T) : gClear (.ls xs) [] = some (.none, .fl []) := rfl
@[simp] theorem g_extend (xs es : List D) : gExtend (.fl xs) [.list es] = if xs.length + es.length ≤ 16000000 then some (.none, .fl (xs ++ es)) else none := rfl
@[simp] theorem g_insert (xs : List D) (i : Int) (d : D) : gInsert (.fl xs) [.int i, d] = if xs.length < 16000000 ∧ 0 ≤ i ∧ i ≤ 16000000 then some (.none, .fl (xs.take i.toNat ++ [d] ++ xs.drop i.toNat)) else none := rfl
@[simp] def popK (xs : List D) (d : D) : Option (D × T) := some (d, .fl xs.dropLast)
@[simp] theorem g_pop (xs : List D) : gPop (.fl xs) [] = bd (xs[xs.length - 1]?) (popK xs) := bd_om fun a => rfl
@[simp] theorem g_reverse (xs : List D) : gReverse (.fl xs) [] = some (.none, .fl xs.reverse) := rfl
@[simp] theorem g_clear (xs : List D) : gClear (.fl xs) [] = some (.none, .fl []) := rfl
@[simp] def pAK2 (xs : List D) (k : Nat) (d : D) : Option (D × T) := some (d, .fl (xs.eraseIdx k))
@[simp] def pAK (xs : List D) (k : Nat) : Option (D × T) := bd (xs[k]?) (pAK2 xs k)
@[simp] theorem g_popAt (xs : List D) (i : Int) : gPopAt (.fl xs) [.int i] = if -16000000 ≤ i ∧ i ≤ 16000000 then bd (seqIndex? i xs.length) (pAK xs) else none := by
  show (if -16000000 ≤ i ∧ i ≤ 16000000 then (seqIndex? i xs.length).bind _ else none) = _
  congr 1
  exact bd_of fun k => bd_om fun d => rfl
@[simp] def putK (xs : List D) (d : D) (j : Nat) : Option (D × T) := some (.none, .fl (xs.set j d))
@[simp] theorem g_put (i : Int) (xs : List D) (d : D) : gPut i (.fl xs) [d] = bd (ixN xs.length i) (putK xs d) := by
  show ((ixN xs.length i).map fun j => T.fl (xs.set j d)).map (fun w' => (PyData.none, w')) = _
  rw [Option.map_map]
  exact bd_om fun a => rfl
@[simp] theorem its_l (ds : List D) : R.its (.val (.leaf (.list ds))) = some (true, ds) := rfl
@[simp] theorem its_t (ds : List D) : R.its (.val (.leaf (.tuple ds))) = some (false, ds) := rfl
@[simp] theorem its_f (ds : List D) : R.its (.val (.fl ds)) = some (true, ds) := rfl
@[simp] theorem its_wf (ds : List D) : R.its (.vw (.fl ds)) = some (true, ds) := rfl
@[simp] theorem its_ws (ds : List D) : R.its (.vw (.scr ds)) = some (true, ds) := rfl
@[simp] theorem its_wl (ds : List D) : R.its (.vw (.leaf (.list ds))) = some (true, ds) := rfl
@[simp] theorem its_wt (ds : List D) : R.its (.vw (.leaf (.tuple ds))) = some (false, ds) := rfl
@[simp] def sqK2 (τ : Tau) : Bool × List D → Option (List D × Tau)
  | (_, ds) => some (ds, τ)
@[simp] def sqK : R × Tau → Option (List D × Tau)
  | (r, τ) => bd r.its (sqK2 τ)
@[simp] theorem r_iSeq (m : MV) (ro : Ro) (τ : Tau) : iSeq m ro τ = bd (m ro τ) sqK := bd_of fun a => bd_om fun b => rfl
@[simp] def enK2 (τ : Tau) : Bool × List D → Option (List D × Tau)
  | (true, ds) => some (enumFrom 0 ds, τ)
  | (false, _) => none
@[simp] def enK : R × Tau → Option (List D × Tau)
  | (r, τ) => bd r.its (enK2 τ)
@[simp] theorem r_iEnumM (m : MV) (ro : Ro) (τ : Tau) : iEnumM m ro τ = bd (m ro τ) enK := bd_of fun a => bd_of fun b => by
  obtain ⟨b, ds⟩ := b
  cases b <;> rfl
@[simp] def rvK2 (τ : Tau) : Bool × List D → Option (List D × Tau)
  | (true, ds) => some (ds.reverse, τ)
  | (false, _) => none
@[simp] def rvK : R × Tau → Option (List D × Tau)
  | (r, τ) => bd r.its (rvK2 τ)
@[simp] theorem r_iRevM (m : MV) (ro : Ro) (τ : Tau) : iRevM m ro τ = bd (m ro τ) rvK := bd_of fun a => bd_of fun b => by
  obtain ⟨b, ds⟩ := b
  cases b <;> rfl
@[simp] def zpK4 (τ : Tau) (b : Bool) (ds : List D) : Bool × List D → Option (List D × Tau)
  | (c, es) => if b = c then some (zipD ds es, τ) else none
@[simp] def zpK3 (b : Bool) (ds : List D) : R × Tau → Option (List D × Tau)
  | (r, τ) => bd r.its (zpK4 τ b ds)
@[simp] def zpK2 (n : MV) (ro : Ro) (τ : Tau) : Bool × List D → Option (List D × Tau)
  | (b, ds) => bd (n ro τ) (zpK3 b ds)
@[simp] def zpK (n : MV) (ro : Ro) : R × Tau → Option (List D × Tau)
  | (r, τ) => bd r.its (zpK2 n ro τ)
@[simp] theorem r_iZipM (m n : MV) (ro : Ro) (τ : Tau) : iZipM m n ro τ = bd (m ro τ) (zpK n ro) := bd_of fun a => bd_of fun b => bd_of fun c => bd_of fun d => rfl
@[simp] def rgK3 (τ : Tau) (ds : List D) : Option (List D × Tau) := some (ds, τ)
@[simp] def rgK2 (τ : Tau) (ns : List Int) : Option (List D × Tau) := bd (rngOf ns) (rgK3 τ)
@[simp] def rgK : List R × Tau → Option (List D × Tau)
  | (rs, τ) => bd (asInts rs) (rgK2 τ)
@[simp] theorem r_iRng (l : ML) (ro : Ro) (τ : Tau) : iRng l ro τ = bd (l ro τ) rgK := bd_of fun a => bd_of fun b => bd_om fun c => rfl
@[simp] theorem rng1 (j : Int) : rngOf [j] = if -8000000 ≤ j ∧ j ≤ 8000000 then some (rangeD 0 1 j.toNat) else none := rfl
@[simp] theorem rng2 (i j : Int) : rngOf [i, j] = if (-8000000 ≤ i ∧ i ≤ 8000000) ∧ -8000000 ≤ j ∧ j ≤ 8000000 then some (rangeD i 1 (j - i).toNat) else none := rfl
@[simp] theorem rng3 (i j c : Int) : rngOf [i, j, c] = if c = -1 ∧ (-8000000 ≤ i ∧ i ≤ 8000000) ∧ -8000000 ≤ j ∧ j ≤ 8000000 then some (rangeD i c (i - j).toNat) else none := rfl
@[simp] theorem r_gtN (i : Nat) (d : D) (fz : Fz) : gtN i d fz = some (fset fz i (some d)) := rfl
@[simp] theorem r_gtNil (fz : Fz) : gtNil [] fz = some fz := rfl
@[simp] theorem r_gtCons (m : MG) (l : MGs) (d : D) (ds : List D) (fz : Fz) : gtCons m l (d :: ds) fz = bd (m d fz) (l ds) := bd_of fun a => rfl
@[simp] theorem r_gtT (l : MGs) (ds : List D) (fz : Fz) : gtT l (.tuple ds) fz = l ds fz := rfl
@[simp] theorem r_mYes (ro : Ro) (τ : Tau) : mYes ro τ = some (true, τ) := rfl
@[simp] def lcK2 : List D × Tau → Option (R × Tau)
  | (ds, τ) => some (.val (.fl ds), τ)
@[simp] def lcK (vs : List Nat) (mt : MG) (mc : MB) (me : MV) (fz : Fz) (vw : Tau) : List D × Tau → Option (R × Tau)
  | (ds, τ) => bd (lcLoop vs mt mc me (fwipe fz vs) (tout vs vw) ds [] (tout vs τ)) lcK2
@[simp] theorem r_mLc (vs : List Nat) (mi : MI) (mt : MG) (mc : MB) (me : MV) (fz : Fz) (vw : Tau) (τ : Tau) : mLc vs mi mt mc me ⟨fz, vw⟩ τ = bd (mi ⟨fz, vw⟩ τ) (lcK vs mt mc me fz vw) := bd_of fun a => bd_om fun b => rfl
@[simp] def xK (fz : Fz) : R × Tau → Option (T × SS)
  | (.val x, τ) => some (x, ⟨fz, τ⟩)
  | (.vw (.leaf d), τ) => some (.leaf d, ⟨fz, τ⟩)
  | (.vw _, _) => none
@[simp] theorem r_mX (m : MV) (fz : Fz) (τ : Tau) : mX m ⟨fz, τ⟩ = bd (m ⟨fz, []⟩ τ) (xK fz) := bd_of fun a => by
  obtain ⟨r, τ'⟩ := a
  cases r with
  | val x => rfl
  | vw x => cases x <;> rfl
@[simp] def xbK (fz : Fz) : Bool × Tau → Option (Bool × SS)
  | (b, τ) => some (b, ⟨fz, τ⟩)
@[simp] theorem r_mXB (m : MB) (fz : Fz) (τ : Tau) : mXB m ⟨fz, τ⟩ = bd (m ⟨fz, []⟩ τ) (xbK fz) := bd_om fun a => rfl
@[simp] def xiK (fz : Fz) : List D × Tau → Option (List D × SS)
  | (b, τ) => some (b, ⟨fz, τ⟩)
@[simp] theorem r_mXI (m : MI) (fz : Fz) (τ : Tau) : mXI m ⟨fz, τ⟩ = bd (m ⟨fz, []⟩ τ) (xiK fz) := bd_om fun a => rfl
@[simp] def seqK (n : MS) : Out → Option Out
  | .nx s => n s
  | .rt t s => some (.rt t s)
  | .bk s => some (.bk s)
  | .ct s => some (.ct s)
@[simp] theorem r_mSeq (m n : MS) (s : SS) : mSeq m n s = bd (m s) (seqK n) := bd_of fun o => by cases o <;> rfl
@[simp] theorem r_mNx (s : SS) : mNx s = some (.nx s) := rfl
@[simp] theorem r_mBrk (s : SS) : mBrk s = some (.bk s) := rfl
@[simp] theorem r_mCnt (s : SS) : mCnt s = some (.ct s) := rfl
@[simp] theorem r_mRetN (s : SS) : mRetN s = some (.rt (.leaf .none) s) := rfl
def ifsK (m n : MS) : Bool × SS → Option Out
  | (true, s) => m s
  | (false, s) => n s
@[simp] theorem ifsK_t (m n : MS) (s : SS) : ifsK m n (true, s) = m s := rfl
@[simp] theorem ifsK_f (m n : MS) (s : SS) : ifsK m n (false, s) = n s := rfl
@[simp] theorem r_mIfS (c : MXB) (m n : MS) (s : SS) : mIfS c m n s = bd (c s) (ifsK m n) := bd_of fun a => by
  obtain ⟨b, s⟩ := a
  cases b <;> rfl
@[simp] def retK : T × SS → Option Out
  | (t, s) => some (.rt t s)
@[simp] theorem r_mRet (m : MX) (s : SS) : mRet m s = bd (m s) retK := bd_om fun a => rfl
@[simp] def doK : T × SS → Option Out
  | (_, s) => some (.nx s)
@[simp] theorem r_mDo (m : MX) (s : SS) : mDo m s = bd (m s) doK := bd_om fun a => rfl
@[simp] def setK2 (i : Nat) (fz : Fz) (τ : Tau) (d : D) : Option Out := some (.nx ⟨fset fz i (some d), tdel τ i⟩)
@[simp] def setK (i : Nat) : T × SS → Option Out
  | (t, ⟨fz, τ⟩) => bd t.fz (setK2 i fz τ)
@[simp] theorem r_mSet (i : Nat) (m : MX) (s : SS) : mSet i m s = bd (m s) (setK i) := bd_of fun a => bd_om fun d => rfl
@[simp] def setOK (i : Nat) : T × SS → Option Out
  | (t, ⟨fz, τ⟩) => if once τ = true ∧ i < fz.length then some (.nx ⟨fset fz i none, tset τ i t⟩) else none
@[simp] theorem r_mSetO (i : Nat) (m : MX) (s : SS) : mSetO i m s = bd (m s) (setOK i) := bd_of fun a => rfl
@[simp] theorem r_mPre (f : SS → Option SS) (m : MS) (s : SS) : mPre f m s = bd (f s) m := rfl
@[simp] def fzKb (i : Nat) (fz : Fz) (τ : Tau) (d : D) : Option SS := some ⟨fset fz i (some d), tdel τ i⟩
@[simp] def fzKa (i : Nat) (fz : Fz) (τ : Tau) : Option T → Option SS
  | none => some ⟨fz, τ⟩
  | some t => bd t.fz (fzKb i fz τ)
@[simp] theorem r_mFz (i : Nat) (fz : Fz) (τ : Tau) : mFz i ⟨fz, τ⟩ = fzKa i fz τ (tget τ i) := by
  unfold mFz
  cases h : tget τ i with
  | none => rfl
  | some t =>
    show (tget τ i).bind _ = bd _ _
    rw [h]
    exact bd_om fun a => rfl
@[simp] def forK (ws : List Nat) (mt : MG) (body : MS) : List D × SS → Option Out
  | (ds, s) => forL ws mt body ds s
@[simp] theorem r_mFor (ws : List Nat) (mi : MXI) (mt : MG) (body : MS) (s : SS) : mFor ws mi mt body s = bd (mi s) (forK ws mt body) := bd_of fun a => rfl
@[simp] theorem r_mWhile (n : Nat) (c : MXB) (body : MS) (s : SS) : mWhile n c body s = whL c body n s := rfl
@[simp] def asgK3 (ws : List Nat) (τ : Tau) (fz : Fz) : Option Out := some (.nx ⟨fz, tout ws τ⟩)
@[simp] def asgK2 (ws : List Nat) (mt : MG) (fz : Fz) (τ : Tau) (d : D) : Option Out := bd (mt d fz) (asgK3 ws τ)
@[simp] def asgK (ws : List Nat) (mt : MG) : T × SS → Option Out
  | (t, ⟨fz, τ⟩) => bd t.fz (asgK2 ws mt fz τ)
@[simp] theorem r_mAsg (ws : List Nat) (mt : MG) (m : MX) (s : SS) : mAsg ws mt m s = bd (m s) (asgK ws mt) := bd_of fun a => bd_of fun b => bd_om fun c => rfl
@[simp] def parK2 (i j : Nat) (fz : Fz) (τ : Tau) : List D → Option Out
  | [d, e] => some (.nx ⟨fset (fset fz i (some d)) j (some e), tdel (tdel τ i) j⟩)
  | _ => none
@[simp] def parK (i j : Nat) (fz : Fz) : List R × Tau → Option Out
  | (rs, τ) => bd (stL rs) (parK2 i j fz τ)
@[simp] theorem r_mPar (i j : Nat) (l : ML) (fz : Fz) (τ : Tau) : mPar i j l ⟨fz, τ⟩ = bd (l ⟨fz, []⟩ τ) (parK i j fz) := bd_of fun a => bd_of fun b => rfl
@[simp] def augK4 (i : Nat) (fz : Fz) (τ : Tau) (d : D) : Option Out := some (.nx ⟨fset fz i (some d), tdel τ i⟩)
@[simp] def augK3 (i : Nat) (fz : Fz) (τ : Tau) (r : R) : Option Out := bd r.st (augK4 i fz τ)
@[simp] def augK2 (i : Nat) (g : List R → Option R) (fz : Fz) (d : D) : R × Tau → Option Out
  | (r, τ) => bd (g [rd d, r]) (augK3 i fz τ)
@[simp] def augK (i : Nat) (g : List R → Option R) (m : MV) (fz : Fz) (τ : Tau) (d : D) : Option Out := bd (m ⟨fz, []⟩ τ) (augK2 i g fz d)
@[simp] theorem r_mAug (i : Nat) (g : List R → Option R) (m : MV) (fz : Fz) (τ : Tau) : mAug i g m ⟨fz, τ⟩ = bd (fget fz i) (augK i g m fz τ) := bd_of fun a => bd_of fun b => bd_of fun c => bd_om fun d => rfl
@[simp] def spK8 (x : Nat) (fz : Fz) (τ : Tau) (u : T) : Option Out := some (.nx ⟨fz, tset τ x u⟩)
@[simp] def spK7 (x : Nat) (fz : Fz) (u : T) (is : List Int) (τ : Tau) : D × T → Option Out
  | (_, w) => bd (setP u is w) (spK8 x fz τ)
@[simp] def spK6 (x : Nat) (fz : Fz) (d : D) (u : T) (is : List Int) (w : T) (τ : Tau) (i : Int) : Option Out := bd (gPut i w [d]) (spK7 x fz u is τ)
@[simp] def spK5 (x : Nat) (fz : Fz) (d : D) (u : T) (is : List Int) (w : T) : R × Tau → Option Out
  | (r, τ) => bd (asI r) (spK6 x fz d u is w τ)
@[simp] def spK4 (x : Nat) (mi : MV) (fz : Fz) (d : D) (u : T) : (List Int × T) × Tau → Option Out
  | ((is, w), τ) => bd (mi ⟨fz, [(x, u)]⟩ τ) (spK5 x fz d u is w)
@[simp] def spK3 (x : Nat) (mp : MP) (mi : MV) (fz : Fz) (τ : Tau) (d : D) (u : T) : Option Out := bd (mp u ⟨fz, [(x, u)]⟩ (tset τ x .hole)) (spK4 x mi fz d u)
@[simp] def spK2 (x : Nat) (mp : MP) (mi : MV) (fz : Fz) (τ : Tau) (d : D) : Option Out := bd (tget τ x) (spK3 x mp mi fz τ d)
@[simp] def spK1 (x : Nat) (mp : MP) (mi : MV) (fz : Fz) : R × Tau → Option Out
  | (r, τ) => bd r.st (spK2 x mp mi fz τ)
@[simp] theorem r_mSetP (x : Nat) (mp : MP) (me mi : MV) (fz : Fz) (τ : Tau) : mSetP x mp me mi ⟨fz, τ⟩ = bd (me ⟨fz, []⟩ τ) (spK1 x mp mi fz) :=
  bd_of fun a => bd_of fun b => bd_of fun c => bd_of fun d => bd_of fun e => bd_of fun f => bd_of fun g => bd_om fun h => rfl
@[simp] theorem inFz_nil : inFz [] [] = some [] := rfl
@[simp] def ifzK (x : Option D) (fz : Fz) : Option Fz := some (x :: fz)
@[simp] theorem inFz_t (ks : List Bool) (t : T) (ts : List T) : inFz (true :: ks) (t :: ts) = bd (inFz ks ts) (ifzK none) := by
  show (inFz ks ts).map (none :: ·) = _
  exact bd_om fun a => rfl
@[simp] theorem inFz_f (ks : List Bool) (d : D) (ts : List T) : inFz (false :: ks) (.leaf d :: ts) = bd (inFz ks ts) (ifzK (some d)) := by
  show (inFz ks ts).map (some d :: ·) = _
  exact bd_om fun a => rfl
@[simp] theorem inTau_nil (i : Nat) : inTau i [] [] = [] := rfl
@[simp] theorem inTau_t (i : Nat) (ks : List Bool) (t : T) (ts : List T) : inTau i (true :: ks) (t :: ts) = (i, t) :: inTau (i + 1) ks ts := rfl
@[simp] theorem inTau_f (i : Nat) (ks : List Bool) (t : T) (ts : List T) : inTau i (false :: ks) (t :: ts) = inTau (i + 1) ks ts := rfl
@[simp] theorem outT_nil (i : Nat) (τ : Tau) : outT i [] [] τ = some [] := rfl
@[simp] def otK (t : T) (ts : List T) : Option (List T) := some (t :: ts)
@[simp] def otK0 (i : Nat) (ks : List Bool) (ts : List T) (τ : Tau) (t : T) : Option (List T) := bd (outT (i + 1) ks ts (tset τ i .hole)) (otK t)
@[simp] theorem outT_t (i : Nat) (ks : List Bool) (t : T) (ts : List T) (τ : Tau) : outT i (true :: ks) (t :: ts) τ = bd (tget τ i) (otK0 i ks ts τ) := by
  show (tget τ i).bind _ = _
  exact bd_of fun a => bd_om fun b => rfl
@[simp] theorem outT_f (i : Nat) (ks : List Bool) (t : T) (ts : List T) (τ : Tau) : outT i (false :: ks) (t :: ts) τ = bd (outT (i + 1) ks ts τ) (otK t) := by
  show (outT (i + 1) ks ts τ).map (t :: ·) = _
  exact bd_om fun a => rfl
@[simp] def fnK3 (t : T) (ts : List T) : Option (T × List T) := some (t, ts)
@[simp] def fnK2 (ks : List Bool) (ts : List T) : Out → Option (T × List T)
  | .rt t s => bd (outT 0 ks ts s.ow) (fnK3 t)
  | .nx s => bd (outT 0 ks ts s.ow) (fnK3 (.leaf .none))
  | .bk _ => none
  | .ct _ => none
@[simp] def fnK (ks : List Bool) (n : Nat) (body : MS) (ts : List T) (fz : Fz) : Option (T × List T) := bd (body ⟨fz ++ List.replicate (n - ks.length) none, inTau 0 ks ts⟩) (fnK2 ks ts)
@[simp] theorem r_mFn (ks : List Bool) (n : Nat) (body : MS) (ts : List T) : mFn ks n body ts = bd (inFz ks ts) (fnK ks n body ts) := bd_of fun fz => bd_of fun o => by
  cases o with
  | rt t s => exact bd_om fun a => rfl
  | nx s => exact bd_om fun a => rfl
  | bk s => rfl
  | ct s => rfl
@[simp] def gpK2 (d : D) : Option R := some (rd d)
@[simp] def gpK (p : List D → Option D) (ds : List D) : Option R := bd (p ds) gpK2
@[simp] theorem r_gp (p : List D → Option D) (rs : List R) : gp p rs = bd (erL rs) (gpK p) := bd_of fun a => bd_om fun b => rfl
@[simp] theorem p_i2 (ok : Int → Int → Bool) (f : Int → Int → Int) (a b : Int) : pI2 ok f [.int a, .int b] = if ok a b = true then some (.int (f a b)) else none := rfl
@[simp] theorem p_c2 (f : Int → Int → Bool) (a b : Int) : pC2 f [.int a, .int b] = some (.bool (f a b)) := rfl
@[simp] theorem p_neg (a : Int) : pNeg [.int a] = some (.int (-a)) := rfl
@[simp] theorem p_abs (a : Int) : pAbs [.int a] = some (.int (if a < 0 then -a else a)) := rfl
@[simp] theorem p_min (a b : Int) : pMin2 [.int a, .int b] = some (.int (if b < a then b else a)) := rfl
@[simp] theorem p_max (a b : Int) : pMax2 [.int a, .int b] = some (.int (if b > a then b else a)) := rfl
@[simp] theorem p_int (a : Int) : pInt [.int a] = some (.int a) := rfl
@[simp] theorem p_intb (a : Bool) : pInt [.bool a] = some (.int (if a = true then 1 else 0)) := rfl
@[simp] theorem p_eq (a b : D) : pEq [a, b] = if SeqAt.shaped a = true ∧ SeqAt.shaped b = true then some (.bool (PyData.eqv a b)) else none := rfl
@[simp] theorem p_ne (a b : D) : pNe [a, b] = if SeqAt.shaped a = true ∧ SeqAt.shaped b = true then some (.bool (!PyData.eqv a b)) else none := rfl
@[simp] theorem p_isN (a : D) : pIsN [a, .none] = some (.bool (isNone a)) := rfl
@[simp] theorem p_notN (a : D) : pNotN [a, .none] = some (.bool (!isNone a)) := rfl
@[simp] theorem p_str (d : D) : pStr [d] = if okShow d = true then some (.str (strOf d)) else none := rfl
@[simp] theorem p_repr (d : D) : pRepr [d] = if okShow d = true then some (.str d.shown) else none := rfl
@[simp] theorem g_add (a b : Int) : gAdd [.val (.leaf (.int a)), .val (.leaf (.int b))] = some (rInt (a + b)) := rfl
@[simp] theorem g_adds (a b : Str) : gAdd [.val (.leaf (.str a)), .val (.leaf (.str b))] = if a.length + b.length ≤ 16000000 then some (rd (.str (a ++ b))) else none := rfl
@[simp] theorem g_addtt (a b : List D) : gAdd [.val (.leaf (.tuple a)), .val (.leaf (.tuple b))] = if a.length + b.length ≤ 16000000 then some (rd (.tuple (a ++ b))) else none := rfl
@[simp] theorem g_addff (a b : List D) : gAdd [.val (.fl a), .val (.fl b)] = if a.length + b.length ≤ 16000000 then some (.val (.fl (a ++ b))) else none := rfl
@[simp] theorem g_addfl (a b : List D) : gAdd [.val (.fl a), .val (.leaf (.list b))] = if a.length + b.length ≤ 16000000 then some (.val (.fl (a ++ b))) else none := rfl
@[simp] theorem g_addlf (a b : List D) : gAdd [.val (.leaf (.list a)), .val (.fl b)] = if a.length + b.length ≤ 16000000 then some (.val (.fl (a ++ b))) else none := rfl
@[simp] theorem g_addll (a b : List D) : gAdd [.val (.leaf (.list a)), .val (.leaf (.list b))] = if a.length + b.length ≤ 16000000 then some (.val (.fl (a ++ b))) else none := rfl
@[simp] theorem g_addwf (a b : List D) : gAdd [.vw (.fl a), .val (.fl b)] = if a.length + b.length ≤ 16000000 then some (.val (.fl (a ++ b))) else none := rfl
@[simp] theorem g_mul (a b : Int) : gMul [.val (.leaf (.int a)), .val (.leaf (.int b))] = if okMul a b = true then some (rInt (a * b)) else none := rfl
@[simp] theorem g_mulf (a : List D) (k : Int) : gMul [.val (.fl a), .val (.leaf (.int k))] = if (-4000000 ≤ k ∧ k ≤ 4000000) ∧ a.length * k.toNat ≤ 16000000 then some (.val (.fl (repD a k.toNat))) else none := rfl
@[simp] def ixK (d : D) : Option R := some (rd d)
@[simp] def ixKt (d : T) : Option R := some (.vw d)
@[simp] theorem ix_l (ds : List D) (i : Int) : gIx [.val (.leaf (.list ds)), .val (.leaf (.int i))] = bd (L2.atI ds i) ixK := bd_om fun a => rfl
@[simp] theorem ix_t (ds : List D) (i : Int) : gIx [.val (.leaf (.tuple ds)), .val (.leaf (.int i))] = bd (L2.atI ds i) ixK := bd_om fun a => rfl
@[simp] theorem ix_f (ds : List D) (i : Int) : gIx [.val (.fl ds), .val (.leaf (.int i))] = bd (L2.atI ds i) ixK := bd_om fun a => rfl
@[simp] theorem ix_wf (ds : List D) (i : Int) : gIx [.vw (.fl ds), .val (.leaf (.int i))] = bd (L2.atI ds i) ixK := bd_om fun a => rfl
@[simp] theorem ix_ws (ds : List D) (i : Int) : gIx [.vw (.scr ds), .val (.leaf (.int i))] = bd (L2.atI ds i) ixK := bd_om fun a => rfl
@[simp] theorem ix_wl (ds : List D) (i : Int) : gIx [.vw (.leaf (.list ds)), .val (.leaf (.int i))] = bd (L2.atI ds i) ixK := bd_om fun a => rfl
@[simp] theorem ix_wt (ds : List D) (i : Int) : gIx [.vw (.leaf (.tuple ds)), .val (.leaf (.int i))] = bd (L2.atI ds i) ixK := bd_om fun a => rfl
@[simp] theorem ix_wL (ds : List T) (i : Int) : gIx [.vw (.ls ds), .val (.leaf (.int i))] = bd (L2.atI ds i) ixKt := bd_om fun a => rfl
@[simp] theorem ix_wT (ds : List T) (i : Int) : gIx [.vw (.tup ds), .val (.leaf (.int i))] = bd (L2.atI ds i) ixKt := bd_om fun a => rfl
@[simp] theorem len_l (ds : List D) : gLen [.val (.leaf (.list ds))] = some (rInt ds.length) := rfl
@[simp] theorem len_t (ds : List D) : gLen [.val (.leaf (.tuple ds))] = some (rInt ds.length) := rfl
@[simp] theorem len_f (ds : List D) : gLen [.val (.fl ds)] = some (rInt ds.length) := rfl
@[simp] theorem len_wf (ds : List D) : gLen [.vw (.fl ds)] = some (rInt ds.length) := rfl
@[simp] theorem len_ws (ds : List D) : gLen [.vw (.scr ds)] = some (rInt ds.length) := rfl
@[simp] theorem len_wl (ds : List D) : gLen [.vw (.leaf (.list ds))] = some (rInt ds.length) := rfl
@[simp] theorem len_wt (ds : List D) : gLen [.vw (.leaf (.tuple ds))] = some (rInt ds.length) := rfl
@[simp] theorem len_wL (ds : List T) : gLen [.vw (.ls ds)] = some (rInt ds.length) := rfl
@[simp] theorem len_s (z : Str) : gLen [.val (.leaf (.str z))] = if z.length ≤ 16000000 then some (rInt z.length) else none := rfl
@[simp] def tupK (ds : List D) : Option R := some (rd (.tuple ds))
@[simp] def lstK (ds : List D) : Option R := some (.val (.fl ds))
@[simp] def lstKT (ds : List T) : Option R := some (.val (.ls ds))
@[simp] theorem r_gTupD (rs : List R) : gTupD rs = bd (stL rs) tupK := bd_om fun a => rfl
@[simp] theorem r_gLstD (rs : List R) : gLstD rs = bd (stL rs) lstK := bd_om fun a => rfl
@[simp] theorem r_gLstT (rs : List R) : gLstT rs = bd (tsR rs) lstKT := bd_om fun a => rfl
@[simp] def gliK : Bool × List D → Option R
  | (_, ds) => some (.val (.fl ds))
@[simp] theorem r_gList (r : R) : gList [r] = bd r.its gliK := bd_om fun a => rfl
@[simp] def gtuK : Bool × List D → Option R
  | (_, ds) => some (rd (.tuple ds))
@[simp] theorem r_gTuple (r : R) : gTuple [r] = bd r.its gtuK := bd_om fun a => rfl
@[simp] def gboolK (f : List Bool → Bool) (bs : List Bool) : Option R := some (rBool (f bs))
def allB (bs : List Bool) : Bool := bs.all id
def anyB (bs : List Bool) : Bool := bs.any id
@[simp] def gallK (f : List Bool → Bool) : Bool × List D → Option R
  | (true, ds) => bd (boolsD ds) (gboolK f)
  | (false, _) => none
@[simp] theorem r_gAll (r : R) : gAll [r] = bd r.its (gallK allB) := bd_of fun a => by
  obtain ⟨b, ds⟩ := a
  cases b with
  | true => exact bd_om fun a => rfl
  | false => rfl
@[simp] theorem r_gAny (r : R) : gAny [r] = bd r.its (gallK anyB) := bd_of fun a => by
  obtain ⟨b, ds⟩ := a
  cases b with
  | true => exact bd_om fun a => rfl
  | false => rfl
theorem boolsD_bs : ∀ bs : List Bool, boolsD (bs.map PyData.bool) = some bs
  | [] => rfl
  | b :: bs => by
    show (boolsD (bs.map PyData.bool)).map (b :: ·) = _
    rw [boolsD_bs bs]
    rfl
@[simp] theorem cut_l (ds : List D) (i j : Option Int) : cutR (.val (.leaf (.list ds))) i j = some (.val (.fl (cutD ds i j))) := rfl
@[simp] theorem cut_f (ds : List D) (i j : Option Int) : cutR (.val (.fl ds)) i j = some (.val (.fl (cutD ds i j))) := rfl
@[simp] theorem cut_wf (ds : List D) (i j : Option Int) : cutR (.vw (.fl ds)) i j = some (.val (.fl (cutD ds i j))) := rfl
@[simp] theorem cut_ws (ds : List D) (i j : Option Int) : cutR (.vw (.scr ds)) i j = some (.val (.fl (cutD ds i j))) := rfl
@[simp] theorem cut_t (ds : List D) (i j : Option Int) : cutR (.val (.leaf (.tuple ds))) i j = some (rd (.tuple (cutD ds i j))) := rfl
@[simp] theorem okMul_l {a b : Int} (h : -18446744073709551616 < a) (h' : a < 18446744073709551616) : okMul a b = true := decide_eq_true (.inl ⟨h, h'⟩)
@[simp] theorem okMul_r {a b : Int} (h : -18446744073709551616 < b) (h' : b < 18446744073709551616) : okMul a b = true := decide_eq_true (.inr ⟨h, h'⟩)
theorem emod_b (a m : Int) (h : 0 < m) : 0 ≤ a % m ∧ a % m < m := ⟨Int.emod_nonneg _ (by omega), Int.emod_lt_of_pos _ h⟩
end Tl

namespace Tl
open PySem PySem.Spec PyProof.Rows L2
section
variable {X : Cx} {x : Str} {p pos : Pos} {k : Nat} {m : MF}
end
section
variable {X : Cx} {K : PySem.W.Frag}
def pIn (neg : Bool) : List D → Option D
  | [d, .list ds] => if SeqAt.shaped d = true ∧ SeqAt.shaped (.list ds) = true then some (.bool (if neg = true then !ds.any fun z => PyData.eqv z d else ds.any fun z => PyData.eqv z d)) else none
  | [d, .tuple ds] => if SeqAt.shaped d = true ∧ SeqAt.shaped (.tuple ds) = true then some (.bool (if neg = true then !ds.any fun z => PyData.eqv z d else ds.any fun z => PyData.eqv z d)) else none
  | _ => none
def gIn : List R → Option R := gp (pIn false)
def gNotIn : List R → Option R := gp (pIn true)
@[simp] theorem r_gIn (rs : List R) : gIn rs = bd (erL rs) (gpK (pIn false)) := r_gp _ _
@[simp] theorem r_gNotIn (rs : List R) : gNotIn rs = bd (erL rs) (gpK (pIn true)) := r_gp _ _
@[simp] theorem p_inl (neg : Bool) (d : D) (ds : List D) : pIn neg [d, .list ds] = if SeqAt.shaped d = true ∧ SeqAt.shaped (.list ds) = true then some (.bool (if neg = true then !ds.any fun z => PyData.eqv z d else ds.any fun z => PyData.eqv z d)) else none := rfl
@[simp] theorem p_int' (neg : Bool) (d : D) (ds : List D) : pIn neg [d, .tuple ds] = if SeqAt.shaped d = true ∧ SeqAt.shaped (.tuple ds) = true then some (.bool (if neg = true then !ds.any fun z => PyData.eqv z d else ds.any fun z => PyData.eqv z d)) else none := rfl
end
def putS (i : Nat) (b : Bool) (r : R) (s : SS) : Option SS :=
  match b with
  | true => match r with
    | .val t => if once s.ow = true ∧ i < s.fz.length then some ⟨fset s.fz i none, tset s.ow i t⟩ else none
    | .vw _ => none
  | false => r.st.map fun d => ⟨fset s.fz i (some d), tdel s.ow i⟩
def putsS : List (Nat × Bool) → List R → SS → Option SS
  | [], [], s => some s
  | (i, b) :: is, r :: rs, s => (putS i b r s).bind fun s1 => putsS is rs s1
  | _, _, _ => none
section
variable {K : PySem.W.Frag}
end
def mParG (is : List (Nat × Bool)) (l : ML) : MS := fun s => (l ⟨s.fz, []⟩ s.ow).bind fun p => (putsS is p.1 ⟨s.fz, p.2⟩).map .nx
section
variable {X : Cx} {Pr : List Nat} {st : Stmt}
end
@[simp] def psK3 (i : Nat) (fz : Fz) (τ : Tau) (d : D) : Option SS := some ⟨fset fz i (some d), tdel τ i⟩
@[simp] theorem r_putF (i : Nat) (r : R) (fz : Fz) (τ : Tau) : putS i false r ⟨fz, τ⟩ = bd r.st (psK3 i fz τ) := bd_om fun a => rfl
@[simp] theorem r_putT (i : Nat) (t : T) (fz : Fz) (τ : Tau) : putS i true (.val t) ⟨fz, τ⟩ = if once τ = true ∧ i < fz.length then some ⟨fset fz i none, tset τ i t⟩ else none := rfl
@[simp] theorem r_puts0 (s : SS) : putsS [] [] s = some s := rfl
@[simp] theorem r_puts1 (i : Nat) (b : Bool) (is : List (Nat × Bool)) (r : R) (rs : List R) (s : SS) : putsS ((i, b) :: is) (r :: rs) s = bd (putS i b r s) (putsS is rs) := bd_of fun a => rfl
@[simp] def pgK3 (s : SS) : Option Out := some (.nx s)
@[simp] def pgK (is : List (Nat × Bool)) (fz : Fz) : List R × Tau → Option Out
  | (rs, τ) => bd (putsS is rs ⟨fz, τ⟩) pgK3
@[simp] theorem r_mParG (is : List (Nat × Bool)) (l : ML) (fz : Fz) (τ : Tau) : mParG is l ⟨fz, τ⟩ = bd (l ⟨fz, []⟩ τ) (pgK is fz) := bd_of fun a => bd_om fun b => rfl
end Tl

namespace Tl
open PySem PySem.Spec PyProof.Rows L2
def gTupT : List R → Option R := fun rs => (tsR rs).map fun ds => .val (.tup ds)
section
variable {X : Cx} {pos : Pos}
end
@[simp] def tupKT (ds : List T) : Option R := some (.val (.tup ds))
@[simp] theorem r_gTupT (rs : List R) : gTupT rs = bd (tsR rs) tupKT := bd_om fun a => rfl
section
variable {K : PySem.W.Frag}
/-- the turns: the items to come, the trees made -/
def lcLoopT (vs : List Nat) (mt : MG) (mc : MB) (me : MV) (fw : Fz) (vw : Tau) : List D → List T → Tau → Option (List T × Tau)
  | [], acc, τ => some (acc, τ)
  | d :: ds, acc, τ => (mt d fw).bind fun fz => (mc ⟨fz, vw⟩ τ).bind fun p =>
      if p.1 = true then (me ⟨fz, vw⟩ p.2).bind fun q => q.1.t.bind fun y => lcLoopT vs mt mc me fw vw ds (acc ++ [y]) (tout vs q.2) else lcLoopT vs mt mc me fw vw ds acc (tout vs p.2)
def mLcT (vs : List Nat) (mi : MI) (mt : MG) (mc : MB) (me : MV) : MV := fun ro τ => (mi ro τ).bind fun p => (lcLoopT vs mt mc me (fwipe ro.fz vs) (tout vs ro.vw) p.1 [] (tout vs p.2)).map fun q => (.val (.ls q.1), q.2)
structure LcAtT (K : PySem.W.Frag) (F1 B H1 : Hp) (A1 : List Addr) (σ : L2.St) (vs : List Nat) (p : Addr) (τ : Tau) (acc : List T) (i : Nat) (Fc Hc : Hp) (Ai Ac : List Addr) (xs : List V) : Prop where
  go : Go F1 H1 A1 Fc Hc ((p :: Ai) ++ Ac)
  cn : Cn Fc B Hc ((p :: Ai) ++ Ac)
  at_ : Hc p = some (.lst xs)
  rl : OwnL K Fc Hc xs acc Ai
  tau : TauOk K Fc Hc σ τ Ac
  out : ∀ q ∈ τ, q.1 ∉ vs
  len : xs.length ≤ i
theorem lc_evT {wi : TI} {g : TG} {tt : TT} {te : TE} {vs ws : List Nat} {mi : MI} {mt : MG} {mc : MB} {me : MV} (hi : IV K wi mi) (hg : GV K g ws mt) (hw : ∀ j ∈ ws, j ∈ vs) (ht : TV K tt mc) (he : EV K te me) :
    EV K (tLc wi g tt te vs) (mLcT vs mi mt mc me) := ⟨fun ro τ r τ' em F B H σ A Q a k => by
  obtain ⟨⟨ds, τ1⟩, e1, em⟩ := Option.bind_eq_some_iff.mp em
  obtain ⟨⟨out, τ2⟩, e2, em⟩ := Option.map_eq_some_iff.mp em
  cases em
  refine hi.run ro τ ds τ1 e1 F B H σ A _ a fun F1 H1 A1 J g1 c1 t1 src => ?_
  intro p hp
  have ro1 := a.ro.mono g1.ff
  refine ⟨fun i m Hc => m = ds.length - i ∧ i ≤ ds.length ∧ ∃ (Fc : Hp) (τc : Tau) (acc : List T) (xs : List V) (Ai Ac : List Addr), lcLoopT vs mt mc me (fwipe ro.fz vs) (tout vs ro.vw) (ds.drop i) acc τc = some (out, τ2) ∧
      LcAtT K F1 B H1 A1 σ vs p τc acc i Fc Hc Ai Ac xs, ⟨ds.length, ?_⟩, ?_⟩
  · obtain ⟨A0, t0, n0, s0⟩ := t1.out vs c1.nd
    have g0 : Go F1 H1 A1 F1 H1 A0 := Go.less s0
    obtain ⟨g2, c2⟩ := (c1.sub n0 s0).newO (o := .lst []) hp
    refine ⟨by omega, Nat.zero_le _, F1, _, [], [], [], A0, e2, ⟨g0.trans g2, c2, upd_same, .nil, t0.stay g2.ff fun b m o q => ?_, fun q m => (tout_sub m).2, Nat.le_refl _⟩⟩
    rw [upd_ne (ne_of_none q hp)]
    exact q
  · rintro i m Hc ⟨rfl, hi', Fc, τc, acc, xs, Ai, Ac, el, L⟩
    have s1c : Same F1 Fc := L.go.ff
    have cc := L.cn
    by_cases hlt : i < ds.length
    · refine .inr ?_
      have ei : ds[i]? = some ds[i] := List.getElem?_eq_getElem hlt
      refine ⟨src.go Fc Hc s1c cc.fh cc.bh i _ ei, fun H' => ∃ (Fc : Hp) (τc : Tau) (acc : List T) (xs : List V) (Ai Ac : List Addr), lcLoopT vs mt mc me (fwipe ro.fz vs) (tout vs ro.vw) (ds.drop (i + 1)) acc τc = some (out, τ2) ∧
        LcAtT K F1 B H1 A1 σ vs p τc acc (i + 1) Fc H' Ai Ac xs, fun H' q => ⟨ds.length - (i + 1), by omega, rfl, hlt, q⟩, fun x H2 y => ?_⟩
      obtain ⟨F2, w1, rx⟩ := src.yld Fc Hc s1c cc.fh cc.bh i _ ei x H2 y
      obtain ⟨g2, c2⟩ := w1 B ((p :: Ai) ++ Ac) cc
      rw [List.drop_eq_getElem_cons hlt] at el
      obtain ⟨fz, f1, el⟩ := Option.bind_eq_some_iff.mp el
      obtain ⟨⟨b, τ3⟩, f2, el⟩ := Option.bind_eq_some_iff.mp el
      have stand : ∀ (b : Addr) (u : HO), Hc b = some u → H2 b = some u := fun b u q => (w1 noH [] ⟨cc.fh, same_noH, .nil, (fun _ z => nomatch z), (fun _ z => nomatch z), (fun _ z => nomatch z)⟩).1.keep b u (fun z => nomatch z) q
      have hp2 := stand _ _ L.at_
      have rl2 := L.rl.stay g2.ff fun b _ u q => stand b u q
      have tc2 := L.tau.stay g2.ff fun b _ u q => stand b u q
      have ro2 := ro1.mono (s1c.trans g2.ff)
      refine hg.run _ _ fz f1 F2 H2 (wipe σ vs) x _ rx c2.fh (ro2.fz.wipe vs) fun σ2 o2 l2 k2 => ⟨?_, ?_⟩
      · exact wipe_eq (l2.trans (wipe_length _ _)) fun j n => k2 j fun z => n (hw j z)
      · have offslot : ∀ j, j ∉ vs → σ2[j]? = σ[j]? := fun j n => (k2 j fun z => n (hw j z)).trans (wipe_out n)
        have to2 : TauOk K F2 H2 σ2 τc Ac := tc2.move fun q m => offslot q.1 (L.out q m)
        have vw2 : VwOk K F2 B σ2 (tout vs ro.vw) := VwOk.move (fun q m => ro2.vw q (tout_sub m).1) fun q m => offslot q.1 (tout_sub m).2
        have back : ∀ {τ : Tau} {F' H' : Hp} {A : List Addr}, TauOk K F' H' σ2 τ A → A.Nodup → ∃ A', TauOk K F' H' σ (tout vs τ) A' ∧ A'.Nodup ∧ ∀ a ∈ A', a ∈ A := fun t n => by
          obtain ⟨A', t', n', s'⟩ := t.out vs n
          exact ⟨A', t'.move fun q m => (offslot q.1 (tout_sub m).2).symm, n', s'⟩
        refine ht.run ⟨fz, tout vs ro.vw⟩ τc b τ3 f2 F2 B H2 σ2 Ac _ ⟨Cn.right (A1 := p :: Ai) c2, ⟨o2, vw2⟩, to2⟩ fun F3 H3 A3 g3 c3 t3 => ?_
        obtain ⟨g3', c3'⟩ := Go.framed (A1 := p :: Ai) c2 g3 c3
        have ap2 := Cn.apart (A1 := p :: Ai) c2
        have hp3 : H3 p = some (.lst xs) := g3.keep p _ (ap2 p List.mem_cons_self) hp2
        have rl3 := rl2.stay g3.ff fun b m u q => g3.keep b u (ap2 b (List.mem_cons_of_mem _ m)) q
        have g13 := (L.go.trans g2).trans g3'
        have keepin : ∀ {Al A A' : List Addr} {F H : Hp}, Cn F B H ((p :: Al) ++ A) → A'.Nodup → (∀ a ∈ A', a ∈ A) → Go F H ((p :: Al) ++ A) F H ((p :: Al) ++ A') ∧ Cn F B H ((p :: Al) ++ A') := fun {Al A A' F H} c n s => by
          have sub : ∀ b ∈ (p :: Al) ++ A', b ∈ (p :: Al) ++ A := fun b m => (List.mem_append.mp m).elim (fun z => List.mem_append_left _ z) fun z => List.mem_append_right _ (s b z)
          exact ⟨Go.less sub, c.sub (List.nodup_append.mpr ⟨c.left.nd, n, fun a m b m' q => c.apart a m (q ▸ s b m')⟩) sub⟩
        cases b with
        | false =>
          rw [if_neg Bool.false_ne_true] at el ⊢
          obtain ⟨A', t', n', s'⟩ := back t3 c3.nd
          obtain ⟨g4, c4⟩ := keepin c3' n' s'
          exact ⟨F3, tout vs τ3, acc, xs, Ai, A', el, ⟨g13.trans g4, c4, hp3, rl3, t', fun q m => (tout_sub m).2, Nat.le_succ_of_le L.len⟩⟩
        | true =>
          rw [if_pos rfl] at el ⊢
          obtain ⟨⟨z, τ4⟩, f3, el⟩ := Option.bind_eq_some_iff.mp el
          obtain ⟨yd, f4, el⟩ := Option.bind_eq_some_iff.mp el
          have ro3 : RoOk K F3 B σ2 ⟨fz, tout vs ro.vw⟩ := ⟨o2.mono g3.ff, vw2.mono g3.ff⟩
          refine he.run ⟨fz, tout vs ro.vw⟩ τ3 z τ4 f3 F3 B H3 σ2 A3 _ ⟨c3, ro3, t3⟩ fun F4 H4 u A4 A5 g4 c4 o4 t4 => ?_
          obtain ⟨g4', c4'⟩ := Go.framed (A1 := p :: Ai) c3' g4 c4
          have ap3 := Cn.apart (A1 := p :: Ai) c3'
          have hp4 : H4 p = some (.lst xs) := g4.keep p _ (ap3 p List.mem_cons_self) hp3
          have rl4 := rl3.stay g4.ff fun b m u q => g4.keep b u (ap3 b (List.mem_cons_of_mem _ m)) q
          have oy := o4.own f4
          rw [← List.append_assoc] at g4' c4'
          have c4'' : Cn F4 B H4 ((p :: (Ai ++ A4)) ++ A5) := c4'
          have g4'' : Go F3 H3 ((p :: Ai) ++ A3) F4 H4 ((p :: (Ai ++ A4)) ++ A5) := g4'
          obtain ⟨A', t', n', s'⟩ := back t4 c4''.right.nd
          obtain ⟨g6, c6⟩ := keepin c4'' n' s'
          obtain ⟨g7, c7⟩ := c6.write (o := .lst (xs ++ [u])) (p := p) List.mem_cons_self
          have np : ∀ b ∈ (Ai ++ A4) ++ A', b ≠ p := fun b m z => (List.nodup_cons.mp (show (p :: ((Ai ++ A4) ++ A')).Nodup from c6.nd)).1 (by rw [← z]; exact m)
          refine ⟨xs, hp4, Nat.lt_of_le_of_lt L.len (Nat.lt_of_lt_of_le hlt src.small), F4, tout vs τ4, acc ++ [yd], xs ++ [u], Ai ++ A4, A', el, ⟨((g13.trans g4'').trans g6).trans g7, c7, upd_same, ?_, t'.stay g7.ff fun b m o q => ?_, fun q m => (tout_sub m).2, ?_⟩⟩
          · have rl5 : OwnL K F4 H4 (xs ++ [u]) (acc ++ [yd]) (Ai ++ (A4 ++ [])) := rl4.append (.cons oy .nil)
            rw [List.append_nil] at rl5
            refine rl5.stay g7.ff fun b m o q => ?_
            rw [upd_ne (np b (List.mem_append_left _ m))]
            exact q
          · rw [upd_ne (np b (List.mem_append_right _ m))]
            exact q
          · rw [List.length_append]
            exact Nat.succ_le_succ L.len
    · have e : i = ds.length := by omega
      subst e
      rw [List.drop_length] at el
      cases el
      refine .inl ⟨src.stop Fc Hc s1c cc.fh cc.bh _ (Nat.le_refl _), ?_⟩
      exact k Fc Hc (.ref p) (p :: Ai) Ac (g1.trans L.go) cc (.ls L.at_ (Nat.le_trans L.len src.small) L.rl) L.tau⟩
end
section
variable {X : Cx} {scope : Scope} {elt tg iter c : Expr} {own : List (Str × Nat)} {pos : Pos} {ws : List Nat} {mi : MI} {mt : MG} {mc : MB} {me : MV}
theorem ev_lcT0 (hi : IR X tg iter mi) (hg : ∀ (s : Shared) (H0 : Hp) (C : Addr) (cl : List (Str × Addr)) (fp : List Addr), GR (X.blk s H0 scope (compEnvC scope cl C X.env) fp) tg ws mt) (hw : ∀ j ∈ ws, j ∈ own.map (·.2))
    (he : ∀ (s : Shared) (H0 : Hp) (C : Addr) (cl : List (Str × Addr)) (fp : List Addr), ER (X.blk s H0 scope (compEnvC scope cl C X.env) fp) elt me) : EV X.K (tLc0 X scope tg iter elt (own.map (·.2))) (mLcT (own.map (·.2)) mi mt mYes me) :=
  lc_evT hi (bG_of hg) hw tv_yes (bE_of he)
end
@[simp] def lcTK2 : List T × Tau → Option (R × Tau)
  | (ds, τ) => some (.val (.ls ds), τ)
@[simp] def lcTK (vs : List Nat) (mt : MG) (mc : MB) (me : MV) (fz : Fz) (vw : Tau) : List D × Tau → Option (R × Tau)
  | (ds, τ) => bd (lcLoopT vs mt mc me (fwipe fz vs) (tout vs vw) ds [] (tout vs τ)) lcTK2
@[simp] theorem r_mLcT (vs : List Nat) (mi : MI) (mt : MG) (mc : MB) (me : MV) (fz : Fz) (vw : Tau) (τ : Tau) : mLcT vs mi mt mc me ⟨fz, vw⟩ τ = bd (mi ⟨fz, vw⟩ τ) (lcTK vs mt mc me fz vw) := bd_of fun a => bd_om fun b => rfl
end Tl

namespace Tl
open PySem PySem.Spec PyProof.Rows L2
def T.withKids : T → List T → T
  | .ls _, ts => .ls ts
  | .tup _, ts => .tup ts
  | t, _ => t
def forOL (x : Nat) (body : MS) : Nat → Nat → List T → SS → Option (List T × Out)
  | 0, _, ts, s => some (ts, .nx s)
  | n + 1, j, ts, s => (ts[j]?).bind fun t => if once s.ow = true ∧ x < s.fz.length then (body ⟨fset s.fz x none, tset s.ow x t⟩).bind fun o => match o with
      | .nx s1 => (tget s1.ow x).bind fun t' => forOL x body n (j + 1) (ts.set j t') ⟨fset s1.fz x none, tdel s1.ow x⟩
      | .ct s1 => (tget s1.ow x).bind fun t' => forOL x body n (j + 1) (ts.set j t') ⟨fset s1.fz x none, tdel s1.ow x⟩
      | .bk s1 => (tget s1.ow x).map fun t' => (ts.set j t', .nx ⟨fset s1.fz x none, tdel s1.ow x⟩)
      | .rt r s1 => (tget s1.ow x).map fun t' => (ts.set j t', .rt r ⟨fset s1.fz x none, tdel s1.ow x⟩)
    else none
def endO (y : Nat) (u' : T) : Out → Option Out
  | .nx s => some (.nx ⟨s.fz, tset s.ow y u'⟩)
  | .rt r s => some (.rt r ⟨s.fz, tset s.ow y u'⟩)
  | _ => none
def mForO (y x : Nat) (mp : MP) (body : MS) : MS := fun s => (tget s.ow y).bind fun u => (mp u ⟨s.fz, [(y, u)]⟩ (tset s.ow y .hole)).bind fun p => p.1.2.kids.bind fun ts =>
  (forOL x body ts.length 0 ts ⟨s.fz, p.2⟩).bind fun q => (setP u p.1.1 (p.1.2.withKids q.1)).bind fun u' => endO y u' q.2
section
variable {X : Cx} {Pr : List Nat}
end
@[simp] theorem wk_ls (a ts : List T) : T.withKids (.ls a) ts = .ls ts := rfl
@[simp] theorem wk_tup (a ts : List T) : T.withKids (.tup a) ts = .tup ts := rfl
@[simp] theorem endO_nx (y : Nat) (u : T) (fz : Fz) (τ : Tau) : endO y u (.nx ⟨fz, τ⟩) = some (.nx ⟨fz, tset τ y u⟩) := rfl
@[simp] def foK5 (y : Nat) (o2 : Out) (u' : T) : Option Out := endO y u' o2
@[simp] def foK4 (y : Nat) (u w : T) (is : List Int) : List T × Out → Option Out
  | (ts, o2) => bd (setP u is (w.withKids ts)) (foK5 y o2)
@[simp] def foK3 (y x : Nat) (body : MS) (fz : Fz) (u w : T) (is : List Int) (τ : Tau) (ts : List T) : Option Out := bd (forOL x body ts.length 0 ts ⟨fz, τ⟩) (foK4 y u w is)
@[simp] def foK2 (y x : Nat) (body : MS) (fz : Fz) (u : T) : (List Int × T) × Tau → Option Out
  | ((is, w), τ) => bd w.kids (foK3 y x body fz u w is τ)
@[simp] def foK (y x : Nat) (mp : MP) (body : MS) (fz : Fz) (τ : Tau) (u : T) : Option Out := bd (mp u ⟨fz, [(y, u)]⟩ (tset τ y .hole)) (foK2 y x body fz u)
@[simp] theorem r_mForO (y x : Nat) (mp : MP) (body : MS) (fz : Fz) (τ : Tau) : mForO y x mp body ⟨fz, τ⟩ = bd (tget τ y) (foK y x mp body fz τ) := bd_of fun a => bd_of fun b => bd_of fun c => bd_of fun d => bd_of fun e => rfl
end Tl

namespace Tl
open PySem PySem.Spec PyProof.Rows L2
def mChain (f f' : Int → Int → Bool) (ma mb mc : MV) : MV := fun ro τ => (ma ro τ).bind fun p => (asI p.1).bind fun i => (mb ro p.2).bind fun q => (asI q.1).bind fun j =>
  if f i j = true then (mc ro q.2).bind fun w => (asI w.1).map fun l => (rBool (f' j l), w.2) else some (rBool false, q.2)
section
variable {X : Cx} {a b c : Expr} {pos : Pos} {ma mb mc : MV} {f f' : Int → Int → Bool}
theorem ev_chain (ha : ER X a ma) (hb : ER X b mb) (hc : ER X c mc) : EV X.K (tChain (rI0 fun i j => .bl (f i j)) (rI0 fun i j => .bl (f' i j)) (wpE X a) (wpE X b) (wpE X c)) (mChain f f' ma mb mc) := ⟨fun ro τ r τ' em F B H σ A Q at_ k => by
  obtain ⟨⟨x, τ1⟩, e1, em⟩ := Option.bind_eq_some_iff.mp em
  obtain ⟨i, e2, em⟩ := Option.bind_eq_some_iff.mp em
  obtain ⟨⟨y, τ2⟩, e3, em⟩ := Option.bind_eq_some_iff.mp em
  obtain ⟨j, e4, em⟩ := Option.bind_eq_some_iff.mp em
  refine ha.run ro τ x τ1 e1 F B H σ A _ at_ fun F1 H1 v A1 A2 g1 c1 o1 t1 => ?_
  have ev := asI_of e2 o1
  have g1' : Go F H A F1 H1 A2 := g1.trans (Go.less fun _ m => List.mem_append_right _ m)
  have at1 : At X.K F1 B H1 σ ro τ1 A2 := ⟨c1.right, at_.ro.mono g1.ff, t1⟩
  refine hb.run ro τ1 y τ2 e3 F1 B H1 σ A2 _ at1 fun F2 H2 u A3 A4 g2 c2 o2 t2 => ?_
  have eu := asI_of e4 o2
  have g2' : Go F1 H1 A2 F2 H2 A4 := g2.trans (Go.less fun _ m => List.mem_append_right _ m)
  refine ⟨i, j, ev, eu, f i j, rfl, ?_⟩
  by_cases q : f i j = true
  · rw [if_pos q]
    have em' : (if f i j = true then (mc ro τ2).bind fun w => (asI w.1).map fun l => (rBool (f' j l), w.2) else some (rBool false, τ2)) = some (r, τ') := em
    rw [if_pos q] at em'
    obtain ⟨⟨w, τ3⟩, e5, em⟩ := Option.bind_eq_some_iff.mp em'
    obtain ⟨l, e6, em⟩ := Option.map_eq_some_iff.mp em
    cases em
    refine hc.run ro τ2 w _ e5 F2 B H2 σ A4 _ ⟨c2.right, at1.ro.mono g2.ff, t2⟩ fun F3 H3 z A5 A6 g3 c3 o3 t3 => ?_
    have ez := asI_of e6 o3
    refine ⟨j, l, eu, ez, ?_⟩
    exact k F3 H3 _ [] A6 ((g1'.trans g2').trans (g3.trans (Go.less fun _ m => List.mem_append_right _ m))) c3.right (.leaf (.bl _)) t3
  · rw [if_neg q]
    have em' : (if f i j = true then (mc ro τ2).bind fun w => (asI w.1).map fun l => (rBool (f' j l), w.2) else some (rBool false, τ2)) = some (r, τ') := em
    rw [if_neg q] at em'
    cases em'
    exact k F2 H2 _ [] A4 (g1'.trans g2') c2.right (.leaf (.bl _)) t2⟩
theorem er_chain {op op' : CmpOp} (ho : OpR X (compareOp op) (rI0 fun i j => .bl (f i j))) (ho' : OpR X (compareOp op') (rI0 fun i j => .bl (f' i j))) (ha : ER X a ma) (hb : ER X b mb) (hc : ER X c mc) (hm : lastMarks [op, op'] [b, c] = false := by with_unfolding_all rfl) :
    ER X (.Compare a [op, op'] [b, c] pos) (mChain f f' ma mb mc) := ev_er (pe_chain ho ho' peW peW peW hm) (ev_chain ha hb hc)
end
@[simp] def chK4 (f' : Int → Int → Bool) (j : Int) (τ : Tau) (l : Int) : Option (R × Tau) := some (rBool (f' j l), τ)
@[simp] def chK3 (f' : Int → Int → Bool) (j : Int) : R × Tau → Option (R × Tau)
  | (w, τ) => bd (asI w) (chK4 f' j τ)
def chK2' (f' : Int → Int → Bool) (mc : MV) (ro : Ro) (j : Int) (τ : Tau) : Bool → Option (R × Tau)
  | true => bd (mc ro τ) (chK3 f' j)
  | false => some (rBool false, τ)
@[simp] theorem chK2_t (f' : Int → Int → Bool) (mc : MV) (ro : Ro) (j : Int) (τ : Tau) : chK2' f' mc ro j τ true = bd (mc ro τ) (chK3 f' j) := rfl
@[simp] theorem chK2_f (f' : Int → Int → Bool) (mc : MV) (ro : Ro) (j : Int) (τ : Tau) : chK2' f' mc ro j τ false = some (rBool false, τ) := rfl
@[simp] def chK2 (f f' : Int → Int → Bool) (mc : MV) (ro : Ro) (i : Int) (τ : Tau) (j : Int) : Option (R × Tau) := chK2' f' mc ro j τ (f i j)
@[simp] def chK1 (f f' : Int → Int → Bool) (mc : MV) (ro : Ro) (i : Int) : R × Tau → Option (R × Tau)
  | (q, τ) => bd (asI q) (chK2 f f' mc ro i τ)
@[simp] def chK0 (f f' : Int → Int → Bool) (mb mc : MV) (ro : Ro) (τ : Tau) (i : Int) : Option (R × Tau) := bd (mb ro τ) (chK1 f f' mc ro i)
@[simp] def chK (f f' : Int → Int → Bool) (mb mc : MV) (ro : Ro) : R × Tau → Option (R × Tau)
  | (p, τ) => bd (asI p) (chK0 f f' mb mc ro τ)
@[simp] theorem r_mChain (f f' : Int → Int → Bool) (ma mb mc : MV) (ro : Ro) (τ : Tau) : mChain f f' ma mb mc ro τ = bd (ma ro τ) (chK f f' mb mc ro) := bd_of fun a => bd_of fun i => bd_of fun b => bd_of fun j => by
  show (if f i j = true then _ else _) = chK2' f' mc ro j b.2 (f i j)
  cases q : f i j with
  | true =>
    rw [if_pos rfl]
    exact bd_of fun w => bd_om fun l => rfl
  | false =>
    rw [if_neg Bool.false_ne_true]
    rfl
def fLt (i j : Int) : Bool := decide (i < j)
def fLe (i j : Int) : Bool := decide (i ≤ j)
def fGt (i j : Int) : Bool := decide (j < i)
def fGe (i j : Int) : Bool := decide (j ≤ i)
@[simp] theorem fLt_d (i j : Int) : fLt i j = decide (i < j) := rfl
@[simp] theorem fLe_d (i j : Int) : fLe i j = decide (i ≤ j) := rfl
@[simp] theorem fGt_d (i j : Int) : fGt i j = decide (j < i) := rfl
@[simp] theorem fGe_d (i j : Int) : fGe i j = decide (j ≤ i) := rfl
def isLstR (r : R) : Bool := match r.its with
  | some (true, _) => true
  | _ => false
def mLM (g : List R → Option R) (m0 : MV) (l : ML) : MV := fun ro τ => (m0 ro τ).bind fun p => if isLstR p.1 = true then (l ro p.2).bind fun q => (g (p.1 :: q.1)).map fun r => (r, q.2) else none
section
variable {X : Cx} {o e : Expr} {es : List Expr} {name : Str} {apos cpos : Pos} {id : String} {r : V → List V → Hp → VK → Prop} {g : List R → Option R} {m0 : MV} {l : ML}
end
def pIndex : List D → Option D
  | [.list ds, d] => if SeqAt.shaped (.list ds) = true ∧ SeqAt.shaped d = true then (ds.findIdx? fun z => PyData.eqv z d).map fun j => .int (j : Nat) else none
  | _ => none
@[simp] theorem p_index (ds : List D) (d : D) : pIndex [.list ds, d] = if SeqAt.shaped (.list ds) = true ∧ SeqAt.shaped d = true then (ds.findIdx? fun z => PyData.eqv z d).map fun j => .int (j : Nat) else none := rfl
@[simp] def lmK3 (τ : Tau) (r : R) : Option (R × Tau) := some (r, τ)
@[simp] def lmK2 (g : List R → Option R) (r : R) : List R × Tau → Option (R × Tau)
  | (rs, τ) => bd (g (r :: rs)) (lmK3 τ)
def lmK1 (g : List R → Option R) (l : ML) (ro : Ro) (r : R) (τ : Tau) : Bool → Option (R × Tau)
  | true => bd (l ro τ) (lmK2 g r)
  | false => none
@[simp] theorem lmK1_t (g : List R → Option R) (l : ML) (ro : Ro) (r : R) (τ : Tau) : lmK1 g l ro r τ true = bd (l ro τ) (lmK2 g r) := rfl
@[simp] def lmK (g : List R → Option R) (l : ML) (ro : Ro) : R × Tau → Option (R × Tau)
  | (r, τ) => lmK1 g l ro r τ (isLstR r)
@[simp] theorem r_mLM (g : List R → Option R) (m0 : MV) (l : ML) (ro : Ro) (τ : Tau) : mLM g m0 l ro τ = bd (m0 ro τ) (lmK g l ro) := bd_of fun a => by
  show (if isLstR a.1 = true then _ else none) = lmK1 g l ro a.1 a.2 (isLstR a.1)
  cases q : isLstR a.1 with
  | true =>
    rw [if_pos rfl]
    exact bd_of fun b => bd_om fun c => rfl
  | false =>
    rw [if_neg Bool.false_ne_true]
    rfl
@[simp] theorem isLstR_l (ds : List D) : isLstR (.val (.leaf (.list ds))) = true := rfl
@[simp] theorem isLstR_f (ds : List D) : isLstR (.val (.fl ds)) = true := rfl
@[simp] theorem isLstR_wf (ds : List D) : isLstR (.vw (.fl ds)) = true := rfl
end Tl

namespace Tl
open PySem PySem.Spec PyProof.Rows L2
section
variable {X : Cx}
abbrev TP := Addr × Int × Int
end
section
variable {α β : Type}
def insBy (lt : α → α → Bool) (x : α) : List α → List α
  | [] => [x]
  | y :: r => if lt y x = true then y :: insBy lt x r else x :: y :: r
def sortBy (lt : α → α → Bool) : List α → List α
  | [] => []
  | x :: r => insBy lt x (sortBy lt r)
theorem insBy_perm (lt : α → α → Bool) (x : α) : ∀ l : List α, (insBy lt x l).Perm (x :: l)
  | [] => List.Perm.refl _
  | y :: r => by
    unfold insBy
    split
    · exact (List.Perm.cons y (insBy_perm lt x r)).trans (List.Perm.swap x y r)
    · exact List.Perm.refl _
theorem sortBy_perm (lt : α → α → Bool) : ∀ l : List α, (sortBy lt l).Perm l
  | [] => List.Perm.refl _
  | x :: r => (insBy_perm lt x _).trans (List.Perm.cons x (sortBy_perm lt r))
end
abbrev ltI (a b : Int) : Bool := decide (a < b)
abbrev ltQ (a b : Int × Int) : Bool := SrtO.lexB a b
def pqD (p : Int × Int) : D := .tuple [.int p.1, .int p.2]
def pqsD : List D → Option (List (Int × Int))
  | [] => some []
  | .tuple [.int a, .int b] :: r => (pqsD r).map ((a, b) :: ·)
  | _ => none
/-- sorted(..) of a list of whole numbers, of pairs of them -/
def gSorted : List R → Option R
  | [x] => x.lst?.bind fun ds => match intsD ds with
    | some ns => some (.val (.fl ((sortBy ltI ns).map PyData.int)))
    | none => (pqsD ds).map fun ps => .val (.fl ((sortBy ltQ ps).map pqD))
  | _ => none
section
variable {K : PySem.W.Frag} {X : Cx}
theorem RepL.pairs {F : Hp} : ∀ {xs : List V} {ps : List (Int × Int)}, RepL K F xs (ps.map pqD) → ∃ tps : List TP, xs = tps.map (fun q => V.ref q.1) ∧ ps = tps.map (·.2) ∧ ∀ q ∈ tps, SqT K F q.1 [.int q.2.1, .int q.2.2]
  | _, [], h => by
    cases h
    exact ⟨[], rfl, rfl, fun _ m => nomatch m⟩
  | _, (i, j) :: ps, h => by
    cases h with
    | cons r t =>
      obtain ⟨tps, e1, e2, h3⟩ := RepL.pairs t
      cases r with
      | @tup a ys _ h1 h2 h4 =>
        obtain ⟨u, w, rfl, r1, r2⟩ := RepL.two h4
        cases r1.toInt
        cases r2.toInt
        refine ⟨(a, i, j) :: tps, by rw [e1]; rfl, by rw [e2]; rfl, fun q m => ?_⟩
        rcases List.mem_cons.mp m with rfl | m
        · exact h1
        · exact h3 q m
end
end Tl

namespace L2
open PySem PySem.Spec PyProof.Rows
section
variable {prog : Program} {w : World} {A : Around} {E : Value → Shared → Prop} {s : Shared}
end
section
variable {X : Cx}
end
end L2
namespace Tl
open PySem PySem.Spec PyProof.Rows L2
def tup? : R → Option (List D)
  | .val (.leaf (.tuple ds)) => some ds
  | _ => none
def gSortTu : List R → Option R
  | [x] => (tup? x).bind fun ds => (intsD ds).map fun ns => .val (.fl ((sortBy ltI ns).map PyData.int))
  | _ => none
@[simp] theorem r_gSortTu (ds : List D) : gSortTu [.val (.leaf (.tuple ds))] = (intsD ds).map fun ns => .val (.fl ((sortBy ltI ns).map PyData.int)) := rfl
end Tl

namespace Tl
open PySem PySem.Spec PyProof.Rows L2
def keyOf : D → Option Key
  | .int i => some (.inl i)
  | .str s => some (.inr s)
  | _ => none
theorem keyOf_D {d : D} {k : Key} (h : keyOf d = some k) : d = keyD k := by
  cases d with
  | int i =>
    cases h
    rfl
  | str i =>
    cases h
    rfl
  | _ => cases h
@[simp] theorem keyOf_int (i : Int) : keyOf (.int i) = some (.inl i) := rfl
@[simp] theorem keyOf_str (i : Str) : keyOf (.str i) = some (.inr i) := rfl
def keyIsB : D → Key → Bool
  | .int a, .inl b => decide (a = b)
  | .str a, .inr b => decide (a = b)
  | _, _ => false
theorem keyIs_D (j k : Key) : keyIsB (keyD j) k = decide (j = k) := by
  cases j <;> cases k <;> simp [keyIsB, keyD]
section
variable {κ α : Type} [DecidableEq κ]
def valK (es : List (κ × α)) (k : κ) : Option α := (es.find? fun p => decide (p.1 = k)).map (·.2)
def putE (es : List (κ × α)) (k : κ) (d : α) : List (κ × α) := if (es.any fun p => decide (p.1 = k)) = true then es.map (fun p => if p.1 = k then (p.1, d) else p) else es ++ [(k, d)]
def dropE (es : List (κ × α)) (k : κ) : List (κ × α) := es.filter fun p => decide (p.1 ≠ k)
def mergeE (es more : List (κ × α)) : List (κ × α) := more.foldl (fun a p => putE a p.1 p.2) es
@[simp] theorem valK_nil (k : κ) : valK ([] : List (κ × α)) k = none := rfl
theorem valK_cons (p : κ × α) (es : List (κ × α)) (k : κ) : valK (p :: es) k = if p.1 = k then some p.2 else valK es k := by
  unfold valK
  rw [List.find?_cons]
  by_cases h : p.1 = k <;> simp [h]
theorem valK_app (es fs : List (κ × α)) (k : κ) : valK (es ++ fs) k = (valK es k).or (valK fs k) := by
  induction es with
  | nil => simp
  | cons p es ih =>
    rw [List.cons_append, valK_cons, valK_cons, ih]
    split <;> simp
theorem valK_any (es : List (κ × α)) (k : κ) : (es.any fun p => decide (p.1 = k)) = (valK es k).isSome := by
  induction es with
  | nil => rfl
  | cons p es ih =>
    rw [List.any_cons, valK_cons, ih]
    by_cases h : p.1 = k <;> simp [h]
theorem valK_map (es : List (κ × α)) (k j : κ) (d : α) : valK (es.map fun p => if p.1 = k then (p.1, d) else p) j = (valK es j).map fun x => if j = k then d else x := by
  induction es with
  | nil => rfl
  | cons p es ih =>
    rw [List.map_cons, valK_cons, valK_cons, ih]
    by_cases h : p.1 = k
    · by_cases h' : p.1 = j
      · have e : j = k := by rw [← h', h]
        simp [h, e]
      · have e : ¬ k = j := by rw [← h]; exact h'
        simp [h, e]
    · by_cases h' : p.1 = j
      · have e : ¬ j = k := by rw [← h']; exact h
        simp [h, h', e]
      · simp [h, h']
theorem valK_put (es : List (κ × α)) (k j : κ) (d : α) : valK (putE es k d) j = if j = k then some d else valK es j := by
  unfold putE
  rw [valK_any]
  cases h : valK es k with
  | some x =>
    rw [if_pos (show (some x).isSome = true from rfl), valK_map]
    by_cases e : j = k
    · subst e
      simp [h]
    · simp [e]
  | none =>
    rw [if_neg (by simp), valK_app, valK_cons]
    by_cases e : j = k
    · subst e
      simp [h]
    · have e' : ¬ k = j := fun z => e z.symm
      simp [e, e']
@[simp] theorem mergeE_nil (es : List (κ × α)) : mergeE es [] = es := rfl
theorem mergeE_cons (es : List (κ × α)) (p : κ × α) (more : List (κ × α)) : mergeE es (p :: more) = mergeE (putE es p.1 p.2) more := rfl
/-- whether a key stands in a dict behind pairs put in -/
theorem merge_has : ∀ (more es : List (κ × α)) (k : κ), (valK (mergeE es more) k).isSome = ((valK es k).isSome || more.any fun p => decide (p.1 = k))
  | [], es, k => by simp
  | p :: more, es, k => by
    rw [mergeE_cons, merge_has more, valK_put, List.any_cons]
    by_cases h : k = p.1
    · subst h
      simp
    · have h' : ¬ p.1 = k := fun z => h z.symm
      simp [h, h']
end
/-- what a dict's data hold at a key -/
def valE (es : List (D × D)) (k : Key) : Option D := (es.find? fun p => keyIsB p.1 k).map (·.2)
abbrev dkD (es : List (Key × D)) : List (D × D) := es.map fun p => (keyD p.1, p.2)
theorem valE_dk : ∀ (es : List (Key × D)) (k : Key), valE (dkD es) k = valK es k
  | [], _ => rfl
  | p :: es, k => by
    rw [valK_cons, ← valE_dk es k]
    unfold valE
    rw [show dkD (p :: es) = (keyD p.1, p.2) :: dkD es from rfl, List.find?_cons, keyIs_D]
    by_cases h : p.1 = k <;> simp [h]
section
variable {K : PySem.W.Frag} {F : Hp}
theorem Rep.key {v : V} {k : Key} (r : Rep K F v (keyD k)) : v = kV k := by
  cases k with
  | inl i => exact Rep.toInt r
  | inr i => exact Rep.toStr r
theorem RepK.val (k : Key) : ∀ {kvs : List (Key × V)} {es : List (D × D)}, RepK K F kvs es → (valV kvs k = none ∧ valE es k = none) ∨ ∃ v d, valV kvs k = some v ∧ valE es k = some d ∧ Rep K F v d
  | _, _, .nil => .inl ⟨rfl, rfl⟩
  | _, _, .cons (k := j) (v := v) (d := d) r t => by
    by_cases h : j = k
    · refine .inr ⟨v, d, valV_pos h, ?_, r⟩
      unfold valE
      rw [List.find?_cons, keyIs_D]
      simp [h]
    · have e : ∀ es, valE ((keyD j, d) :: es) k = valE es k := fun es => by
        unfold valE
        rw [List.find?_cons, keyIs_D]
        simp [h]
      rw [valV_neg h, e]
      exact RepK.val k t
theorem RepK.len : ∀ {kvs : List (Key × V)} {es : List (D × D)}, RepK K F kvs es → kvs.length = es.length
  | _, _, .nil => rfl
  | _, _, .cons _ t => by rw [List.length_cons, List.length_cons, RepK.len t]
def okDK : List (D × D) → Bool
  | (.none, _) :: _ => false
  | _ => true
theorem Rep.dict {v : V} {es : List (D × D)} (r : Rep K F v (.dict es)) (h : okDK es = true) : ∃ a kvs, v = .ref a ∧ F a = some (.dK kvs) ∧ RepK K F kvs es := by
  cases r with
  | dk h1 h2 => exact ⟨_, _, rfl, h1, h2⟩
  | dn h1 h2 => cases h
  | dl h1 h2 => cases h
theorem okDK_dk (es : List (Key × D)) : okDK (dkD es) = true := by
  cases es with
  | nil => rfl
  | cons p es => cases p with | mk k d => cases k <;> rfl
end
def pDIn : List D → Option D
  | [k, .dict es] => if okDK es = true then (keyOf k).map fun k => .bool (valE es k).isSome else none
  | _ => none
def pDNotIn : List D → Option D
  | [k, .dict es] => if okDK es = true then (keyOf k).map fun k => .bool !(valE es k).isSome else none
  | _ => none
section
variable {K : PySem.W.Frag}
/-- d[k]: the dict frozen at once (what is told may be an object) -/
def pDGet : List D → Option D
  | [.dict es, k] => if okDK es = true then (keyOf k).bind fun k => valE es k else none
  | _ => none
/-- what is told is plain: a number, a text, a truth, None -/
def isPl : D → Bool
  | .none => true
  | .bool _ => true
  | .int _ => true
  | .str _ => true
  | _ => false
def pDGetP (ds : List D) : Option D := (pDGet ds).bind fun d => if isPl d = true then some d else none
end
section
variable {X : Cx} {a b : Expr} {ma mb : MV} {pos : Pos}
/-- {} -/
def mDNewK : MV := fun _ τ => some (.val (.dk []), τ)
end
section
variable {K : PySem.W.Frag} {F : Hp}
theorem KvOk.any {k : Key} : ∀ {kvs : List (Key × V)} {es : List (Key × D)}, KvOk K F kvs es → (kvs.any fun p => decide (p.1 = k)) = es.any fun p => decide (p.1 = k)
  | _, _, .nil => rfl
  | _, _, .cons h t => by rw [List.any_cons, List.any_cons, KvOk.any t, h.1]
theorem KvOk.set {k : Key} {v : V} {d : D} (r : Rep K F v d) : ∀ {kvs : List (Key × V)} {es : List (Key × D)}, KvOk K F kvs es → KvOk K F (kvs.map fun p => if p.1 = k then (p.1, v) else p) (es.map fun p => if p.1 = k then (p.1, d) else p)
  | _, _, .nil => .nil
  | _, _, .cons (a := p) (b := q) h t => by
    refine .cons ?_ (KvOk.set r t)
    show (if p.1 = k then (p.1, v) else p).1 = (if q.1 = k then (q.1, d) else q).1 ∧ Rep K F (if p.1 = k then (p.1, v) else p).2 (if q.1 = k then (q.1, d) else q).2
    by_cases e : q.1 = k
    · rw [if_pos e, if_pos (by rw [h.1]; exact e)]
      exact ⟨h.1, r⟩
    · rw [if_neg e, if_neg (by rw [h.1]; exact e)]
      exact h
theorem KvOk.app : ∀ {xs ys : List (Key × V)} {es fs : List (Key × D)}, KvOk K F xs es → KvOk K F ys fs → KvOk K F (xs ++ ys) (es ++ fs)
  | _, _, _, _, .nil, s => s
  | _, _, _, _, .cons h t, s => .cons h (KvOk.app t s)
theorem KvOk.put {k : Key} {v : V} {d : D} (r : Rep K F v d) {kvs : List (Key × V)} {es : List (Key × D)} (h : KvOk K F kvs es) : KvOk K F (L2.putK kvs k v) (putE es k d) := by
  unfold L2.putK putE
  rw [h.any (k := k)]
  split
  · exact h.set r
  · exact h.app (.cons ⟨rfl, r⟩ .nil)
theorem KvOk.merge : ∀ {ys : List (Key × V)} {fs : List (Key × D)} {xs : List (Key × V)} {es : List (Key × D)}, KvOk K F ys fs → KvOk K F xs es → KvOk K F (L2.mergeK xs ys) (mergeE es fs)
  | _, _, _, _, .nil, s => s
  | _, _, xs, es, .cons (a := p) (b := q) h t, s => by
    show KvOk K F (L2.mergeK (L2.putK xs p.1 p.2) _) (mergeE (putE es q.1 q.2) _)
    rw [h.1]
    exact KvOk.merge t (s.put h.2)
theorem KvOk.drop {k : Key} : ∀ {kvs : List (Key × V)} {es : List (Key × D)}, KvOk K F kvs es → KvOk K F (L2.dropK kvs k) (dropE es k)
  | _, _, .nil => .nil
  | _, _, .cons (a := p) (b := q) h t => by
    unfold L2.dropK dropE
    rw [List.filter_cons, List.filter_cons, h.1]
    split
    · exact .cons h (KvOk.drop t)
    · exact KvOk.drop t
theorem KvOk.len {kvs : List (Key × V)} {es : List (Key × D)} (h : KvOk K F kvs es) : kvs.length = es.length := Paired.length h
theorem KvOk.val {k : Key} : ∀ {kvs : List (Key × V)} {es : List (Key × D)}, KvOk K F kvs es → (valV kvs k = none ∧ valK es k = none) ∨ ∃ v d, valV kvs k = some v ∧ valK es k = some d ∧ Rep K F v d
  | _, _, .nil => .inl ⟨rfl, rfl⟩
  | _, _, .cons (a := p) (b := q) h t => by
    rw [valK_cons]
    by_cases e : q.1 = k
    · rw [if_pos e, valV_pos (h.1.trans e)]
      exact .inr ⟨_, _, rfl, rfl, h.2⟩
    · rw [if_neg e, valV_neg (by rw [h.1]; exact e)]
      exact KvOk.val t
/-- pairs of a key and a thing, as a list of data -/
def entriesOf : List D → Option (List (Key × D))
  | [] => some []
  | .tuple [k, d] :: r => (keyOf k).bind fun k => (entriesOf r).map ((k, d) :: ·)
  | _ => none
/-- what stands owned as a dict -/
def isDk : T → Bool
  | .dk _ => true
  | _ => false
end
section
variable {X : Cx} {K : PySem.W.Frag}
/-- d.update(list of pairs) -/
def gDUpd : T → List D → Option (D × T)
  | .dk es, [.list ds] => (entriesOf ds).bind fun fs => if es.length + fs.length ≤ 16000000 then some (.none, .dk (mergeE es fs)) else none
  | _, _ => none
def gDPop : T → List D → Option (D × T)
  | .dk es, [k] => (keyOf k).bind fun k => (valK es k).map fun d => (d, .dk (dropE es k))
  | _, _ => none
def mMutD (i : Nat) (g : T → List D → Option (D × T)) (l : ML) : MV := fun ro τ => (tget τ i).bind fun t0 => if isDk t0 = true then (l ro τ).bind fun p => (stL p.1).bind fun ds => (tget p.2 i).bind fun t => (g t ds).map fun q => (rd q.1, tset p.2 i q.2) else none
/-- d[k] = e -/
def putD : T → Key → D → Option T
  | .dk es, k, d => if es.length < 16000000 then some (.dk (putE es k d)) else none
  | _, _, _ => none
def mSetD (x : Nat) (me mi : MV) : MS := fun s => (tget s.ow x).bind fun _ => (me ⟨s.fz, []⟩ s.ow).bind fun p => p.1.st.bind fun d => (mi ⟨s.fz, []⟩ p.2).bind fun q => q.1.er.bind fun kd => (keyOf kd).bind fun i => (tget q.2 x).bind fun t => (putD t i d).map fun t' => .nx ⟨s.fz, tset q.2 x t'⟩
end
end Tl

namespace Tl
open PySem PySem.Spec PyProof.Rows L2
section
variable {X : Cx} {x : Str} {pos : Pos}
end
@[simp] theorem r_mDNewK (ro : Ro) (τ : Tau) : mDNewK ro τ = some (.val (.dk []), τ) := rfl
@[simp] theorem fz_dk (es : List (Key × D)) : T.fz (.dk es) = some (.dict (dkD es)) := rfl
@[simp] theorem hole_dk (es : List (Key × D)) : isHole (.dk es) = false := rfl
@[simp] theorem isDk_dk (es : List (Key × D)) : isDk (.dk es) = true := rfl
@[simp] def mutDK0 (i : Nat) (g : T → List D → Option (D × T)) (l : ML) (ro : Ro) (τ : Tau) : Bool → Option (R × Tau)
  | true => bd (l ro τ) (mutK1 i g)
  | false => none
@[simp] def mutDK (i : Nat) (g : T → List D → Option (D × T)) (l : ML) (ro : Ro) (τ : Tau) (t : T) : Option (R × Tau) := mutDK0 i g l ro τ (isDk t)
@[simp] theorem r_mMutD (i : Nat) (g : T → List D → Option (D × T)) (l : ML) (ro : Ro) (τ : Tau) : mMutD i g l ro τ = bd (tget τ i) (mutDK i g l ro τ) := bd_of fun t => by
  unfold mutDK
  cases z : isDk t with
  | false => rw [if_neg Bool.false_ne_true]; rfl
  | true =>
    rw [if_pos rfl]
    exact bd_of fun a => bd_of fun b => bd_of fun c => bd_om fun d => rfl
@[simp] def dupK (es : List (Key × D)) (fs : List (Key × D)) : Option (D × T) := if es.length + fs.length ≤ 16000000 then some (.none, .dk (mergeE es fs)) else none
@[simp] theorem r_gDUpd (es : List (Key × D)) (ds : List D) : gDUpd (.dk es) [.list ds] = bd (entriesOf ds) (dupK es) := bd_of fun a => rfl
@[simp] def dpopK2 (es : List (Key × D)) (k : Key) (d : D) : Option (D × T) := some (d, .dk (dropE es k))
@[simp] def dpopK (es : List (Key × D)) (k : Key) : Option (D × T) := bd (valK es k) (dpopK2 es k)
@[simp] theorem r_gDPop (es : List (Key × D)) (d : D) : gDPop (.dk es) [d] = bd (keyOf d) (dpopK es) := bd_of fun a => bd_om fun b => rfl
@[simp] theorem r_putD (es : List (Key × D)) (k : Key) (d : D) : putD (.dk es) k d = if es.length < 16000000 then some (.dk (putE es k d)) else none := rfl
@[simp] def sdK7 (x : Nat) (fz : Fz) (τ : Tau) (u : T) : Option Out := some (.nx ⟨fz, tset τ x u⟩)
@[simp] def sdK6 (x : Nat) (fz : Fz) (τ : Tau) (d : D) (k : Key) (t : T) : Option Out := bd (putD t k d) (sdK7 x fz τ)
@[simp] def sdK5 (x : Nat) (fz : Fz) (τ : Tau) (d : D) (k : Key) : Option Out := bd (tget τ x) (sdK6 x fz τ d k)
@[simp] def sdK4 (x : Nat) (fz : Fz) (τ : Tau) (d : D) (kd : D) : Option Out := bd (keyOf kd) (sdK5 x fz τ d)
@[simp] def sdK3 (x : Nat) (fz : Fz) (d : D) : R × Tau → Option Out
  | (r, τ) => bd r.er (sdK4 x fz τ d)
@[simp] def sdK2 (x : Nat) (mi : MV) (fz : Fz) (τ : Tau) (d : D) : Option Out := bd (mi ⟨fz, []⟩ τ) (sdK3 x fz d)
@[simp] def sdK1 (x : Nat) (mi : MV) (fz : Fz) : R × Tau → Option Out
  | (r, τ) => bd r.st (sdK2 x mi fz τ)
@[simp] def sdK0 (x : Nat) (me mi : MV) (fz : Fz) (τ : Tau) (_ : T) : Option Out := bd (me ⟨fz, []⟩ τ) (sdK1 x mi fz)
@[simp] theorem r_mSetD (x : Nat) (me mi : MV) (fz : Fz) (τ : Tau) : mSetD x me mi ⟨fz, τ⟩ = bd (tget τ x) (sdK0 x me mi fz τ) :=
  bd_of fun a => bd_of fun b => bd_of fun c => bd_of fun d => bd_of fun e => bd_of fun f => bd_of fun g => bd_om fun h => rfl
@[simp] def dinK (es : List (D × D)) (k : Key) : Option D := some (.bool (valE es k).isSome)
@[simp] theorem p_din (k : D) (es : List (D × D)) : pDIn [k, .dict es] = if okDK es = true then bd (keyOf k) (dinK es) else none := by
  show (if okDK es = true then (keyOf k).map _ else none) = _
  split
  · exact bd_om fun a => rfl
  · rfl
@[simp] def dninK (es : List (D × D)) (k : Key) : Option D := some (.bool !(valE es k).isSome)
@[simp] theorem p_dnin (k : D) (es : List (D × D)) : pDNotIn [k, .dict es] = if okDK es = true then bd (keyOf k) (dninK es) else none := by
  show (if okDK es = true then (keyOf k).map _ else none) = _
  split
  · exact bd_om fun a => rfl
  · rfl
@[simp] theorem p_dget (k : D) (es : List (D × D)) : pDGet [.dict es, k] = if okDK es = true then bd (keyOf k) (valE es) else none := by
  show (if okDK es = true then (keyOf k).bind _ else none) = _
  split
  · exact bd_of fun a => rfl
  · rfl
@[simp] def dgpK2 (d : D) : Bool → Option D
  | true => some d
  | false => none
@[simp] def dgpK (d : D) : Option D := dgpK2 d (isPl d)
@[simp] theorem r_pDGetP (ds : List D) : pDGetP ds = bd (pDGet ds) dgpK := bd_of fun d => by
  unfold dgpK
  cases h : isPl d <;> rfl
@[simp] def gkK (p : List D → Option D) (ds : List D) : Option R := bd (p ds) gpK2
@[simp] theorem r_gk (p : List D → Option D) (rs : List R) : gk p rs = bd (stL rs) (gkK p) := bd_of fun a => bd_om fun b => rfl
@[simp] theorem isPl_int (i : Int) : isPl (.int i) = true := rfl
@[simp] theorem isPl_bool (i : Bool) : isPl (.bool i) = true := rfl
@[simp] theorem isPl_non : isPl .none = true := rfl
@[simp] theorem okDK_dk' (es : List (Key × D)) : okDK (dkD es) = true := okDK_dk es
@[simp] theorem valE_dk' (es : List (Key × D)) (k : Key) : valE (dkD es) k = valK es k := valE_dk es k
@[simp] def sortK2 (ds : List D) : Option (List Int) → Option R
  | some ns => some (.val (.fl ((sortBy ltI ns).map PyData.int)))
  | none => (pqsD ds).map fun ps => .val (.fl ((sortBy ltQ ps).map pqD))
def sortK (ds : List D) : Option R := sortK2 ds (intsD ds)
@[simp] theorem r_gSorted (x : R) : gSorted [x] = bd x.lst? sortK := bd_of fun ds => by
  unfold sortK
  cases intsD ds <;> rfl
@[simp] theorem lst_fl (ds : List D) : R.lst? (.val (.fl ds)) = some ds := rfl
@[simp] theorem lst_leaf (ds : List D) : R.lst? (.val (.leaf (.list ds))) = some ds := rfl
@[simp] theorem lst_vfl (ds : List D) : R.lst? (.vw (.fl ds)) = some ds := rfl
end Tl

namespace Tl
open PySem PySem.Spec PyProof.Rows L2
section
variable {X : Cx} {K : PySem.W.Frag}
def apT : T → T → Option T
  | .ls ts, u => if ts.length < 16000000 then some (.ls (ts ++ [u])) else none
  | _, _ => none
def mApT (i : Nat) (m : MV) : MV := fun ro τ => (tget τ i).bind fun t0 => if isLs t0 = true then (m ro τ).bind fun p => p.1.t.bind fun u => (tget p.2 i).bind fun t => (apT t u).map fun t' => (rd .none, tset p.2 i t') else none
theorem OwnL.erase {F H : Hp} : ∀ {vs : List V} {ts : List T} {A : List Addr} {j : Nat} {t : T}, OwnL K F H vs ts A → ts[j]? = some t → ∃ w B C, vs[j]? = some w ∧ Own K F H w t B ∧ OwnL K F H (vs.eraseIdx j) (ts.eraseIdx j) C ∧ A.Perm (B ++ C)
  | _, [], _, j, t, o, e => by cases e
  | _, t0 :: ts, _, 0, t, o, e => by
    cases o with
    | cons o1 o2 =>
      cases e
      exact ⟨_, _, _, rfl, o1, o2, List.Perm.refl _⟩
  | _, t0 :: ts, _, j + 1, t, o, e => by
    cases o with
    | cons o1 o2 =>
      rename_i v vs A1 A2
      obtain ⟨w, B, C, h1, h2, h3, h4⟩ := OwnL.erase o2 (show ts[j]? = some t from e)
      refine ⟨w, B, A1 ++ C, h1, h2, .cons o1 h3, ?_⟩
      refine (List.Perm.append_left A1 h4).trans ?_
      rw [← List.append_assoc, ← List.append_assoc]
      exact List.Perm.append_right C List.perm_append_comm
def popT : T → Int → Option (T × T)
  | .ls ts, i => if -16000000 ≤ i ∧ i ≤ 16000000 then (seqIndex? i ts.length).bind fun k => (ts[k]?).map fun u => (u, .ls (ts.eraseIdx k)) else none
  | _, _ => none
def mPopT (i : Nat) (m : MV) : MV := fun ro τ => (tget τ i).bind fun t0 => if isLs t0 = true then (m ro τ).bind fun p => (asI p.1).bind fun j => (tget p.2 i).bind fun t => (popT t j).map fun q => (.val q.1, tset p.2 i q.2) else none
end
@[simp] def apK4 (i : Nat) (τ : Tau) (t : T) : Option (R × Tau) := some (rd .none, tset τ i t)
@[simp] def apK3 (i : Nat) (τ : Tau) (u t : T) : Option (R × Tau) := bd (apT t u) (apK4 i τ)
@[simp] def apK2 (i : Nat) (τ : Tau) (u : T) : Option (R × Tau) := bd (tget τ i) (apK3 i τ u)
@[simp] def apK1 (i : Nat) : R × Tau → Option (R × Tau)
  | (r, τ) => bd r.t (apK2 i τ)
@[simp] def apK0 (i : Nat) (m : MV) (ro : Ro) (τ : Tau) : Bool → Option (R × Tau)
  | true => bd (m ro τ) (apK1 i)
  | false => none
@[simp] def apK (i : Nat) (m : MV) (ro : Ro) (τ : Tau) (t : T) : Option (R × Tau) := apK0 i m ro τ (isLs t)
@[simp] theorem r_mApT (i : Nat) (m : MV) (ro : Ro) (τ : Tau) : mApT i m ro τ = bd (tget τ i) (apK i m ro τ) := bd_of fun t => by
  unfold apK
  cases z : isLs t with
  | false => rw [if_neg Bool.false_ne_true]; rfl
  | true =>
    rw [if_pos rfl]
    exact bd_of fun a => bd_of fun b => bd_of fun c => bd_om fun d => rfl
@[simp] theorem r_apT (ts : List T) (u : T) : apT (.ls ts) u = if ts.length < 16000000 then some (.ls (ts ++ [u])) else none := rfl
@[simp] def ppK4 (i : Nat) (τ : Tau) : T × T → Option (R × Tau)
  | (u, t) => some (.val u, tset τ i t)
@[simp] def ppK3 (i : Nat) (τ : Tau) (j : Int) (t : T) : Option (R × Tau) := bd (popT t j) (ppK4 i τ)
@[simp] def ppK2 (i : Nat) (τ : Tau) (j : Int) : Option (R × Tau) := bd (tget τ i) (ppK3 i τ j)
@[simp] def ppK1 (i : Nat) : R × Tau → Option (R × Tau)
  | (r, τ) => bd (asI r) (ppK2 i τ)
@[simp] def ppK0 (i : Nat) (m : MV) (ro : Ro) (τ : Tau) : Bool → Option (R × Tau)
  | true => bd (m ro τ) (ppK1 i)
  | false => none
@[simp] def ppK (i : Nat) (m : MV) (ro : Ro) (τ : Tau) (t : T) : Option (R × Tau) := ppK0 i m ro τ (isLs t)
@[simp] theorem r_mPopT (i : Nat) (m : MV) (ro : Ro) (τ : Tau) : mPopT i m ro τ = bd (tget τ i) (ppK i m ro τ) := bd_of fun t => by
  unfold ppK
  cases z : isLs t with
  | false => rw [if_neg Bool.false_ne_true]; rfl
  | true =>
    rw [if_pos rfl]
    exact bd_of fun a => bd_of fun b => bd_of fun c => bd_om fun d => rfl
@[simp] theorem gtT_l (l : MGs) (ds : List D) (fz : Fz) : gtT l (.list ds) fz = l ds fz := rfl
end Tl

namespace Tl
open PySem PySem.Spec PyProof.Rows L2
def pIsB : List D → Option D
  | [.bool a, .bool b] => some (.bool (decide (a = b)))
  | _ => none
def pNotIsB : List D → Option D
  | [.bool a, .bool b] => some (.bool !(decide (a = b)))
  | _ => none
@[simp] theorem p_isB (a b : Bool) : pIsB [.bool a, .bool b] = some (.bool (decide (a = b))) := rfl
@[simp] theorem p_notIsB (a b : Bool) : pNotIsB [.bool a, .bool b] = some (.bool !(decide (a = b))) := rfl
section
variable {K : PySem.W.Frag} {X : Cx}
theorem vr_notIsB : VR K (two rNotB) (gp pNotIsB) := VR.plain fun ds d e H vs Q r k => by
  match ds, e with
  | [.bool a, .bool b], e =>
    cases e
    obtain ⟨v, w, rfl, r1, r2⟩ := r.two
    cases r1.toBl
    cases r2.toBl
    exact ⟨_, _, rfl, a, b, rfl, rfl, k _ fun F => .bl _⟩
/-- list(range(a, b)) -/
def mLRng2 (m n : MV) : MV := fun ro τ => (m ro τ).bind fun p => (asI p.1).bind fun a => (n ro p.2).bind fun q => (asI q.1).bind fun b => if 0 ≤ a ∧ a ≤ 4000000 ∧ 0 ≤ b ∧ b ≤ 4000000 then some (.val (.fl (rangeD a 1 (b - a).toNat)), q.2) else none
end
@[simp] def rg2K3 (i : Int) (τ : Tau) (j : Int) : Option (R × Tau) := if 0 ≤ i ∧ i ≤ 4000000 ∧ 0 ≤ j ∧ j ≤ 4000000 then some (.val (.fl (rangeD i 1 (j - i).toNat)), τ) else none
@[simp] def rg2K2 (i : Int) : R × Tau → Option (R × Tau)
  | (r, τ) => bd (asI r) (rg2K3 i τ)
@[simp] def rg2K1 (n : MV) (ro : Ro) (τ : Tau) (i : Int) : Option (R × Tau) := bd (n ro τ) (rg2K2 i)
@[simp] def rg2K (n : MV) (ro : Ro) : R × Tau → Option (R × Tau)
  | (r, τ) => bd (asI r) (rg2K1 n ro τ)
@[simp] theorem r_mLRng2 (m n : MV) (ro : Ro) (τ : Tau) : mLRng2 m n ro τ = bd (m ro τ) (rg2K n ro) := bd_of fun a => bd_of fun b => bd_of fun c => bd_of fun d => rfl
end Tl

namespace Tl
open PySem PySem.Spec PyProof.Rows L2
section
variable {X : Cx} {K : PySem.W.Frag}
/-- a tuple times 0, times 1 -/
def pMulT : List D → Option D
  | [.tuple (a :: ds), .int j] => if j = 1 then some (.tuple (a :: ds)) else if j = 0 then some (.tuple []) else none
  | _ => none
end
@[simp] theorem p_mulT (a : D) (ds : List D) (j : Int) : pMulT [.tuple (a :: ds), .int j] = if j = 1 then some (.tuple (a :: ds)) else if j = 0 then some (.tuple []) else none := rfl
/-- x += e of whole numbers -/
abbrev gAddI : List R → Option R := gp (pI2 (fun _ _ => true) fun a b => a + b)
theorem vr_ip {K : PySem.W.Frag} {f : Int → Int → Int} : VR K (two (ipI f)) (gp (pI2 (fun _ _ => true) f)) := VR.plain fun ds d e H vs Q r k => by
  match ds, e with
  | [.int a, .int b], e =>
    cases e
    obtain ⟨v, w, rfl, r1, r2⟩ := r.two
    exact ⟨v, w, rfl, a, b, r1.toInt, r2.toInt, k _ fun F => .int _⟩
theorem vr_addI {K : PySem.W.Frag} : VR K (two (ipI fun i j => i + j)) gAddI := vr_ip
end Tl

namespace Tl
open PySem PySem.Spec PyProof.Rows L2
end Tl

namespace Tl
open PySem PySem.Spec PyProof.Rows L2
end Tl

namespace Tl
open PySem PySem.Spec PyProof.Rows L2
section
variable {K : PySem.W.Frag} {X : L2.Cx}
end
end Tl

namespace Tl
open PySem PySem.Spec PyProof.Rows L2
section
variable {X : L2.Cx} {Pr : List Nat}
end
end Tl

namespace Tl
open PySem PySem.Spec PyProof.Rows L2
def plainT : T → Bool
  | .fl ds => ds.all isPl
  | .dk es => es.all fun p => isPl p.2
  | _ => false
def mLookT (m : MF) (l : MCA) : MV := fun ro τ => (l ro τ).bind fun p => (leafs p.1).bind fun ts => (m ts).bind fun r => if plainT r.1 = true then some (.val r.1, p.2) else none
section
variable {X : L2.Cx} {e : Expr} {es : List Expr}
variable {x : Str} {p pos : Pos} {k n : Nat} {m : MF} {l : MCA}
end
end Tl

namespace Tl
open PySem PySem.Spec PyProof.Rows L2
def cSeeL (m : MF) (l : MCA) : MCA := fun ro τ => (l ro τ).bind fun p => (leafs p.1).bind fun ts => (m ts).bind fun r => r.1.fz.map fun d => ([.d d], p.2)
section
variable {X : L2.Cx} {e : Expr} {es : List Expr}
variable {x : Str} {p pos : Pos} {k n : Nat} {m : MF} {l : MCA}
theorem ca_seeL (c : Fm X.prog X.w X.K X.mg X.base k x n m) {j : Nat} (hr : RmG j X.A) (ha : CA X true (e :: es) l) (hkj : k ≤ j := by decide) (hn : (e :: es).length = n := by rfl) (hg : Gl X x := by rfl) (hdb : (x == ("__debug__" : Str)) = false := by decide)
    (he : starEach (e :: es) X.env = (false, eval e X.env) :: starEach es X.env := by rfl) (hpl : (backTo pos (starEach es X.env)).any (·.1) = false := by rfl)
    (hs : starEach [.Call (.Name x p) (e :: es) [] pos] X.env = (false, eval (.Call (.Name x p) (e :: es) [] pos) X.env) :: starEach [] X.env := by rfl) : CA X true [.Call (.Name x p) (e :: es) [] pos] (cSeeL m l) := by
  have split : ∀ {ro : Ro} {τ τ' : Tau} {r : List CArg}, cSeeL m l ro τ = some (r, τ') → ∃ cs ts z ts' d, l ro τ = some (cs, τ') ∧ leafs cs = some ts ∧ m ts = some (z, ts') ∧ z.fz = some d ∧ r = [.d d] := fun {ro τ τ' r} em => by
    obtain ⟨⟨cs, τ1⟩, e1, em⟩ := Option.bind_eq_some_iff.mp em
    obtain ⟨ts, e2, em⟩ := Option.bind_eq_some_iff.mp em
    obtain ⟨⟨z, ts'⟩, e3, em⟩ := Option.bind_eq_some_iff.mp em
    obtain ⟨d, e4, em⟩ := Option.map_eq_some_iff.mp em
    cases em
    exact ⟨cs, ts, z, ts', d, e1, e2, e3, e4, rfl⟩
  refine ⟨fun ro τ r τ' em => ?_, fun ro τ r τ' em F B H σ A Q a kk => ?_⟩
  · obtain ⟨cs, ts, z, ts', d, e1, e2, e3, e4, rfl⟩ := split em
    rfl
  · obtain ⟨cs, ts, z, ts', d, e1, e2, e3, e4, rfl⟩ := split em
    obtain ⟨f, fd, ps, G, hm, hk, hb⟩ := c.ex
    refine wA (pa_cons (peCallG (E := E0) G (hr.mono hkj) hg hm hk hb pass0 paW hdb he hpl) paW hs) ?_
    refine ha.run ro τ cs _ e1 F B H σ A _ a fun F1 H1 vs A0 A1 g1' c1' o1 t1 => ?_
    have hl : vs.length = n := o1.length.trans ((ha.len _ _ _ _ e1).trans hn)
    have g1 : Go F H A F1 H1 A1 := g1'.trans (Go.less fun _ m => List.mem_append_right _ m)
    have c1 : Cn F1 B H1 A1 := c1'.right
    refine ⟨hl, H1, [], ts, z, ts', ⟨Same.refl H1, same_noH, .nil, (fun _ m => nomatch m), (fun _ _ => rfl), (fun _ m => nomatch m)⟩, leafs_ok o1 e2, e3, fun F4 H4 v A4 A5 g4 c4 o4 os4 => ?_⟩
    have sm : Same H1 H4 := fun b o z => g4.keep b o (fun m => nomatch m) z
    have rv : Rep X.K H4 v d := Own.rep c4.fh o4 (fun _ _ _ q => q) e4
    have c2 : Cn F1 B H4 A1 := ⟨c1.fh.trans sm, c1.bh.trans sm, c1.nd, c1.fa, c1.ba, fun b m => by
      obtain ⟨o, z⟩ := some_ne (c1.ha b m)
      rw [sm b o z]
      exact fun z => nomatch z⟩
    refine wA pa_nil ?_
    exact kk F1 H4 [v] [] A1 (g1.trans ⟨Same.refl F1, fun b o _ z => sm b o z, fun _ _ _ => rfl, fun b m => .inl m⟩) c2 (.d rv .nil) (t1.stay (Same.refl F1) fun b _ o z => sm b o z)
end
@[simp] def seeLK4 (τ : Tau) (d : D) : Option (List CArg × Tau) := some ([.d d], τ)
@[simp] def seeLK3 (τ : Tau) : T × List T → Option (List CArg × Tau)
  | (r, _) => bd r.fz (seeLK4 τ)
@[simp] def seeLK2 (f : MF) (τ : Tau) (ts : List T) : Option (List CArg × Tau) := bd (f ts) (seeLK3 τ)
@[simp] def seeLK (f : MF) : List CArg × Tau → Option (List CArg × Tau)
  | (cs, τ) => bd (leafs cs) (seeLK2 f τ)
@[simp] theorem r_cSeeL (f : MF) (l : MCA) (ro : Ro) (τ : Tau) : cSeeL f l ro τ = bd (l ro τ) (seeLK f) := bd_of fun a => bd_of fun b => bd_of fun c => bd_om fun d => rfl
end Tl

namespace Tl
open PySem PySem.Spec PyProof.Rows L2
theorem meets_extT (l : Addr) (items : Array Value) (n : Nat) (b : Addr) (items2 : Array Value) (n2 : Nat) (dd : Option Addr) (sl : Array (Option Value)) (h0 : ¬(!items.isEmpty && Builtin.List.listTooLong (items.size + items2.size)) = true) (h1 : items.size ≤ sizeLine) (h2 : items.size + items2.size ≤ sizeLine + 1) :
    Meets (Builtin.«list.extend» ⟨[.ref l, .ref b], []⟩) (fun _ R s => s.heap.get? l = some { cls := .type "list", dict := none, data := .seq items n, slots := #[] } ∧ s.heap.get? b = some { cls := .type "tuple", dict := dd, data := .seq items2 n2, slots := sl } ∧ R (.ok (.ret Value.none)) { s with heap := s.heap.update l (Obj.mapSeq fun x => x ++ items2), toks := s.toks }) :=
  .of_wp fun prog w A R s h => by
    obtain ⟨hp, g, d, tk, os⟩ := s
    obtain ⟨hl, hb, h⟩ := h
    have f1 := PySem.AutoSeq1.idx_int
    have f2 := PySem.AutoSeq1.sub_tuple_tuple
    have f3 := PySem.AutoSeq1.sub_list_list
    have f4 := PySem.AutoSeq1.sub_tuple_list
    have f5 := PySem.AutoSeq1.sub_list_tuple
    have hz' : (items ++ items2).size ≤ sizeLine + 1 := by rw [Array.size_append]; exact h2
    wp_walk using (wpAny_updateSeq hl rfl (hz := h1) (_hz' := hz')), PySem.AutoSeq1.wpAny_loadPart' hl, PySem.AutoSeq1.wpAny_loadPart' hb
    exact ⟨_, rfl, h⟩
section
variable {X : L2.Cx}
def rExtendT (K : PySem.W.Frag) : V → List V → Hp → VK → Prop := fun x vs H Q => ∃ l b xs zs, x = .ref l ∧ vs = [.ref b] ∧ H l = some (.lst xs) ∧ SqT K H b zs ∧ xs.length + zs.length ≤ sizeLine ∧ Q .non (upd H l (.lst (xs ++ zs)))
theorem mt_extendT : MtM X "list.extend" (rExtendT X.K) := by
  intro pins s σ H x vs v us Q I rx rv h
  obtain ⟨l, b, xs, zs, rfl, rfl, hH, hB, hz, q⟩ := h
  cases rx
  obtain ⟨u, rfl, ru⟩ := rv.one
  cases ru
  obtain ⟨z, its, n, r, hl, e⟩ := I.lstM hH
  obtain ⟨its2, r2, ⟨o, ho, hc, n2, hd⟩, z2⟩ := I.tuple hB
  obtain ⟨oc, od, oda, os⟩ := o
  cases hc
  cases hd
  have hl2 := r2.length
  have hsz : its.toArray.size + its2.toArray.size ≤ sizeLine := by rw [List.size_toArray, List.size_toArray]; omega
  have hlong : ¬ (!its.toArray.isEmpty && Builtin.List.listTooLong (its.toArray.size + its2.toArray.size)) = true := by
    rw [notLongL hsz, Bool.and_false]
    exact Bool.false_ne_true
  refine call_meets F.slot_list_extend ⟨_, e, rfl⟩ F.entry_list_extend (F.args_list_extend_2 _ _)
    (meets_extT l its.toArray n b its2.toArray n2 od os hlong (by rw [List.size_toArray]; omega) (by omega)) ⟨e, ho, ?_⟩
  refine ⟨.non, _, I.lset (its' := its ++ its2) hH e (by simp) (r.append r2) ?_, rfl, q⟩
  rw [List.length_append]
  omega
def rExtendA (K : PySem.W.Frag) : V → List V → Hp → VK → Prop := fun x vs H Q => rExtend x vs H Q ∨ rExtendT K x vs H Q
theorem mt_extendA : MtM X "list.extend" (rExtendA X.K) := fun pins s σ H x vs v us Q I rx rv h => h.elim (mt_extend pins s σ H x vs v us Q I rx rv) (mt_extendT pins s σ H x vs v us Q I rx rv)
def gExtendA : T → List D → Option (D × T)
  | .fl xs, [.list es] => if xs.length + es.length ≤ 16000000 then some (.none, .fl (xs ++ es)) else none
  | .fl xs, [.tuple es] => if xs.length + es.length ≤ 16000000 then some (.none, .fl (xs ++ es)) else none
  | _, _ => none
theorem mu_extendA {K : PySem.W.Frag} : MU K (rExtendA K) gExtendA := by
  intro t ds z t' e F B H v vs A Q c o r k
  match t, ds, e with
  | .fl xs, [.list es], e => exact .inl (mu_extend (.fl xs) [.list es] z t' e F B H v vs A Q c o r k)
  | .fl xs, [.tuple es], e =>
    have e' : (if xs.length + es.length ≤ 16000000 then some (PyData.none, T.fl (xs ++ es)) else none) = some (z, t') := e
    by_cases q : xs.length + es.length ≤ 16000000
    · rw [if_pos q] at e'
      cases e'
      cases o with
      | fl h1 h2 h3 =>
        obtain ⟨u, rfl, ru⟩ := r.one
        cases ru with
        | tup f1 f2 f3 =>
          rename_i a ys b zs
          have hl := h3.length
          have hl2 := f3.length
          have hz : ys.length + zs.length ≤ sizeLine := small16 (by omega)
          obtain ⟨g, c', o'⟩ := fl_write c rfl (by rw [List.length_append]; exact hz) (h3.append f3)
          exact .inr ⟨a, b, ys, zs, rfl, rfl, h1, sameT c.fh f1, hz, k _ .non _ g c' o' .non⟩
    · rw [if_neg q] at e'
      cases e'
@[simp] theorem g_extendAl (xs es : List D) : gExtendA (.fl xs) [.list es] = if xs.length + es.length ≤ 16000000 then some (.none, .fl (xs ++ es)) else none := rfl
@[simp] theorem g_extendAt (xs es : List D) : gExtendA (.fl xs) [.tuple es] = if xs.length + es.length ≤ 16000000 then some (.none, .fl (xs ++ es)) else none := rfl
end
end Tl

namespace Tl
open PySem PySem.Spec PyProof.Rows L2
section
variable {X : L2.Cx}
end
end Tl

namespace Tl
open PySem PySem.Spec PyProof.Rows L2
section
variable {prog : Program} {w : World} {A : Around} {E : Value → Shared → Prop} {s : Shared}
end
def pN2 (f : Int → Int → D) : List D → Option D
  | [.int a, .int b] => some (f a b)
  | [.bool a, .int b] => some (f (b2i a) b)
  | _ => none
def pN3 (f : Int → Int → D) : List D → Option D
  | [.int a, .int b] => some (f a b)
  | [.bool a, .int b] => some (f (b2i a) b)
  | [.int a, .bool b] => some (f a (b2i b))
  | _ => none
section
variable {X : L2.Cx}
end
@[simp] theorem p_n2 (f : Int → Int → D) (a b : Int) : pN2 f [.int a, .int b] = some (f a b) := rfl
@[simp] theorem p_n2b (f : Int → Int → D) (a : Bool) (b : Int) : pN2 f [.bool a, .int b] = some (f (b2i a) b) := rfl
@[simp] theorem p_n3 (f : Int → Int → D) (a b : Int) : pN3 f [.int a, .int b] = some (f a b) := rfl
@[simp] theorem p_n3b (f : Int → Int → D) (a : Bool) (b : Int) : pN3 f [.bool a, .int b] = some (f (b2i a) b) := rfl
@[simp] theorem p_n3c (f : Int → Int → D) (a : Int) (b : Bool) : pN3 f [.int a, .bool b] = some (f a (b2i b)) := rfl
end Tl

namespace PySem
open Sem (wp)
section
variable {prog : Program} {w : World} {A : Around} {E : Value → Shared → Prop} {s : Shared}
end
end PySem
namespace L2
open PySem PySem.Spec PyProof.Rows
/-- the tuple at a, each item in a new pair -/
def Itet (K : PySem.W.Frag) (a : Addr) : It :=
  ⟨fun i H => ∃ (xs : List V) (x : V), SqT K H a xs ∧ xs[i]? = some x, fun i H v H' => ∃ T x, v = .ref T ∧ H T = none ∧ H' = upd H T (.tup [.int (i : Nat), x]) ∧ ∀ xs, SqT K H a xs → xs[i]? = some x, fun i H => ∃ xs : List V, SqT K H a xs ∧ xs.length ≤ i⟩
def iEnumE (K : PySem.W.Frag) (ta : TA) : TI := fun σ H R => ta σ H fun vs H1 => ∃ a xs, vs = [.ref a] ∧ ((SqL K H1 a xs ∧ R (Ite K a) H1) ∨ (SqT K H1 a xs ∧ R (Itet K a) H1))
end L2
namespace Tl
open PySem PySem.Spec PyProof.Rows L2 RZ
section
variable {K : PySem.W.Frag} {F B H : Hp}
end
section
variable {X : L2.Cx} {e : Expr} {p pos tpos : Pos} {elts : List Expr} {kk : Nat}
def iEnumE (m : MV) : MI := fun ro τ => (m ro τ).bind fun p => p.1.its.bind fun q => some (enumFrom 0 q.2, p.2)
@[simp] def enE : Bool × List D → Tau → Option (List D × Tau) := fun q τ => some (enumFrom 0 q.2, τ)
end
@[simp] def enEK2 (τ : Tau) (q : Bool × List D) : Option (List D × Tau) := some (enumFrom 0 q.2, τ)
@[simp] def enEK : R × Tau → Option (List D × Tau)
  | (r, τ) => bd r.its (enEK2 τ)
@[simp] theorem r_iEnumE (m : MV) (ro : Ro) (τ : Tau) : iEnumE m ro τ = bd (m ro τ) enEK := bd_of fun a => bd_of fun b => rfl
end Tl

namespace PySem
open Sem (wp)
section
variable {prog : Program} {w : World} {A : Around} {E : Value → Shared → Prop} {s : Shared}
end
section
variable {prog : Program} {w : World} {A : Around} {E : Value → Shared → Prop} {s : Shared}
end
end PySem
namespace L2
open PySem PySem.Spec PyProof.Rows
end L2
namespace Tl
open PySem PySem.Spec PyProof.Rows L2 RZ
section
variable {K : PySem.W.Frag} {F B H : Hp}
end
section
variable {X : L2.Cx} {e : Expr} {p pos p2 pos2 tpos : Pos} {elts : List Expr} {kk : Nat}
def iEnR (m : MV) : MI := fun ro τ => (m ro τ).bind fun p => p.1.its.bind fun q => if q.1 = true then some (enumFrom 0 q.2.reverse, p.2) else none
end
@[simp] def enRK2 (τ : Tau) : Bool × List D → Option (List D × Tau)
  | (true, ds) => some (enumFrom 0 ds.reverse, τ)
  | (false, _) => none
@[simp] def enRK : R × Tau → Option (List D × Tau)
  | (r, τ) => bd r.its (enRK2 τ)
@[simp] theorem r_iEnR (m : MV) (ro : Ro) (τ : Tau) : iEnR m ro τ = bd (m ro τ) enRK := bd_of fun a => bd_of fun b => by
  obtain ⟨q, ds⟩ := b
  cases q <;> rfl
end Tl

namespace L2
open PySem PySem.Spec PyProof.Rows
section
variable {X : Cx}
theorem Vals.got : ∀ {xs : List V} {us : List Value} {i : Nat} {u : Value}, Vals xs us → us[i]? = some u → ∃ x, xs[i]? = some x ∧ RelV x u
  | _, _, _, _, .nil, e => by simp at e
  | _, _, 0, _, .cons r _, e => by simp at e; subst e; exact ⟨_, rfl, r⟩
  | _, _, i + 1, u, .cons _ t, e => by
    obtain ⟨x, h1, h2⟩ := Vals.got (i := i) (u := u) t (by simpa using e)
    exact ⟨x, by simpa using h1, h2⟩
theorem plain_of {ds : List PyData} (h : PyData.plainAll ds = true) : ∀ d ∈ ds, d.plain = true := by
  induction ds with
  | nil => intro d m; cases m
  | cons a ds ih =>
    rw [PyData.plainAll, Bool.and_eq_true] at h
    intro d m
    rcases List.mem_cons.mp m with rfl | m
    · exact h.1
    · exact ih h.2 d m
theorem getD_get {ds : List PyData} {i : Nat} (h : i < ds.length) : ds[i]? = some (ds.getD i .none) := by
  rw [List.getD_eq_getElem?_getD, List.getElem?_eq_getElem h]
  rfl
end
end L2
namespace Tl
open PySem PySem.Spec PyProof.Rows L2
section
variable {K : PySem.W.Frag}
/-- alike data, that can be laid and told apart -/
def okMn (ds : List D) : Bool := (ds.all fun x => ds.all fun y => PySem.W.alike x y) && (ds.all fun x => !isNone x) && PyData.plainAll ds && PyData.canLayAll0 ds && decide (PyData.depthAll ds ≤ 60)
def gMnD (mn : D → List D → D) : List R → Option R
  | [x] => x.its.bind fun p => if p.1 = true then (match p.2 with
    | d :: ds => if okMn (d :: ds) = true then some (rd (mn d ds)) else none
    | [] => none) else none
  | _ => none
end
@[simp] def mnK (mn : D → List D → D) : Bool × List D → Option R
  | (true, d :: ds) => if okMn (d :: ds) = true then some (rd (mn d ds)) else none
  | _ => none
@[simp] theorem r_gMnD (mn : D → List D → D) (r : R) : gMnD mn [r] = bd r.its (mnK mn) := bd_of fun a => by
  obtain ⟨b, ds⟩ := a
  cases b <;> cases ds <;> rfl
end Tl

namespace L2
open PySem PySem.Spec PyProof.Rows
section
variable {X : Cx}
def rMaxDf (K : PySem.W.Frag) : List V → List V → Hp → (V → Hp → Prop) → Prop := fun vs zs H Q => ∃ (p : Addr) (xs : List V) (ds : List PyData) (z : V), vs = [.ref p] ∧ zs = [z] ∧ SqL K H p xs ∧ DpAll K H xs ds ∧ PySem.W.AlikeAll ds ∧ PyData.plainAll ds = true ∧ PyData.depthAll ds ≤ 60 ∧ (ds = [] → Q z H) ∧ ∀ (d : PyData) (ds' : List PyData) (i : Nat) (u : V), ds = d :: ds' → xs[i]? = some u → ds[i]? = some (PySem.W.maxD d ds') → Q u H
theorem call_maxDf (hc : X.calm = true) (hu : X.A.units + 64 < cLine) : CallRK X (.builtin "max") [Str.ofString "default"] (rMaxDf X.K) := by
  intro pins s σ H vs zs us ws Q I r rz h
  obtain ⟨p, xs, ds, z, rfl, rfl, hs, dp, al, pl, dd, q0, q⟩ := h
  obtain ⟨its, rv, hl, _⟩ := I.list hs
  obtain rfl := Vals.ref1 r
  obtain ⟨w1, rfl, rw1⟩ := vals1 rz
  obtain ⟨as, rs⟩ := Dp.readsAll I ds xs its dp rv
  refine PySem.W.max_list_default (I.ok.hd hc) hl.isList (as := as) rs al (by omega) (fun e h' tk hk => ⟨z, H, I.kept hk, rw1, q0 e⟩) fun d ds' i v h' tk bs e hi rd hk => ?_
  have hi' : its[i]? = some v := by simpa using hi
  obtain ⟨u, hx, ru⟩ := Vals.got rv hi'
  obtain ⟨bs2, rd2, hlt, hm, _⟩ := PySem.W.readsAll_atA (vs := its.toArray) rs i v hi
  have e' := PySem.SeqAt.plain_unique _ _ _ _ _ (plain_of pl _ hm) (PySem.W.reads_keeps hk rd2) rd
  exact ⟨u, H, I.kept hk, ru, q d ds' i u e hx (by rw [getD_get hlt, e'])⟩
end
end L2
namespace Tl
open PySem PySem.Spec PyProof.Rows L2
section
variable {K : PySem.W.Frag}
def rMx2 (K : PySem.W.Frag) : List V → Hp → (V → Hp → Prop) → Prop := fun vs H Q => ∃ a b, vs = [a, b] ∧ rMaxDf K [a] [b] H Q
def gMaxDf : List R → Option R
  | [x, y] => x.its.bind fun p => y.er.bind fun d => match d with
    | .int z => if p.1 = true then (match p.2 with
      | d :: ds => if okMn (d :: ds) = true then some (rd (PySem.W.maxD d ds)) else none
      | [] => some (rd (.int z))) else none
    | _ => none
  | _ => none
theorem vr_maxDf : VR K (rMx2 K) gMaxDf := by
  intro rs z e F B H vs A Q c o k
  match rs, e with
  | [x, y], e =>
    obtain ⟨⟨isL, es⟩, e1, e⟩ := Option.bind_eq_some_iff.mp (show x.its.bind _ = some z from e)
    obtain ⟨dz, e2, e⟩ := Option.bind_eq_some_iff.mp e
    match dz, e2, e with
    | .int zi, e2, e =>
    obtain ⟨v, w, A1, A2, rfl, o1, o2, g, c1, s, h1, h2⟩ := rs_two c o
    obtain ⟨a, xs, rfl, ha, za, ra⟩ := seq_of o1 e1 h1 s c1.fh c1.bh
    have rw' : Rep K H w (.int zi) := o2.rep c.fh c.bh (fun _ _ _ q => q) e2
    have ew := rw'.toInt
    subst ew
    cases isL with
    | false => cases e
    | true =>
      cases es with
      | nil =>
        have e' : some (rd (.int zi)) = some z := e
        cases e'
        refine ⟨_, _, rfl, a, xs, [], .int zi, rfl, rfl, ha, RepL.dp [] rfl (ra.mono c1.fh), ⟨fun x m => (nomatch m), fun x m => (nomatch m)⟩, rfl, by simp [PyData.depthAll], fun _ => ?_, fun d ds' i u e => by cases e⟩
        exact k _ H (.int zi) [] g c1 (.leaf (.int zi))
      | cons d ds =>
        by_cases q : okMn (d :: ds) = true
        · have e' : (if okMn (d :: ds) = true then some (rd (PySem.W.maxD d ds)) else none) = some z := e
          rw [if_pos q] at e'
          cases e'
          unfold okMn at q
          simp only [Bool.and_eq_true, List.all_eq_true, Bool.not_eq_true', decide_eq_true_iff] at q
          obtain ⟨⟨⟨⟨q1, q2⟩, q3⟩, q4⟩, q5⟩ := q
          refine ⟨_, _, rfl, a, xs, d :: ds, .int zi, rfl, rfl, ha, RepL.dp (d :: ds) q4 (ra.mono c1.fh), ⟨q1, fun x m e => ?_⟩, q3, q5, (fun e => nomatch e), fun d' ds' i u e hx hd => ?_⟩
          · have := q2 x m
            rw [e] at this
            cases this
          · cases e
            obtain ⟨u', hu', ru⟩ := ra.get hd
            rw [hx] at hu'
            cases hu'
            exact k _ H u [] g c1 (.leaf ru)
        · have e' : (if okMn (d :: ds) = true then some (rd (PySem.W.maxD d ds)) else none) = some z := e
          rw [if_neg q] at e'
          cases e'
end
section
variable {X : Cx} {a b : Expr} {ma mb : MV} {x : Str} {p pos kpos : Pos}
theorem er_maxDf (hc : X.calm = true) (hu : X.A.units + 64 < cLine) (hg : Gl X x) (hm : X.mg x = none) (hv : bootBuiltins x = some (.builtin "max")) (ha : ER X a ma) (hb : ER X b mb) (hs : starEach [a] X.env = (false, eval a X.env) :: starEach [] X.env := by rfl) (hn : x ≠ "__name__" := by decide) (hdb : (x == ("__debug__" : Str)) = false := by decide)
    (he : backTo pos (starEach [a] X.env) = (false, eval a X.env) :: backTo pos (starEach [] X.env) := by rfl) (hpl : (backTo pos (starEach [a] X.env)).any (·.1) = false := by rfl)
    (hall : (backToKw pos (keywordEach [⟨some "default", b, kpos⟩] X.env)).all (·.1.isSome) = true := by rfl) (hnone : (backToKw pos (keywordEach [⟨some "default", b, kpos⟩] X.env)).any (·.1.isNone) = false := by rfl) (hks : (backToKw pos (keywordEach [⟨some "default", b, kpos⟩] X.env)).filterMap (·.1) = [Str.ofString "default"] := by rfl) :
    ER X (.Call (.Name x p) [a] [⟨some "default", b, kpos⟩] pos) (mBin gMaxDf ma mb) :=
  er_op' (wp := wp2 X a b) (run := rMx2 X.K) (fun σ H Q w => wE (pe_callBK (call_maxDf hc hu) hg hm hv (pa_cons peW pa_nil (hs := hs)) (pk_cons peW pk_nil) hn hdb he hpl hall hnone hks) (wpE_mono (fun x H1 w => wpE_mono (fun y H2 ⟨_, _, e, q⟩ => by cases e; exact q) w) w)) vr_maxDf (aq2 ha hb)
end
@[simp] def mxK2 (es : List D) : D → Option R
  | .int z => (match es with
      | d :: ds => if okMn (d :: ds) = true then some (rd (PySem.W.maxD d ds)) else none
      | [] => some (rd (.int z)))
  | _ => none
@[simp] def mxK (r : R) : Bool × List D → Option R
  | (true, es) => bd r.er (mxK2 es)
  | _ => none
theorem r_gMaxDf (r q : R) (es : List D) (z : Int) (h1 : r.its = some (true, es)) (h2 : q.er = some (.int z)) : gMaxDf [r, q] = mxK2 es (.int z) := by
  show (r.its).bind _ = _
  rw [h1]
  show (q.er).bind _ = _
  rw [h2]
  cases es <;> rfl
end Tl

namespace Tl
open PySem PySem.Spec PyProof.Rows L2
def strsD : List D → Option (List Str)
  | [] => some []
  | .str s :: ds => (strsD ds).map (s :: ·)
  | _ => none
@[simp] theorem strsD_strs : ∀ ys : List Str, strsD (ys.map PyData.str) = some ys
  | [] => rfl
  | y :: ys => by
    show (strsD (ys.map PyData.str)).map (y :: ·) = _
    rw [strsD_strs ys]
    rfl
section
variable {K : PySem.W.Frag} {F : Hp}
def okJoin (a : Str) (ys : List Str) : Bool := decide ((ys.map (·.length)).sum + ys.length * a.length ≤ 16777216)
def gJoin : List R → Option R
  | [x, y] => match x.er with
    | some (.str a) => y.its.bind fun p => (strsD p.2).bind fun ys => if okJoin a ys = true then some (rd (.str (Txt.join a ys))) else none
    | _ => none
  | _ => none
def okSplit (a b : Str) : Bool := !(b.length == 0) && decide (a.length ≤ 10000000) && decide ((Txt.split a b).length ≤ 16000000)
def gSplit : List R → Option R
  | [x, y] => x.er.bind fun d => y.er.bind fun e => match d, e with
    | .str a, .str b => if okSplit a b = true then some (.val (.fl ((Txt.split a b).map PyData.str))) else none
    | _, _ => none
  | _ => none
def pIntS : List D → Option D
  | [.str a] => if a.length ≤ 640 then (PySem.intText? a).map PyData.int else none
  | _ => none
def signsD (z : Str) : List D := z.cps.toList.map fun c => .str ⟨#[c]⟩
end
section
variable {X : Cx} {a b : Expr} {tg e o : Expr} {ma mb : MV} {apos pos : Pos} {ka : Str}
def iTxt (m : MV) : MI := fun ro τ => (m ro τ).bind fun p => p.1.er.bind fun d => match d with
  | .str z => if z.length ≤ 16000000 then some (signsD z, p.2) else none
  | _ => none
def mTxt2 (m n : MV) : ML := fun ro τ => (m ro τ).bind fun p => p.1.er.bind fun d => match d with
  | .str _ => (n ro p.2).map fun q => ([p.1, q.1], q.2)
  | _ => none
end
@[simp] def txK2 (n : MV) (ro : Ro) (p : R × Tau) : D → Option (List R × Tau)
  | .str _ => bd (n ro p.2) fun q => some ([p.1, q.1], q.2)
  | _ => none
@[simp] def txK (n : MV) (ro : Ro) (p : R × Tau) : Option (List R × Tau) := bd p.1.er (txK2 n ro p)
@[simp] theorem r_mTxt2 (m n : MV) (ro : Ro) (τ : Tau) : mTxt2 m n ro τ = bd (m ro τ) (txK n ro) := bd_of fun a => bd_of fun d => by
  cases d <;> first | rfl | (show (n ro a.2).map _ = bd (n ro a.2) _; cases n ro a.2 <;> rfl)
@[simp] def jnK2 (a : Str) (p : Bool × List D) : Option R := bd (strsD p.2) fun ys => if okJoin a ys = true then some (rd (.str (Txt.join a ys))) else none
@[simp] def jnK (y : R) : D → Option R
  | .str a => bd y.its (jnK2 a)
  | _ => none
@[simp] theorem r_gJoin (x y : R) : gJoin [x, y] = bd x.er (jnK y) := by
  show (match x.er with
    | some (.str a) => y.its.bind fun p => (strsD p.2).bind fun ys => if okJoin a ys = true then some (rd (.str (Txt.join a ys))) else none
    | _ => none) = _
  cases x.er with
  | none => rfl
  | some d => cases d <;> first | rfl | exact bd_of fun a => bd_of fun b => rfl
@[simp] def splK2 : D → D → Option R
  | .str a, .str b => if okSplit a b = true then some (.val (.fl ((Txt.split a b).map PyData.str))) else none
  | _, _ => none
@[simp] def splK (y : R) (d : D) : Option R := bd y.er (splK2 d)
@[simp] theorem r_gSplit (x y : R) : gSplit [x, y] = bd x.er (splK y) := bd_of fun a => bd_of fun b => by
  cases a <;> first | rfl | (cases b <;> rfl)
@[simp] theorem p_intS (a : Str) : pIntS [.str a] = if a.length ≤ 640 then (PySem.intText? a).map PyData.int else none := rfl
@[simp] def itxK (τ : Tau) : D → Option (List D × Tau)
  | .str z => if z.length ≤ 16000000 then some (signsD z, τ) else none
  | _ => none
@[simp] def itxK0 (p : R × Tau) : Option (List D × Tau) := bd p.1.er (itxK p.2)
@[simp] theorem r_iTxt (m : MV) (ro : Ro) (τ : Tau) : iTxt m ro τ = bd (m ro τ) itxK0 := bd_of fun a => bd_of fun b => by
  cases b <;> rfl
end Tl

namespace L2
open PySem PySem.Spec PyProof.Rows
section
variable {X : Cx}
end
end L2
namespace Tl
open PySem PySem.Spec PyProof.Rows L2
section
variable {K : PySem.W.Frag} {F : Hp}
/-- the sorted list -/
def sortD (ds : List D) : List D := ds.mergeSort (PySem.W.dataLe false id)
def tupB : D → Bool
  | .tuple (_ :: _) => true
  | _ => false
def okSo (ds : List D) : Bool := (ds.all fun x => ds.all fun y => PySem.W.alike x y) && ds.all tupB && PyData.canLayAll0 ds && decide (PyData.depthAll ds ≤ 60)
def gSortA : List R → Option R
  | [x] => x.lst?.bind fun ds => if okSo ds = true then some (.val (.fl (sortD ds))) else none
  | _ => none
end
@[simp] def sortAK (ds : List D) : Option R := if okSo ds = true then some (.val (.fl (sortD ds))) else none
@[simp] theorem r_gSortA (x : R) : gSortA [x] = bd x.lst? sortAK := bd_of fun ds => rfl
end Tl

namespace Tl
open PySem PySem.Spec PyProof.Rows L2
section
variable {X : L2.Cx} {Pr : List Nat} {st : Stmt}
end
end Tl

namespace L2
open PySem PySem.Spec PyProof.Rows
def Itzm (K : PySem.W.Frag) (n1 n2 : Nat) (a b : Addr) : It :=
  ⟨fun i H => ∃ (xs ys : List V) (x y : V), SqT K H a xs ∧ SqL K H b ys ∧ xs.length = n1 ∧ ys.length = n2 ∧ xs[i]? = some x ∧ ys[i]? = some y,
    fun i H v H' => ∃ T x y, v = .ref T ∧ H T = none ∧ H' = upd H T (.tup [x, y]) ∧ (∀ xs, SqT K H a xs → xs[i]? = some x) ∧ ∀ ys, SqL K H b ys → ys[i]? = some y,
    fun i H => ∃ xs ys : List V, SqT K H a xs ∧ SqL K H b ys ∧ xs.length = n1 ∧ ys.length = n2 ∧ (n1 ≤ i ∨ n2 ≤ i)⟩
def iZipX (K : PySem.W.Frag) (ta : TA) : TI := fun σ H R => ta σ H fun vs H1 => ∃ a b xs ys, vs = [.ref a, .ref b] ∧ SqT K H1 a xs ∧ SqL K H1 b ys ∧ R (Itzm K xs.length ys.length a b) H1
end L2
namespace Tl
open PySem PySem.Spec PyProof.Rows L2 RZ
section
variable {K : PySem.W.Frag} {F B : Hp}
end
section
variable {X : L2.Cx} {e e2 : Expr} {p pos tpos : Pos} {elts : List Expr} {kk : Nat}
/-- zip of a tuple and a list -/
def iZipX (m n : MV) : MI := fun ro τ => (m ro τ).bind fun p => p.1.its.bind fun q => (n ro p.2).bind fun p' => p'.1.its.bind fun q' => if q.1 = false ∧ q'.1 = true then some (zipD q.2 q'.2, p'.2) else none
end
@[simp] def zpX4 (τ : Tau) (b : Bool) (ds : List D) : Bool × List D → Option (List D × Tau)
  | (c, es) => if b = false ∧ c = true then some (zipD ds es, τ) else none
@[simp] def zpX3 (b : Bool) (ds : List D) : R × Tau → Option (List D × Tau)
  | (r, τ) => bd r.its (zpX4 τ b ds)
@[simp] def zpX2 (n : MV) (ro : Ro) (τ : Tau) : Bool × List D → Option (List D × Tau)
  | (b, ds) => bd (n ro τ) (zpX3 b ds)
@[simp] def zpX (n : MV) (ro : Ro) : R × Tau → Option (List D × Tau)
  | (r, τ) => bd r.its (zpX2 n ro τ)
@[simp] theorem r_iZipX (m n : MV) (ro : Ro) (τ : Tau) : iZipX m n ro τ = bd (m ro τ) (zpX n ro) := bd_of fun a => bd_of fun b => bd_of fun c => bd_of fun d => rfl
end Tl

namespace L2
open PySem PySem.Spec PyProof.Rows
section
variable {P : Program} {w : World} {A : Around} {E : Value → Shared → Prop} {s : Shared}
set_option maxRecDepth 100000 in
set_option maxHeartbeats 3200000 in
theorem call_set_lstI {l : Addr} {items : Array Value} (ns : List Int) {Q : Value → Shared → Prop} (hh : A.handled = none) (hl : s.heap.IsList l items) (hit : IntsAre items.toList ns) (hb : ns.length + 1 < scanBound)
    (h : ∀ (h' : Heap) (tk c : Nat), SetR w h' s.heap.objs.size (fun j => decide (j ∈ ns)) c → c ≤ ns.length → (∀ b o, s.heap.get? b = some o → h'.get? b = some o) → Q (.ref s.heap.objs.size) { s with heap := h', toks := tk }) :
    wpAny (model P w) A (call (.type "set") [.ref l]) Q E s := by
  have hisz : items.size = ns.length := by
    have q := IntsAre.length hit
    rw [Array.length_toList] at q
    exact q
  obtain ⟨c, tl, hmro⟩ := F.called_set.mro
  have hmade := F.called_set.made
  have hsub := F.called_set.sub
  refine wpAny_call (codeAny_of_tree ?_)
  show wpAny _ _ (callAny (.type "set") _) _ _ _
  refine wpAny_pure ⟨Code.quiet_builtin _ (by decide +kernel), codeAny_builtin F.entry_type_call ?_⟩
  rw [Around.under_plain (weight_type_call_type "set" [.ref l] []) rfl]
  have h1 := F.called_set.notType
  have h2 := F.called_set.canCreate
  have hct := F.typeCall_set_1 (.ref l)
  repeat (any_goals (first | assumption | wp_step))

  refine codeAny_mono (code_set_led1 (.ref l) (E := E) (Q₁ := fun obj s₁ => obj = .ref s.heap.objs.size ∧ s₁ = { s with heap := s.heap.push { cls := .type "set", dict := none, data := .set #[] 0 (.fresh 0 0 (!w.params.followText "set-order")) } }) ⟨rfl, rfl⟩) fun r s₁ hr => ?_
  cases r with
  | error e => exact hr
  | ok fl =>
    cases fl with
    | ret obj =>
      obtain ⟨rfl, rfl⟩ := hr
      have hS : (s.heap.push { cls := .type "set", dict := none, data := .set #[] 0 (.fresh 0 0 (!w.params.followText "set-order")) }).get? s.heap.objs.size = some { cls := .type "set", dict := none, data := .set #[] 0 (.fresh 0 0 (!w.params.followText "set-order")) } := Heap.get?_push_size _ rfl
      have hT : Shared.TypeIs { s with heap := s.heap.push { cls := .type "set", dict := none, data := .set #[] 0 (.fresh 0 0 (!w.params.followText "set-order")) } } (.ref s.heap.objs.size) "set" := ⟨_, hS, rfl⟩
      have hli := F.called_set.init.lookup
      have hbi := F.called_set.init.bind (.ref s.heap.objs.size)
      repeat (any_goals (first | assumption | wp_step))

      refine codeAny_mono (codeAny_call_builtin (R := wants (fun r s₂ => r = .none ∧ ∃ h' tk c, s₂ = { s with heap := h', toks := tk } ∧ SetR w h' s.heap.objs.size (fun j => decide (j ∈ ns)) c ∧ c ≤ ns.length ∧
          (∀ b o, s.heap.get? b = some o → h'.get? b = some o)) E) F.called_set.init.plain F.entry_set_init (check_set_init_1 hT ?_)) fun r₂ s₂ hr₂ => ?_
      · obtain ⟨ol, hol, hcl, nl, hdl⟩ := hl
        obtain ⟨ocls, odict, odata, oslots⟩ := ol
        simp only at hcl hdl
        subst hcl; subst hdl
        have hol' : (s.heap.push { cls := .type "set", dict := none, data := .set #[] 0 (.fresh 0 0 (!w.params.followText "set-order")) }).get? l = some { cls := .type "list", dict := odict, data := .seq items nl, slots := oslots } := Heap.get?_push_of_some _ hol
        have hsls := F.sub_list_set
        have hslf := F.sub_list_frozenset
        have hne : (Value.type "list" == Value.type "dict") = false := by decide
        have hl1 : (s.heap.push { cls := .type "set", dict := none, data := .set #[] 0 (.fresh 0 0 (!w.params.followText "set-order")) }).IsList l items := ⟨_, hol', rfl, nl, rfl⟩
        unfold Builtin.«set.__init__» noKeywords Builtin.Frozenset.updateFrom
        generalize hPI : pyIter = PI
        wp_walk
        subst hPI

        refine wpAny_pyIter_list hl1 ?_
        refine wpAny_bind (wpAny_runValue ?_)
        have hlS : l < s.heap.objs.size := Heap.lt_size hol
        have hh3 : A.in1.in1.in1.handled = none := by simp [hh]
        have hz1 : (s.heap.push { cls := .type "set", dict := none, data := .set #[] 0 (.fresh 0 0 (!w.params.followText "set-order")) }).objs.size = s.heap.objs.size + 1 := Heap.size_push ..
        have hneI : l ≠ (s.heap.push { cls := .type "set", dict := none, data := .set #[] 0 (.fresh 0 0 (!w.params.followText "set-order")) }).objs.size := by
          rw [Heap.size_push]; exact Nat.ne_of_lt (Nat.lt_succ_of_lt hlS)
        have hSf : s.heap.objs.size ∉ [(s.heap.push { cls := .type "set", dict := none, data := .set #[] 0 (.fresh 0 0 (!w.params.followText "set-order")) }).objs.size, l] := by
          rw [Heap.size_push]; simp only [List.mem_cons, List.mem_singleton, List.not_mem_nil, or_false, not_or]
          exact ⟨Nat.ne_of_lt (Nat.lt_succ_self _), Nat.ne_of_gt hlS⟩
        have hval : ∀ (i : Nat) (v : Value), items[i]? = some v → ∃ k t, ns[i]? = some k ∧ v = .int k t := fun i v hv => by
          have hi : i < ns.length := by rw [← hisz]; exact (Array.getElem?_eq_some_iff.mp hv).1
          obtain ⟨t, e⟩ := PyProof.Rows.IntsAre.int_at hit i v (by rw [Array.getElem?_toList]; exact hv)
          refine ⟨ns[i], t, List.getElem?_eq_getElem hi, ?_⟩
          rw [e, List.getD_eq_getElem?_getD, List.getElem?_eq_getElem hi] <;> rfl
        refine set_update_ints ((Walks.list hh3 _ l hneI items).toS) s.heap.objs.size
          hSf ns hisz hb hval (items.size - 0) 0 _ (by omega) (Nat.zero_le _)
          ⟨⟨_, Heap.get?_push_size _ rfl, rfl, rfl⟩, (hl1.push _)⟩ ?hS0 ?hR
        case hS0 =>
          have hget : ((s.heap.push { cls := .type "set", dict := none, data := .set #[] 0 (.fresh 0 0 (!w.params.followText "set-order")) }).push { cls := .type "list_iterator", data := .fields #[.ref l, .int 0 0] }).get? s.heap.objs.size
              = some { cls := .type "set", dict := none, data := .set #[] 0 (.fresh 0 0 (!w.params.followText "set-order")) } := Heap.get?_push_of_some _ hS
          exact ⟨0, Nat.le_refl 0, setR_new_at hget⟩
        case hR =>
          intro s' c' hm hc' hS'
          obtain ⟨h', g2, d', tk', os'⟩ := s'
          have eg : g2 = s.gens := hm.gens
          have ed : d' = s.drawn := hm.drawn
          have eo : os' = s.os := hm.os
          subst eg; subst ed; subst eo
          show wpAny _ _ _ _ _ _
          refine wpAny_pure ?_
          show wpAny _ _ (ret Value.none) _ _ _
          rw [hisz] at hc'
          refine wpAny_pure ⟨rfl, h', tk', c', rfl, hS', hc', fun b o e => ?_⟩
          have hb0 : b < s.heap.objs.size := Heap.lt_size e
          have hb1 : b ≠ s.heap.objs.size := Nat.ne_of_lt hb0
          have hb2 : b ≠ (s.heap.push { cls := .type "set", dict := none, data := .set #[] 0 (.fresh 0 0 (!w.params.followText "set-order")) }).objs.size := by
            rw [Heap.size_push]; exact Nat.ne_of_lt (Nat.lt_succ_of_lt hb0)
          exact hm.heap b o (by simp only [List.mem_cons, List.mem_singleton, List.not_mem_nil, or_false, not_or]; exact ⟨hb1, hb2⟩) (Heap.get?_push_of_some _ (Heap.get?_push_of_some _ e))

      · cases r₂ with
        | error e => exact hr₂
        | ok fl₂ =>
          cases fl₂ with
          | ret r =>
            obtain ⟨rfl, h', tk, c', rfl, hS', hc', hk'⟩ := hr₂
            repeat (any_goals (first | assumption | wp_step))
            exact h _ _ _ hS' hc' hk'
          | _ => exact hr₂.elim
    | _ => exact hr.elim

end
section
variable {X : Cx}
theorem ints_vals' : ∀ {ns : List Int} {us : List Value}, Vals (ns.map V.int) us → IntsAre us ns
  | [], _, .nil => .nil
  | n :: ns, _, .cons r t => by
    obtain ⟨k, rfl⟩ := r
    exact .cons n k (ints_vals' t)
def tSortSetI (K : PySem.W.Frag) (ta : TE) : TE := fun σ H Q => ta σ H fun x H1 => ∃ (l : Addr) (ns : List Int), x = .ref l ∧ SqL K H1 l (ns.map V.int) ∧ ns.length < 60 ∧
  ∀ (ns' : List Int) (H2 : Hp) (b p : Addr) (o : HO), ns'.Pairwise (· < ·) → (∀ k : Int, k ∈ ns' ↔ k ∈ ns) → H1 b = none → H2 = upd H1 b o → H2 p = none → Q (.ref p) (upd H2 p (.lst (ns'.map V.int)))
theorem pe_sortSetI {a : Expr} {ta : TE} {p p2 q pos : Pos} (hg : Gl X "sorted") (hm : X.mg "sorted" = none) (hg2 : Gl X "set") (hm2 : X.mg "set" = none) (ha : PE X a ta) (hc : X.calm = true := by rfl)
    (na : starEach [a] X.env = (false, eval a X.env) :: starEach [] X.env := by rfl) : PE X (.Call (.Name "sorted" p) [.Call (.Name "set" p2) [a] [] q] [] pos) (tSortSetI X.K ta) := by
  refine ⟨fun pins s σ H Q I h => ?_⟩
  refine Call_ (ld_blt I hg hm boot_sorted ?_)
  refine PyProof.Rows.callWith_builtin1 (PyProof.Rows.args_cons ?_ rfl) rfl rfl
  refine Call_ (ld_blt I hg2 hm2 boot_set ?_)
  refine PyProof.Rows.callWith_type1 (PyProof.Rows.args_cons (thn (ha.run pins s σ H _ I h) fun v s1 ⟨x, H1, I1, r1, q1⟩ => PyProof.Rows.args_nil ?_) na) na rfl
  obtain ⟨l, ns, rfl, hq, hl, q1⟩ := q1
  cases r1
  obtain ⟨its, r, pl, hz⟩ := I1.list hq
  refine call_set_lstI (P := X.prog) (w := X.w) ns (I1.ok.hd hc) pl.isList (by simpa using ints_vals' r) (by unfold scanBound; omega) fun h' tk c R hcn hk => ?_
  refine PyProof.Rows.args_nil ?_
  have hn : H1 s1.heap.objs.size = none := I1.hok.fresh (Nat.le_refl _)
  have I2 : Inv X pins σ (upd H1 s1.heap.objs.size (SetO X.w s1.heap.objs.size (fun j => decide (j ∈ ns)) c)) { s1 with heap := h', toks := tk } := I1.laid (t' := tk) hk (Nat.le_refl _) (setO_new R)
  exact cr_sortedSet hc pins _ σ _ [.ref s1.heap.objs.size] [.ref s1.heap.objs.size] Q I2 (.cons rfl .nil) ⟨_, _, _, rfl, upd_same, by omega, fun ns' p pw hmem _ hp => q1 ns' _ _ p _ pw (fun k => by rw [hmem k]; simp) hn rfl hp⟩
end
end L2
namespace Tl
open PySem PySem.Spec PyProof.Rows L2
/-- the numbers of a list, rising, each once -/
def insS (x : Int) : List Int → List Int
  | [] => [x]
  | y :: r => if x < y then x :: y :: r else if x = y then y :: r else y :: insS x r
def sset : List Int → List Int
  | [] => []
  | x :: r => insS x (sset r)
theorem insS_mem (x k : Int) : ∀ l : List Int, k ∈ insS x l ↔ k = x ∨ k ∈ l
  | [] => by simp [insS]
  | y :: r => by
    unfold insS
    split
    · simp
    · split
      · rename_i h
        subst h
        simp
      · rw [List.mem_cons, insS_mem x k r, List.mem_cons]
        constructor
        · rintro (h | h | h)
          · exact .inr (.inl h)
          · exact .inl h
          · exact .inr (.inr h)
        · rintro (h | h | h)
          · exact .inr (.inl h)
          · exact .inl h
          · exact .inr (.inr h)
theorem insS_up (x : Int) : ∀ l : List Int, l.Pairwise (· < ·) → (insS x l).Pairwise (· < ·)
  | [], _ => by simp [insS]
  | y :: r, h => by
    obtain ⟨h1, h2⟩ := List.pairwise_cons.mp h
    unfold insS
    split
    · rename_i q
      refine List.pairwise_cons.mpr ⟨fun z m => ?_, h⟩
      rcases List.mem_cons.mp m with e | m
      · omega
      · have := h1 z m
        omega
    · split
      · exact h
      · refine List.pairwise_cons.mpr ⟨fun z m => ?_, insS_up x r h2⟩
        rcases (insS_mem x z r).mp m with e | m
        · omega
        · exact h1 z m
theorem sset_mem (k : Int) : ∀ l : List Int, k ∈ sset l ↔ k ∈ l
  | [] => by simp [sset]
  | x :: r => by
    rw [sset, insS_mem, sset_mem k r, List.mem_cons]
theorem sset_up : ∀ l : List Int, (sset l).Pairwise (· < ·)
  | [] => List.Pairwise.nil
  | x :: r => insS_up x _ (sset_up r)
theorem up_ext : ∀ {l m : List Int}, l.Pairwise (· < ·) → m.Pairwise (· < ·) → (∀ k, k ∈ l ↔ k ∈ m) → l = m
  | [], [], _, _, _ => rfl
  | [], b :: m, _, _, h => absurd ((h b).mpr List.mem_cons_self) (by simp)
  | a :: l, [], _, _, h => absurd ((h a).mp List.mem_cons_self) (by simp)
  | a :: l, b :: m, hl, hm, h => by
    obtain ⟨l1, l2⟩ := List.pairwise_cons.mp hl
    obtain ⟨m1, m2⟩ := List.pairwise_cons.mp hm
    have e : a = b := by
      rcases List.mem_cons.mp ((h a).mp List.mem_cons_self) with e | ma
      · exact e
      · rcases List.mem_cons.mp ((h b).mpr List.mem_cons_self) with e | mb
        · exact e.symm
        · have := l1 b mb
          have := m1 a ma
          omega
    subst e
    rw [up_ext l2 m2 fun k => ?_]
    constructor
    · intro mk
      rcases List.mem_cons.mp ((h k).mp (List.mem_cons_of_mem _ mk)) with e | q
      · have := l1 k mk
        omega
      · exact q
    · intro mk
      rcases List.mem_cons.mp ((h k).mpr (List.mem_cons_of_mem _ mk)) with e | q
      · have := m1 k mk
        omega
      · exact q
theorem insS_len (x : Int) : ∀ l : List Int, (insS x l).length ≤ l.length + 1
  | [] => by simp [insS]
  | y :: r => by
    unfold insS
    split
    · simp
    · split
      · simp
      · have := insS_len x r
        simp only [List.length_cons]
        omega
theorem sset_len : ∀ l : List Int, (sset l).length ≤ l.length
  | [] => Nat.le_refl _
  | x :: r => by
    have := insS_len x (sset r)
    have := sset_len r
    rw [sset, List.length_cons]
    omega
def gSortSet : List R → Option R
  | [x] => x.lst?.bind fun ds => (intsD ds).bind fun ns => if ns.length < 60 then some (.val (.fl ((sset ns).map PyData.int))) else none
  | _ => none
section
variable {X : L2.Cx}
def rSortSet (K : PySem.W.Frag) : V → Hp → VK → Prop := fun x H Q => ∃ (l : Addr) (ns : List Int), x = .ref l ∧ SqL K H l (ns.map V.int) ∧ ns.length < 60 ∧
  ∀ (ns' : List Int) (H2 : Hp) (b p : Addr) (o : HO), ns'.Pairwise (· < ·) → (∀ k : Int, k ∈ ns' ↔ k ∈ ns) → H b = none → H2 = upd H b o → H2 p = none → Q (.ref p) (upd H2 p (.lst (ns'.map V.int)))
theorem vr_sortSet {K : PySem.W.Frag} : VR K (one (rSortSet K)) gSortSet := by
  intro rs z e F B H vs A Q c o k
  match rs, e with
  | [x], e =>
    obtain ⟨ds, e1, e⟩ := Option.bind_eq_some_iff.mp (show x.lst?.bind _ = some z from e)
    obtain ⟨ns, e2, e⟩ := Option.bind_eq_some_iff.mp e
    by_cases q : ns.length < 60
    · rw [if_pos q] at e
      cases e
      obtain ⟨v, A1, rfl, o1, g, c1, s, h1⟩ := rs_one c o
      obtain ⟨a, xs, rfl, ha, za, ra⟩ := lst_of o1 e1 h1 s c1.fh c1.bh
      rw [intsD_map e2] at ra
      have ev := ra.ints
      subst ev
      refine ⟨.ref a, rfl, a, ns, rfl, SqL.of ha, q, fun ns' H2 b p ho pw hm hb e2 hp => ?_⟩
      subst e2
      have es : ns' = sset ns := up_ext pw (sset_up ns) fun j => (hm j).trans (sset_mem j ns).symm
      subst es
      obtain ⟨g2, c2⟩ := c1.newF (o := ho) hb
      obtain ⟨g3, c3⟩ := c2.newO (o := .lst ((sset ns).map V.int)) hp
      exact k _ _ (.ref p) [p] ((g.trans g2).trans g3) c3 (.fl upd_same (by rw [List.length_map, sizeLine_eq]; have := sset_len ns; omega) (RepL.ofInts _))
    · rw [if_neg q] at e
      cases e
theorem er_sortSet {a : Expr} {ma : MV} {p p2 q pos : Pos} (ha : ER X a ma) (hg : Gl X "sorted" := by rfl) (hm : X.mg "sorted" = none) (hg2 : Gl X "set" := by rfl) (hm2 : X.mg "set" = none) (hc : X.calm = true := by rfl)
    (na : starEach [a] X.env = (false, eval a X.env) :: starEach [] X.env := by rfl) : ER X (.Call (.Name "sorted" p) [.Call (.Name "set" p2) [a] [] q] [] pos) (mUn gSortSet ma) :=
  er_op' (wp := wp1 X a) (run := one (rSortSet X.K)) (fun σ H Q w => wE (pe_sortSetI hg hm hg2 hm2 peW hc na) (wpE_mono (fun x H1 ⟨_, e, q⟩ => by cases e; exact q) w)) vr_sortSet (aq1 ha)
end
@[simp] def ssK (ns : List Int) : Option R := if ns.length < 60 then some (.val (.fl ((sset ns).map PyData.int))) else none
@[simp] def ssK0 (ds : List D) : Option R := bd (intsD ds) ssK
@[simp] theorem r_gSortSet (x : R) : gSortSet [x] = bd x.lst? ssK0 := bd_of fun ds => bd_of fun ns => rfl
end Tl

namespace L2
open PySem PySem.Spec PyProof.Rows
theorem nodup_sub_len {α : Type} [DecidableEq α] : ∀ {l m : List α}, l.Nodup → (∀ x ∈ l, x ∈ m) → l.length ≤ m.length
  | [], _, _, _ => Nat.zero_le _
  | x :: l, m, n, s => by
    obtain ⟨n1, n2⟩ := List.nodup_cons.mp n
    have mx := s x List.mem_cons_self
    have := nodup_sub_len (l := l) (m := m.erase x) n2 fun y my => (List.mem_erase_of_ne fun (e : y = x) => n1 (by rw [← e]; exact my)).mpr (s y (List.mem_cons_of_mem _ my))
    rw [List.length_erase_of_mem mx] at this
    have := List.length_pos_of_mem mx
    rw [List.length_cons]
    omega
theorem SetR.few {w : World} {h : Heap} {a : Addr} {ns U : List Int} {c : Nat} (R : SetR w h a (fun j => decide (j ∈ ns)) c) (s : ∀ k ∈ ns, k ∈ U) : c ≤ U.length := by
  obtain ⟨o, es, ep, t, ho, hx, hd, g, nd, hm, hb, hf, hn, _⟩ := R
  have := nodup_sub_len (m := U) nd fun k mk => s k (of_decide_eq_true ((hm k).mpr mk))
  rw [List.length_map, Array.length_toList] at this
  omega
section
variable {X : Cx}
end
end L2
namespace Tl
open PySem PySem.Spec PyProof.Rows L2
def gSortSetG : List R → Option R
  | [x] => x.lst?.bind fun ds => (intsD ds).bind fun ns => if ns.length < 4000 ∧ (sset ns).length < 64 then some (.val (.fl ((sset ns).map PyData.int))) else none
  | _ => none
section
variable {X : L2.Cx}
end
@[simp] def ssGK (ns : List Int) : Option R := if ns.length < 4000 ∧ (sset ns).length < 64 then some (.val (.fl ((sset ns).map PyData.int))) else none
@[simp] def ssGK0 (ds : List D) : Option R := bd (intsD ds) ssGK
@[simp] theorem r_gSortSetG (x : R) : gSortSetG [x] = bd x.lst? ssGK0 := bd_of fun ds => bd_of fun ns => rfl
end Tl

namespace Tl
open PySem PySem.Spec PyProof.Rows L2
def gRevL : List R → Option R
  | [x] => x.lst?.map fun ds => .val (.fl ds.reverse)
  | _ => none
section
variable {X : L2.Cx}
end
@[simp] def rvlK (ds : List D) : Option R := some (.val (.fl ds.reverse))
@[simp] theorem r_gRevL (x : R) : gRevL [x] = bd x.lst? rvlK := bd_om fun ds => rfl
end Tl

namespace Tl
open PySem PySem.Spec PyProof.Rows L2 RZ
/-- x..[i] := d -/
def putP (x : Nat) (mp : MP) (mi : MV) (fz : Fz) (d : D) (τ : Tau) : Option Tau := (tget τ x).bind fun u => (mp u ⟨fz, [(x, u)]⟩ (tset τ x .hole)).bind fun q => (mi ⟨fz, [(x, u)]⟩ q.2).bind fun r => (asI r.1).bind fun i =>
  (gPut i q.1.2 [d]).bind fun w => (setP u q.1.1 w.2).map fun u' => tset r.2 x u'
section
variable {X : L2.Cx}
def pair2 : D → Option (D × D)
  | .tuple [a, b] => some (a, b)
  | _ => none
def mSetP2 (x : Nat) (mp : MP) (mi : MV) (y : Nat) (mq : MP) (mj : MV) (me : MV) : MS := fun s => (me ⟨s.fz, []⟩ s.ow).bind fun p => p.1.st.bind fun d => (pair2 d).bind fun ab => (putP x mp mi s.fz ab.1 p.2).bind fun τ => (putP y mq mj s.fz ab.2 τ).map fun τ' => .nx ⟨s.fz, τ'⟩
end
@[simp] theorem r_pair2 (a b : D) : pair2 (.tuple [a, b]) = some (a, b) := rfl
@[simp] def pwK5 (x : Nat) (τ : Tau) (u : T) : Option Tau := some (tset τ x u)
@[simp] def pwK4 (x : Nat) (u : T) (is : List Int) (τ : Tau) : D × T → Option Tau
  | (_, w) => bd (setP u is w) (pwK5 x τ)
@[simp] def pwK3 (x : Nat) (d : D) (u : T) (is : List Int) (w : T) (τ : Tau) (i : Int) : Option Tau := bd (gPut i w [d]) (pwK4 x u is τ)
@[simp] def pwK2 (x : Nat) (d : D) (u : T) (is : List Int) (w : T) : R × Tau → Option Tau
  | (r, τ) => bd (asI r) (pwK3 x d u is w τ)
@[simp] def pwK1 (x : Nat) (mi : MV) (fz : Fz) (d : D) (u : T) : (List Int × T) × Tau → Option Tau
  | ((is, w), τ) => bd (mi ⟨fz, [(x, u)]⟩ τ) (pwK2 x d u is w)
@[simp] def pwK (x : Nat) (mp : MP) (mi : MV) (fz : Fz) (d : D) (τ : Tau) (u : T) : Option Tau := bd (mp u ⟨fz, [(x, u)]⟩ (tset τ x .hole)) (pwK1 x mi fz d u)
@[simp] theorem r_putP (x : Nat) (mp : MP) (mi : MV) (fz : Fz) (d : D) (τ : Tau) : putP x mp mi fz d τ = bd (tget τ x) (pwK x mp mi fz d τ) :=
  bd_of fun u => bd_of fun q => bd_of fun r => bd_of fun i => bd_of fun w => bd_om fun u' => rfl
@[simp] def s2K5 (fz : Fz) (τ : Tau) : Option Out := some (.nx ⟨fz, τ⟩)
@[simp] def s2K4 (y : Nat) (mq : MP) (mj : MV) (fz : Fz) (d : D) (τ : Tau) : Option Out := bd (putP y mq mj fz d τ) (s2K5 fz)
@[simp] def s2K3 (x : Nat) (mp : MP) (mi : MV) (y : Nat) (mq : MP) (mj : MV) (fz : Fz) (τ : Tau) : D × D → Option Out
  | (a, b) => bd (putP x mp mi fz a τ) (s2K4 y mq mj fz b)
@[simp] def s2K2 (x : Nat) (mp : MP) (mi : MV) (y : Nat) (mq : MP) (mj : MV) (fz : Fz) (τ : Tau) (d : D) : Option Out := bd (pair2 d) (s2K3 x mp mi y mq mj fz τ)
@[simp] def s2K1 (x : Nat) (mp : MP) (mi : MV) (y : Nat) (mq : MP) (mj : MV) (fz : Fz) : R × Tau → Option Out
  | (r, τ) => bd r.st (s2K2 x mp mi y mq mj fz τ)
@[simp] theorem r_mSetP2 (x : Nat) (mp : MP) (mi : MV) (y : Nat) (mq : MP) (mj : MV) (me : MV) (fz : Fz) (τ : Tau) : mSetP2 x mp mi y mq mj me ⟨fz, τ⟩ = bd (me ⟨fz, []⟩ τ) (s2K1 x mp mi y mq mj fz) :=
  bd_of fun p => bd_of fun d => bd_of fun ab => bd_of fun τ1 => bd_om fun τ2 => rfl
end Tl

namespace Tl
open PySem PySem.Spec PyProof.Rows L2
def pBool : List D → Option D
  | [.int a] => some (.bool (a != 0))
  | [.bool b] => some (.bool b)
  | _ => none
@[simp] theorem p_bool (a : Int) : pBool [.int a] = some (.bool (a != 0)) := rfl
@[simp] theorem p_boolb (a : Bool) : pBool [.bool a] = some (.bool a) := rfl
end Tl

namespace Tl
open PySem PySem.Spec PyProof.Rows L2
section
variable {X : Cx} {K : PySem.W.Frag} {F B H : Hp}
/-- {x: c} -/
def mDisp1 (j : Nat) (d : D) : MV := fun ro τ => (fget ro.fz j).bind fun kd => (keyOf kd).map fun k => (.val (.dk [(k, d)]), τ)
def ddOf : List T → Option (List (Key × List (Key × D)))
  | [] => some []
  | .tup [.leaf kd, .dk ys] :: r => (keyOf kd).bind fun k => (ddOf r).map ((k, ys) :: ·)
  | _ => none
theorem OwnD.keys : ∀ {kvs : List (Key × V)} {es : List (Key × List (Key × D))} {A : List Addr}, OwnD K F H kvs es A → kvs.map (·.1) = es.map (·.1)
  | _, _, _, .nil => rfl
  | _, _, _, .cons _ _ t => congrArg (_ :: ·) (OwnD.keys t)
def gDictT : List R → Option R
  | [.val (.ls ts)] => (ddOf ts).bind fun es => if (es.map (·.1)).Nodup then some (.val (.dd es)) else none
  | _ => none
end
end Tl

namespace Tl
open PySem PySem.Spec PyProof.Rows L2
section
variable {X : L2.Cx} {K : PySem.W.Frag} {F B H : Hp} {a b : Expr} {ma mb : MV} {p q pos : Pos}
def listDD : D → Option R
  | .dict es => if okDK es = true ∧ es.length ≤ 16000000 then some (.val (.fl (es.map (·.1)))) else none
  | _ => none
def gListD : List R → Option R
  | [x] => x.er.bind listDD
  | _ => none
end
end Tl

namespace Tl
open PySem PySem.Spec PyProof.Rows L2
section
variable {X : L2.Cx} {K : PySem.W.Frag} {F B H : Hp}
def setDD {α : Type} : List (Key × α) → Key → α → List (Key × α)
  | [], _, _ => []
  | p :: es, k, z => if p.1 = k then (p.1, z) :: es else p :: setDD es k z
theorem OwnD.at {k : Key} {xs : List (Key × D)} : ∀ {kvs : List (Key × V)} {es : List (Key × List (Key × D))} {A : List Addr}, OwnD K F H kvs es A → valK es k = some xs → ∃ b kx, valV kvs k = some (.ref b) ∧ H b = some (.dK kx) ∧ KvOk K F kx xs ∧ b ∈ A
  | _, _, _, .nil, e => by cases e
  | _, _, _, .cons (k := j) (b := b) h r t, e => by
    rw [valK_cons] at e
    by_cases q : j = k
    · rw [if_pos q] at e
      cases e
      exact ⟨b, _, valV_pos q, h, r, List.mem_cons_self⟩
    · rw [if_neg q] at e
      obtain ⟨b', kx, e1, e2, e3, e4⟩ := OwnD.at t e
      exact ⟨b', kx, by rw [valV_neg q]; exact e1, e2, e3, List.mem_cons_of_mem _ e4⟩
theorem OwnD.ne {k1 k2 : Key} {b : Addr} : ∀ {kvs : List (Key × V)} {es : List (Key × List (Key × D))} {A : List Addr}, OwnD K F H kvs es A → A.Nodup → valV kvs k1 = some (.ref b) → valV kvs k2 = some (.ref b) → k1 = k2
  | _, _, _, .nil, _, e, _ => by cases e
  | _, _, _, .cons (k := j) (b := c) h r t, n, e, e' => by
    have out : ∀ {kvs : List (Key × V)} {es : List (Key × List (Key × D))} {A : List Addr} {k : Key}, OwnD K F H kvs es A → valV kvs k = some (.ref b) → b ∈ A := by
      intro kvs es A k o
      induction o with
      | nil => intro e; cases e
      | @cons j' b' xs ys kvs es A h r t ih =>
        intro e
        by_cases q : j' = k
        · rw [valV_pos q] at e
          cases e
          exact List.mem_cons_self
        · rw [valV_neg q] at e
          exact List.mem_cons_of_mem _ (ih e)
    obtain ⟨n1, n2⟩ := List.nodup_cons.mp n
    by_cases q1 : j = k1
    · by_cases q2 : j = k2
      · rw [← q1, ← q2]
      · rw [valV_pos q1] at e
        cases e
        rw [valV_neg q2] at e'
        exact absurd (out t e') n1
    · by_cases q2 : j = k2
      · rw [valV_pos q2] at e'
        cases e'
        rw [valV_neg q1] at e
        exact absurd (out t e) n1
      · rw [valV_neg q1] at e
        rw [valV_neg q2] at e'
        exact OwnD.ne t n2 e e'
theorem OwnD.put {k : Key} {b : Addr} {kz : List (Key × V)} {z : List (Key × D)} (r : KvOk K F kz z) : ∀ {kvs : List (Key × V)} {es : List (Key × List (Key × D))} {A : List Addr}, OwnD K F H kvs es A → A.Nodup → valV kvs k = some (.ref b) → OwnD K F (upd H b (.dK kz)) kvs (setDD es k z) A
  | _, _, _, .nil, _, e => by cases e
  | _, _, _, .cons (k := j) (b := c) h r' t, n, e => by
    obtain ⟨n1, n2⟩ := List.nodup_cons.mp n
    unfold setDD
    by_cases q : j = k
    · rw [valV_pos q] at e
      cases e
      rw [if_pos q]
      exact .cons upd_same r (t.stay (Same.refl F) fun a m o y => by
        have e3 : a ≠ b := fun e2 => by
          subst e2
          exact n1 m
        rw [upd_ne e3]
        exact y)
    · rw [valV_neg q] at e
      rw [if_neg q]
      have hb : c ≠ b := fun y => by
        subst y
        have out : ∀ {kvs : List (Key × V)} {es : List (Key × List (Key × D))} {A : List Addr}, OwnD K F H kvs es A → valV kvs k = some (.ref c) → c ∈ A := by
          intro kvs es A o
          induction o with
          | nil => intro e; cases e
          | @cons j' b' xs ys kvs es A h r t ih =>
            intro e
            by_cases q : j' = k
            · rw [valV_pos q] at e
              cases e
              exact List.mem_cons_self
            · rw [valV_neg q] at e
              exact List.mem_cons_of_mem _ (ih e)
        exact n1 (out t e)
      exact .cons (by rw [upd_ne hb]; exact h) r' (OwnD.put r t n2 e)
def updDD : T → Fz → Nat → Nat → Option T
  | .dd es, fz, j1, j2 => (fget fz j1).bind fun d1 => (keyOf d1).bind fun k1 => (fget fz j2).bind fun d2 => (keyOf d2).bind fun k2 => (valK es k1).bind fun xs => (valK es k2).bind fun ys => if k1 ≠ k2 ∧ xs.length + ys.length ≤ 16000000 then some (.dd (setDD es k1 (mergeE xs ys))) else none
  | _, _, _, _ => none
def mUpdDD (i j1 j2 : Nat) : MV := fun ro τ => (tget τ i).bind fun t => (updDD t ro.fz j1 j2).map fun t' => (rd .none, tset τ i t')
end
end Tl

namespace Tl
open PySem PySem.Spec PyProof.Rows L2
section
variable {X : L2.Cx} {K : PySem.W.Frag} {F B H : Hp}
def entK : List (D × D) → Option (List (Key × D))
  | [] => some []
  | (k, d) :: r => (keyOf k).bind fun k => (entK r).map ((k, d) :: ·)
theorem entK_dk : ∀ es : List (Key × D), entK (dkD es) = some es
  | [] => rfl
  | (k, d) :: es => by
    have e : keyOf (keyD k) = some k := by cases k <;> rfl
    show (keyOf (keyD k)).bind _ = _
    rw [e]
    show (entK (dkD es)).map _ = _
    rw [entK_dk es]
    rfl
theorem keyD_inj {a b : Key} (h : keyD a = keyD b) : a = b := by
  cases a <;> cases b <;> cases h <;> rfl
theorem RepK.kv : ∀ {kvs : List (Key × V)} {es : List (D × D)} {fs : List (Key × D)}, RepK K F kvs es → entK es = some fs → KvOk K F kvs fs
  | _, _, _, .nil, e => by
    cases e
    exact .nil
  | _, _, _, .cons (k := k) r t, e => by
    obtain ⟨k', e1, e⟩ := Option.bind_eq_some_iff.mp (show (keyOf (keyD k)).bind _ = some _ from e)
    obtain ⟨fs', e2, e3⟩ := Option.map_eq_some_iff.mp e
    subst e3
    have := keyD_inj (keyOf_D e1)
    subst this
    exact .cons ⟨rfl, r⟩ (RepK.kv t e2)
def gDUpdD : T → List D → Option (D × T)
  | .dk es, [.dict ds] => (entK ds).bind fun fs => if es.length + fs.length ≤ 16000000 then some (.none, .dk (mergeE es fs)) else none
  | _, _ => none
def augD (f : Int → Int) : T → D → Option T
  | .dk es, kd => (keyOf kd).bind fun k => (valK es k).bind fun d => match d with
    | .int i => if es.length < 16000000 then some (.dk (putE es k (.int (f i)))) else none
    | _ => none
  | _, _ => none
def mAugD (x j : Nat) (f : Int → Int) : MS := fun s => (tget s.ow x).bind fun t => (fget s.fz j).bind fun kd => (augD f t kd).map fun t' => .nx ⟨s.fz, tset s.ow x t'⟩
end
end Tl

namespace Tl
open PySem PySem.Spec PyProof.Rows L2
section
variable {K : PySem.W.Frag} {F F' B H H' : Hp} {d : Addr} {od : Obj} {ks : List (Key × V)}
/-- all but what stands at d -/
def dropH (F : Hp) (d : Addr) : Hp := fun b => if b = d then none else F b
theorem drop_ne {a : Addr} {o : HO} (h : a ≠ d) (e : F a = some o) : dropH F d a = some o := by
  unfold dropH
  rw [if_neg h]
  exact e
theorem lk_lst {a : Addr} {xs : List V} (hd : F d = some (.frz od (.dK ks))) (e : F a = some (.lst xs)) : a ≠ d := fun z => by
  subst z
  rw [hd] at e
  cases e
theorem lk_dk {a : Addr} {xs : List (Key × V)} (hd : F d = some (.frz od (.dK ks))) (e : F a = some (.dK xs)) : a ≠ d := fun z => by
  subst z
  rw [hd] at e
  cases e
theorem lk_dn {a : Addr} {xs : List (NK × Addr × V)} (hd : F d = some (.frz od (.dK ks))) (e : F a = some (dnO a xs)) : a ≠ d := fun z => by
  subst z
  rw [hd] at e
  cases e
theorem lk_dl {a : Addr} {o : Obj} {xs : List (NK × Addr × V)} (hd : F d = some (.frz od (.dK ks))) (e : F a = some (.frz o (dnO a xs))) : a ≠ d := fun z => by
  subst z
  rw [hd] at e
  cases e
theorem lk_sqT {a : Addr} {xs : List V} (hd : F d = some (.frz od (.dK ks))) (h : SqT K F a xs) : SqT K (dropH F d) a xs := by
  rcases h with h | h
  · rcases h with h | ⟨o, h⟩
    · exact .inl (.inl (drop_ne (fun z => by subst z; rw [hd] at h; cases h) h))
    · exact .inl (.inr ⟨o, drop_ne (fun z => by subst z; rw [hd] at h; cases h) h⟩)
  · exact .inr h
theorem Rep.drop {v : V} {x : D} (hd : F d = some (.frz od (.dK ks))) (h : Rep K F v x) : Rep K (dropH F d) v x :=
  Rep.rec (K := K) (F := F) (motive_1 := fun v d' _ => Rep K (dropH F d) v d') (motive_2 := fun v d' _ => RepL K (dropH F d) v d') (motive_3 := fun v d' _ => RepK K (dropH F d) v d') (motive_4 := fun v d' _ => RepN K (dropH F d) v d')
    .non .bl .int .str (fun h z _ r => .lst (drop_ne (lk_lst hd h) h) z r) (fun h z _ r => .tup (lk_sqT hd h) z r) (fun h _ r => .dk (drop_ne (lk_dk hd h) h) r) (fun h _ r => .dn (drop_ne (lk_dn hd h) h) r) (fun h _ r => .dl (drop_ne (lk_dl hd h) h) r)
    .nil (fun _ _ a b => .cons a b) .nil (fun _ _ a b => .cons a b) .nil (fun k _ _ _ a b c => .cons k a b c) h
/-- the lock put on -/
theorem Cn.lock {A : List Addr} {kvs : List (Key × V)} (c : Cn F B H (d :: A)) (hd : H d = some (.dK kvs)) (od : Obj) : Cn (upd F d (.frz od (.dK kvs))) B (upd H d (.frz od (.dK kvs))) A ∧ Same F (upd F d (.frz od (.dK kvs))) := by
  have fd := c.fa d List.mem_cons_self
  have bd := c.ba d List.mem_cons_self
  obtain ⟨n1, n2⟩ := List.nodup_cons.mp c.nd
  have sF : Same F (upd F d (.frz od (.dK kvs))) := fun b o e => by
    rw [upd_ne (ne_of_none e fd)]
    exact e
  refine ⟨⟨fun b o e => ?_, fun b o e => ?_, n2, fun a m => ?_, fun a m => c.ba a (List.mem_cons_of_mem _ m), fun a m => ?_⟩, sF⟩
  · by_cases q : b = d
    · subst q
      rw [upd_same] at e ⊢
      exact e
    · rw [upd_ne q] at e ⊢
      exact c.fh b o e
  · have q : b ≠ d := fun z => by
      subst z
      rw [bd] at e
      cases e
    rw [upd_ne q]
    exact c.bh b o e
  · have q : a ≠ d := fun z => n1 (z ▸ m)
    rw [upd_ne q]
    exact c.fa a (List.mem_cons_of_mem _ m)
  · have q : a ≠ d := fun z => n1 (z ▸ m)
    rw [upd_ne q]
    exact c.ha a (List.mem_cons_of_mem _ m)
end
end Tl

namespace Tl
open PySem PySem.Spec PyProof.Rows L2
section
variable {X : L2.Cx} {Pr : List Nat}
/-- d[k] of an owned dict (locked or not), kept -/
def dkOf : T → Option (List (Key × D))
  | .dk es => some es
  | .lk es => some es
  | _ => none
def mGetO (i : Nat) (mb : MV) : MV := fun ro τ => (tget τ i).bind fun _ => (mb ro τ).bind fun p => p.1.er.bind fun kd => (keyOf kd).bind fun k => (tget p.2 i).bind fun t => (dkOf t).bind fun es => (valK es k).map fun d => (rd d, p.2)
end
end Tl

namespace Tl
open PySem PySem.Spec PyProof.Rows L2
section
variable {X : L2.Cx} {K : PySem.W.Frag} {F F' B H : Hp}
abbrev halfE (es : List (Key × List (Key × D))) : List (Key × D) := es.map fun p => (p.1, .dict (dkD p.2))
def halfR : R → R
  | .val (.dd es) => .val (.dk (halfE es))
  | r => r
def mHalf (m : MV) : MV := fun ro τ => (m ro τ).map fun p => (halfR p.1, p.2)
end
@[simp] def dsK2 (d : D) (τ : Tau) (k : Key) : Option (R × Tau) := some (.val (.dk [(k, d)]), τ)
@[simp] def dsK (d : D) (τ : Tau) (kd : D) : Option (R × Tau) := bd (keyOf kd) (dsK2 d τ)
@[simp] theorem r_mDisp1 (j : Nat) (d : D) (ro : Ro) (τ : Tau) : mDisp1 j d ro τ = bd (fget ro.fz j) (dsK d τ) := bd_of fun a => bd_om fun b => rfl
@[simp] theorem fz_dd (es : List (Key × List (Key × D))) : T.fz (.dd es) = some (.dict (ddD es)) := rfl
@[simp] theorem fz_lk (es : List (Key × D)) : T.fz (.lk es) = none := rfl
@[simp] theorem hole_dd (es : List (Key × List (Key × D))) : isHole (.dd es) = false := rfl
@[simp] theorem hole_lk (es : List (Key × D)) : isHole (.lk es) = false := rfl
@[simp] theorem okDK_dd (es : List (Key × List (Key × D))) : okDK (ddD es) = true := by
  cases es with
  | nil => rfl
  | cons p es => cases p with | mk k d => cases k <;> rfl
theorem valE_dd : ∀ (es : List (Key × List (Key × D))) (k : Key), valE (ddD es) k = (valK es k).map fun xs => .dict (dkD xs)
  | [], _ => rfl
  | p :: es, k => by
    rw [valK_cons]
    unfold valE
    rw [show ddD (p :: es) = (keyD p.1, .dict (dkD p.2)) :: ddD es from rfl, List.find?_cons, keyIs_D]
    by_cases h : p.1 = k
    · simp [h]
    · have := valE_dd es k
      unfold valE at this
      rw [decide_eq_false h, if_neg h]
      exact this
@[simp] theorem valE_dd' (es : List (Key × List (Key × D))) (k : Key) : valE (ddD es) k = (valK es k).map fun xs => .dict (dkD xs) := valE_dd es k
@[simp] def gdtK (es : List (Key × List (Key × D))) : Option R := if (es.map (·.1)).Nodup then some (.val (.dd es)) else none
@[simp] theorem r_gDictT (ts : List T) : gDictT [.val (.ls ts)] = bd (ddOf ts) gdtK := bd_of fun a => rfl
@[simp] def hfK : R × Tau → Option (R × Tau)
  | (r, τ) => some (halfR r, τ)
@[simp] theorem r_mHalf (m : MV) (ro : Ro) (τ : Tau) : mHalf m ro τ = bd (m ro τ) hfK := bd_om fun a => rfl
@[simp] theorem half_dd (es : List (Key × List (Key × D))) : halfR (.val (.dd es)) = .val (.dk (halfE es)) := rfl
@[simp] theorem half_dk (es : List (Key × D)) : halfR (.val (.dk es)) = .val (.dk es) := rfl
@[simp] theorem r_gListD (x : R) : gListD [x] = bd x.er listDD := bd_of fun a => rfl
/-- d[k].update(d[j]) -/
@[simp] def udK5 (es : List (Key × List (Key × D))) (k1 k2 : Key) (xs ys : List (Key × D)) : Option T := if k1 ≠ k2 ∧ xs.length + ys.length ≤ 16000000 then some (.dd (setDD es k1 (mergeE xs ys))) else none
@[simp] def udK4 (es : List (Key × List (Key × D))) (k1 k2 : Key) (xs : List (Key × D)) : Option T := bd (valK es k2) (udK5 es k1 k2 xs)
@[simp] def udK3 (es : List (Key × List (Key × D))) (k1 k2 : Key) : Option T := bd (valK es k1) (udK4 es k1 k2)
@[simp] def udK2 (es : List (Key × List (Key × D))) (k1 : Key) (d2 : D) : Option T := bd (keyOf d2) (udK3 es k1)
@[simp] def udK1 (es : List (Key × List (Key × D))) (fz : Fz) (j2 : Nat) (k1 : Key) : Option T := bd (fget fz j2) (udK2 es k1)
@[simp] def udK0 (es : List (Key × List (Key × D))) (fz : Fz) (j2 : Nat) (d1 : D) : Option T := bd (keyOf d1) (udK1 es fz j2)
@[simp] theorem r_updDD (es : List (Key × List (Key × D))) (fz : Fz) (j1 j2 : Nat) : updDD (.dd es) fz j1 j2 = bd (fget fz j1) (udK0 es fz j2) :=
  bd_of fun a => bd_of fun b => bd_of fun c => bd_of fun d => bd_of fun e => bd_of fun f => rfl
@[simp] def muK2 (i : Nat) (τ : Tau) (t : T) : Option (R × Tau) := some (rd .none, tset τ i t)
@[simp] def muK1 (i j1 j2 : Nat) (fz : Fz) (τ : Tau) (t : T) : Option (R × Tau) := bd (updDD t fz j1 j2) (muK2 i τ)
@[simp] theorem r_mUpdDD (i j1 j2 : Nat) (ro : Ro) (τ : Tau) : mUpdDD i j1 j2 ro τ = bd (tget τ i) (muK1 i j1 j2 ro.fz τ) := bd_of fun a => bd_om fun b => rfl
/-- reading an owned dict -/
@[simp] theorem dkOf_dk (es : List (Key × D)) : dkOf (.dk es) = some es := rfl
@[simp] theorem dkOf_lk (es : List (Key × D)) : dkOf (.lk es) = some es := rfl
@[simp] def goK6 (τ : Tau) (d : D) : Option (R × Tau) := some (rd d, τ)
@[simp] def goK5 (τ : Tau) (k : Key) (es : List (Key × D)) : Option (R × Tau) := bd (valK es k) (goK6 τ)
@[simp] def goK4 (τ : Tau) (k : Key) (t : T) : Option (R × Tau) := bd (dkOf t) (goK5 τ k)
@[simp] def goK3 (i : Nat) (τ : Tau) (k : Key) : Option (R × Tau) := bd (tget τ i) (goK4 τ k)
@[simp] def goK2 (i : Nat) (τ : Tau) (kd : D) : Option (R × Tau) := bd (keyOf kd) (goK3 i τ)
@[simp] def goK1 (i : Nat) : R × Tau → Option (R × Tau)
  | (r, τ) => bd r.er (goK2 i τ)
@[simp] def goK0 (i : Nat) (mb : MV) (ro : Ro) (τ : Tau) (_ : T) : Option (R × Tau) := bd (mb ro τ) (goK1 i)
@[simp] theorem r_mGetO (i : Nat) (mb : MV) (ro : Ro) (τ : Tau) : mGetO i mb ro τ = bd (tget τ i) (goK0 i mb ro τ) :=
  bd_of fun a => bd_of fun b => bd_of fun c => bd_of fun d => bd_of fun e => bd_of fun f => bd_om fun g => rfl
/-- d[k] += c -/
@[simp] def auK3 (f : Int → Int) (es : List (Key × D)) (k : Key) : D → Option T
  | .int i => if es.length < 16000000 then some (.dk (putE es k (.int (f i)))) else none
  | _ => none
@[simp] def auK2 (f : Int → Int) (es : List (Key × D)) (k : Key) : Option T := bd (valK es k) (auK3 f es k)
@[simp] theorem r_augD (f : Int → Int) (es : List (Key × D)) (kd : D) : augD f (.dk es) kd = bd (keyOf kd) (auK2 f es) := bd_of fun a => bd_of fun b => by
  cases b <;> rfl
@[simp] def maK2 (x : Nat) (s : SS) (t : T) : Option Out := some (.nx ⟨s.fz, tset s.ow x t⟩)
@[simp] def maK1 (x : Nat) (f : Int → Int) (s : SS) (t : T) (kd : D) : Option Out := bd (augD f t kd) (maK2 x s)
@[simp] def maK0 (x j : Nat) (f : Int → Int) (s : SS) (t : T) : Option Out := bd (fget s.fz j) (maK1 x f s t)
@[simp] theorem r_mAugD (x j : Nat) (f : Int → Int) (s : SS) : mAugD x j f s = bd (tget s.ow x) (maK0 x j f s) := bd_of fun a => bd_of fun b => bd_om fun c => rfl
/-- d.update(dict) -/
@[simp] def duK (es : List (Key × D)) (fs : List (Key × D)) : Option (D × T) := if es.length + fs.length ≤ 16000000 then some (.none, .dk (mergeE es fs)) else none
@[simp] theorem r_gDUpdD (es : List (Key × D)) (ds : List (D × D)) : gDUpdD (.dk es) [.dict ds] = bd (entK ds) (duK es) := bd_of fun a => rfl
@[simp] theorem entK_dk' (es : List (Key × D)) : entK (dkD es) = some es := entK_dk es
@[simp] def lkK2 (τ : Tau) (es : List (Key × D)) : Option (List D × Tau) := if es.length ≤ 16000000 then some (es.map fun p => keyD p.1, τ) else none
end Tl

namespace Tl
open PySem PySem.Spec PyProof.Rows L2
section
variable {X : L2.Cx} {K : PySem.W.Frag}
def gLenD : List R → Option R
  | [x] => x.er.bind fun d => match d with
    | .dict es => if okDK es = true then some (rInt (es.length : Nat)) else none
    | _ => none
  | _ => none
/-- x in d -/
def inO (neg : Bool) (t : T) (kd : D) : Option Bool := (keyOf kd).bind fun k => (dkOf t).map fun es => if neg then !(valK es k).isSome else (valK es k).isSome
def mInO (neg : Bool) (i : Nat) (mb : MV) : MV := fun ro τ => (mb ro τ).bind fun p => p.1.er.bind fun kd => (tget p.2 i).bind fun t => (inO neg t kd).map fun b => (rd (.bool b), p.2)
variable {a b : Expr} {ma : MV} {pos : Pos} {i j : Nat}
end
@[simp] theorem r_gLenD (es : List (D × D)) : gLenD [.val (.leaf (.dict es))] = if okDK es = true then some (rInt (es.length : Nat)) else none := rfl
@[simp] theorem r_gLenDk (es : List (Key × D)) : gLenD [.val (.dk es)] = some (rInt (es.length : Nat)) := by
  show (if okDK (dkD es) = true then some (rInt ((dkD es).length : Nat)) else none) = _
  rw [if_pos (okDK_dk es), List.length_map]
@[simp] theorem r_gLenDv (es : List (Key × D)) : gLenD [.vw (.dk es)] = some (rInt (es.length : Nat)) := by
  show (if okDK (dkD es) = true then some (rInt ((dkD es).length : Nat)) else none) = _
  rw [if_pos (okDK_dk es), List.length_map]
@[simp] def inOK4 (τ : Tau) (b : Bool) : Option (R × Tau) := some (rd (.bool b), τ)
@[simp] def inOK3 (neg : Bool) (kd : D) (τ : Tau) (t : T) : Option (R × Tau) := bd (inO neg t kd) (inOK4 τ)
@[simp] def inOK2 (neg : Bool) (i : Nat) (τ : Tau) (kd : D) : Option (R × Tau) := bd (tget τ i) (inOK3 neg kd τ)
@[simp] def inOK (neg : Bool) (i : Nat) : R × Tau → Option (R × Tau)
  | (r, τ) => bd r.er (inOK2 neg i τ)
@[simp] theorem r_mInO (neg : Bool) (i : Nat) (mb : MV) (ro : Ro) (τ : Tau) : mInO neg i mb ro τ = bd (mb ro τ) (inOK neg i) := bd_of fun a => bd_of fun b => bd_of fun c => bd_om fun d => rfl
@[simp] theorem inO_dk (neg : Bool) (es : List (Key × D)) (kd : D) : inO neg (.dk es) kd = (keyOf kd).map fun k => if neg then !(valK es k).isSome else (valK es k).isSome := by
  unfold inO
  cases keyOf kd <;> rfl
@[simp] theorem inO_lk (neg : Bool) (es : List (Key × D)) (kd : D) : inO neg (.lk es) kd = (keyOf kd).map fun k => if neg then !(valK es k).isSome else (valK es k).isSome := by
  unfold inO
  cases keyOf kd <;> rfl
end Tl

namespace Tl
open PySem PySem.Spec PyProof.Rows L2
mutual
def nk : D → Option NK
  | .none => some .none
  | .int i => some (.num i)
  | .tuple ds => (nkL ds).map .tup
  | _ => none
def nkL : List D → Option (List NK)
  | [] => some []
  | d :: ds => (nk d).bind fun k => (nkL ds).map (k :: ·)
end
def keyN (d : D) : Option NK := (nk d).bind fun k => if okN k = true then some k else none
mutual
theorem nk_ok : ∀ (d : D) (k : NK), nk d = some k → d = k.data ∧ tfree k = true
  | .none, k, e => by
    cases e
    exact ⟨rfl, rfl⟩
  | .int i, k, e => by
    cases e
    exact ⟨rfl, rfl⟩
  | .tuple ds, k, e => by
    obtain ⟨ks, e1, e2⟩ := Option.map_eq_some_iff.mp (show (nkL ds).map NestedKey.tup = some k from e)
    subst e2
    obtain ⟨h1, h2⟩ := nkL_ok ds ks e1
    subst h1
    exact ⟨rfl, h2⟩
  | .bool _, _, e => by cases e
  | .str _, _, e => by cases e
  | .list _, _, e => by cases e
  | .dict _, _, e => by cases e
theorem nkL_ok : ∀ (ds : List D) (ks : List NK), nkL ds = some ks → ds = NestedKey.datas ks ∧ tfreeL ks = true
  | [], ks, e => by
    cases e
    exact ⟨rfl, rfl⟩
  | d :: ds, ks, e => by
    obtain ⟨k, e1, e⟩ := Option.bind_eq_some_iff.mp (show (nk d).bind _ = some ks from e)
    obtain ⟨r, e2, e3⟩ := Option.map_eq_some_iff.mp e
    subst e3
    obtain ⟨h1, h2⟩ := nk_ok d k e1
    obtain ⟨h3, h4⟩ := nkL_ok ds r e2
    subst h1 h3
    refine ⟨rfl, ?_⟩
    show (tfree k && tfreeL r) = true
    rw [h2, h4]
    rfl
end
mutual
theorem nk_data : ∀ (k : NK), tfree k = true → nk k.data = some k
  | .none, _ => rfl
  | .num _, _ => rfl
  | .text _, h => by cases h
  | .tup ks, h => by
    show (nkL (NestedKey.datas ks)).map NestedKey.tup = _
    rw [nkL_datas ks h]
    rfl
theorem nkL_datas : ∀ (ks : List NK), tfreeL ks = true → nkL (NestedKey.datas ks) = some ks
  | [], _ => rfl
  | k :: ks, h => by
    have h' : (tfree k && tfreeL ks) = true := h
    rw [Bool.and_eq_true] at h'
    show (nk k.data).bind (fun k => (nkL (NestedKey.datas ks)).map (k :: ·)) = _
    rw [nk_data k h'.1, nkL_datas ks h'.2]
    rfl
end
theorem keyN_ok {d : D} {k : NK} (h : keyN d = some k) : d = k.data ∧ okN k = true := by
  obtain ⟨k', e1, e⟩ := Option.bind_eq_some_iff.mp (show (nk d).bind _ = some k from h)
  by_cases q : okN k' = true
  · rw [if_pos q] at e
    cases e
    exact ⟨(nk_ok d k e1).1, q⟩
  · rw [if_neg q] at e
    cases e
theorem keyN_data {k : NK} (h : okN k = true) : keyN k.data = some k := by
  unfold keyN
  rw [nk_data k (okN_free h)]
  show (if okN k = true then some k else none) = _
  rw [if_pos h]
theorem okN_tup {k : NK} (h : okN k = true) : ∃ ks, k = .tup ks := by
  cases k with
  | tup ks => exact ⟨ks, rfl⟩
  | _ => cases h
def valN (kvs : List (NK × Addr × V)) (k : NK) : Option V := (kvs.find? fun p => decide (p.1 = k)).map (·.2.2)
def putN (kvs : List (NK × Addr × V)) (k : NK) (b : Addr) (v : V) : List (NK × Addr × V) :=
  if (kvs.any fun p => decide (p.1 = k)) = true then kvs.map (fun p => if p.1 = k then (p.1, p.2.1, v) else p) else kvs ++ [(k, b, v)]
abbrev KN : List (NK × Addr × V) → List (NK × Addr × Value) → Prop := Paired fun p q => p.1 = q.1 ∧ p.2.1 = q.2.1 ∧ RelV p.2.2 q.2.2
def DnAt (H : Hp) (a : Addr) (kvs : List (NK × Addr × V)) : Prop := H a = some (dnO a kvs) ∨ ∃ o, H a = some (.frz o (dnO a kvs))
def NH (K : PySem.W.Frag) (H : Hp) (kvs : List (NK × Addr × V)) : Prop := ∀ p ∈ kvs, okN p.1 = true ∧ Rep K H (.ref p.2.1) p.1.data
theorem valN_cons (p : NK × Addr × V) (kvs : List (NK × Addr × V)) (k : NK) : valN (p :: kvs) k = if p.1 = k then some p.2.2 else valN kvs k := by
  unfold valN
  rw [List.find?_cons]
  by_cases h : p.1 = k <;> simp [h]
theorem atKey_cons {κ : Type} [DecidableEq κ] (p : κ × Addr × Value) (kvs : List (κ × Addr × Value)) (k : κ) : atKey (p :: kvs) k = if p.1 = k then some p.2 else atKey kvs k := by
  unfold atKey
  rw [List.find?_cons]
  by_cases h : p.1 = k <;> simp [h]
theorem KN.val (k : NK) : ∀ {kvs : List (NK × Addr × V)} {xs : List (NK × Addr × Value)}, KN kvs xs → RelO (valN kvs k) ((atKey xs k).map (·.2))
  | _, _, .nil => True.intro
  | _, _, .cons (a := p) (b := q) h t => by
    rw [valN_cons, atKey_cons, h.1]
    by_cases e : q.1 = k
    · rw [if_pos e, if_pos e]
      exact h.2.2
    · rw [if_neg e, if_neg e]
      exact KN.val k t
theorem KN.anyS (k : NK) : ∀ {kvs : List (NK × Addr × V)} {xs : List (NK × Addr × Value)}, KN kvs xs → (kvs.any fun p => decide (p.1 = k)) = (atKey xs k).isSome
  | _, _, .nil => rfl
  | _, _, .cons (a := p) (b := q) h t => by
    rw [List.any_cons, atKey_cons, h.1, KN.anyS k t]
    by_cases e : q.1 = k <;> simp [e]
theorem KN.repl {k : NK} {v : V} {u : Value} (r : RelV v u) : ∀ {kvs : List (NK × Addr × V)} {xs : List (NK × Addr × Value)}, KN kvs xs → KN (kvs.map fun p => if p.1 = k then (p.1, p.2.1, v) else p) (xs.map (PySem.putAt k u))
  | _, _, .nil => .nil
  | _, _, .cons (a := p) (b := q) h t => by
    refine .cons ?_ (KN.repl r t)
    unfold PySem.putAt
    show (if p.1 = k then (p.1, p.2.1, v) else p).1 = (if q.1 = k then (q.1, q.2.1, u) else q).1 ∧ (if p.1 = k then (p.1, p.2.1, v) else p).2.1 = (if q.1 = k then (q.1, q.2.1, u) else q).2.1 ∧ RelV (if p.1 = k then (p.1, p.2.1, v) else p).2.2 (if q.1 = k then (q.1, q.2.1, u) else q).2.2
    by_cases e : q.1 = k
    · rw [if_pos e, if_pos (show p.1 = k from h.1.trans e)]
      exact ⟨h.1, h.2.1, r⟩
    · rw [if_neg e, if_neg (show ¬ p.1 = k from fun z => e (h.1.symm.trans z))]
      exact h
theorem KN.snoc {p : NK × Addr × V} {q : NK × Addr × Value} (hq : p.1 = q.1 ∧ p.2.1 = q.2.1 ∧ RelV p.2.2 q.2.2) : ∀ {kvs : List (NK × Addr × V)} {xs : List (NK × Addr × Value)}, KN kvs xs → KN (kvs ++ [p]) (xs ++ [q])
  | _, _, .nil => .cons hq .nil
  | _, _, .cons h t => .cons h (KN.snoc hq t)
theorem KN.put {k : NK} {b : Addr} {v : V} {u : Value} (r : RelV v u) {kvs : List (NK × Addr × V)} {xs : List (NK × Addr × Value)} (h : KN kvs xs) : KN (putN kvs k b v) (storedH xs k b u) := by
  unfold putN storedH
  rw [h.anyS k]
  by_cases e : (atKey xs k).isSome = true
  · rw [if_pos e, if_pos e]
    exact KN.repl r h
  · rw [if_neg e, if_neg e]
    exact KN.snoc ⟨rfl, rfl, r⟩ h
theorem putN_len (kvs : List (NK × Addr × V)) (k : NK) (b : Addr) (v : V) : (putN kvs k b v).length ≤ kvs.length + 1 := by
  unfold putN
  split <;> simp
theorem NH.put {K : PySem.W.Frag} {H : Hp} {kvs : List (NK × Addr × V)} {k : NK} {b : Addr} {v : V} (h : NH K H kvs) (o : okN k = true) (r : Rep K H (.ref b) k.data) : NH K H (putN kvs k b v) := by
  intro p m
  unfold putN at m
  split at m
  · obtain ⟨q, m1, e⟩ := List.mem_map.mp m
    by_cases z : q.1 = k
    · rw [if_pos z] at e
      subst e
      exact h q m1
    · rw [if_neg z] at e
      subst e
      exact h q m1
  · rcases List.mem_append.mp m with m | m
    · exact h p m
    · rw [List.mem_singleton.mp m]
      exact ⟨o, r⟩
theorem NH.mono {K : PySem.W.Frag} {H H' : Hp} {kvs : List (NK × Addr × V)} (h : NH K H kvs) (s : Same H H') : NH K H' kvs := fun p m => ⟨(h p m).1, (h p m).2.mono s⟩
theorem DnAt.mono {H H' : Hp} {a : Addr} {kvs : List (NK × Addr × V)} (h : DnAt H a kvs) (s : Same H H') : DnAt H' a kvs := by
  rcases h with h | ⟨o, h⟩
  · exact .inl (s _ _ h)
  · exact .inr ⟨o, s _ _ h⟩
theorem raw_eq {P : Program} {w : World} : ∀ {kvs : List (NK × Addr × V)} {xs : List (NK × Addr × Value)}, KN kvs xs → (∀ p ∈ kvs, okN p.1 = true) → xs.map (entryOfKey (nestedKind P w)) = xs.map fun x => (⟨nhash x.1, .ref x.2.1, x.2.2⟩ : DictEntry)
  | _, _, .nil, _ => rfl
  | _, _, .cons (a := p) (b := q) h t, o => by
    rw [List.map_cons, List.map_cons, raw_eq t fun p m => o p (List.mem_cons_of_mem _ m)]
    have e : (nestedKind P w).hash q.1 = nhash q.1 := hash_free w q.1 (okN_free (by rw [← h.1]; exact o p List.mem_cons_self))
    show DictEntry.mk ((nestedKind P w).hash q.1) _ _ :: _ = _
    rw [e]
section
variable {X : Cx} {pins : List (Addr × Obj)} {σ : L2.St} {H : Hp} {s : Shared}
mutual
theorem key_is (I : Inv X pins σ H s) : ∀ (k : NK) {v : V} {u : Value}, tfree k = true → Rep X.K H v k.data → RelV v u → NestedIs s.heap k u
  | .none, v, u, _, r, q => by
    cases r
    cases (show u = Value.none from q)
    exact .none
  | .num i, v, u, _, r, q => by
    cases r
    obtain ⟨t, q⟩ := (show ∃ t, u = Value.int i t from q)
    cases q
    exact .int i t
  | .text _, _, _, h, _, _ => by cases h
  | .tup ks, v, u, h, r, q => by
    cases r with
    | @tup a xs _ g1 g2 g3 =>
      cases (show u = Value.ref a from q)
      obtain ⟨its, rv, ⟨o, h1, h2, n, h3⟩, _⟩ := I.tuple g1
      exact .tup h1 h2 h3 (by simpa using keys_is I ks h g3 rv)
theorem keys_is (I : Inv X pins σ H s) : ∀ (ks : List NK) {xs : List V} {us : List Value}, tfreeL ks = true → RepL X.K H xs (NestedKey.datas ks) → Vals xs us → NestedAll s.heap ks us
  | [], _, _, _, r, q => by
    cases r
    cases q
    exact .nil
  | k :: ks, _, _, h, r, q => by
    have h' : (tfree k && tfreeL ks) = true := h
    rw [Bool.and_eq_true] at h'
    cases r with
    | cons r1 r2 =>
      cases q with
      | cons q1 q2 => exact .cons (key_is I k h'.1 r1 q1) (keys_is I ks h'.2 r2 q2)
end
theorem key_at (I : Inv X pins σ H s) {k : NK} {b : Addr} (o : okN k = true) (r : Rep X.K H (.ref b) k.data) : (nestedKind X.prog X.w).is s.heap k b := ⟨key_is I k (okN_free o) r (show Value.ref b = Value.ref b from rfl), okN_depth o⟩
theorem dnp {kvs : List (NK × Addr × V)} {a : Addr} (I : Inv X pins σ H s) (e : DnAt H a kvs) : ObjOk X.prog X.w H s.heap a (dnO a kvs) := by
  rcases e with e | ⟨o, e⟩
  · exact I.hok a _ e
  · exact (I.hok a _ e).2
theorem dn_of {kvs : List (NK × Addr × V)} {a : Addr} (I : Inv X pins σ H s) (e : DnAt H a kvs) (nh : NH X.K H kvs) :
    kvs.length ≤ sizeLine ∧ (a == sysModules) = false ∧ ∃ xs, KN kvs xs ∧ s.heap.DictOfH (nestedKind X.prog X.w) a xs := by
  obtain ⟨⟨z, hd, xs, rel, o, es, ep, h1, h2, h3, h4, h5⟩, _⟩ := dnp I e
  refine ⟨z, hd, xs, rel, o, es, ep, h1, h2, h3, by rw [h4, raw_eq rel fun p m => (nh p m).1], ?_, h5⟩
  have all : ∀ {l : List (NK × Addr × V)} {m : List (NK × Addr × Value)}, KN l m → NH X.K H l → ∀ x ∈ m, (nestedKind X.prog X.w).is s.heap x.1 x.2.1 := by
    intro l m q
    induction q with
    | nil => intro _ x hx; exact nomatch hx
    | @cons p q ps qs hq t ih =>
      intro nh x hx
      rcases List.mem_cons.mp hx with e | hx
      · subst e
        obtain ⟨n1, n2⟩ := nh p List.mem_cons_self
        rw [← hq.1, ← hq.2.1]
        exact key_at I n1 n2
      · exact ih (fun p m => nh p (List.mem_cons_of_mem _ m)) x hx
  exact all rel nh
theorem dn_new {P : Program} {w : World} {H' : Hp} {h' : Heap} {a : Addr} {kvs : List (NK × Addr × V)} {xs : List (NK × Addr × Value)} (z : kvs.length ≤ sizeLine) (hd : (a == sysModules) = false) (rel : KN kvs xs) (ok : ∀ p ∈ kvs, okN p.1 = true) (dd : h'.DictOfH (nestedKind P w) a xs) :
    ObjOk P w H' h' a (dnO a kvs) := by
  obtain ⟨o, es, ep, h1, h2, h3, h4, _, h5⟩ := dd
  refine ⟨⟨z, hd, xs, rel, o, es, ep, h1, h2, h3, by rw [h4, raw_eq rel ok], h5⟩, ⟨o, h1⟩, fun ha hb p k => ?_⟩
  obtain ⟨z, hd, xs, rel, o, es, ep, h1, r⟩ := p
  exact ⟨z, hd, xs, rel, o, es, ep, k _ h1, r⟩
/-- what the dict at a holds at the key at b -/
def NGet (K : PySem.W.Frag) (H : Hp) (a b : Addr) (o : Option V) : Prop := ∃ kvs k, DnAt H a kvs ∧ NH K H kvs ∧ okN k = true ∧ Rep K H (.ref b) k.data ∧ o = valN kvs k
variable {a b : Addr} {v : V} {u r : Value} {o : Option V} {A : Around} {E : Value → Shared → Prop}
theorem n_room (hu : A.units + 9 < cLine) : (nestedKind X.prog X.w).room A.in1 := by
  show A.in1.units + 8 < cLine
  rw [Around.in1_units]
  omega
theorem n_getItem {Q : Value → Shared → Prop} (hu : A.units + 9 < cLine) (I : Inv X pins σ H s) (g : NGet X.K H a b (some v)) (h : ∀ w' s', Inv X pins σ H s' → RelV v w' → Q w' s') :
    wpAny (model X.prog X.w) A (getItem (.ref a) (.ref b)) Q E s := by
  obtain ⟨kvs, k, e, nh, ok, rk, l⟩ := g
  obtain ⟨z, hd, xs, rel, dd⟩ := dn_of I e nh
  obtain ⟨w', hw, rw'⟩ := RelO.some_of (v := v) (o := (atKey xs k).map (·.2)) (by rw [l]; exact KN.val k rel)
  obtain ⟨p, hp, hp2⟩ := Option.map_eq_some_iff.mp hw
  refine wpAny_getItem_heap (n_room hu) (key_at I ok rk) dd hp ?_
  rw [hp2]
  exact h w' _ (I.tok _) rw'
theorem n_in {Q : Value → Shared → Prop} (hu : A.units + 9 < cLine) (I : Inv X pins σ H s) (g : NGet X.K H a b o) (h : ∀ s', Inv X pins σ H s' → Q (.bool o.isSome) s') :
    wpAny (model X.prog X.w) A (compareOp .In (.ref b) (.ref a)) Q E s := by
  obtain ⟨kvs, k, e, nh, ok, rk, l⟩ := g
  obtain ⟨z, hd, xs, rel, dd⟩ := dn_of I e nh
  refine wpAny_in_heap (n_room hu) (key_at I ok rk) hd dd ?_
  have q := (KN.val k rel).isSome_eq
  rw [Option.isSome_map] at q
  rw [← q, ← l]
  exact h _ (I.tok _)
theorem n_notIn {Q : Value → Shared → Prop} (hu : A.units + 9 < cLine) (I : Inv X pins σ H s) (g : NGet X.K H a b o) (h : ∀ s', Inv X pins σ H s' → Q (.bool (!o.isSome)) s') :
    wpAny (model X.prog X.w) A (compareOp .NotIn (.ref b) (.ref a)) Q E s := by
  obtain ⟨kvs, k, e, nh, ok, rk, l⟩ := g
  obtain ⟨z, hd, xs, rel, dd⟩ := dn_of I e nh
  refine wpAny_notIn_heap (n_room hu) (key_at I ok rk) hd dd ?_
  have q := (KN.val k rel).isSome_eq
  rw [Option.isSome_map] at q
  rw [← q, ← l]
  exact h _ (I.tok _)
theorem n_getOr {d : V} {Q : Value → Shared → Prop} (hu : A.units + 9 < cLine) (I : Inv X pins σ H s) (g : NGet X.K H a b o) (rd : RelV d r) (h : ∀ w' s', Inv X pins σ H s' → RelV (o.getD d) w' → Q w' s') :
    wpAny (model X.prog X.w) A (call (.builtin "dict.get") [.ref a, .ref b, r]) Q E s := by
  obtain ⟨kvs, k, e, nh, ok, rk, l⟩ := g
  obtain ⟨z, hd, xs, rel, dd⟩ := dn_of I e nh
  refine getOr_keyed (n_room hu) (key_at I ok rk) hd ⟨xs, dd, rfl⟩ (h _ _ (I.tok _) ?_)
  rw [valueAt_pairsH]
  have q := KN.val k rel
  rw [← l] at q
  cases ho : o with
  | none =>
    rw [ho] at q
    rw [RelO.none_of q]
    exact rd
  | some v =>
    rw [ho] at q
    obtain ⟨w', hw, rw'⟩ := RelO.some_of q
    rw [hw]
    exact rw'
theorem n_setItem {kvs : List (NK × Addr × V)} {k : NK} {Q : Unit → Shared → Prop} (hu : A.units + 9 < cLine) (I : Inv X pins σ H s) (e : H a = some (dnO a kvs)) (nh : NH X.K H kvs) (ok : okN k = true) (rk : Rep X.K H (.ref b) k.data) (hl : kvs.length < sizeLine) (rv : RelV v r)
    (h : ∀ s', Inv X pins σ (upd H a (dnO a (putN kvs k b v))) s' → Q () s') : wpAny (model X.prog X.w) A (setItem (.ref a) (.ref b) r) Q E s := by
  obtain ⟨z, hd, xs, rel, dd⟩ := dn_of I (.inl e) nh
  have hz : xs.length ≤ sizeLine := by rw [← Paired.length rel]; exact z
  have hl' : (putN kvs k b v).length ≤ sizeLine := by have := putN_len kvs k b v; omega
  refine wpAny_setItem_heap (hsz := hz) (n_room hu) (key_at I ok rk) dd fun h' dd' hs => h _ ?_
  have he : ∃ q, h'.get? a = some q := let ⟨q, _, _, hq, _⟩ := dd'; ⟨q, hq⟩
  exact d_write I (by rw [e]; exact True.intro) hs he (dn_new hl' hd (KN.put rv rel) (fun p m => (nh.put (v := v) ok rk p m).1) dd')
end
def rNIn (K : PySem.W.Frag) : R2 := fun y x H Q => ∃ a b o, x = .ref a ∧ y = .ref b ∧ NGet K H a b o ∧ Q (.bl o.isSome) H
def rNNotIn (K : PySem.W.Frag) : R2 := fun y x H Q => ∃ a b o, x = .ref a ∧ y = .ref b ∧ NGet K H a b o ∧ Q (.bl (!o.isSome)) H
def rNGet (K : PySem.W.Frag) : R2 := fun x y H Q => ∃ a b v, x = .ref a ∧ y = .ref b ∧ NGet K H a b (some v) ∧ Q v H
def sNPut (K : PySem.W.Frag) (td ty tv : TE) : TS := fun D σ H => tv σ H fun v H1 => td σ H1 fun x H2 => ty σ H2 fun y H3 => ∃ a b kvs k, x = .ref a ∧ y = .ref b ∧ H3 a = some (dnO a kvs) ∧ NH K H3 kvs ∧ okN k = true ∧ Rep K H3 (.ref b) k.data ∧ kvs.length < sizeLine ∧ D.nx σ (upd H3 a (dnO a (putN kvs k b v)))
section
variable {X : Cx} {o i e value : Expr} {pos pos' tpos : Pos} {td ty tv : TE}
theorem typ_dn {pins : List (Addr × Obj)} {σ : L2.St} {H : Hp} {s : Shared} {kvs : List (NK × Addr × V)} {a : Addr} (I : Inv X pins σ H s) (e : DnAt H a kvs) : s.TypeIs (.ref a) "dict" := by
  obtain ⟨⟨z, hd, xs, rel, o, es, ep, h1, h2, _⟩, _⟩ := dnp I e
  exact ⟨o, h1, h2.1⟩
theorem pe_nget (hu : X.A.units + 9 < cLine) (ho : PE X o td) (hi : PE X i ty) (hs : NoSl i) : PE X (.Subscript o i pos) (tOp (rNGet X.K) td ty) := by
  refine ⟨fun pins s σ H Q I h => ?_⟩
  refine subD_of PySem.F.slot_dict_getitem.lookup hs (thn (ho.run pins s σ H _ I h) fun u s1 ⟨x, H1, I1, rx, q1⟩ => thn (hi.run pins s1 σ H1 _ I1 q1) fun iv s2 ⟨y, H2, I2, ry, a, b, v, ex, ey, g, q2⟩ => ?_)
  subst ex ey
  obtain rfl : u = Value.ref a := rx
  obtain rfl : iv = Value.ref b := ry
  have g0 := g
  obtain ⟨kvs, k, e, _⟩ := g0
  exact ⟨typ_dn I2 e, n_getItem hu I2 g fun w' s3 I3 rw' => ⟨v, H2, I3, rw', q2⟩⟩
theorem pc_nin (hu : X.A.units + 9 < cLine) (hi : PE X i ty) (ho : PE X o td) : PC X .In i o (tOp (rNIn X.K) ty td) := by
  refine ⟨fun pins s σ H Q I h => ?_⟩
  refine thn (hi.run pins s σ H _ I h) fun iv s1 ⟨y, H1, I1, ry, q1⟩ => thn (ho.run pins s1 σ H1 _ I1 q1) fun u s2 ⟨x, H2, I2, rx, a, b, ov, ex, ey, g, q2⟩ => ?_
  subst ex ey
  obtain rfl : u = Value.ref a := rx
  obtain rfl : iv = Value.ref b := ry
  exact n_in hu I2 g fun s3 I3 => ⟨.bl ov.isSome, H2, I3, rfl, q2⟩
theorem pc_nnotin (hu : X.A.units + 9 < cLine) (hi : PE X i ty) (ho : PE X o td) : PC X .NotIn i o (tOp (rNNotIn X.K) ty td) := by
  refine ⟨fun pins s σ H Q I h => ?_⟩
  refine thn (hi.run pins s σ H _ I h) fun iv s1 ⟨y, H1, I1, ry, q1⟩ => thn (ho.run pins s1 σ H1 _ I1 q1) fun u s2 ⟨x, H2, I2, rx, a, b, ov, ex, ey, g, q2⟩ => ?_
  subst ex ey
  obtain rfl : u = Value.ref a := rx
  obtain rfl : iv = Value.ref b := ry
  exact n_notIn hu I2 g fun s3 I3 => ⟨.bl (!ov.isSome), H2, I3, rfl, q2⟩
theorem ps_nput (hu : X.A.units + 9 < cLine) (ho : PE X o td) (hi : PE X i ty) (hv : PE X value tv) (hs : swapsWith value (some (.Subscript o i pos')) pos.line X.env = pure false) :
    PS X (.Assign [.Subscript o i pos'] value pos) (sNPut X.K td ty tv) := by
  refine ⟨fun pins s σ H D I h => ?_⟩
  refine wpAny_Assign_Subscript (thn (hv.run pins s σ H _ I h) fun r s1 ⟨v, H1, I1, rv, q1⟩ => thn (ho.run pins s1 σ H1 _ I1 q1) fun u s2 ⟨x, H2, I2, rx, q2⟩ => thn (hi.run pins s2 σ H2 _ I2 q2) fun iv s3 ⟨y, H3, I3, ry, a, b, kvs, k, ex, ey, e, nh, ok, rk, hl, q3⟩ => ?_) hs
  subst ex ey
  obtain rfl : u = Value.ref a := rx
  obtain rfl : iv = Value.ref b := ry
  exact n_setItem hu I3 e nh ok rk hl rv fun s4 I4 => ⟨σ, _, I4, q3⟩
def tDNewN : TE := fun _ H Q => ∀ p, H p = none → Q (.ref p) (upd H p (dnO p []))
theorem pe_dnewN : PE X (.Dict [] [] pos) tDNewN := ⟨fun pins s σ H Q I h =>
  wpAny_Dict_empty ⟨.ref s.heap.objs.size, _, I.laid (a := s.heap.objs.size) (o := dnO s.heap.objs.size []) (t' := s.toks) (fun _ _ q => Heap.get?_push_of_some _ q) (Nat.le_refl _) (dn_new (P := X.prog) (w := X.w) (xs := []) (Nat.zero_le _) (beq_eq_false_iff_ne.mpr (Nat.ne_of_gt I.big)) .nil (fun _ m => nomatch m) (Heap.DictOfH.new s.heap)), rfl, h _ (I.hok.fresh (Nat.le_refl _))⟩⟩
end
end Tl

namespace Tl
open PySem PySem.Spec PyProof.Rows L2
/-- the pairs of such a dict, as data -/
def ndOf : D → Option (List (D × D))
  | .dict ((.none, .none) :: es) => some es
  | .dict ((.none, .bool true) :: es) => some es
  | _ => none
abbrev ndD (es : List (NK × D)) : List (D × D) := es.map fun p => (p.1.data, p.2)
def valD (es : List (D × D)) (k : NK) : Option D := (es.find? fun p => decide (nk p.1 = some k)).map (·.2)
theorem valD_cons (p : D × D) (es : List (D × D)) (k : NK) : valD (p :: es) k = if nk p.1 = some k then some p.2 else valD es k := by
  unfold valD
  rw [List.find?_cons]
  by_cases h : nk p.1 = some k <;> simp [h]
theorem nk_iff {j k : NK} (h : tfree k = true) : nk j.data = some k ↔ j = k := by
  refine ⟨fun e => ?_, fun e => by rw [e]; exact nk_data k h⟩
  have inj : ∀ (a b : NK), a.data = b.data → a = b := by
    intro a
    refine NestedKey.rec (motive_1 := fun a => ∀ b : NK, a.data = b.data → a = b) (motive_2 := fun as => ∀ bs : List NK, NestedKey.datas as = NestedKey.datas bs → as = bs) ?_ ?_ ?_ ?_ ?_ ?_ a
    · intro b e
      cases b <;> first | rfl | cases e
    · intro i b e
      cases b with
      | num j => cases e; rfl
      | _ => cases e
    · intro i b e
      cases b with
      | text j => cases e; rfl
      | _ => cases e
    · intro ks ih b e
      cases b with
      | tup js =>
        have e' : PyData.tuple (NestedKey.datas ks) = PyData.tuple (NestedKey.datas js) := e
        rw [ih js (PyData.tuple.inj e')]
      | _ => cases e
    · intro bs e
      cases bs with
      | nil => rfl
      | cons b bs => cases e
    · intro a as ih ihs bs e
      cases bs with
      | nil => cases e
      | cons b bs =>
        have e' : a.data :: NestedKey.datas as = b.data :: NestedKey.datas bs := e
        obtain ⟨e1, e2⟩ := List.cons.inj e'
        rw [ih b e1, ihs bs e2]
  exact inj j k (nk_ok _ _ e).1
theorem valD_nd (es : List (NK × D)) {k : NK} (h : tfree k = true) : valD (ndD es) k = valK es k := by
  induction es with
  | nil => rfl
  | cons p es ih =>
    rw [show ndD (p :: es) = (p.1.data, p.2) :: ndD es from rfl, valD_cons, valK_cons, ih]
    by_cases e : p.1 = k
    · rw [if_pos e, if_pos ((nk_iff h).mpr e)]
    · rw [if_neg e, if_neg fun z => e ((nk_iff h).mp z)]
section
variable {K : PySem.W.Frag} {F : Hp}
theorem Rep.nd {v : V} {d : D} {es : List (D × D)} (r : Rep K F v d) (h : ndOf d = some es) : ∃ a kvs, v = .ref a ∧ DnAt F a kvs ∧ RepN K F kvs es := by
  cases r with
  | dn h1 h2 =>
    cases h
    exact ⟨_, _, rfl, .inl h1, h2⟩
  | dl h1 h2 =>
    cases h
    exact ⟨_, _, rfl, .inr ⟨_, h1⟩, h2⟩
  | @dk a kvs es' h1 h2 =>
    cases h2 with
    | nil => cases h
    | @cons k v vs d ds r t =>
      cases k <;> cases h
  | _ => cases h
theorem RepN.nh : ∀ {kvs : List (NK × Addr × V)} {es : List (D × D)}, RepN K F kvs es → NH K F kvs
  | _, _, .nil => fun _ m => nomatch m
  | _, _, .cons o r q t => fun p m => by
    rcases List.mem_cons.mp m with e | m
    · subst e
      exact ⟨o, r⟩
    · exact RepN.nh t p m
theorem RepN.val {k : NK} (hk : okN k = true) : ∀ {kvs : List (NK × Addr × V)} {es : List (D × D)}, RepN K F kvs es → (valN kvs k = none ∧ valD es k = none) ∨ ∃ v d, valN kvs k = some v ∧ valD es k = some d ∧ Rep K F v d
  | _, _, .nil => .inl ⟨rfl, rfl⟩
  | _, _, .cons (k := j) o r q t => by
    rw [valN_cons, valD_cons]
    by_cases e : j = k
    · rw [if_pos e, if_pos ((nk_iff (okN_free hk)).mpr e)]
      exact .inr ⟨_, _, rfl, rfl, q⟩
    · rw [if_neg e, if_neg fun z => e ((nk_iff (okN_free hk)).mp z)]
      exact RepN.val hk t
theorem RepN.len : ∀ {kvs : List (NK × Addr × V)} {es : List (D × D)}, RepN K F kvs es → kvs.length = es.length
  | _, _, .nil => rfl
  | _, _, .cons _ _ _ t => by rw [List.length_cons, List.length_cons, RepN.len t]
theorem NvOk.nh {kvs : List (NK × Addr × V)} {es : List (NK × D)} (h : NvOk K F kvs es) : NH K F kvs := (h.repN (Same.refl F)).nh
theorem NvOk.len {kvs : List (NK × Addr × V)} {es : List (NK × D)} (h : NvOk K F kvs es) : kvs.length = es.length := Paired.length h
theorem NvOk.val {k : NK} : ∀ {kvs : List (NK × Addr × V)} {es : List (NK × D)}, NvOk K F kvs es → (valN kvs k = none ∧ valK es k = none) ∨ ∃ v d, valN kvs k = some v ∧ valK es k = some d ∧ Rep K F v d
  | _, _, .nil => .inl ⟨rfl, rfl⟩
  | _, _, .cons (a := p) (b := q) h t => by
    rw [valN_cons, valK_cons]
    by_cases e : q.1 = k
    · rw [if_pos e, if_pos (h.1.trans e)]
      exact .inr ⟨_, _, rfl, rfl, h.2.2.2⟩
    · rw [if_neg e, if_neg (by rw [h.1]; exact e)]
      exact NvOk.val t
theorem NvOk.any {k : NK} : ∀ {kvs : List (NK × Addr × V)} {es : List (NK × D)}, NvOk K F kvs es → (kvs.any fun p => decide (p.1 = k)) = es.any fun p => decide (p.1 = k)
  | _, _, .nil => rfl
  | _, _, .cons h t => by rw [List.any_cons, List.any_cons, NvOk.any t, h.1]
theorem NvOk.set {k : NK} {v : V} {d : D} (r : Rep K F v d) : ∀ {kvs : List (NK × Addr × V)} {es : List (NK × D)}, NvOk K F kvs es → NvOk K F (kvs.map fun p => if p.1 = k then (p.1, p.2.1, v) else p) (es.map fun p => if p.1 = k then (p.1, d) else p)
  | _, _, .nil => .nil
  | _, _, .cons (a := p) (b := q) h t => by
    refine .cons ?_ (NvOk.set r t)
    show (if p.1 = k then (p.1, p.2.1, v) else p).1 = (if q.1 = k then (q.1, d) else q).1 ∧ okN (if p.1 = k then (p.1, p.2.1, v) else p).1 = true ∧ Rep K F (.ref (if p.1 = k then (p.1, p.2.1, v) else p).2.1) (if p.1 = k then (p.1, p.2.1, v) else p).1.data ∧ Rep K F (if p.1 = k then (p.1, p.2.1, v) else p).2.2 (if q.1 = k then (q.1, d) else q).2
    by_cases e : q.1 = k
    · rw [if_pos e, if_pos (show p.1 = k from h.1.trans e)]
      exact ⟨h.1, h.2.1, h.2.2.1, r⟩
    · rw [if_neg e, if_neg (show ¬ p.1 = k from fun z => e (h.1.symm.trans z))]
      exact h
theorem NvOk.snoc {p : NK × Addr × V} {q : NK × D} (hq : p.1 = q.1 ∧ okN p.1 = true ∧ Rep K F (.ref p.2.1) p.1.data ∧ Rep K F p.2.2 q.2) : ∀ {kvs : List (NK × Addr × V)} {es : List (NK × D)}, NvOk K F kvs es → NvOk K F (kvs ++ [p]) (es ++ [q])
  | _, _, .nil => .cons hq .nil
  | _, _, .cons h t => .cons h (NvOk.snoc hq t)
theorem NvOk.put {k : NK} {b : Addr} {v : V} {d : D} (o : okN k = true) (rk : Rep K F (.ref b) k.data) (r : Rep K F v d) {kvs : List (NK × Addr × V)} {es : List (NK × D)} (h : NvOk K F kvs es) : NvOk K F (putN kvs k b v) (putE es k d) := by
  unfold putN putE
  rw [NvOk.any h (k := k)]
  split
  · exact NvOk.set r h
  · exact NvOk.snoc ⟨rfl, o, rk, r⟩ h
theorem rep_ref {H : Hp} {v : V} {k : NK} (o : okN k = true) (r : Rep K H v k.data) : ∃ b, v = .ref b := by
  obtain ⟨ks, rfl⟩ := okN_tup o
  cases r with
  | tup => exact ⟨_, rfl⟩
theorem nget_of {H : Hp} {x y : V} {d kd : D} {es : List (D × D)} {k : NK} (r : Rep K H x d) (ry : Rep K H y kd) (h : ndOf d = some es) (hk : keyN kd = some k) :
    ∃ a b o, x = .ref a ∧ y = .ref b ∧ NGet K H a b o ∧ ((o = none ∧ valD es k = none) ∨ ∃ v z, o = some v ∧ valD es k = some z ∧ Rep K H v z) := by
  obtain ⟨a, kvs, rfl, ha, hr⟩ := r.nd h
  obtain ⟨rfl, ok⟩ := keyN_ok hk
  obtain ⟨b, rfl⟩ := rep_ref ok ry
  exact ⟨a, b, _, rfl, rfl, ⟨kvs, k, ha, hr.nh, ok, ry, rfl⟩, hr.val ok⟩
/-- k in d, d[k], as data -/
def pNIn : List D → Option D
  | [k, x] => (ndOf x).bind fun es => (keyN k).map fun k => .bool (valD es k).isSome
  | _ => none
def pNNotIn : List D → Option D
  | [k, x] => (ndOf x).bind fun es => (keyN k).map fun k => .bool !(valD es k).isSome
  | _ => none
def pNGet : List D → Option D
  | [x, k] => (ndOf x).bind fun es => (keyN k).bind fun k => valD es k
  | _ => none
theorem vr_nin : VR K (two (rNIn K)) (gp pNIn) := VR.plain fun ds d e H vs Q r k => by
  match ds, e with
  | [kd, x], e =>
    obtain ⟨es, e1, e⟩ := Option.bind_eq_some_iff.mp (show (ndOf x).bind _ = some d from e)
    obtain ⟨key, e2, e3⟩ := Option.map_eq_some_iff.mp e
    subst e3
    obtain ⟨y, x', rfl, ry, rx⟩ := r.two
    obtain ⟨a, b, o, rfl, rfl, g, c⟩ := nget_of rx ry e1 e2
    refine ⟨_, _, rfl, a, b, o, rfl, rfl, g, ?_⟩
    rcases c with ⟨rfl, c⟩ | ⟨v, d, rfl, c, _⟩ <;> (rw [c] at k; exact k _ fun F => .bl _)
theorem vr_nnotin : VR K (two (rNNotIn K)) (gp pNNotIn) := VR.plain fun ds d e H vs Q r k => by
  match ds, e with
  | [kd, x], e =>
    obtain ⟨es, e1, e⟩ := Option.bind_eq_some_iff.mp (show (ndOf x).bind _ = some d from e)
    obtain ⟨key, e2, e3⟩ := Option.map_eq_some_iff.mp e
    subst e3
    obtain ⟨y, x', rfl, ry, rx⟩ := r.two
    obtain ⟨a, b, o, rfl, rfl, g, c⟩ := nget_of rx ry e1 e2
    refine ⟨_, _, rfl, a, b, o, rfl, rfl, g, ?_⟩
    rcases c with ⟨rfl, c⟩ | ⟨v, d, rfl, c, _⟩ <;> (rw [c] at k; exact k _ fun F => .bl _)
end
section
variable {X : Cx} {a b : Expr} {ma mb : MV} {pos : Pos}
theorem hu9 {j : Nat} {A : Around} (hr : RmG j A) : A.units + 9 < cLine := by
  have := hr.rm.un
  omega
theorem hu11 {j : Nat} {A : Around} (hr : RmG j A) : A.units + 11 < cLine := by
  have := hr.rm.un
  omega
theorem tr_nin {j : Nat} (hr : RmG j X.A) (ha : ER X a ma) (hb : ER X b mb) (hm : behindInMarks .In b = false) : TR X (.Compare a [.In] [b] pos) (mBinB (gp pNIn) ma mb) :=
  tr_op' (wp := wp2 X a b) (run := two (rNIn X.K)) (fun σ H Q w => wT (pt_cmp (pc_nin (hu9 hr) peW peW) hm) (wpE_mono (fun x H1 w => wpE_mono (fun y H2 ⟨_, _, e, q⟩ => by cases e; exact q) w) w)) vr_nin (aq2 ha hb)
theorem tr_nnotin {j : Nat} (hr : RmG j X.A) (ha : ER X a ma) (hb : ER X b mb) (hm : behindInMarks .NotIn b = false) : TR X (.Compare a [.NotIn] [b] pos) (mBinB (gp pNNotIn) ma mb) :=
  tr_op' (wp := wp2 X a b) (run := two (rNNotIn X.K)) (fun σ H Q w => wT (pt_cmp (pc_nnotin (hu9 hr) peW peW) hm) (wpE_mono (fun x H1 w => wpE_mono (fun y H2 ⟨_, _, e, q⟩ => by cases e; exact q) w) w)) vr_nnotin (aq2 ha hb)
/-- {} -/
def mDNewN : MV := fun _ τ => some (.val (.dn []), τ)
theorem er_dnewN : ER X (.Dict [] [] pos) mDNewN := ⟨fun ro τ r τ' em F B H σ A Q at_ k => by
  cases em
  refine wE pe_dnewN fun p hp => ?_
  obtain ⟨g, c⟩ := at_.cn.newO (o := dnO p []) hp
  exact k F _ (.ref p) [p] A g c (.dn upd_same .nil) (at_.tau.stay (Same.refl F) fun b m o q => by
    rw [upd_ne (ne_of_none q hp)]
    exact q)⟩
/-- d[k], d an owned one: what is told is kept -/
def dnOf : T → Option (List (NK × D))
  | .dn es => some es
  | _ => none
theorem own_dn {K : PySem.W.Frag} {F H : Hp} {v : V} {t : T} {A : List Addr} {es : List (NK × D)} (h : dnOf t = some es) (o : Own K F H v t A) : ∃ a kvs, v = .ref a ∧ A = [a] ∧ H a = some (dnO a kvs) ∧ NvOk K F kvs es := by
  cases o with
  | dn h1 h2 =>
    cases h
    exact ⟨_, _, rfl, rfl, h1, h2⟩
  | _ => cases h
/-- what the dict in the slot i holds at a key: an owned one, or a frozen one -/
def hasN (ro : Ro) (τ : Tau) (i : Nat) : Bool := match tget τ i with
  | some (.dn _) => true
  | some _ => false
  | none => match fget ro.fz i with
    | some d => (ndOf d).isSome
    | none => false
def lookN (ro : Ro) (τ : Tau) (i : Nat) (k : NK) : Option (Option D) := match tget τ i with
  | some (.dn es) => some (valK es k)
  | some _ => none
  | none => (fget ro.fz i).bind fun d => (ndOf d).map fun es => valD es k
theorem hasN_at {K : PySem.W.Frag} {F B H : Hp} {σ : L2.St} {ro : Ro} {τ : Tau} {A : List Addr} {i : Nat} (a : At K F B H σ ro τ A) (h : hasN ro τ i = true) : ∃ v, σ[i]? = some (some v) ∧ ∃ ad kvs, v = .ref ad ∧ DnAt H ad kvs := by
  unfold hasN at h
  cases e0 : tget τ i with
  | some t =>
    rw [e0] at h
    match t, e0, h with
    | .dn es, e0, _ =>
      obtain ⟨v, A1, A2, hv, ow, _⟩ := a.tau.take a.cn.nd e0
      obtain ⟨ad, kvs, e, _, hd, _⟩ := own_dn rfl ow
      exact ⟨v, hv, ad, kvs, e, .inl hd⟩
  | none =>
    rw [e0] at h
    cases e1 : fget ro.fz i with
    | none => simp [e1] at h
    | some d =>
      simp only [e1] at h
      obtain ⟨es, e2⟩ := Option.isSome_iff_exists.mp h
      obtain ⟨v, hv, rv⟩ := a.ro.fz.2 i d e1
      obtain ⟨ad, kvs, e, hd, _⟩ := rv.nd e2
      exact ⟨v, hv, ad, kvs, e, hd.mono a.cn.fh⟩
theorem lookN_at {K : PySem.W.Frag} {F B H : Hp} {σ : L2.St} {ro : Ro} {τ : Tau} {A : List Addr} {i : Nat} {k : NK} {r : Option D} {v : V} (a : At K F B H σ ro τ A) (h : lookN ro τ i k = some r) (ok : okN k = true) (hv : σ[i]? = some (some v)) :
    ∃ ad kvs, v = .ref ad ∧ DnAt H ad kvs ∧ NH K F kvs ∧ ((valN kvs k = none ∧ r = none) ∨ ∃ u d, valN kvs k = some u ∧ r = some d ∧ Rep K F u d) := by
  unfold lookN at h
  cases e0 : tget τ i with
  | some t =>
    rw [e0] at h
    match t, e0, h with
    | .dn es, e0, h =>
      have h : some (valK es k) = some r := h
      cases h
      obtain ⟨v', A1, A2, hv', ow, _⟩ := a.tau.take a.cn.nd e0
      rw [hv] at hv'
      cases hv'
      obtain ⟨ad, kvs, e, _, hd, h2⟩ := own_dn rfl ow
      refine ⟨ad, kvs, e, .inl hd, h2.nh, h2.val⟩
  | none =>
    rw [e0] at h
    obtain ⟨d, e1, h⟩ := Option.bind_eq_some_iff.mp (show (fget ro.fz i).bind _ = some r from h)
    obtain ⟨es, e2, e3⟩ := Option.map_eq_some_iff.mp h
    obtain ⟨v', hv', rv⟩ := a.ro.fz.2 i d e1
    rw [hv] at hv'
    cases hv'
    obtain ⟨ad, kvs, e, hd, hr⟩ := rv.nd e2
    subst e3
    exact ⟨ad, kvs, e, hd.mono a.cn.fh, hr.nh, hr.val ok⟩
def mNGetO (i : Nat) (mb : MV) : MV := fun ro τ => if hasN ro τ i = true then (mb ro τ).bind fun p => p.1.er.bind fun kd => (keyN kd).bind fun k => (lookN ro p.2 i k).bind fun o => o.map fun d => (rd d, p.2) else none
theorem er_nGetO {o : Expr} {i j : Nat} (hr : RmG j X.A) (ho : PE X o (tVar i)) (hb : ER X b mb) (hs : NoSl b) : ER X (.Subscript o b pos) (mNGetO i mb) := ⟨fun ro τ r τ' em F B H σ A Q a k => by
  unfold mNGetO at em
  by_cases q0 : hasN ro τ i = true
  · rw [if_pos q0] at em
    obtain ⟨⟨y, τ1⟩, e1, em⟩ := Option.bind_eq_some_iff.mp em
    obtain ⟨kd, e2, em⟩ := Option.bind_eq_some_iff.mp em
    obtain ⟨key, e3, em⟩ := Option.bind_eq_some_iff.mp em
    obtain ⟨od, e4, em⟩ := Option.bind_eq_some_iff.mp em
    obtain ⟨d, e5, em⟩ := Option.map_eq_some_iff.mp em
    cases em
    obtain ⟨v, hv, _⟩ := hasN_at a q0
    refine wE (pe_nget (hu9 hr) ho peW hs) ⟨v, hv, hb.run ro τ y _ e1 F B H σ A _ a fun F1 H1 w A1 A2 g1 c1 o1 t1 => ?_⟩
    have rk : Rep X.K H1 w kd := o1.rep c1.fh c1.bh (fun _ _ _ q => q) e2
    obtain ⟨rfl, ok⟩ := keyN_ok e3
    obtain ⟨bb, rfl⟩ := rep_ref ok rk
    obtain ⟨ad, kvs, rfl, hd, nh, c⟩ := lookN_at (a.next g1 c1 t1) e4 ok hv
    rcases c with ⟨_, c2⟩ | ⟨v', d', x1, x2, rv⟩
    · rw [c2] at e5
      cases e5
    · rw [x2] at e5
      cases e5
      exact ⟨ad, bb, v', rfl, rfl, ⟨kvs, key, hd, nh.mono c1.fh, ok, rk, x1.symm⟩, k F1 H1 v' [] A2 (g1.trans (Go.less fun _ m => List.mem_append_right _ m)) c1.right (.leaf rv) t1⟩
  · rw [if_neg q0] at em
    cases em⟩
end
def rNGetOr (K : PySem.W.Frag) : V → List V → Hp → VK → Prop := fun x vs H Q => ∃ a b d o, x = .ref a ∧ vs = [.ref b, d] ∧ NGet K H a b o ∧ Q (o.getD d) H
theorem mt_ngetOr {X : Cx} (hu : X.A.units + 9 < cLine) : MtR X "dict.get" (rNGetOr X.K) := by
  intro pins s σ H x vs v us Q I rx rv w
  obtain ⟨a, b, d, o, rfl, rfl, g, q⟩ := w
  cases rx
  obtain ⟨u1, u2, rfl, r1, r2⟩ := vals2 rv
  cases (show u1 = Value.ref b from r1)
  exact n_getOr hu I g r2 fun w' s' I' rw' => ⟨o.getD d, H, I', rw', q⟩
/-- a method of a dict whose keys are tuples -/
def tBMN (r : V → List V → Hp → VK → Prop) (to : TE) (t : TA) : TE := fun σ H Q => to σ H fun x H1 => (∃ a kvs, x = .ref a ∧ DnAt H1 a kvs) ∧ t σ H1 fun xs H2 => r x xs H2 Q
theorem pe_bmN {X : Cx} {o e : Expr} {es : List Expr} {to : TE} {t : TA} {name : Str} {apos cpos : Pos} {id : String} {r : V → List V → Hp → VK → Prop} (slot : Slot "dict" name id) (hty : typeOf (.builtin id) = pure (.type "method_descriptor")) (hm : MtR X id r) (ho : PE X o to) (ha : PA X (e :: es) t)
    (hbase : attributeBase o name X.env (eval o X.env) = eval o X.env := by rfl)
    (hfew : ((backTo cpos (starEach (e :: es) X.env)).all (fun x => !x.1) && (backToKw cpos (keywordEach [] X.env)).all (fun x => x.1.isSome)
      && decide ((e :: es).length + ([] : List Keyword).length + (if ([] : List Keyword).isEmpty then 0 else 1) < 30)) = true := by rfl)
    (hline : (apos.endLine == cpos.line) = true := by rfl) (hs : starEach (e :: es) X.env = (false, eval e X.env) :: starEach es X.env := by rfl) (hplain : (backTo cpos (starEach es X.env)).any (·.1) = false := by rfl) :
    PE X (.Call (.Attribute o name apos) (e :: es) [] cpos) (tBMN r to t) := by
  refine ⟨fun pins s σ H Q I h => ?_⟩
  refine wpAny_Call_method_late hbase hfew hline rfl (thn (ho.run pins s σ H _ I h) fun v s1 ⟨x, H1, I1, r1, ty, q1⟩ => ?_)
  obtain ⟨a, kvs, ex, hd⟩ := ty
  subst ex
  cases (show v = Value.ref a from r1)
  have h1 := typ_dn I1 hd
  have h2 : ∀ b, Value.ref a = .ref b → ∃ ob, s1.heap.get? b = some ob ∧ ob.dict = none := fun b q => by
    cases q
    obtain ⟨⟨_, _, _, _, ob, _, _, g1, g2, _⟩, _⟩ := dnp I1 hd
    exact ⟨ob, g1, g2.2.1⟩
  refine ⟨"dict", id, PySem.F.plainAttrs_dict, slot, hty, h1, h2, ?_⟩
  have hA := ha.run cpos pins s1 σ H1 _ I1 q1
  rw [hs] at hA ⊢
  refine Calls.callWith_builtin (by show (false || (backTo cpos (starEach es X.env)).any (·.1)) = false; rw [hplain] <;> rfl) (Calls.evalArgs_plain ?_)
  exact thn hA fun us s2 ⟨vs, H2, I2, r2, q2⟩ => hm pins s2 σ H2 (.ref a) vs _ us Q I2 r1 r2 q2
def mNGetOr (i : Nat) (l : ML) : MV := fun ro τ => if hasN ro τ i = true then (l ro τ).bind fun p => (stL p.1).bind fun ds => match ds with
  | [kd, x] => (keyN kd).bind fun k => (lookN ro p.2 i k).map fun o => (rd (o.getD x), p.2)
  | _ => none
  else none
theorem er_nGetOr {X : Cx} {o e : Expr} {es : List Expr} {apos cpos : Pos} {l : ML} {i j : Nat} (hr : RmG j X.A) (ho : PE X o (tVar i)) (ha : AR X (e :: es) l)
    (hbase : attributeBase o "get" X.env (eval o X.env) = eval o X.env := by rfl)
    (hfew : ((backTo cpos (starEach (e :: es) X.env)).all (fun x => !x.1) && (backToKw cpos (keywordEach [] X.env)).all (fun x => x.1.isSome)
      && decide ((e :: es).length + ([] : List Keyword).length + (if ([] : List Keyword).isEmpty then 0 else 1) < 30)) = true := by rfl)
    (hline : (apos.endLine == cpos.line) = true := by rfl) (hs : starEach (e :: es) X.env = (false, eval e X.env) :: starEach es X.env := by rfl) (hplain : (backTo cpos (starEach es X.env)).any (·.1) = false := by rfl) :
    ER X (.Call (.Attribute o "get" apos) (e :: es) [] cpos) (mNGetOr i l) := ⟨fun ro τ r' τ' em F B H σ A Q a k => by
  unfold mNGetOr at em
  by_cases q0 : hasN ro τ i = true
  · rw [if_pos q0] at em
    obtain ⟨⟨rs, τ1⟩, e1, em⟩ := Option.bind_eq_some_iff.mp em
    obtain ⟨ds, e2, em⟩ := Option.bind_eq_some_iff.mp em
    match ds, e2, em with
    | [kd, x], e2, em =>
      obtain ⟨key, e4, em⟩ := Option.bind_eq_some_iff.mp (show (keyN kd).bind _ = some (r', τ') from em)
      obtain ⟨od, e5, em⟩ := Option.map_eq_some_iff.mp em
      cases em
      obtain ⟨v, hv, ty⟩ := hasN_at a q0
      refine wE (pe_bmN PySem.F.slot_dict_get PySem.F.type_dict_get (mt_ngetOr (hu9 hr)) ho paW hbase hfew hline hs hplain) ⟨v, hv, ty, ha.run ro τ rs _ e1 F B H σ A _ a fun F1 H1 vs A3 A4 g1 c1 o1 t1 => ?_⟩
      obtain ⟨F2, g2, c2, s2, rl⟩ := o1.freeze c1 e2
      have t2 := t1.stay s2 fun _ _ _ q => q
      have at2 : At X.K F2 B H1 σ ro τ1 A4 := ⟨c2, a.ro.mono (g1.ff.trans s2), t2⟩
      obtain ⟨w, y, rfl, rw', ry⟩ := rl.two
      obtain ⟨rfl, ok⟩ := keyN_ok e4
      obtain ⟨bb, rfl⟩ := rep_ref ok rw'
      obtain ⟨ad, kvs, rfl, hd, nh, c⟩ := lookN_at at2 e5 ok hv
      refine ⟨ad, bb, y, _, rfl, rfl, ⟨kvs, key, hd, nh.mono c2.fh, ok, rw'.mono c2.fh, rfl⟩, ?_⟩
      refine k F2 H1 _ [] A4 (g1.trans g2) c2 (.leaf ?_) t2
      rcases c with ⟨x1, x2⟩ | ⟨v', d', x1, x2, rv⟩
      · rw [x1, x2]
        exact ry
      · rw [x1, x2]
        exact rv
  · rw [if_neg q0] at em
    cases em⟩
end Tl

namespace Tl
open PySem PySem.Spec PyProof.Rows L2
section
variable {X : Cx} {Pr : List Nat}
theorem dn_write {F B H : Hp} {A : List Addr} {a : Addr} {K : PySem.W.Frag} {kvs : List (NK × Addr × V)} {es : List (NK × D)} (c : Cn F B H A) (hA : A = [a]) (r : NvOk K F kvs es) :
    Go F H A F (upd H a (dnO a kvs)) A ∧ Cn F B (upd H a (dnO a kvs)) A ∧ Own K F (upd H a (dnO a kvs)) (.ref a) (.dn es) A := by
  subst hA
  obtain ⟨g, c'⟩ := c.write (o := dnO a kvs) (p := a) (List.mem_singleton.mpr rfl)
  exact ⟨g, c', .dn upd_same r⟩
/-- d[k] = e -/
def putDN : T → NK → D → Option T
  | .dn es, k, d => if es.length < 16000000 then some (.dn (putE es k d)) else none
  | _, _, _ => none
def mSetN (x : Nat) (me mi : MV) : MS := fun s => (tget s.ow x).bind fun _ => (me ⟨s.fz, []⟩ s.ow).bind fun p => p.1.st.bind fun d => (mi ⟨s.fz, []⟩ p.2).bind fun q => q.1.st.bind fun kd => (keyN kd).bind fun i => (tget q.2 x).bind fun t => (putDN t i d).map fun t' => .nx ⟨s.fz, tset q.2 x t'⟩
theorem sr_setN {st : Stmt} {e ix : Expr} {x : Nat} {me mi : MV} (p : PS X st (sNPut X.K (tVar x) (wpE X ix) (wpE X e))) (he : ER X e me) (hi : ER X ix mi) : SR X Pr st (mSetN x me mi) := ⟨fun s o em F H σ A Dd a k => by
  obtain ⟨t0, e0, em⟩ := Option.bind_eq_some_iff.mp em
  obtain ⟨⟨r, τ1⟩, e1, em⟩ := Option.bind_eq_some_iff.mp em
  obtain ⟨d, e2, em⟩ := Option.bind_eq_some_iff.mp em
  obtain ⟨⟨r', τ2⟩, e3, em⟩ := Option.bind_eq_some_iff.mp em
  obtain ⟨kd, e4, em⟩ := Option.bind_eq_some_iff.mp em
  obtain ⟨i, e4', em⟩ := Option.bind_eq_some_iff.mp em
  obtain ⟨t, e5, em⟩ := Option.bind_eq_some_iff.mp em
  obtain ⟨t', e6, em⟩ := Option.map_eq_some_iff.mp em
  cases em
  obtain ⟨vv, _, _, hvv, _⟩ := a.ow.take a.cn.nd e0
  refine wS p (he.run _ _ r τ1 e1 F noH H σ A _ a.at_ fun F1 H1 v A1 A2 g1 c1 o1 t1 => ?_)
  obtain ⟨F2, g2, c2, s2, rv⟩ := o1.freeze c1 e2
  have at2 : At X.K F2 noH H1 σ ⟨s.fz, []⟩ τ1 A2 := ⟨c2, a.at_.ro.mono (g1.ff.trans s2), t1.stay s2 fun _ _ _ q => q⟩
  refine ⟨vv, hvv, hi.run _ _ r' τ2 e3 F2 noH H1 σ A2 _ at2 fun F3 H3 w A3 A4 g3 c3 o3 t3 => ?_⟩
  obtain ⟨F4, g4, c4, s4, rk⟩ := o3.freeze c3 e4
  have t4' := t3.stay s4 fun _ _ _ q => q
  obtain ⟨v', B1, B2, hv', ov, t4, n4, s5⟩ := t4'.take c4.nd e5
  rw [hvv] at hv'
  cases hv'
  have c5 := c4.sub n4 s5
  obtain ⟨rfl, ok⟩ := keyN_ok e4'
  obtain ⟨bb, rfl⟩ := rep_ref ok rk
  cases t with
  | dn xs =>
    have e6' : (if xs.length < 16000000 then some (T.dn (putE xs i d)) else none) = some t' := e6
    by_cases qs : xs.length < 16000000
    · rw [if_pos qs] at e6'
      cases e6'
      obtain ⟨ad, kvs, rfl, eB, hd, h2⟩ := own_dn rfl ov
      have rv3 := (rv.mono g3.ff).mono s4
      obtain ⟨g5, c6, o5⟩ := dn_write c5.left eB (NvOk.put (k := i) ok rk rv3 h2)
      obtain ⟨g6, c7⟩ := Go.framedR c5 g5 c6
      have t6 := t4.stay g5.ff fun q m w z => g5.keep q w (fun z' => c5.apart q z' m) z
      obtain ⟨A5, t7, n7, s7⟩ := t6.put hvv o5 c7.nd
      rw [← tset_eq] at t7
      refine ⟨ad, bb, kvs, i, rfl, rfl, hd, h2.nh.mono c5.fh, ok, rk.mono c5.fh, by rw [h2.len]; exact lt16 qs, ?_⟩
      exact k F4 _ σ A5 (((((g1.trans g2).trans g3).trans g4).trans (Go.less s5)).trans (g6.trans (Go.less s7))) ⟨c7.sub n7 s7, ((a.fz.mono (g1.ff.trans s2)).mono g3.ff).mono s4, t7⟩ Agree.refl
    · rw [if_neg qs] at e6'
      cases e6'
  | _ => cases e6⟩
end
def mergeN (xs ys : List (NK × Addr × V)) : List (NK × Addr × V) := ys.foldl (fun a p => putN a p.1 p.2.1 p.2.2) xs
def entriesN : List D → Option (List (NK × D))
  | [] => some []
  | .tuple [k, d] :: r => (keyN k).bind fun k => (entriesN r).map ((k, d) :: ·)
  | _ => none
theorem mergeN_len : ∀ (ys xs : List (NK × Addr × V)), (mergeN xs ys).length ≤ xs.length + ys.length
  | [], xs => Nat.le_refl _
  | p :: ys, xs => by
    have h1 := mergeN_len ys (putN xs p.1 p.2.1 p.2.2)
    have h2 := putN_len xs p.1 p.2.1 p.2.2
    show (mergeN (putN xs p.1 p.2.1 p.2.2) ys).length ≤ _
    rw [List.length_cons]
    omega
theorem NvOk.merge {K : PySem.W.Frag} {F : Hp} : ∀ {ys : List (NK × Addr × V)} {fs : List (NK × D)} {xs : List (NK × Addr × V)} {es : List (NK × D)}, NvOk K F ys fs → NvOk K F xs es → NvOk K F (mergeN xs ys) (mergeE es fs)
  | _, _, _, _, .nil, s => s
  | _, _, xs, es, .cons (a := p) (b := q) h t, s => by
    show NvOk K F (mergeN (putN xs p.1 p.2.1 p.2.2) _) (mergeE (putE es q.1 q.2) _)
    rw [← h.1]
    exact NvOk.merge t (NvOk.put h.2.1 h.2.2.1 h.2.2.2 s)
theorem KN.mergeAll : ∀ {ys : List (NK × Addr × V)} {zs : List (NK × Addr × Value)} {xs : List (NK × Addr × V)} {us : List (NK × Addr × Value)}, KN ys zs → KN xs us → KN (mergeN xs ys) (storedAllH us zs)
  | _, _, _, _, .nil, s => s
  | _, _, xs, us, .cons (a := p) (b := q) h t, s => by
    show KN (mergeN (putN xs p.1 p.2.1 p.2.2) _) (storedAllH (storedH us q.1 q.2.1 q.2.2) _)
    rw [h.1, h.2.1]
    exact KN.mergeAll t (KN.put h.2.2 s)
theorem NH.merge {K : PySem.W.Frag} {H : Hp} : ∀ {ys xs : List (NK × Addr × V)}, NH K H ys → NH K H xs → NH K H (mergeN xs ys)
  | [], _, _, s => s
  | p :: ys, xs, h, s => by
    show NH K H (mergeN (putN xs p.1 p.2.1 p.2.2) ys)
    exact NH.merge (fun q m => h q (List.mem_cons_of_mem _ m)) (s.put (h p List.mem_cons_self).1 (h p List.mem_cons_self).2)
theorem entriesN_rep {K : PySem.W.Frag} {F : Hp} : ∀ {ds : List D} {es : List (NK × D)} {vs : List V}, entriesN ds = some es → RepL K F vs ds → ∃ (ps : List Addr) (kvs : List (NK × Addr × V)), vs = ps.map V.ref ∧ Paired (fun p kv => SqT K F p [.ref kv.2.1, kv.2.2]) ps kvs ∧ NvOk K F kvs es
  | [], _, _, e, r => by
    cases e
    cases r
    exact ⟨[], [], rfl, .nil, .nil⟩
  | .tuple [k, d] :: ds, _, _, e, r => by
    obtain ⟨key, e1, e⟩ := Option.bind_eq_some_iff.mp (show (keyN k).bind _ = some _ from e)
    obtain ⟨es, e2, e3⟩ := Option.map_eq_some_iff.mp e
    subst e3
    cases r with
    | cons r t =>
      obtain ⟨ps, kvs, rfl, h1, h2⟩ := entriesN_rep e2 t
      cases r with
      | @tup a ys _ g1 g2 g3 =>
        obtain ⟨u, w, rfl, ru, rw'⟩ := RepL.two g3
        obtain ⟨rfl, ok⟩ := keyN_ok e1
        obtain ⟨b, rfl⟩ := rep_ref ok ru
        exact ⟨a :: ps, (key, b, w) :: kvs, rfl, .cons g1 h1, .cons ⟨rfl, ok, ru, rw'⟩ h2⟩
def rDictN (K : PySem.W.Frag) : List V → Hp → VK → Prop := fun xs H Q => ∃ (a : Addr) (ps : List Addr) (kvs : List (NK × Addr × V)), xs = [.ref a] ∧ SqL K H a (ps.map V.ref) ∧ Paired (fun p kv => SqT K H p [.ref kv.2.1, kv.2.2]) ps kvs ∧ NH K H kvs ∧ kvs.length ≤ sizeLine ∧ ∀ p, H p = none → Q (.ref p) (upd H p (dnO p (mergeN [] kvs)))
section
variable {X : Cx}
theorem npairs_at {pins : List (Addr × Obj)} {σ : L2.St} {H : Hp} {s : Shared} (I : Inv X pins σ H s) : ∀ {ps : List Addr} {kvs : List (NK × Addr × V)}, Paired (fun p kv => SqT X.K H p [.ref kv.2.1, kv.2.2]) ps kvs →
    ∃ us : List Value, us.length = ps.length ∧ (∀ (j : Nat) (b : Addr), ps[j]? = some b → ∃ kv y, kvs[j]? = some kv ∧ us[j]? = some y ∧ s.heap.IsTuple b #[.ref kv.2.1, y]) ∧ Paired (fun kv u => RelV kv.2.2 u) kvs us
  | _, _, .nil => ⟨[], rfl, fun j b e => by simp at e, .nil⟩
  | _, _, .cons (a := p) (b := kv) h t => by
    obtain ⟨us, hl, hp, hr⟩ := npairs_at I t
    obtain ⟨its, rv, ht, _⟩ := I.tuple h
    obtain ⟨u, y, ei, ru, ry⟩ := vals2 rv
    subst ei
    cases (show u = Value.ref kv.2.1 from ru)
    refine ⟨y :: us, by rw [List.length_cons, List.length_cons, hl], fun j b e => ?_, .cons ry hr⟩
    cases j with
    | zero =>
      have e' : p = b := Option.some.inj e
      subst e'
      exact ⟨kv, y, rfl, rfl, ht⟩
    | succ j =>
      obtain ⟨kv', y', e0, e1, e2⟩ := hp j b (by simpa using e)
      exact ⟨kv', y', by simpa using e0, by simpa using e1, e2⟩
theorem kn_zip : ∀ {kvs : List (NK × Addr × V)} {us : List Value}, Paired (fun kv u => RelV kv.2.2 u) kvs us → KN kvs ((kvs.zip us).map fun q => (q.1.1, q.1.2.1, q.2)) ∧ kvs.length = us.length
  | _, _, .nil => ⟨.nil, rfl⟩
  | _, _, .cons (a := kv) (b := u) h t => by
    obtain ⟨h1, h2⟩ := kn_zip t
    exact ⟨.cons ⟨rfl, rfl, h⟩ h1, by rw [List.length_cons, List.length_cons, h2]⟩
theorem call_dictN (hc : X.calm = true) (hu : X.A.units + 11 < cLine) : CallR X (.type "dict") (rDictN X.K) := by
  intro pins s σ H xs us Q I r q
  obtain ⟨a, ps, kvs, ex, hq, hp, nh, hz, q⟩ := q
  subst ex
  obtain ⟨u, eu, rx⟩ := vals1 r
  subst eu
  cases rx
  obtain ⟨its, rl, pl, hz'⟩ := I.list hq
  have ei := refs_at rl
  subst ei
  obtain ⟨ys, yl, yp, yr⟩ := npairs_at I hp
  obtain ⟨k1, k2⟩ := kn_zip yr
  obtain ⟨o, n, ho, hcl, hdn, hdat⟩ := pl
  have lp : ps.length = kvs.length := Paired.length hp
  let Ts : Nat → Addr := fun j => (ps[j]?).getD 0
  have hTs : ∀ j, j < ps.length → ps[j]? = some (Ts j) := fun j hj => by
    show ps[j]? = some ((ps[j]?).getD 0)
    rw [List.getElem?_eq_getElem hj]
    rfl
  let uvs : List (Value × Value) := (kvs.zip ys).map fun q => (Value.ref q.1.2.1, q.2)
  let zs : List (NK × Addr × Value) := (kvs.zip ys).map fun q => (q.1.1, q.1.2.1, q.2)
  have lu : uvs.length = kvs.length := by simp [uvs, k2]
  have lz : zs.length = kvs.length := by simp [zs, k2]
  have at_ : ∀ (i : Nat) (key v : Value), uvs[i]? = some (key, v) → ∃ kv : NK × Addr × V, kvs[i]? = some kv ∧ ys[i]? = some v ∧ key = .ref kv.2.1 ∧ zs[i]? = some (kv.1, kv.2.1, v) := by
    intro i key v e
    rw [List.getElem?_map] at e
    obtain ⟨p, e1, e2⟩ := Option.map_eq_some_iff.mp e
    obtain ⟨e3, e4⟩ := List.getElem?_zip_eq_some.mp e1
    cases e2
    refine ⟨p.1, e3, e4, rfl, ?_⟩
    rw [List.getElem?_map, e1]
    rfl
  have ok : PlainSeq "list" s.heap a (ps.map Value.ref).toArray ∧ PairItems s.heap (ps.map Value.ref).toArray Ts uvs := by
    refine ⟨⟨o, n, ho, hcl, hdn, hdat⟩, by simp [lu, lp], fun j u y e => ?_⟩
    obtain ⟨kv, e1, e2, e3, e4⟩ := at_ j u y e
    have hj : j < ps.length := by
      have := (List.getElem?_eq_some_iff.mp e1).1
      omega
    obtain ⟨kv', y', f0, f1, f2⟩ := yp j _ (hTs j hj)
    rw [e1] at f0
    rw [e2] at f1
    cases f0
    cases f1
    subst e3
    refine ⟨?_, .inl f2⟩
    have := hTs j hj
    simp [List.getElem?_map, this]
  have hc' : PairsHaveH (nestedKind X.prog X.w) uvs.length (PairRel uvs) zs := by
    refine ⟨by rw [lz, lu], fun i key v e => ?_⟩
    obtain ⟨kv, e1, e2, e3, e4⟩ := at_ i key v e
    exact ⟨kv.1, kv.2.1, e4, e3⟩
  have big : (s.heap.objs.size == sysModules) = false := beq_eq_false_iff_ne.mpr (Nat.ne_of_gt I.big)
  refine call_dict_pairsH (PairArg.list a (ps.map Value.ref).toArray Ts uvs) (I.ok.hd hc) (show (nestedKind X.prog X.w).room X.A.in1.in1 from ?_) ok hc' (fun h' hk x hx => ?_) (by rw [lu]; exact hz) fun h' tk hd' hk => ?_
  · show X.A.in1.in1.units + 8 < cLine
    rw [Around.in1_units, Around.in1_units]
    omega
  · obtain ⟨p, m, e⟩ := List.mem_map.mp hx
    subst e
    have mk : p.1 ∈ kvs := (List.of_mem_zip m).1
    obtain ⟨n1, n2⟩ := nh _ mk
    obtain ⟨q1, q2⟩ := key_at I n1 n2
    refine ⟨NestedIs.at (fun b ob vs n hb _ => hk b ob (Nat.ne_of_lt (Heap.lt_size hb)) (fun m => nomatch m) hb) _ _ q1, q2⟩
  · have kk : KN (mergeN [] kvs) (storedAllH [] zs) := KN.mergeAll k1 .nil
    have hlen : (mergeN [] kvs).length ≤ sizeLine := by
      have := mergeN_len kvs []
      rw [List.length_nil, Nat.zero_add] at this
      omega
    refine ⟨.ref s.heap.objs.size, upd H s.heap.objs.size (dnO s.heap.objs.size (mergeN [] kvs)), I.laid (t' := tk) (fun b u e => hk b u (fun m => nomatch m) e) (Nat.le_refl _) ?_, rfl, q _ (I.hok.fresh (Nat.le_refl _))⟩
    have nh0 : NH X.K H [] := fun _ m => by cases m
    exact dn_new hlen big kk (fun p m => (NH.merge nh nh0 p m).1) hd'
end
section
variable {K : PySem.W.Frag}
theorem new_dn {F F1 B H : Hp} {A : List Addr} {Q : VK} {kvs : List (NK × Addr × V)} {es : List (NK × D)} (g : Go F H A F1 H []) (c : Cn F1 B H []) (r : NvOk K F1 kvs es)
    (k : ∀ (F' H' : Hp) (u : V) (A' : List Addr), Go F H A F' H' A' → Cn F' B H' A' → ROk K F' B H' (.val (.dn es)) u A' → Q u H') : ∀ p, H p = none → Q (.ref p) (upd H p (dnO p kvs)) := fun p hp => by
  obtain ⟨g2, c2⟩ := c.newO (o := dnO p kvs) hp
  exact k _ _ (.ref p) [p] (g.trans g2) c2 (.dn upd_same r)
def gDictN : List R → Option R
  | [x] => x.lst?.bind fun ds => (entriesN ds).map fun es => .val (.dn (mergeE [] es))
  | _ => none
theorem vr_dictN : VR K (rDictN K) gDictN := by
  intro rs z e F B H vs A Q c o k
  match rs, e with
  | [x], e =>
    obtain ⟨ds, e1, e⟩ := Option.bind_eq_some_iff.mp (show x.lst?.bind _ = some z from e)
    obtain ⟨es, e2, e3⟩ := Option.map_eq_some_iff.mp e
    subst e3
    obtain ⟨v, A1, rfl, o1, g, c1, s, h1⟩ := rs_one c o
    obtain ⟨a, xs, rfl, ha, za, ra⟩ := lst_of o1 e1 h1 s c1.fh c1.bh
    obtain ⟨ps, kvs, rfl, hp, hkv⟩ := entriesN_rep e2 ra
    have lk : kvs.length ≤ sizeLine := by
      rw [← Paired.length hp, ← List.length_map (f := V.ref)]
      exact za
    exact ⟨a, ps, kvs, rfl, SqL.of ha, Paired.mapP hp fun _ _ z => sameT c1.fh z, hkv.nh.mono c1.fh, lk, new_dn g c1 (hkv.merge .nil) k⟩
def gLenN : List R → Option R
  | [x] => x.er.bind fun d => (ndOf d).map fun es => rInt (es.length : Nat)
  | _ => none
theorem dn_raw {X : Cx} {pins : List (Addr × Obj)} {σ : L2.St} {H : Hp} {s : Shared} {kvs : List (NK × Addr × V)} {d : Addr} (I : Inv X pins σ H s) (hd : DnAt H d kvs) :
    kvs.length ≤ sizeLine ∧ (d == sysModules) = false ∧ ∃ o es ep, s.heap.get? d = some o ∧ o.ExactDict ∧ o.data = .dict es ep ∧ es.size = kvs.length ∧ ∀ (i : Nat) (p : NK × Addr × V), kvs[i]? = some p → ∃ en : DictEntry, es[i]? = some en ∧ en.key = .ref p.2.1 := by
  obtain ⟨⟨z, hs, ys, pr, o, es, ep, ho, hx, hdt, he, hn⟩, _⟩ := dnp I hd
  have l0 : es.size = ys.length := by rw [← Array.length_toList, he, List.length_map]
  have l2 : kvs.length = ys.length := Paired.length pr
  refine ⟨z, hs, o, es, ep, ho, hx, hdt, by omega, fun i p e => ?_⟩
  have hi : i < ys.length := by
    have := (List.getElem?_eq_some_iff.mp e).1
    omega
  have e1 : ys[i]? = some ys[i] := List.getElem?_eq_getElem hi
  have rel : ∀ {kvs : List (NK × Addr × V)} {ys : List (NK × Addr × Value)} {i : Nat} {p : NK × Addr × V} {q : NK × Addr × Value}, KN kvs ys → kvs[i]? = some p → ys[i]? = some q → p.2.1 = q.2.1 := by
    intro kvs ys i p q r
    induction r generalizing i with
    | nil => intro e; simp at e
    | cons h t ih =>
      intro e e'
      cases i with
      | zero =>
        simp at e e'
        subst e e'
        exact h.2.1
      | succ i => exact ih (by simpa using e) (by simpa using e')
  refine ⟨⟨nhash ys[i].1, .ref ys[i].2.1, ys[i].2.2⟩, ?_, ?_⟩
  · rw [← Array.getElem?_toList, he, List.getElem?_map, e1]
    rfl
  · rw [rel pr e e1]
theorem RepN.keys {F : Hp} : ∀ {kvs : List (NK × Addr × V)} {es : List (D × D)}, RepN K F kvs es → RepL K F (kvs.map fun x => V.ref x.2.1) (es.map (·.1))
  | _, _, .nil => .nil
  | _, _, .cons _ r _ t => .cons r (RepN.keys t)
/-- as a thing whose keys are kept: a dict that is seen counts -/
def R.sn : R → Option D
  | .vw (.dn es) => T.fz (.dn es)
  | x => x.st
def gListN : List R → Option R
  | [x] => x.sn.bind fun d => (ndOf d).bind fun es => if es.length ≤ 16000000 then some (.val (.fl (es.map (·.1)))) else none
  | _ => none
end
def tLockN (t : TS) : TS := fun D σ H => ∃ d kvs, H d = some (dnO d kvs) ∧ ∀ od, t D σ (upd H d (.frz od (dnO d kvs)))
section
variable {X : Cx} {Pr : List Nat}
theorem ps_lockN {st : Stmt} {t : TS} (h : PS X st t) : PS X st (tLockN t) := by
  refine ⟨fun pins s σ H D I w => ?_⟩
  obtain ⟨d, kvs, hd, w⟩ := w
  obtain ⟨od, I'⟩ := I.lock hd True.intro
  exact h.run pins s σ _ D I' (w od)
/-- the slot's dict locked and frozen, for good -/
def mFzN (i : Nat) : SS → Option SS := fun s => match tget s.ow i with
  | some (.dn es) => some ⟨fset s.fz i (some (.dict ((.none, .bool true) :: ndD es))), tdel s.ow i⟩
  | _ => some s
theorem Cn.lockN {F B H : Hp} {A : List Addr} {d : Addr} {kvs : List (NK × Addr × V)} (c : Cn F B H (d :: A)) (od : Obj) : Cn (upd F d (.frz od (dnO d kvs))) B (upd H d (.frz od (dnO d kvs))) A ∧ Same F (upd F d (.frz od (dnO d kvs))) ∧ Go F H (d :: A) (upd F d (.frz od (dnO d kvs))) (upd H d (.frz od (dnO d kvs))) A := by
  have fd := c.fa d List.mem_cons_self
  have bd := c.ba d List.mem_cons_self
  obtain ⟨n1, n2⟩ := List.nodup_cons.mp c.nd
  have sF : Same F (upd F d (.frz od (dnO d kvs))) := fun b o e => by
    rw [upd_ne (ne_of_none e fd)]
    exact e
  refine ⟨⟨fun b o e => ?_, fun b o e => ?_, n2, fun a m => ?_, fun a m => c.ba a (List.mem_cons_of_mem _ m), fun a m => ?_⟩, sF, ⟨sF, fun b o n e => ?_, fun b n e => ?_, fun b m => .inl (List.mem_cons_of_mem _ m)⟩⟩
  · by_cases q : b = d
    · subst q
      rw [upd_same] at e ⊢
      exact e
    · rw [upd_ne q] at e ⊢
      exact c.fh b o e
  · have q : b ≠ d := fun z => by
      subst z
      rw [bd] at e
      cases e
    rw [upd_ne q]
    exact c.bh b o e
  · have q : a ≠ d := fun z => n1 (z ▸ m)
    rw [upd_ne q]
    exact c.fa a (List.mem_cons_of_mem _ m)
  · have q : a ≠ d := fun z => n1 (z ▸ m)
    rw [upd_ne q]
    exact c.ha a (List.mem_cons_of_mem _ m)
  · have q : b ≠ d := fun z => n (by rw [z]; exact List.mem_cons_self)
    rw [upd_ne q]
    exact e
  · have q : b ≠ d := fun z => n (by rw [z]; exact List.mem_cons_self)
    rw [upd_ne q]
theorem sr_fzN {st : Stmt} {m : MS} (h : SR X Pr st m) (i : Nat) : SR X Pr st (mPre (mFzN i) m) := ⟨fun s o em F H σ A D a k => by
  obtain ⟨s1, e1, em⟩ := Option.bind_eq_some_iff.mp em
  unfold mFzN at e1
  cases e0 : tget s.ow i with
  | none =>
    rw [e0] at e1
    cases e1
    exact h.run s o em F H σ A D a k
  | some t0 =>
    rw [e0] at e1
    match t0, e0, e1 with
    | .dn es, e0, e1 =>
      cases e1
      obtain ⟨v, A1, A2, hv, ov, t', n, sb⟩ := a.ow.take a.cn.nd e0
      have c := a.cn.sub n sb
      obtain ⟨d, kvs, rfl, rfl, hd, h2⟩ := own_dn rfl ov
      refine wS (ps_lockN (show PS X st (wpS X st) from ⟨fun pins s σ H D I w => w pins s I⟩)) ⟨d, kvs, hd, fun od => ?_⟩
      obtain ⟨c2, s2, g2⟩ := Cn.lockN (kvs := kvs) c od
      have dn : ∀ a ∈ A2, a ≠ d := fun a m z => (List.nodup_cons.mp c.nd).1 (z ▸ m)
      have t5 := t'.stay (H' := upd H d (.frz od (dnO d kvs))) s2 fun a m o e => by
        rw [upd_ne (dn a m)]
        exact e
      obtain ⟨A3, t3, n3, s3⟩ := t5.del i c2.nd
      have td : ∀ (τ : Tau), tdel (tset τ i .hole) i = tdel τ i := fun τ => by
        induction τ with
        | nil =>
          show (if i = i then ([] : Tau) else _) = []
          rw [if_pos rfl]
        | cons p r ih =>
          obtain ⟨j, u⟩ := p
          show tdel (if j = i then (i, T.hole) :: r else (j, u) :: tset r i .hole) i = (if j = i then tdel r i else (j, u) :: tdel r i)
          by_cases q : j = i
          · rw [if_pos q, if_pos q]
            show (if i = i then tdel r i else _) = tdel r i
            rw [if_pos rfl]
          · rw [if_neg q, if_neg q]
            show (if j = i then tdel (tset r i .hole) i else (j, u) :: tdel (tset r i .hole) i) = _
            rw [if_neg q, ih]
      rw [td] at t3
      have same : σ.set i (some (V.ref d)) = σ := by
        refine List.ext_getElem? fun j => ?_
        by_cases q : j = i
        · subst q
          obtain ⟨hl, _⟩ := List.getElem?_eq_some_iff.mp hv
          rw [List.getElem?_set_self hl, hv]
        · rw [List.getElem?_set_ne fun z => q z.symm]
      have rv : Rep X.K (upd F d (.frz od (dnO d kvs))) (.ref d) (.dict ((.none, .bool true) :: ndD es)) := .dl upd_same (h2.repN s2)
      have fz1 := (a.fz.mono s2).set rv i
      rw [same] at fz1
      exact h.run _ o em _ _ σ A3 D ⟨c2.sub n3 s3, fz1, t3⟩ (k.behind (((Go.less sb).trans g2).trans (Go.less s3)) Agree.refl)
    | .leaf _, _, e1 => cases e1; exact h.run s o em F H σ A D a k
    | .fl _, _, e1 => cases e1; exact h.run s o em F H σ A D a k
    | .ls _, _, e1 => cases e1; exact h.run s o em F H σ A D a k
    | .tup _, _, e1 => cases e1; exact h.run s o em F H σ A D a k
    | .dk _, _, e1 => cases e1; exact h.run s o em F H σ A D a k
    | .dd _, _, e1 => cases e1; exact h.run s o em F H σ A D a k
    | .lk _, _, e1 => cases e1; exact h.run s o em F H σ A D a k
    | .scr _, _, e1 => cases e1; exact h.run s o em F H σ A D a k
    | .ob _ _ _, _, e1 => cases e1; exact h.run s o em F H σ A D a k
    | .hole, _, e1 => cases e1; exact h.run s o em F H σ A D a k⟩
/-- the keys of the locked dict at d, in their order -/
def Itn (d : Addr) (o : Obj) (kvs : List (NK × Addr × V)) : It :=
  ⟨fun i H => H d = some (.frz o (dnO d kvs)) ∧ i < kvs.length, fun i H x H' => H' = H ∧ ∃ p, kvs[i]? = some p ∧ x = .ref p.2.1, fun i H => H d = some (.frz o (dnO d kvs)) ∧ kvs.length ≤ i⟩
theorem frzN {pins : List (Addr × Obj)} {σ : L2.St} {H : Hp} {s : Shared} {kvs : List (NK × Addr × V)} {d : Addr} {o : Obj} (I : Inv X pins σ H s) (hd : H d = some (.frz o (dnO d kvs))) :
    (d == sysModules) = false ∧ s.heap.get? d = some o ∧ o.ExactDict ∧ ∃ es ep, o.data = .dict es ep ∧ es.size = kvs.length ∧ ∀ (i : Nat) (p : NK × Addr × V), kvs[i]? = some p → ∃ en : DictEntry, es[i]? = some en ∧ en.key = .ref p.2.1 := by
  have ho := (I.hok d _ hd).1
  obtain ⟨z, hs, o', es, ep, ho', hx, hdt, hsz, ent⟩ := dn_raw I (.inr ⟨o, hd⟩)
  have eo : o' = o := Option.some.inj (ho'.symm.trans ho)
  subst eo
  exact ⟨hs, ho, hx, es, ep, hdt, hsz, ent⟩
theorem turn_keysN {P : Program} {w : World} {K : PySem.W.Frag} {tg : Expr} {d : Addr} {o : Obj} {es : Array DictEntry} {ep : Nat} {kvs : List (NK × Addr × V)} (it : Addr) (hod : o.data = .dict es ep) : Turn P w K tg (Itn d o kvs) [it] it (fun i h => h.IsKeyIter it d i kvs.length ep) where
  mem := by simp
  obj := fun i h st b hb => by
    have e : b = it := by simpa using hb
    subst e
    obtain ⟨oi, e, c, dd⟩ := st
    exact ⟨oi, e, fun v z => by rw [dd] at z; cases z⟩
  keep := fun i h h' st k => st.at fun oi e => k it (by simp) oi e
  item := by
    intro X hP hw hK hc i pins s σ H E I hf st hg
    subst hP hw hK
    obtain ⟨hd, hi⟩ := hg
    obtain ⟨f0, f1, f2, f3, f4, f5⟩ := hf it (by simp)
    obtain ⟨hs, hgd, hx, es', ep', hdt, hsz, ent⟩ := frzN I hd
    obtain ⟨rfl, rfl⟩ := dict_ep hod hdt
    obtain ⟨p, hkv⟩ : ∃ p, kvs[i]? = some p := ⟨kvs[i], List.getElem?_eq_getElem hi⟩
    obtain ⟨en, hen, hkey⟩ := ent i p hkv
    refine next_key_item st hgd hdt hsz hen fun h' st' sb => ?_
    have I1 : Inv X pins σ H { s with heap := h' } := I.turned (t' := s.toks) (fun b ob hb e => (sb.2 b hb).trans e) f0 f1 f3 f4 f5
    obtain ⟨oi, e, c, dd⟩ := id st'
    exact ⟨en.key, rfl, go_of (s := { s with heap := h' }) e c dd (by decide) ⟨.ref p.2.1, H, I1, hkey, ⟨rfl, p, hkv, rfl⟩, st', fun b hb => (hf b hb).1⟩⟩
  done := by
    intro X hP hw hK hc i pins s σ H E I hf st hg
    subst hP hw hK
    obtain ⟨hd, hi⟩ := hg
    obtain ⟨f0, f1, f2, f3, f4, f5⟩ := hf it (by simp)
    obtain ⟨hs, hgd, hx, es', ep', hdt, hsz, ent⟩ := frzN I hd
    obtain ⟨rfl, rfl⟩ := dict_ep hod hdt
    exact next_key_end (I.ok.hd hc) st hgd hdt hsz hi fun h' eb => ⟨rfl, I.turned (t' := s.toks) (fun b ob hb e => eb b ob hb e) f0 f1 f3 f4 f5⟩
  self := fun A i s Q E st h => by
    refine wpAny_pyIter_slot st.typeIs PySem.F.slot_dict_keyiterator_iter (wpAny_call_entry PySem.F.slot_dict_keyiterator_iter st.typeIs PySem.F.entry_dict_keyiterator_iter ?_ (PySem.F.args_dict_keyiterator_iter_1 _))
    show wpAny _ _ (ret (.ref it)) _ _ s
    exact wpAny_pure ⟨_, rfl, "dict_keyiterator", _, st.typeIs, PySem.F.slot_dict_keyiterator_next.lookup, h⟩
def iKeysN (td : TE) : TI := fun σ H R => td σ H fun x H1 => ∃ d o kvs, x = .ref d ∧ H1 d = some (.frz o (dnO d kvs)) ∧ R (Itn d o kvs) H1
theorem pi_keysN {tg e : Expr} {td : TE} (he : PE X e td) : PI X tg e (iKeysN td) := by
  refine ⟨fun pins s σ H R I h => ?_⟩
  refine thn (he.run pins s σ H _ I h) fun u s1 ⟨x, H1, I1, rx, d, o, kvs, ex, hd, q⟩ => ?_
  subst ex
  obtain rfl : u = Value.ref d := rx
  obtain ⟨hs, hgd, hx, es, ep, hdt, hsz, ent⟩ := frzN I1 hd
  refine iter_keys hs hgd hx hdt (pi_one (tk := s1.toks) I1 _ (turn_keysN _ hdt) ⟨_, Heap.get?_push_size _ rfl, rfl, ?_⟩ q)
  rw [hsz] <;> rfl
/-- the keys of a dict that was locked and frozen -/
def lkOf : D → Option (List (D × D))
  | .dict ((.none, .bool true) :: es) => some es
  | _ => none
def iNk (m : MV) : MI := fun ro τ => (m ro τ).bind fun p => p.1.st.bind fun d => (lkOf d).bind fun es => if es.length ≤ 16000000 then some (es.map (·.1), p.2) else none
theorem Rep.lkd {K : PySem.W.Frag} {F : Hp} {v : V} {d : D} {es : List (D × D)} (r : Rep K F v d) (h : lkOf d = some es) : ∃ a o kvs, v = .ref a ∧ F a = some (.frz o (dnO a kvs)) ∧ RepN K F kvs es := by
  cases r with
  | dl h1 h2 =>
    cases h
    exact ⟨_, _, _, rfl, h1, h2⟩
  | dn h1 h2 => cases h
  | @dk a kvs es' h1 h2 =>
    cases h2 with
    | nil => cases h
    | @cons k v vs d ds r t =>
      cases k <;> cases h
  | _ => cases h
theorem ir_nk {tg e : Expr} {m : MV} (h : ER X e m) : IR X tg e (iNk m) := ⟨fun ro τ ds τ' em F B H σ A Rr a k => by
  obtain ⟨⟨r, τ1⟩, e1, em⟩ := Option.bind_eq_some_iff.mp em
  obtain ⟨d, e2, em⟩ := Option.bind_eq_some_iff.mp em
  obtain ⟨es, e3, em⟩ := Option.bind_eq_some_iff.mp em
  by_cases q : es.length ≤ 16000000
  · rw [if_pos q] at em
    cases em
    refine wI (pi_keysN peW) (h.run ro τ r _ e1 F B H σ A _ a fun F1 H1 v A1 A2 g1 c1 o1 t1 => ?_)
    obtain ⟨F2, g2, c2, s2, rv⟩ := o1.freeze c1 e2
    obtain ⟨ad, o, kvs, rfl, hd, rk⟩ := rv.lkd e3
    refine ⟨ad, o, kvs, rfl, c2.fh _ _ hd, k F2 H1 A2 _ (g1.trans g2) c2 (t1.stay s2 fun _ _ _ q => q) ?_⟩
    refine ⟨by rw [List.length_map, sizeLine_eq]; omega, fun F3 H3 s1 s2 s3 j x e => ?_, fun F3 H3 s1 s2 s3 j x e y H2 yl => ?_, fun F3 H3 s1 s2 s3 j l => ?_⟩
    · refine ⟨s2 _ _ (s1 _ _ hd), ?_⟩
      rw [rk.len]
      have := (List.getElem?_eq_some_iff.mp e).1
      simpa using this
    · obtain ⟨rfl, p, e4, rfl⟩ := yl
      refine ⟨F3, fun B' A c => ⟨Go.refl, c⟩, ?_⟩
      obtain ⟨u, e5, e6⟩ := RepL.get rk.keys e
      rw [List.getElem?_map, e4] at e5
      cases e5
      exact e6.mono s1
    · refine ⟨s2 _ _ (s1 _ _ hd), ?_⟩
      rw [rk.len]
      simpa using l
  · rw [if_neg q] at em
    cases em⟩
end
end Tl

namespace Tl
open PySem PySem.Spec PyProof.Rows L2
@[simp] theorem r_mDNewN (ro : Ro) (τ : Tau) : mDNewN ro τ = some (.val (.dn []), τ) := rfl
@[simp] theorem fz_dn (es : List (NK × D)) : T.fz (.dn es) = some (.dict ((.none, .none) :: ndD es)) := rfl
@[simp] theorem hole_dn (es : List (NK × D)) : isHole (.dn es) = false := rfl
@[simp] theorem dnOf_dn (es : List (NK × D)) : dnOf (.dn es) = some es := rfl
@[simp] theorem ndOf_n (es : List (D × D)) : ndOf (.dict ((.none, .none) :: es)) = some es := rfl
@[simp] theorem ndOf_l (es : List (D × D)) : ndOf (.dict ((.none, .bool true) :: es)) = some es := rfl
@[simp] theorem lkOf_l (es : List (D × D)) : lkOf (.dict ((.none, .bool true) :: es)) = some es := rfl
@[simp] theorem nk_none : nk .none = some .none := rfl
@[simp] theorem nk_int (i : Int) : nk (.int i) = some (.num i) := rfl
@[simp] def nkK (ks : List NK) : Option NK := some (.tup ks)
@[simp] theorem nk_tup (ds : List D) : nk (.tuple ds) = bd (nkL ds) nkK := bd_om fun a => rfl
@[simp] theorem nkL_nil : nkL [] = some [] := rfl
@[simp] def nkLK2 (k : NK) (ks : List NK) : Option (List NK) := some (k :: ks)
@[simp] def nkLK (ds : List D) (k : NK) : Option (List NK) := bd (nkL ds) (nkLK2 k)
@[simp] theorem nkL_cons (d : D) (ds : List D) : nkL (d :: ds) = bd (nk d) (nkLK ds) := bd_of fun a => bd_om fun b => rfl
@[simp] def keyNK (k : NK) : Option NK := if okN k = true then some k else none
@[simp] theorem okN_tup' (ks : List NK) : okN (.tup ks) = (tfreeL ks && decide ((NestedKey.tup ks).depth ≤ 8)) := rfl
@[simp] theorem tfree_num (i : Int) : tfree (.num i) = true := rfl
@[simp] theorem tfree_none : tfree .none = true := rfl
@[simp] theorem tfree_tup (ks : List NK) : tfree (.tup ks) = tfreeL ks := rfl
@[simp] theorem tfreeL_nil : tfreeL [] = true := rfl
@[simp] theorem tfreeL_cons (k : NK) (ks : List NK) : tfreeL (k :: ks) = (tfree k && tfreeL ks) := rfl
@[simp] theorem depth_num (i : Int) : (NestedKey.num i).depth = 0 := rfl
@[simp] theorem depth_none : NestedKey.none.depth = 0 := rfl
@[simp] theorem depth_tup (ks : List NK) : (NestedKey.tup ks).depth = NestedKey.depthAll ks + 1 := rfl
@[simp] theorem depthAll_nil : NestedKey.depthAll [] = 0 := rfl
@[simp] theorem depthAll_cons (k : NK) (ks : List NK) : NestedKey.depthAll (k :: ks) = max k.depth (NestedKey.depthAll ks) := rfl
@[simp] theorem valD_nd' (es : List (NK × D)) (k : NK) (h : tfree k = true) : valD (ndD es) k = valK es k := valD_nd es h
@[simp] def ninK2 (es : List (D × D)) (k : NK) : Option D := some (.bool (valD es k).isSome)
@[simp] def ninK (kd : D) (es : List (D × D)) : Option D := bd (keyN kd) (ninK2 es)
@[simp] theorem p_nin (kd x : D) : pNIn [kd, x] = bd (ndOf x) (ninK kd) := bd_of fun a => bd_om fun b => rfl
@[simp] def nninK2 (es : List (D × D)) (k : NK) : Option D := some (.bool !(valD es k).isSome)
@[simp] def nninK (kd : D) (es : List (D × D)) : Option D := bd (keyN kd) (nninK2 es)
@[simp] theorem p_nnin (kd x : D) : pNNotIn [kd, x] = bd (ndOf x) (nninK kd) := bd_of fun a => bd_om fun b => rfl
@[simp] def ngetK2 (es : List (D × D)) (k : NK) : Option D := valD es k
@[simp] def ngetK (kd : D) (es : List (D × D)) : Option D := bd (keyN kd) (ngetK2 es)
@[simp] theorem p_nget (kd x : D) : pNGet [x, kd] = bd (ndOf x) (ngetK kd) := bd_of fun a => bd_of fun b => rfl
@[simp] def hasK (fz : Fz) (i : Nat) : Option T → Bool
  | some (.dn _) => true
  | some _ => false
  | none => match fget fz i with
    | some d => (ndOf d).isSome
    | none => false
@[simp] theorem r_hasN (fz : Fz) (vw τ : Tau) (i : Nat) : hasN ⟨fz, vw⟩ τ i = hasK fz i (tget τ i) := by
  unfold hasN
  cases tget τ i with
  | none => rfl
  | some t => cases t <;> rfl
@[simp] def lookF (k : NK) (es : List (D × D)) : Option (Option D) := some (valD es k)
@[simp] def lookF0 (k : NK) (d : D) : Option (Option D) := bd (ndOf d) (lookF k)
@[simp] def lookNK (fz : Fz) (i : Nat) (k : NK) : Option T → Option (Option D)
  | some (.dn es) => some (valK es k)
  | some _ => none
  | none => bd (fget fz i) (lookF0 k)
@[simp] theorem r_lookN (fz : Fz) (vw τ : Tau) (i : Nat) (k : NK) : lookN ⟨fz, vw⟩ τ i k = lookNK fz i k (tget τ i) := by
  unfold lookN
  cases tget τ i with
  | none => exact bd_of fun a => bd_om fun b => rfl
  | some t => cases t <;> rfl
@[simp] def ngK6 (τ : Tau) (d : D) : Option (R × Tau) := some (rd d, τ)
@[simp] def ngK5 (τ : Tau) (o : Option D) : Option (R × Tau) := bd o (ngK6 τ)
@[simp] def ngK3 (i : Nat) (ro : Ro) (τ : Tau) (k : NK) : Option (R × Tau) := bd (lookN ro τ i k) (ngK5 τ)
@[simp] def ngK2 (i : Nat) (ro : Ro) (τ : Tau) (kd : D) : Option (R × Tau) := bd (keyN kd) (ngK3 i ro τ)
@[simp] def ngK1 (i : Nat) (ro : Ro) : R × Tau → Option (R × Tau)
  | (r, τ) => bd r.er (ngK2 i ro τ)
@[simp] def ngK0 (i : Nat) (mb : MV) (ro : Ro) (τ : Tau) : Bool → Option (R × Tau)
  | true => bd (mb ro τ) (ngK1 i ro)
  | false => none
@[simp] theorem r_mNGetO (i : Nat) (mb : MV) (ro : Ro) (τ : Tau) : mNGetO i mb ro τ = ngK0 i mb ro τ (hasN ro τ i) := by
  unfold mNGetO
  cases hasN ro τ i with
  | false => rfl
  | true => exact bd_of fun a => bd_of fun b => bd_of fun c => bd_of fun d => bd_om fun e => rfl
/-- d.get(k, x) -/
@[simp] def gorK5 (τ : Tau) (x : D) (o : Option D) : Option (R × Tau) := some (rd (o.getD x), τ)
@[simp] def gorK4 (i : Nat) (ro : Ro) (τ : Tau) (x : D) (k : NK) : Option (R × Tau) := bd (lookN ro τ i k) (gorK5 τ x)
@[simp] def gorK3 (i : Nat) (ro : Ro) (τ : Tau) : List D → Option (R × Tau)
  | [kd, x] => bd (keyN kd) (gorK4 i ro τ x)
  | _ => none
@[simp] def gorK2 (i : Nat) (ro : Ro) : List R × Tau → Option (R × Tau)
  | (rs, τ) => bd (stL rs) (gorK3 i ro τ)
@[simp] def gorK1 (i : Nat) (l : ML) (ro : Ro) (τ : Tau) : Bool → Option (R × Tau)
  | true => bd (l ro τ) (gorK2 i ro)
  | false => none
@[simp] theorem r_mNGetOr (i : Nat) (l : ML) (ro : Ro) (τ : Tau) : mNGetOr i l ro τ = gorK1 i l ro τ (hasN ro τ i) := by
  unfold mNGetOr
  cases hasN ro τ i with
  | false => rfl
  | true =>
    refine bd_of fun a => bd_of fun b => ?_
    match b with
    | [] => rfl
    | [_] => rfl
    | [kd, x] => exact bd_of fun k => bd_om fun o => rfl
    | _ :: _ :: _ :: _ => rfl
/-- d[k] = e -/
@[simp] theorem r_putDN (es : List (NK × D)) (k : NK) (d : D) : putDN (.dn es) k d = if es.length < 16000000 then some (.dn (putE es k d)) else none := rfl
@[simp] def snK7 (x : Nat) (fz : Fz) (τ : Tau) (u : T) : Option Out := some (.nx ⟨fz, tset τ x u⟩)
@[simp] def snK6 (x : Nat) (fz : Fz) (τ : Tau) (d : D) (k : NK) (t : T) : Option Out := bd (putDN t k d) (snK7 x fz τ)
@[simp] def snK5 (x : Nat) (fz : Fz) (τ : Tau) (d : D) (k : NK) : Option Out := bd (tget τ x) (snK6 x fz τ d k)
@[simp] def snK4 (x : Nat) (fz : Fz) (τ : Tau) (d : D) (kd : D) : Option Out := bd (keyN kd) (snK5 x fz τ d)
@[simp] def snK3 (x : Nat) (fz : Fz) (d : D) : R × Tau → Option Out
  | (r, τ) => bd r.st (snK4 x fz τ d)
@[simp] def snK2 (x : Nat) (mi : MV) (fz : Fz) (τ : Tau) (d : D) : Option Out := bd (mi ⟨fz, []⟩ τ) (snK3 x fz d)
@[simp] def snK1 (x : Nat) (mi : MV) (fz : Fz) : R × Tau → Option Out
  | (r, τ) => bd r.st (snK2 x mi fz τ)
@[simp] def snK0 (x : Nat) (me mi : MV) (fz : Fz) (τ : Tau) (_ : T) : Option Out := bd (me ⟨fz, []⟩ τ) (snK1 x mi fz)
@[simp] theorem r_mSetN (x : Nat) (me mi : MV) (fz : Fz) (τ : Tau) : mSetN x me mi ⟨fz, τ⟩ = bd (tget τ x) (snK0 x me mi fz τ) :=
  bd_of fun a => bd_of fun b => bd_of fun c => bd_of fun d => bd_of fun e => bd_of fun f => bd_of fun g => bd_om fun h => rfl
/-- dict(..), len, list -/
@[simp] def gdnK (es : List (NK × D)) : Option R := some (.val (.dn (mergeE [] es)))
@[simp] def gdnK0 (ds : List D) : Option R := bd (entriesN ds) gdnK
@[simp] theorem r_gDictN (x : R) : gDictN [x] = bd x.lst? gdnK0 := bd_of fun a => bd_om fun b => rfl
@[simp] def glnK (es : List (D × D)) : Option R := some (rInt (es.length : Nat))
@[simp] def glnK0 (d : D) : Option R := bd (ndOf d) glnK
@[simp] theorem r_gLenN (x : R) : gLenN [x] = bd x.er glnK0 := bd_of fun a => bd_om fun b => rfl
@[simp] def gliNK (es : List (D × D)) : Option R := if es.length ≤ 16000000 then some (.val (.fl (es.map (·.1)))) else none
@[simp] def gliNK0 (d : D) : Option R := bd (ndOf d) gliNK
@[simp] theorem sn_val (t : T) : R.sn (.val t) = t.fz := rfl
@[simp] theorem sn_vwl (d : D) : R.sn (.vw (.leaf d)) = some d := rfl
@[simp] theorem sn_vwn (es : List (NK × D)) : R.sn (.vw (.dn es)) = T.fz (.dn es) := rfl
@[simp] theorem r_gListN (x : R) : gListN [x] = bd x.sn gliNK0 := bd_of fun a => bd_of fun b => rfl
/-- walks -/
@[simp] def inkK (τ : Tau) (es : List (D × D)) : Option (List D × Tau) := if es.length ≤ 16000000 then some (es.map (·.1), τ) else none
@[simp] def inkK1 (τ : Tau) (d : D) : Option (List D × Tau) := bd (lkOf d) (inkK τ)
@[simp] def inkK0 : R × Tau → Option (List D × Tau)
  | (r, τ) => bd r.st (inkK1 τ)
@[simp] theorem r_iNk (m : MV) (ro : Ro) (τ : Tau) : iNk m ro τ = bd (m ro τ) inkK0 := bd_of fun a => bd_of fun b => bd_of fun c => rfl
@[simp] def fzNK (i : Nat) (fz : Fz) (τ : Tau) : Option T → Option SS
  | some (.dn es) => some ⟨fset fz i (some (.dict ((.none, .bool true) :: ndD es))), tdel τ i⟩
  | _ => some ⟨fz, τ⟩
@[simp] theorem r_mFzN (i : Nat) (fz : Fz) (τ : Tau) : mFzN i ⟨fz, τ⟩ = fzNK i fz τ (tget τ i) := by
  unfold mFzN
  show (match tget τ i with
    | some (.dn es) => _
    | _ => _) = _
  cases tget τ i with
  | none => rfl
  | some t => cases t <;> rfl
@[simp] theorem nd_nil : ndD [] = [] := rfl
@[simp] theorem nd_cons (p : NK × D) (es : List (NK × D)) : ndD (p :: es) = (p.1.data, p.2) :: ndD es := rfl
end Tl

namespace Tl
open PySem PySem.Spec PyProof.Rows L2
section
variable {X : Cx} {pos : Pos}
/-- {k: v} -/
def mDisp1N (mk mv : MV) : MV := fun ro τ => (mk ro τ).bind fun p => p.1.st.bind fun kd => (mv ro p.2).bind fun q => q.1.st.bind fun d => (keyN kd).map fun k => (.val (.dn [(k, d)]), q.2)
@[simp] def d1nK4 (τ : Tau) (d : D) (k : NK) : Option (R × Tau) := some (.val (.dn [(k, d)]), τ)
@[simp] def d1nK3 (kd : D) (τ : Tau) (d : D) : Option (R × Tau) := bd (keyN kd) (d1nK4 τ d)
@[simp] def d1nK2 (kd : D) : R × Tau → Option (R × Tau)
  | (r, τ) => bd r.st (d1nK3 kd τ)
@[simp] def d1nK1 (mv : MV) (ro : Ro) (τ : Tau) (kd : D) : Option (R × Tau) := bd (mv ro τ) (d1nK2 kd)
@[simp] def d1nK0 (mv : MV) (ro : Ro) : R × Tau → Option (R × Tau)
  | (r, τ) => bd r.st (d1nK1 mv ro τ)
@[simp] theorem r_mDisp1N (mk mv : MV) (ro : Ro) (τ : Tau) : mDisp1N mk mv ro τ = bd (mk ro τ) (d1nK0 mv ro) := bd_of fun a => bd_of fun b => bd_of fun c => bd_of fun d => bd_om fun e => rfl
end
end Tl

namespace Tl
open PySem PySem.Spec PyProof.Rows L2
def rngS : List Int → Option (List D)
  | [i, j, c] => if c = 2 ∧ (-8000000 ≤ i ∧ i ≤ 8000000) ∧ -8000000 ≤ j ∧ j ≤ 8000000 then some (rangeD i c ((j - i + 1) / 2).toNat) else none
  | _ => none
def iRngS (l : ML) : MI := fun ro τ => (l ro τ).bind fun p => (asInts p.1).bind fun ns => (rngS ns).map fun ds => (ds, p.2)
section
variable {X : Cx} {tg : Expr} {p pos : Pos}
end
@[simp] def rgSK3 (τ : Tau) (ds : List D) : Option (List D × Tau) := some (ds, τ)
@[simp] def rgSK2 (τ : Tau) (ns : List Int) : Option (List D × Tau) := bd (rngS ns) (rgSK3 τ)
@[simp] def rgSK : List R × Tau → Option (List D × Tau)
  | (rs, τ) => bd (asInts rs) (rgSK2 τ)
@[simp] theorem r_iRngS (l : ML) (ro : Ro) (τ : Tau) : iRngS l ro τ = bd (l ro τ) rgSK := bd_of fun a => bd_of fun b => bd_om fun c => rfl
@[simp] theorem rngS3 (i j c : Int) : rngS [i, j, c] = if c = 2 ∧ (-8000000 ≤ i ∧ i ≤ 8000000) ∧ -8000000 ≤ j ∧ j ≤ 8000000 then some (rangeD i c ((j - i + 1) / 2).toNat) else none := rfl
end Tl

namespace L2
open PySem PySem.Spec PyProof.Rows
section
variable {X : Cx}
end
end L2
namespace Tl
open PySem PySem.Spec PyProof.Rows L2
def pCount : List D → Option D
  | [.list ds, d] => if SeqAt.shaped (.list ds) = true ∧ SeqAt.shaped d = true ∧ PyData.plainAll ds = true ∧ d.plain = true ∧ PyData.depthAll ds ≤ 60 then some (.int ((ds.countP fun z => PyData.eqv z d : Nat) : Int)) else none
  | _ => none
@[simp] theorem p_count (ds : List D) (d : D) : pCount [.list ds, d] = if SeqAt.shaped (.list ds) = true ∧ SeqAt.shaped d = true ∧ PyData.plainAll ds = true ∧ d.plain = true ∧ PyData.depthAll ds ≤ 60 then some (.int ((ds.countP fun z => PyData.eqv z d : Nat) : Int)) else none := rfl
end Tl

namespace Tl
open PySem PySem.Spec PyProof.Rows L2
def andI (a b : Int) : Int := ((a.toNat &&& b.toNat : Nat) : Int)
def orI (a b : Int) : Int := ((a.toNat ||| b.toNat : Nat) : Int)
@[simp] theorem andI_nat (a b : Nat) : andI (a : Int) (b : Int) = ((a &&& b : Nat) : Int) := rfl
@[simp] theorem orI_nat (a b : Nat) : orI (a : Int) (b : Int) = ((a ||| b : Nat) : Int) := rfl
end Tl

namespace Tl
open PySem PySem.Spec PyProof.Rows L2
section
variable {X : L2.Cx} {K : PySem.W.Frag} {F F' B H : Hp}
def gIxT : List R → Option R
  | [.val (.tup ts), .val (.leaf (.int i))] => (atI ts i).map .val
  | rs => gIx rs
end
@[simp] theorem r_gIxT (ts : List T) (i : Int) : gIxT [.val (.tup ts), .val (.leaf (.int i))] = (atI ts i).map .val := rfl
end Tl

namespace Tl
open PySem PySem.Spec PyProof.Rows L2
section
variable {X : Cx} {Pr : List Nat} {st1 st2 : Stmt} {sts : List Stmt} {c o1 o2 ev rows ix : Expr} {pos pos2 : Pos} {x1 x2 y : Nat} {mc : MB} {mp1 mp2 : MP} {me mi : MV}
/-- the store by the second name: the tree u of slot x stands behind glass, its part at the place is is the value of slot y -/
def mAlSt (x : Nat) (u : T) (is : List Int) (w : T) (me mi : MV) : MS := fun s => (me ⟨s.fz, [(x, u)]⟩ s.ow).bind fun p => p.1.st.bind fun d => (mi ⟨s.fz, [(x, u)]⟩ p.2).bind fun r => (asI r.1).bind fun i =>
  (gPut i w [d]).bind fun z => (setP u is z.2).map fun u' => .nx ⟨s.fz, tset r.2 x u'⟩
/-- y = a[..] if c else b[..] : then what follows -/
def mAls (mc : MB) (x1 : Nat) (mp1 : MP) (x2 : Nat) (mp2 : MP) (y : Nat) (k : Nat → T → List Int → T → MS) : MS := fun s => (mc ⟨s.fz, []⟩ s.ow).bind fun p => if p.1 = true then
    (tget p.2 x1).bind fun u => (mp1 u ⟨s.fz, [(x1, u)]⟩ (tset p.2 x1 .hole)).bind fun q => k x1 u q.1.1 q.1.2 ⟨fset s.fz y none, tdel q.2 y⟩
  else (tget p.2 x2).bind fun u => (mp2 u ⟨s.fz, [(x2, u)]⟩ (tset p.2 x2 .hole)).bind fun q => k x2 u q.1.1 q.1.2 ⟨fset s.fz y none, tdel q.2 y⟩
/-- .. the slot must be there -/
def mAl2 (y : Nat) (m : MS) : MS := fun s => if y < s.fz.length then m s else none
/-- the second name let go -/
def mAlNo (x : Nat) (u : T) : MS := fun s => some (.nx ⟨s.fz, tset s.ow x u⟩)
/-- y = a[..] if c else b[..]; if d: y[k] = e -/
def mAlIf (mt : MB) (x : Nat) (u : T) (is : List Int) (w : T) (me mi : MV) : MS := fun s => (mt ⟨s.fz, [(x, u)]⟩ s.ow).bind fun p => if p.1 = true then mAlSt x u is w me mi ⟨s.fz, p.2⟩ else mAlNo x u ⟨s.fz, p.2⟩
end
abbrev AlK := Nat → T → List Int → T → MS
@[simp] def alK0 (m : MS) (s : SS) : Bool → Option Out
  | true => m s
  | false => none
@[simp] theorem r_mAl2 (y : Nat) (m : MS) (fz : Fz) (τ : Tau) : mAl2 y m ⟨fz, τ⟩ = alK0 m ⟨fz, τ⟩ (decide (y < fz.length)) := by
  unfold mAl2
  by_cases q : y < fz.length
  · simp [q]
  · simp [q]
@[simp] def alsK4 (x y : Nat) (k : AlK) (fz : Fz) (u : T) : (List Int × T) × Tau → Option Out
  | ((is, w), τ) => k x u is w ⟨fset fz y none, tdel τ y⟩
@[simp] def alsK3 (x : Nat) (mp : MP) (y : Nat) (k : AlK) (fz : Fz) (τ : Tau) (u : T) : Option Out := bd (mp u ⟨fz, [(x, u)]⟩ (tset τ x .hole)) (alsK4 x y k fz u)
@[simp] def alsK2 (x1 : Nat) (mp1 : MP) (x2 : Nat) (mp2 : MP) (y : Nat) (k : AlK) (fz : Fz) (τ : Tau) : Bool → Option Out
  | true => bd (tget τ x1) (alsK3 x1 mp1 y k fz τ)
  | false => bd (tget τ x2) (alsK3 x2 mp2 y k fz τ)
@[simp] def alsK (x1 : Nat) (mp1 : MP) (x2 : Nat) (mp2 : MP) (y : Nat) (k : AlK) (fz : Fz) : Bool × Tau → Option Out
  | (b, τ) => alsK2 x1 mp1 x2 mp2 y k fz τ b
@[simp] theorem r_mAls (mc : MB) (x1 : Nat) (mp1 : MP) (x2 : Nat) (mp2 : MP) (y : Nat) (k : AlK) (fz : Fz) (τ : Tau) : mAls mc x1 mp1 x2 mp2 y k ⟨fz, τ⟩ = bd (mc ⟨fz, []⟩ τ) (alsK x1 mp1 x2 mp2 y k fz) := bd_of fun a => by
  obtain ⟨b, τ'⟩ := a
  cases b with
  | true =>
    rw [if_pos rfl]
    exact bd_of fun u => bd_of fun q => rfl
  | false =>
    rw [if_neg Bool.false_ne_true]
    exact bd_of fun u => bd_of fun q => rfl
@[simp] def asK5 (x : Nat) (u : T) (is : List Int) (w : T) (fz : Fz) (d : D) (τ : Tau) (i : Int) : Option Out := bd (gPut i w [d]) (spK7 x fz u is τ)
@[simp] def asK4 (x : Nat) (u : T) (is : List Int) (w : T) (fz : Fz) (d : D) : R × Tau → Option Out
  | (r, τ) => bd (asI r) (asK5 x u is w fz d τ)
@[simp] def asK3 (x : Nat) (u : T) (is : List Int) (w : T) (mi : MV) (fz : Fz) (τ : Tau) (d : D) : Option Out := bd (mi ⟨fz, [(x, u)]⟩ τ) (asK4 x u is w fz d)
@[simp] def asK2 (x : Nat) (u : T) (is : List Int) (w : T) (mi : MV) (fz : Fz) : R × Tau → Option Out
  | (r, τ) => bd r.st (asK3 x u is w mi fz τ)
@[simp] theorem r_mAlSt (x : Nat) (u : T) (is : List Int) (w : T) (me mi : MV) (fz : Fz) (τ : Tau) : mAlSt x u is w me mi ⟨fz, τ⟩ = bd (me ⟨fz, [(x, u)]⟩ τ) (asK2 x u is w mi fz) :=
  bd_of fun a => bd_of fun b => bd_of fun c => bd_of fun d => bd_of fun e => bd_om fun f => rfl
@[simp] theorem r_mAlNo (x : Nat) (u : T) (fz : Fz) (τ : Tau) : mAlNo x u ⟨fz, τ⟩ = some (.nx ⟨fz, tset τ x u⟩) := rfl
@[simp] def aiK2 (x : Nat) (u : T) (is : List Int) (w : T) (me mi : MV) (fz : Fz) (τ : Tau) : Bool → Option Out
  | true => mAlSt x u is w me mi ⟨fz, τ⟩
  | false => mAlNo x u ⟨fz, τ⟩
@[simp] def aiK (x : Nat) (u : T) (is : List Int) (w : T) (me mi : MV) (fz : Fz) : Bool × Tau → Option Out
  | (b, τ) => aiK2 x u is w me mi fz τ b
@[simp] theorem r_mAlIf (mt : MB) (x : Nat) (u : T) (is : List Int) (w : T) (me mi : MV) (fz : Fz) (τ : Tau) : mAlIf mt x u is w me mi ⟨fz, τ⟩ = bd (mt ⟨fz, [(x, u)]⟩ τ) (aiK x u is w me mi fz) := bd_of fun a => by
  obtain ⟨b, τ'⟩ := a
  cases b with
  | true => rfl
  | false => rfl
end Tl

namespace Tl
open PySem PySem.Spec PyProof.Rows L2
def mForT (y x : Nat) (ml mh : MO) (body : MS) : MS := fun s => (tget s.ow y).bind fun u => (ml ⟨s.fz, [(y, u)]⟩ (tset s.ow y .hole)).bind fun p => (mh ⟨s.fz, [(y, u)]⟩ p.2).bind fun q => match u, p.1, q.1 with
  | .tup (t0 :: ts), some 1, none => (forOL x body ts.length 0 ts ⟨s.fz, q.2⟩).bind fun r => endO y (.tup (t0 :: r.1)) r.2
  | _, _, _ => none
section
variable {X : Cx} {Pr : List Nat}
end
@[simp] def ftK4 (y : Nat) (t0 : T) : List T × Out → Option Out
  | (ts, o2) => endO y (.tup (t0 :: ts)) o2
@[simp] theorem r_mForT (y x : Nat) (ml mh : MO) (body : MS) (fz : Fz) (τ : Tau) : mForT y x ml mh body ⟨fz, τ⟩ = bd (tget τ y) fun u => bd (ml ⟨fz, [(y, u)]⟩ (tset τ y .hole)) fun p => bd (mh ⟨fz, [(y, u)]⟩ p.2) fun q => match u, p.1, q.1 with
  | .tup (t0 :: ts), some 1, none => bd (forOL x body ts.length 0 ts ⟨fz, q.2⟩) (ftK4 y t0)
  | _, _, _ => none := rfl
end Tl

namespace Tl
open PySem PySem.Spec PyProof.Rows L2
section
variable {K : PySem.W.Frag}
abbrev MIV := Ro → Tau → Option (List T × Tau)
def lcLoopV (x : Nat) (vs : List Nat) (me : MV) (fw : Fz) (vw : Tau) : List T → List D → Tau → Option (List D × Tau)
  | [], acc, τ => some (acc, τ)
  | t :: ts, acc, τ => (me ⟨fw, (x, t) :: vw⟩ τ).bind fun q => q.1.st.bind fun y => lcLoopV x vs me fw vw ts (acc ++ [y]) (tout vs q.2)
def mLcV (x : Nat) (vs : List Nat) (mi : MIV) (me : MV) : MV := fun ro τ => (mi ro τ).bind fun p => if x < ro.fz.length then (lcLoopV x vs me (fwipe ro.fz vs) (tout vs ro.vw) p.1 [] (tout vs p.2)).map fun q => (.val (.fl q.1), q.2) else none
theorem OwnL.at {F H : Hp} : ∀ {xs : List V} {ts : List T} {A : List Addr} {i : Nat} {v : V} {t : T}, OwnL K F H xs ts A → xs[i]? = some v → ts[i]? = some t → ∃ B, Own K F H v t B
  | _, _, _, i, v, t, .nil, e, _ => by cases e
  | _, _, _, 0, v, t, .cons o _, e, e' => by
    cases e
    cases e'
    exact ⟨_, o⟩
  | _, _, _, i + 1, v, t, .cons _ l, e, e' => OwnL.at l e e'
end
section
variable {X : Cx} {scope : Scope} {elt tg iter : Expr} {own : List (Str × Nat)} {pos : Pos} {mi : MIV} {me : MV}
/-- y, an owned list of owned things -/
def iSeeV (y : Nat) : MIV := fun ro τ => (tget ro.vw y).bind fun u => match u with
  | .ls ts => some (ts, τ)
  | _ => none
/-- y[1:], y an owned tuple -/
def iCutV (y : Nat) (ml mh : MO) : MIV := fun ro τ => (tget ro.vw y).bind fun u => (ml ro τ).bind fun p => (mh ro p.2).bind fun q => match u, p.1, q.1 with
  | .tup (_ :: ts), some 1, none => some (ts, q.2)
  | _, _, _ => none
end
@[simp] theorem r_iSeeV (y : Nat) (ro : Ro) (τ : Tau) : iSeeV y ro τ = bd (tget ro.vw y) fun u => match u with
  | .ls ts => some (ts, τ)
  | _ => none := rfl
@[simp] theorem r_iCutV (y : Nat) (ml mh : MO) (ro : Ro) (τ : Tau) : iCutV y ml mh ro τ = bd (tget ro.vw y) fun u => bd (ml ro τ) fun p => bd (mh ro p.2) fun q => match u, p.1, q.1 with
  | .tup (_ :: ts), some 1, none => some (ts, q.2)
  | _, _, _ => none := rfl
@[simp] def lcvK2 : List D × Tau → Option (R × Tau)
  | (ds, τ) => some (.val (.fl ds), τ)
@[simp] theorem r_mLcV (x : Nat) (vs : List Nat) (mi : MIV) (me : MV) (fz : Fz) (vw τ : Tau) : mLcV x vs mi me ⟨fz, vw⟩ τ = bd (mi ⟨fz, vw⟩ τ) fun p => if x < fz.length then bd (lcLoopV x vs me (fwipe fz vs) (tout vs vw) p.1 [] (tout vs p.2)) lcvK2 else none := bd_of fun a => by
  by_cases q : x < fz.length
  · rw [if_pos q, if_pos q]
    cases lcLoopV x vs me (fwipe fz vs) (tout vs vw) a.1 [] (tout vs a.2) <;> rfl
  · rw [if_neg q, if_neg q]
end Tl

namespace La
open PySem PySem.Spec PyProof.Rows L2 Tl
def b_is_house : MS := (mSeq (mRet (mX (mAnd (mIsi isIntD (mVar 0)) (mAnd (mNot (mIsi isBoolD (mVar 0))) (mChain fLe fLt (mC (.int 0)) (mVar 0) (mVar 1)))))) mNx)
def m_is_house : MF := mFn [false, false] 2 b_is_house
def b_follows_of : MS := (mSeq (mSetO 2 (mX (mOp gLstD mNil))) (mSeq (mFor [3] (mXI (iRng (mCons (mOp gLen (mCons (mVar 0) mNil)) mNil))) (gtN 3) (mSeq (mSet 4 (mX (mBin gIx (mBin gIx (mVar 0) (mVar 3)) (mVar 1)))) (mSeq (mIfS (mXB (mAndB (mBinB (gp pNe) (mVar 4) (mVar 1)) (mBinB (gp pNe) (mVar 3) (mVar 1)))) (mSeq (mDo (mX (mMut 2 gAppend (mCons (mOp gTupD (mCons (mOp gTupD (mCons (mVar 3) (mCons (mVar 4) mNil))) (mCons (mOp gTupD (mCons (mVar 4) (mCons (mBin gIx (mBin gIx (mVar 0) (mVar 4)) (mVar 1)) mNil))) mNil))) mNil)))) mNx) mNx) mNx))) (mSeq (mRet (mX (mTk 2))) mNx)))
def m_follows_of : MF := mFn [false, false] 5 b_follows_of
def b_has_ring : MS := (mSeq (mSet 1 (mX (mOp gList (mCons (mVar 0) mNil)))) (mSeq (mSet 2 (mX (mBin gAdd (mOp gLen (mCons (mVar 1) mNil)) (mC (.int 1))))) (mSeq (mWhile whF (mXB (mBinB gLt (mOp gLen (mCons (mVar 1) mNil)) (mVar 2))) (mSeq (mSet 2 (mX (mOp gLen (mCons (mVar 1) mNil)))) (mSeq (mSet 3 (mX (mOp gDictN (mCons (mLc [4, 5] (iSeq (mVar 1)) (gtT (gtCons (gtN 4) (gtCons (gtN 5) gtNil))) mYes (mOp gTupD (mCons (mVar 4) (mCons (mC (.bool true)) mNil)))) mNil)))) (mSeq (mSet 1 (mX (mLc [4, 5] (iSeq (mVar 1)) (gtT (gtCons (gtN 4) (gtCons (gtN 5) gtNil))) (mBinB (gp pNIn) (mVar 5) (mVar 3)) (mOp gTupD (mCons (mVar 4) (mCons (mVar 5) mNil)))))) mNx)))) (mSeq (mRet (mX (mBin gGt (mOp gLen (mCons (mVar 1) mNil)) (mC (.int 0))))) mNx))))
def m_has_ring : MF := mFn [false] 6 b_has_ring
def b_level_pairs : MS := (mSeq (mSetO 3 (mX (mOp gLstD mNil))) (mSeq (mFor [4, 5] (mXI (iEnumM (mVar 1))) (gtT (gtCons (gtN 4) (gtCons (gtN 5) gtNil))) (mSeq (mIfS (mXB (mBinB (gp pEq) (mVar 5) (mVar 2))) (mSeq (mDo (mX (mMut 3 gExtendA (mCons (mCall m_follows_of (cCons (mVar 0) (cCons (mVar 4) cNil))) mNil)))) mNx) mNx) mNx)) (mSeq (mRet (mX (mTk 3))) mNx)))
def m_level_pairs : MF := mFn [false, false, false] 6 b_level_pairs
def b_shows_levels : MS := (mSeq (mSet 2 (mX (mOp gLen (mCons (mVar 0) mNil)))) (mSeq (mIfS (mXB (mOrB (mNotB (mTru (mIsi isListD (mVar 1)))) (mOrB (mBinB (gp pNe) (mOp gLen (mCons (mVar 1) mNil)) (mVar 2)) (mNotB (mTru (mOp gAll (mCons (mLc [5] (iSeq (mVar 1)) (gtN 5) mYes (mCall m_is_house (cCons (mVar 5) (cCons (mVar 2) cNil)))) mNil))))))) (mSeq (mRet (mX (mC (.bool false)))) mNx) mNx) (mSeq (mSet 3 (mX (mUn gSortSet (mVar 1)))) (mSeq (mIfS (mXB (mBinB (gp pNe) (mVar 3) (mLRng (mOp gLen (mCons (mVar 3) mNil))))) (mSeq (mRet (mX (mC (.bool false)))) mNx) mNx) (mSeq (mRet (mX (mNot (mOp gAny (mCons (mLc [4] (iSeq (mVar 3)) (gtN 4) mYes (mCall m_has_ring (cCons (mCall m_level_pairs (cCons (mVar 0) (cCons (mVar 1) (cCons (mVar 4) cNil)))) cNil))) mNil))))) mNx)))))
def m_shows_levels : MF := mFn [false, false] 6 b_shows_levels
def b_filled_levels (r : MF) : MS := (mSeq (mSet 3 (mX (mBr 1 (mBin gAdd (mBin gMaxDf (mSee 1) (mUn (gp pNeg) (mC (.int 1)))) (mC (.int 1)))))) (mSeq (mIfS (mXB (mBrB 1 (mBinB (gp pEq) (mOp gLen (mCons (mSee 1) mNil)) (mOp gLen (mCons (mVar 0) mNil))))) (mSeq (mRet (mX (mIf (mBinB (gp pEq) (mVar 3) (mVar 2)) (mTk 1) (mC .none)))) mNx) mNx) (mSeq (mFor [4] (mXI (iRng (mCons (mOp (gp pMin2) (mCons (mBin gAdd (mVar 3) (mC (.int 1))) (mCons (mVar 2) mNil))) mNil))) (gtN 4) (mSeq (mSetO 5 (mX (mBr 1 (mBin gAdd (mSee 1) (mOp gLstD (mCons (mVar 4) mNil)))))) (mSeq (mIfS (mXB (mBrB 5 (mNotB (mTru (mLook m_has_ring (cSeeL m_level_pairs (cSee (mVar 0) (cSee (mSee 5) (cSee (mVar 4) cNil))))))))) (mSeq (mSetO 6 (mX (mCall r (cCons (mVar 0) (cIo 5 (cCons (mVar 2) cNil)))))) (mSeq (mIfS (mXB (mBrB 6 (mBinB (gp pNotN) (mSee 6) (mC .none)))) (mSeq (mRet (mX (mTk 6))) mNx) mNx) mNx)) mNx) mNx))) (mSeq (mRet (mX (mC .none))) mNx))))
def m_filled_levels : Nat → MF
  | 0 => mFn [false, true, false] 7 fun _ => none
  | j + 1 => mFn [false, true, false] 7 (b_filled_levels (m_filled_levels j))
def b_least_levels : MS := (mSeq (mSetO 1 (mX (mC .none))) (mSeq (mSet 2 (mX (mC (.int 0)))) (mSeq (mWhile whF (mXB (mBrB 1 (mBinB (gp pIsN) (mSee 1) (mC .none)))) (mSeq (mAug 2 gAddI (mC (.int 1))) (mSeq (mSetO 1 (mX (mCall (m_filled_levels 60) (cCons (mVar 0) (cOw (mOp gLstD mNil) (cCons (mVar 2) cNil)))))) mNx))) (mSeq (mRet (mX (mTk 1))) mNx))))
def m_least_levels : MF := mFn [false] 3 b_least_levels
def b_law_cell_at : MS := (mSeq (mRet (mX (mBr 0 (mIf (mBrB 0 (mBinB gLt (mVar 1) (mOp gLen (mCons (mSee 0) mNil)))) (mBin gIx (mSee 0) (mVar 1)) (mC (.int 0)))))) mNx)
def m_law_cell_at : MF := mFn [true, false] 2 b_law_cell_at
def b_law_tape : MS := (mSeq (mSet 2 (mX (mCall m_law_cell_at (cIo 0 (cCons (mVar 1) cNil))))) (mSeq (mRet (mX (mOp gLstD (mCons (mBin gMul (mOp (gp pAbs) (mCons (mVar 2) mNil)) (mOp (gp pInt) (mCons (mBin gGe (mOp (gp pAbs) (mCons (mVar 2) mNil)) (mBin gPow (mC (.int 10)) (mC (.int 18)))) mNil))) (mCons (mBin gMod (mBin gMul (mBin gAdd (mBin gAdd (mBin gMod (mVar 2) (mC (.int 2147483647))) (mBin gMul (mC (.int 6907)) (mVar 1))) (mC (.int 29))) (mC (.int 48271))) (mC (.int 2147483629))) (mCons (mC (.int 0)) mNil)))))) mNx))
def m_law_tape : MF := mFn [true, false] 3 b_law_tape
def b_law_take : MS := (mSeq (mIfS (mXB (mBrB 0 (mBinB gGt (mBin gIx (mSee 0) (mC (.int 0))) (mC (.int 0))))) (mSeq (mSet 2 (mX (mBr 0 (mBin gMod (mBin gIx (mSee 0) (mC (.int 0))) (mVar 1))))) (mSeq (mSetP 0 pHere (mBr 0 (mBin gDiv (mBin gIx (mSee 0) (mC (.int 0))) (mVar 1))) (mC (.int 0))) (mSeq (mRet (mX (mVar 2))) mNx))) mNx) (mSeq (mSetP 0 pHere (mBr 0 (mBin gAdd (mBin gIx (mSee 0) (mC (.int 2))) (mC (.int 1)))) (mC (.int 2))) (mSeq (mSet 3 (mX (mBr 0 (mBin gMod (mBin gMul (mBin gAdd (mBin gIx (mSee 0) (mC (.int 1))) (mBin gMul (mC (.int 39373)) (mBin gIx (mSee 0) (mC (.int 2))))) (mBin gAdd (mC (.int 48271)) (mBin gIx (mSee 0) (mC (.int 2))))) (mC (.int 2147483647)))))) (mSeq (mSetP 0 pHere (mBr 0 (mBin gMod (mBin gAdd (mBin gMul (mVar 3) (mBin gAdd (mBin gMod (mVar 3) (mC (.int 40009))) (mC (.int 7)))) (mBin gIx (mSee 0) (mC (.int 2)))) (mC (.int 2147483629)))) (mC (.int 1))) (mSeq (mRet (mX (mBr 0 (mBin gMod (mBin gDiv (mBin gMod (mBin gMul (mBin gIx (mSee 0) (mC (.int 1))) (mBin gAdd (mBin gMod (mBin gIx (mSee 0) (mC (.int 1))) (mC (.int 1009))) (mC (.int 3)))) (mC (.int 998244353))) (mC (.int 7))) (mVar 1))))) mNx)))))
def m_law_take : MF := mFn [true, false] 4 b_law_take
def b_law_same (r : MF) : MS := (mSeq (mIfS (mXB (mTru (mIsi2 isListD isTupD (mVar 1)))) (mSeq (mIfS (mXB (mOrB (mBinB (gp pNe) (mIsi isListD (mVar 0)) (mIsi isListD (mVar 1))) (mBinB (gp pNe) (mIsi isTupD (mVar 0)) (mIsi isTupD (mVar 1))))) (mSeq (mRet (mX (mC (.bool false)))) mNx) mNx) (mSeq (mIfS (mXB (mBinB (gp pNe) (mOp gLen (mCons (mVar 0) mNil)) (mOp gLen (mCons (mVar 1) mNil)))) (mSeq (mRet (mX (mC (.bool false)))) mNx) mNx) (mSeq (mRet (mX (mOp gAll (mCons (mLc [2, 3] (iZipM (mVar 0) (mVar 1)) (gtT (gtCons (gtN 2) (gtCons (gtN 3) gtNil))) mYes (mCall r (cCons (mVar 2) (cCons (mVar 3) cNil)))) mNil)))) mNx))) mNx) (mSeq (mIfS (mXB (mOrB (mBinB (gp pIsN) (mVar 1) (mC .none)) (mTru (mIsi isStrD (mVar 1))))) (mSeq (mRet (mX (mAnd (mBin (gp pEq) (mVar 0) (mVar 1)) (mBin (gp pEq) (mIsi isStrD (mVar 0)) (mIsi isStrD (mVar 1)))))) mNx) mNx) (mSeq (mIfS (mXB (mTru (mIsi isBoolD (mVar 1)))) (mSeq (mRet (mX (mAnd (mIsi isBoolD (mVar 0)) (mBin (gp pEq) (mVar 0) (mVar 1))))) mNx) mNx) (mSeq (mRet (mX (mAnd (mIsi isIntD (mVar 0)) (mAnd (mNot (mIsi isBoolD (mVar 0))) (mBin (gp pEq) (mVar 0) (mVar 1)))))) mNx))))
def m_law_same : Nat → MF
  | 0 => mFn [false, false] 4 fun _ => none
  | j + 1 => mFn [false, false] 4 (b_law_same (m_law_same j))
def b_law_table : MS := (mSeq (mSet 2 (mX (mCall m_law_take (cIo 0 (cCons (mC (.int 4)) cNil))))) (mSeq (mSetO 3 (mX (mLcT [7] (iRng (mCons (mVar 1) mNil)) (gtN 7) mYes (mBin gMul (mOp gLstD (mCons (mC (.int 0)) mNil)) (mVar 1))))) (mSeq (mFor [4] (mXI (iRng (mCons (mVar 1) mNil))) (gtN 4) (mSeq (mSetO 5 (mX (mOp gLstD (mCons (mVar 4) mNil)))) (mSeq (mSetO 6 (mX (mLc [7] (iRng (mCons (mVar 1) mNil)) (gtN 7) (mBinB (gp pNe) (mVar 7) (mVar 4)) (mVar 7)))) (mSeq (mWhile whF (mXB (mBrB 6 (mBinB (gp pNe) (mSee 6) (mOp gLstD mNil)))) (mSeq (mSet 7 (mX (mMut 6 gPopAt (mCons (mCall m_law_take (cIo 0 (cCons (mBr 6 (mOp gLen (mCons (mSee 6) mNil))) cNil))) mNil)))) (mSeq (mSetP 3 (pAt pHere (mVar 7)) (mBr 5 (mBin gIx (mSee 5) (mCall m_law_take (cIo 0 (cCons (mBr 5 (mOp gLen (mCons (mSee 5) mNil))) cNil))))) (mVar 4)) (mSeq (mDo (mX (mMut 5 gAppend (mCons (mVar 7) mNil)))) mNx)))) (mSeq (mSetP 3 (pAt pHere (mVar 4)) (mVar 4) (mVar 4)) (mSeq (mIfS (mXB (mOrB (mBinB (gp pEq) (mVar 2) (mC (.int 0))) (mAndB (mBinB (gp pEq) (mVar 2) (mC (.int 1))) (mBinB gGt (mCall m_law_take (cIo 0 (cCons (mC (.int 3)) cNil))) (mC (.int 0)))))) (mSeq (mFor [7] (mXI (iRng (mCons (mVar 1) mNil))) (gtN 7) (mSeq (mIfS (mXB (mBinB (gp pNe) (mVar 7) (mVar 4))) (mSeq (mSetP 3 (pAt pHere (mVar 7)) (mBin gMod (mBin gAdd (mVar 7) (mC (.int 1))) (mVar 1)) (mVar 4)) mNx) mNx) mNx)) mNx) (mSeq (mIfS (mXB (mBinB (gp pEq) (mVar 2) (mC (.int 1)))) (mSeq (mFor [7] (mXI (iRng (mCons (mVar 1) mNil))) (gtN 7) (mSeq (mIfS (mXB (mBinB (gp pNe) (mVar 7) (mVar 4))) (mSeq (mSetP 3 (pAt pHere (mVar 7)) (mBin gMod (mBin Tl.gSub (mVar 7) (mC (.int 1))) (mVar 1)) (mVar 4)) mNx) mNx) mNx)) mNx) mNx) mNx)) mNx)))))) (mSeq (mRet (mX (mTk 3))) mNx))))
def m_law_table : MF := mFn [true, false] 8 b_law_table
def b_law_many_k46 : MS := (mSeq (mRet (mX (mBin gIx (mOp gLstD (mCons (mC (.int 1)) (mCons (mC (.int 2)) (mCons (mC (.int 3)) (mCons (mC (.int 4)) (mCons (mC (.int 5)) (mCons (mC (.int 6)) (mCons (mC (.int 4)) (mCons (mC (.int 7)) mNil))))))))) (mCall m_law_take (cIo 0 (cCons (mC (.int 8)) cNil)))))) mNx)
def m_law_many_k46 : MF := mFn [true] 1 b_law_many_k46
def b_law_follows : MS := (mSeq (mSetO 2 (mX (mOp gLstD mNil))) (mSeq (mFor [3] (mXI (iRng (mCons (mOp gLen (mCons (mVar 0) mNil)) mNil))) (gtN 3) (mSeq (mSet 4 (mX (mBin gIx (mBin gIx (mVar 0) (mVar 3)) (mVar 1)))) (mSeq (mIfS (mXB (mAndB (mBinB (gp pNe) (mVar 3) (mVar 1)) (mBinB (gp pNe) (mVar 4) (mVar 1)))) (mSeq (mDo (mX (mMut 2 gAppend (mCons (mOp gTupD (mCons (mOp gTupD (mCons (mVar 3) (mCons (mVar 4) mNil))) (mCons (mOp gTupD (mCons (mVar 4) (mCons (mBin gIx (mBin gIx (mVar 0) (mVar 4)) (mVar 1)) mNil))) mNil))) mNil)))) mNx) mNx) mNx))) (mSeq (mRet (mX (mTk 2))) mNx)))
def m_law_follows : MF := mFn [false, false] 5 b_law_follows
def b_law_rings : MS := (mSeq (mSetO 1 (mX mDNewN)) (mSeq (mFor [2, 3] (mXI (iSeq (mVar 0))) (gtT (gtCons (gtN 2) (gtCons (gtN 3) gtNil))) (mSeq (mSetN 1 (mBin gAdd (mNGetOr 1 (mCons (mVar 2) (mCons (mOp gLstD mNil) mNil))) (mOp gLstD (mCons (mVar 3) mNil))) (mVar 2)) mNx)) (mSeq (mPre (mFzN 1) (mFor [4] (mXI (iNk (mSee 1))) (gtN 4) (mSeq (mSetO 5 (mX mDNewN)) (mSeq (mSetO 6 (mX (mOp gList (mCons (mNGetO 1 (mVar 4)) mNil)))) (mSeq (mWhile whF (mXB (mBrB 6 (mBinB (gp pNe) (mSee 6) (mOp gLstD mNil)))) (mSeq (mSet 7 (mX (mMut 6 gPop mNil))) (mSeq (mIfS (mXB (mBrB 5 (mBinB (gp pNNotIn) (mVar 7) (mSee 5)))) (mSeq (mSetN 5 (mC (.bool true)) (mVar 7)) (mSeq (mDo (mX (mMut 6 gExtendA (mCons (mNGetOr 1 (mCons (mVar 7) (mCons (mOp gLstD mNil) mNil))) mNil)))) mNx)) mNx) mNx))) (mSeq (mIfS (mXB (mBrB 5 (mBinB (gp pNIn) (mVar 4) (mSee 5)))) (mSeq (mRet (mX (mC (.bool true)))) mNx) mNx) mNx)))))) (mSeq (mRet (mX (mC (.bool false)))) mNx))))
def m_law_rings : MF := mFn [false] 8 b_law_rings
def b_law_level_rings : MS := (mSeq (mSet 3 (mX (mOp gLstD mNil))) (mSeq (mFor [4, 5] (mXI (iEnumM (mVar 1))) (gtT (gtCons (gtN 4) (gtCons (gtN 5) gtNil))) (mSeq (mIfS (mXB (mBinB (gp pEq) (mVar 5) (mVar 2))) (mSeq (mSet 3 (mX (mBin gAdd (mVar 3) (mCall m_law_follows (cCons (mVar 0) (cCons (mVar 4) cNil)))))) mNx) mNx) mNx)) (mSeq (mRet (mX (mCall m_law_rings (cCons (mVar 3) cNil)))) mNx)))
def m_law_level_rings : MF := mFn [false, false, false] 6 b_law_level_rings
def b_law_all_lists : MS := (mSeq (mSet 1 (mX (mOp gLstD (mCons (mOp gLstD mNil) mNil)))) (mSeq (mFor [2] (mXI (iRng (mCons (mVar 0) mNil))) (gtN 2) (mSeq (mSetO 3 (mX (mOp gLstD mNil))) (mSeq (mFor [4] (mXI (iSeq (mVar 1))) (gtN 4) (mSeq (mDo (mX (mMut 3 gExtend (mCons (mLc [5] (iRng (mCons (mBin gAdd (mOp gMax (mCons (mBin gAdd (mVar 4) (mOp gLstD (mCons (mUn (gp pNeg) (mC (.int 1))) mNil))) mNil)) (mC (.int 2))) mNil)) (gtN 5) mYes (mBin gAdd (mVar 4) (mOp gLstD (mCons (mVar 5) mNil)))) mNil)))) mNx)) (mSeq (mPre (mFz 3) (mSet 1 (mX (mVar 3)))) mNx)))) (mSeq (mRet (mX (mVar 1))) mNx)))
def m_law_all_lists : MF := mFn [false] 6 b_law_all_lists
def b_law_due_k49 : MS := (mSeq (mSetO 1 (mX mDNewN)) (mSeq (mSet 2 (mX (mC .none))) (mSeq (mFor [3] (mXI (iSeq (mCall m_law_all_lists (cCons (mOp gLen (mCons (mVar 0) mNil)) cNil)))) (gtN 3) (mSeq (mSet 4 (mX (mBin gAdd (mOp gMax (mCons (mVar 3) mNil)) (mC (.int 1))))) (mSeq (mIfS (mXB (mOrB (mBinB (gp pIsN) (mVar 2) (mC .none)) (mBinB gLt (mVar 4) (mBin gAdd (mOp gMax (mCons (mVar 2) mNil)) (mC (.int 1)))))) (mSeq (mSet 5 (mX (mC (.bool false)))) (mSeq (mFor [6] (mXI (iRng (mCons (mVar 4) mNil))) (gtN 6) (mSeq (mSet 7 (mX (mOp gTuple (mCons (mLc [8, 9] (iEnumM (mVar 3)) (gtT (gtCons (gtN 8) (gtCons (gtN 9) gtNil))) (mBinB (gp pEq) (mVar 9) (mVar 6)) (mVar 8)) mNil)))) (mSeq (mIfS (mXB (mBrB 1 (mBinB (gp pNNotIn) (mVar 7) (mSee 1)))) (mSeq (mSetN 1 (mNot (mCall m_law_level_rings (cCons (mVar 0) (cCons (mVar 3) (cCons (mVar 6) cNil))))) (mVar 7)) mNx) mNx) (mSeq (mSet 5 (mX (mOr (mVar 5) (mNot (mNGetO 1 (mVar 7)))))) mNx)))) (mSeq (mIfS (mXB (mNotB (mTru (mVar 5)))) (mSeq (mSet 2 (mX (mVar 3))) mNx) mNx) mNx))) mNx) mNx))) (mSeq (mRet (mX (mVar 2))) mNx))))
def m_law_due_k49 : MF := mFn [false] 10 b_law_due_k49
def b_law_k49 : MS := (mSeq (mFor [1] (mXI (iRng (mCons (mBr 0 (mBin gAdd (mC (.int 1)) (mOp (gp pMin2) (mCons (mC (.int 6)) (mCons (mOp gLen (mCons (mSee 0) mNil)) mNil))))) mNil))) (gtN 1) (mSeq (mSetO 2 (mX (mCall m_law_tape (cIo 0 (cCons (mVar 1) cNil))))) (mSeq (mSet 3 (mX (mCall m_law_table (cIo 2 (cCons (mCall m_law_many_k46 (cIo 2 cNil)) cNil))))) (mSeq (mSet 4 (mX (mOp (gp pRepr) (mCons (mVar 3) mNil)))) (mSeq (mSet 5 (mX (mCall m_law_due_k49 (cCons (mVar 3) cNil)))) (mSeq (mSetO 6 (mX (mCall m_least_levels (cCons (mVar 3) cNil)))) (mSeq (mIfS (mXB (mOrB (mBrB 6 (mNotB (mTru (mLook (m_law_same 60) (cSee (mSee 6) (cSee (mVar 5) cNil)))))) (mOrB (mBinB (gp pNe) (mOp (gp pRepr) (mCons (mVar 3) mNil)) (mVar 4)) (mBrB 6 (mBinB (gp pNotIsB) (mLook m_shows_levels (cSee (mVar 3) (cSee (mSee 6) cNil))) (mC (.bool true))))))) (mSeq (mRet (mX (mC (.bool false)))) mNx) mNx) (mSeq (mDo (mX (mMut 6 gAppend (mCons (mC (.int 0)) mNil)))) (mSeq (mIfS (mXB (mNotB (mTru (mCall (m_law_same 60) (cCons (mCall m_least_levels (cCons (mVar 3) cNil)) (cCons (mVar 5) cNil)))))) (mSeq (mRet (mX (mC (.bool false)))) mNx) mNx) mNx))))))))) (mSeq (mRet (mX (mC (.bool true)))) mNx))
def m_law_k49 : MF := mFn [true] 7 b_law_k49
end La
namespace Tl
open PySem PySem.Spec PyProof.Rows L2
@[simp] theorem shaped_int (i : Int) : SeqAt.shaped (.int i) = true := rfl
@[simp] theorem shaped_bool (i : Bool) : SeqAt.shaped (.bool i) = true := rfl
@[simp] theorem shaped_none : SeqAt.shaped .none = true := rfl
@[simp] theorem eqv_int (i j : Int) : PyData.eqv (.int i) (.int j) = decide (i = j) := by
  by_cases h : i = j <;> simp [PyData.eqv, h]
@[simp] theorem eqv_bool (i j : Bool) : PyData.eqv (.bool i) (.bool j) = (i == j) := by simp [PyData.eqv]
theorem lc_inv {vs : List Nat} {mt : MG} {mc : MB} {me : MV} {fw : Fz} {vw : Tau} (Inv : List D → List D → Tau → Prop)
    (step : ∀ d ds acc τ, Inv (d :: ds) acc τ → ∃ fz b τ1, mt d fw = some fz ∧ mc ⟨fz, vw⟩ τ = some (b, τ1) ∧ (b = false ∧ Inv ds acc (tout vs τ1) ∨ b = true ∧ ∃ r τ2 y, me ⟨fz, vw⟩ τ1 = some (r, τ2) ∧ r.st = some y ∧ Inv ds (acc ++ [y]) (tout vs τ2))) :
    ∀ ds acc τ, Inv ds acc τ → ∃ acc' τ', lcLoop vs mt mc me fw vw ds acc τ = some (acc', τ') ∧ Inv [] acc' τ'
  | [], acc, τ, h => ⟨acc, τ, rfl, h⟩
  | d :: ds, acc, τ, h => by
    obtain ⟨fz, b, τ1, e1, e2, e3⟩ := step d ds acc τ h
    rcases e3 with ⟨rfl, h1⟩ | ⟨rfl, r, τ2, y, e4, e5, h1⟩
    · obtain ⟨acc', τ', e6, h6⟩ := lc_inv Inv step ds acc _ h1
      refine ⟨acc', τ', ?_, h6⟩
      show (mt d fw).bind _ = _
      rw [e1]
      show (mc ⟨fz, vw⟩ τ).bind _ = _
      rw [e2]
      exact e6
    · obtain ⟨acc', τ', e6, h6⟩ := lc_inv Inv step ds (acc ++ [y]) _ h1
      refine ⟨acc', τ', ?_, h6⟩
      show (mt d fw).bind _ = _
      rw [e1]
      show (mc ⟨fz, vw⟩ τ).bind _ = _
      rw [e2]
      show (me ⟨fz, vw⟩ τ1).bind _ = _
      rw [e4]
      show r.st.bind _ = _
      rw [e5]
      exact e6
theorem lc_of {vs : List Nat} {mt : MG} {mc : MB} {me : MV} {fw : Fz} {vw : Tau} {ds acc : List D} {τ : Tau} {x : Option (List D × Tau)} (h : lcLoop vs mt mc me fw vw ds acc τ = x) (Inv : List D → List D → Tau → Prop) (i : Inv ds acc τ)
    (step : ∀ d ds acc τ, Inv (d :: ds) acc τ → ∃ fz b τ1, mt d fw = some fz ∧ mc ⟨fz, vw⟩ τ = some (b, τ1) ∧ (b = false ∧ Inv ds acc (tout vs τ1) ∨ b = true ∧ ∃ r τ2 y, me ⟨fz, vw⟩ τ1 = some (r, τ2) ∧ r.st = some y ∧ Inv ds (acc ++ [y]) (tout vs τ2))) :
    ∃ acc' τ', x = some (acc', τ') ∧ Inv [] acc' τ' := by
  obtain ⟨a, t, e, k⟩ := lc_inv Inv step ds acc τ i
  exact ⟨a, t, h.symm.trans e, k⟩
@[simp] theorem isL_l (ds : List D) : isListD (.list ds) = true := rfl
@[simp] theorem isL_t (ds : List D) : isListD (.tuple ds) = false := rfl
@[simp] theorem isL_n : isListD .none = false := rfl
@[simp] theorem isL_b (b : Bool) : isListD (.bool b) = false := rfl
@[simp] theorem isL_i (b : Int) : isListD (.int b) = false := rfl
@[simp] theorem isL_s (b : Str) : isListD (.str b) = false := rfl
@[simp] theorem isT_l (ds : List D) : isTupD (.list ds) = false := rfl
@[simp] theorem isT_t (ds : List D) : isTupD (.tuple ds) = true := rfl
@[simp] theorem isT_n : isTupD .none = false := rfl
@[simp] theorem isT_b (b : Bool) : isTupD (.bool b) = false := rfl
@[simp] theorem isT_i (b : Int) : isTupD (.int b) = false := rfl
@[simp] theorem isT_s (b : Str) : isTupD (.str b) = false := rfl
@[simp] theorem isS_l (ds : List D) : isStrD (.list ds) = false := rfl
@[simp] theorem isS_t (ds : List D) : isStrD (.tuple ds) = false := rfl
@[simp] theorem isS_n : isStrD .none = false := rfl
@[simp] theorem isS_b (b : Bool) : isStrD (.bool b) = false := rfl
@[simp] theorem isS_i (b : Int) : isStrD (.int b) = false := rfl
@[simp] theorem isS_s (b : Str) : isStrD (.str b) = true := rfl
@[simp] theorem isB_l (ds : List D) : isBoolD (.list ds) = false := rfl
@[simp] theorem isB_t (ds : List D) : isBoolD (.tuple ds) = false := rfl
@[simp] theorem isB_n : isBoolD .none = false := rfl
@[simp] theorem isB_b (b : Bool) : isBoolD (.bool b) = true := rfl
@[simp] theorem isB_i (b : Int) : isBoolD (.int b) = false := rfl
@[simp] theorem isB_s (b : Str) : isBoolD (.str b) = false := rfl
@[simp] theorem isI_l (ds : List D) : isIntD (.list ds) = false := rfl
@[simp] theorem isI_t (ds : List D) : isIntD (.tuple ds) = false := rfl
@[simp] theorem isI_n : isIntD .none = false := rfl
@[simp] theorem isI_b (b : Bool) : isIntD (.bool b) = true := rfl
@[simp] theorem isI_i (b : Int) : isIntD (.int b) = true := rfl
@[simp] theorem isI_s (b : Str) : isIntD (.str b) = false := rfl
@[simp] theorem nn_n : isNone .none = true := rfl
@[simp] theorem nn_l (ds : List D) : isNone (.list ds) = false := rfl
@[simp] theorem nn_t (ds : List D) : isNone (.tuple ds) = false := rfl
@[simp] theorem nn_b (b : Bool) : isNone (.bool b) = false := rfl
@[simp] theorem nn_i (b : Int) : isNone (.int b) = false := rfl
@[simp] theorem nn_s (b : Str) : isNone (.str b) = false := rfl
@[simp] theorem eqv_none : PyData.eqv .none .none = true := by simp [PyData.eqv]
@[simp] theorem eqv_str (a b : Str) : PyData.eqv (.str a) (.str b) = (a == b) := by simp [PyData.eqv]
theorem zipD_self_mem : ∀ {ds : List D} {p : D}, p ∈ zipD ds ds → ∃ d ∈ ds, p = .tuple [d, d]
  | [], _, m => nomatch m
  | d :: ds, p, m => by
    rcases List.mem_cons.mp (show p ∈ .tuple [d, d] :: zipD ds ds from m) with e | m
    · exact ⟨d, List.mem_cons_self, e⟩
    · obtain ⟨d', m', e⟩ := zipD_self_mem m
      exact ⟨d', List.mem_cons_of_mem _ m', e⟩
theorem depthAll_le : ∀ {ds : List D} {d : D}, d ∈ ds → d.depth ≤ PyData.depthAll ds
  | x :: xs, d, m => by
    rw [PyData.depthAll]
    rcases List.mem_cons.mp m with e | m
    · subst e
      omega
    · have := depthAll_le m
      omega
theorem layAll_mem : ∀ {ds : List D} {d : D}, PyData.canLayAll0 ds = true → d ∈ ds → d.canLay0 = true
  | x :: xs, d, h, m => by
    have h' : x.canLay0 = true ∧ PyData.canLayAll0 xs = true := by simpa [PyData.canLayAll0] using h
    rcases List.mem_cons.mp m with e | m
    · subst e
      exact h'.1
    · exact layAll_mem h'.2 m
/-- a comprehension of a plain function of what is in the list -/
theorem lc_mapM {vs : List Nat} {mt : MG} {me : MV} {fw : Fz} {vw : Tau} {τ : Tau} (f : D → D) (hτ : tout vs τ = τ) : ∀ (ds acc : List D) (hm : ∀ d ∈ ds, ∃ fz, mt d fw = some fz ∧ ∃ r, me ⟨fz, vw⟩ τ = some (r, τ) ∧ r.st = some (f d)), lcLoop vs mt mYes me fw vw ds acc τ = some (acc ++ ds.map f, τ)
  | [], acc, _ => by simp [lcLoop]
  | d :: ds, acc, hm => by
    obtain ⟨fz, e1, r, e2, e3⟩ := hm d List.mem_cons_self
    have ih := lc_mapM (vs := vs) (mt := mt) (me := me) (fw := fw) (vw := vw) (τ := τ) f hτ ds (acc ++ [f d]) fun d m => hm d (List.mem_cons_of_mem _ m)
    show (mt d fw).bind _ = _
    rw [e1]
    show (me ⟨fz, vw⟩ τ).bind _ = _
    rw [e2]
    show r.st.bind _ = _
    rw [e3]
    show lcLoop vs mt mYes me fw vw ds (acc ++ [f d]) (tout vs τ) = _
    rw [hτ, ih]
    simp
theorem lc_mapM_of {vs : List Nat} {mt : MG} {me : MV} {fw : Fz} {vw τ : Tau} {ds acc : List D} {x : Option (List D × Tau)} (h : lcLoop vs mt mYes me fw vw ds acc τ = x) (f : D → D) (hτ : tout vs τ = τ) (hm : ∀ d ∈ ds, ∃ fz, mt d fw = some fz ∧ ∃ r, me ⟨fz, vw⟩ τ = some (r, τ) ∧ r.st = some (f d)) : x = some (acc ++ ds.map f, τ) :=
  h.symm.trans (lc_mapM f hτ ds acc hm)
end Tl

namespace La
open PySem PySem.Spec PyProof.Rows L2 Tl
/-- the tape: what is left, the seed, the count; n more draws are covered -/
def Tp (n : Nat) (t : T) : Prop := ∃ a b : Int, ∃ c : Nat, t = .fl [.int a, .int b, .int c] ∧ 0 ≤ a ∧ 0 ≤ b ∧ b < 2147483629 ∧ c + n ≤ 1152921504606846976
@[simp] theorem ixN3_0 : ixN 3 0 = some 0 := by decide
@[simp] theorem ixN3_1 : ixN 3 1 = some 1 := by decide
@[simp] theorem ixN3_2 : ixN 3 2 = some 2 := by decide
theorem take_ok {n : Nat} {t : T} {m : Int} (h : Tp (n + 1) t) (h0 : 0 < m) (h1 : m < 1073741824) : ∃ (v : Int) (t' : T), m_law_take [t, .leaf (.int m)] = some (.leaf (.int v), [t', .leaf (.int m)]) ∧ 0 ≤ v ∧ v < m ∧ Tp n t' := by
  obtain ⟨a, b, c, rfl, ha, hb, hb', hc⟩ := h
  by_cases q : 0 < a
  · refine ⟨a % m, .fl [.int (a / m), .int b, .int c], ?_, Int.emod_nonneg _ (by omega), Int.emod_lt_of_pos _ h0, a / m, b, c, rfl, Int.ediv_nonneg ha (by omega), hb, hb', by omega⟩
    simp [m_law_take, b_law_take, q, h0, h1, L2.atI]
  · have k1 : okMul (b + 39373 * ((c : Int) + 1)) (48271 + ((c : Int) + 1)) = true := okMul_r (by omega) (by omega)
    generalize hw : (b + 39373 * ((c : Int) + 1)) * (48271 + ((c : Int) + 1)) = w at *
    have hu := emod_b w 2147483647 (by omega)
    generalize he : w % 2147483647 = u at *
    have k2 : okMul u (u % 40009 + 7) = true := okMul_l (by omega) (by omega)
    have hz := emod_b (u * (u % 40009 + 7) + ((c : Int) + 1)) 2147483629 (by omega)
    generalize hx : (u * (u % 40009 + 7) + ((c : Int) + 1)) % 2147483629 = z at *
    have k3 : okMul z (z % 1009 + 3) = true := okMul_l (by omega) (by omega)
    have hv := emod_b (z * (z % 1009 + 3) % 998244353 / 7) m h0
    refine ⟨z * (z % 1009 + 3) % 998244353 / 7 % m, .fl [.int a, .int z, .int (c + 1)], ?_, hv.1, hv.2, a, z, c + 1, rfl, ha, hz.1, hz.2, by omega⟩
    simp [m_law_take, b_law_take, q, h0, h1, L2.atI, k1, k2, k3, hw, he, hx]
theorem Tp.mono {m n : Nat} {t : T} (h : Tp n t) (l : m ≤ n) : Tp m t := by
  obtain ⟨a, b, c, e, h1, h2, h3, h4⟩ := h
  exact ⟨a, b, c, e, h1, h2, h3, by omega⟩
theorem atI_ofNat {α : Type} {xs : List α} {j : Nat} : L2.atI xs (j : Int) = xs[j]? := by
  unfold L2.atI
  by_cases h : j < xs.length
  · unfold ixN
    rw [if_pos (by omega), if_pos (by omega)]
    show xs[((j : Int)).toNat]? = _
    rw [Int.toNat_natCast]
  · unfold ixN
    rw [if_pos (by omega), if_neg (by omega), List.getElem?_eq_none (by omega)]
    rfl
theorem cell_ok (ns : List Int) (k : Nat) : ∃ v : Int, m_law_cell_at [.scr (ns.map .int), .leaf (.int k)] = some (.leaf (.int v), [.scr (ns.map .int), .leaf (.int k)]) := by
  by_cases q : k < ns.length
  · have e : (ns.map PyData.int)[k]? = some (.int ns[k]) := by
      rw [List.getElem?_map, List.getElem?_eq_getElem q]
      rfl
    refine ⟨ns[k], ?_⟩
    simp [m_law_cell_at, b_law_cell_at, q, atI_ofNat, -List.getElem?_map, e]
  · refine ⟨0, ?_⟩
    simp [m_law_cell_at, b_law_cell_at, q]
/-- the draws that a tape covers -/
def big : Nat := 1152921504606846976
theorem tape_ok (ns : List Int) (k : Nat) : ∃ t : T, m_law_tape [.scr (ns.map .int), .leaf (.int k)] = some (t, [.scr (ns.map .int), .leaf (.int k)]) ∧ Tp big t := by
  obtain ⟨v, e⟩ := cell_ok ns k
  have hz := emod_b ((v % 2147483647 + 6907 * k + 29) * 48271) 2147483629 (by omega)
  have hp : (10 : Int) ^ 18 = 1000000000000000000 := by decide
  have hn : 0 ≤ (if v < 0 then -v else v) := by split <;> omega
  generalize hw : (if v < 0 then -v else v) = w at *
  have k1 : okMul w (if (decide (1000000000000000000 ≤ w)) = true then 1 else 0) = true := by
    split
    · exact okMul_r (by omega) (by omega)
    · exact okMul_r (by omega) (by omega)
  refine ⟨.fl [.int (w * (if (decide (1000000000000000000 ≤ w)) = true then 1 else 0)), .int ((v % 2147483647 + 6907 * k + 29) * 48271 % 2147483629), .int 0], ?_, _, _, 0, rfl, ?_, hz.1, hz.2, Nat.le_refl _⟩
  · simp [m_law_tape, b_law_tape, e, hw, okPow, hp] at k1 ⊢
    simp [k1]
  · split <;> omega
end La

namespace La
open PySem PySem.Spec PyProof.Rows L2 Tl
/-- a lane of a net of h houses -/
def laneOk (h : Int) (d : D) : Prop := ∃ b e r : Int, d = .tuple [.int b, .int e, .int r] ∧ 0 ≤ b ∧ b < h ∧ 0 ≤ e ∧ e < h ∧ 1 ≤ r ∧ r ≤ 4 ∧ b ≠ e
def LN (h : Int) (ds : List D) : Prop := ∀ d ∈ ds, laneOk h d
theorem LN.app {h : Int} {xs ys : List D} (a : LN h xs) (b : LN h ys) : LN h (xs ++ ys) := fun d m => (List.mem_append.mp m).elim (a d) (b d)
theorem LN.one {h b e r : Int} (h1 : 0 ≤ b) (h2 : b < h) (h3 : 0 ≤ e) (h4 : e < h) (h5 : 1 ≤ r) (h6 : r ≤ 4) (h7 : b ≠ e) : LN h [.tuple [.int b, .int e, .int r]] := fun d m => by
  rw [List.mem_singleton.mp m]
  exact ⟨b, e, r, rfl, h1, h2, h3, h4, h5, h6, h7⟩
theorem LN.nil {h : Int} : LN h [] := fun _ m => nomatch m
end La

namespace La
open PySem PySem.Spec PyProof.Rows L2 Tl
def s_law_table_1 : MS := (mSet 2 (mX (mCall m_law_take (cIo 0 (cCons (mC (.int 4)) cNil)))))
def s_law_table_2 : MS := (mSetO 3 (mX (mLcT [7] (iRng (mCons (mVar 1) mNil)) (gtN 7) mYes (mBin gMul (mOp gLstD (mCons (mC (.int 0)) mNil)) (mVar 1)))))
def s_law_table_3b_1 : MS := (mSetO 5 (mX (mOp gLstD (mCons (mVar 4) mNil))))
def s_law_table_3b_2 : MS := (mSetO 6 (mX (mLc [7] (iRng (mCons (mVar 1) mNil)) (gtN 7) (mBinB (gp pNe) (mVar 7) (mVar 4)) (mVar 7))))
def s_law_table_3b_3b_1 : MS := (mSet 7 (mX (mMut 6 gPopAt (mCons (mCall m_law_take (cIo 0 (cCons (mBr 6 (mOp gLen (mCons (mSee 6) mNil))) cNil))) mNil))))
def s_law_table_3b_3b_2 : MS := (mSetP 3 (pAt pHere (mVar 7)) (mBr 5 (mBin gIx (mSee 5) (mCall m_law_take (cIo 0 (cCons (mBr 5 (mOp gLen (mCons (mSee 5) mNil))) cNil))))) (mVar 4))
def s_law_table_3b_3b_3 : MS := (mDo (mX (mMut 5 gAppend (mCons (mVar 7) mNil))))
abbrev s_law_table_3b_3b : MS := (mSeq s_law_table_3b_3b_1 (mSeq s_law_table_3b_3b_2 (mSeq s_law_table_3b_3b_3 mNx)))
def s_law_table_3b_3 : MS := (mWhile whF (mXB (mBrB 6 (mBinB (gp pNe) (mSee 6) (mOp gLstD mNil)))) s_law_table_3b_3b)
def s_law_table_3b_4 : MS := (mSetP 3 (pAt pHere (mVar 4)) (mVar 4) (mVar 4))
def s_law_table_3b_5t_1b_1 : MS := (mIfS (mXB (mBinB (gp pNe) (mVar 7) (mVar 4))) (mSeq (mSetP 3 (pAt pHere (mVar 7)) (mBin gMod (mBin gAdd (mVar 7) (mC (.int 1))) (mVar 1)) (mVar 4)) mNx) mNx)
abbrev s_law_table_3b_5t_1b : MS := (mSeq s_law_table_3b_5t_1b_1 mNx)
def s_law_table_3b_5t_1 : MS := (mFor [7] (mXI (iRng (mCons (mVar 1) mNil))) (gtN 7) s_law_table_3b_5t_1b)
abbrev s_law_table_3b_5t : MS := (mSeq s_law_table_3b_5t_1 mNx)
def s_law_table_3b_5e_1t_1b_1 : MS := (mIfS (mXB (mBinB (gp pNe) (mVar 7) (mVar 4))) (mSeq (mSetP 3 (pAt pHere (mVar 7)) (mBin gMod (mBin Tl.gSub (mVar 7) (mC (.int 1))) (mVar 1)) (mVar 4)) mNx) mNx)
abbrev s_law_table_3b_5e_1t_1b : MS := (mSeq s_law_table_3b_5e_1t_1b_1 mNx)
def s_law_table_3b_5e_1t_1 : MS := (mFor [7] (mXI (iRng (mCons (mVar 1) mNil))) (gtN 7) s_law_table_3b_5e_1t_1b)
abbrev s_law_table_3b_5e_1t : MS := (mSeq s_law_table_3b_5e_1t_1 mNx)
def s_law_table_3b_5e_1 : MS := (mIfS (mXB (mBinB (gp pEq) (mVar 2) (mC (.int 1)))) s_law_table_3b_5e_1t mNx)
abbrev s_law_table_3b_5e : MS := (mSeq s_law_table_3b_5e_1 mNx)
def s_law_table_3b_5 : MS := (mIfS (mXB (mOrB (mBinB (gp pEq) (mVar 2) (mC (.int 0))) (mAndB (mBinB (gp pEq) (mVar 2) (mC (.int 1))) (mBinB gGt (mCall m_law_take (cIo 0 (cCons (mC (.int 3)) cNil))) (mC (.int 0)))))) s_law_table_3b_5t s_law_table_3b_5e)
abbrev s_law_table_3b : MS := (mSeq s_law_table_3b_1 (mSeq s_law_table_3b_2 (mSeq s_law_table_3b_3 (mSeq s_law_table_3b_4 (mSeq s_law_table_3b_5 mNx)))))
def s_law_table_3 : MS := (mFor [4] (mXI (iRng (mCons (mVar 1) mNil))) (gtN 4) s_law_table_3b)
def s_law_table_4 : MS := (mRet (mX (mTk 3)))
theorem pieces_law_table : b_law_table = (mSeq s_law_table_1 (mSeq s_law_table_2 (mSeq s_law_table_3 (mSeq s_law_table_4 mNx)))) := rfl
end La

namespace Tl
open PySem PySem.Spec PyProof.Rows L2
abbrev natD (n : Nat) : D := .int n
def optD : Option Nat → D
  | none => .none
  | some n => .int n
@[simp] theorem atI_nat {α : Type} (xs : List α) (j : Nat) : L2.atI xs (j : Int) = xs[j]? := by
  unfold L2.atI
  by_cases h : j < xs.length
  · unfold ixN
    rw [if_pos (by omega), if_pos (by omega)]
    show xs[((j : Int)).toNat]? = _
    rw [Int.toNat_natCast]
  · unfold ixN
    rw [if_pos (by omega), if_neg (by omega), List.getElem?_eq_none (by omega)]
    rfl
@[simp] theorem atI_zero {α : Type} (a : α) (l : List α) : L2.atI (a :: l) 0 = some a := atI_nat (a :: l) 0
@[simp] theorem atI_one {α : Type} (a b : α) (l : List α) : L2.atI (a :: b :: l) 1 = some b := atI_nat (a :: b :: l) 1
@[simp] theorem atI_two {α : Type} (a b c : α) (l : List α) : L2.atI (a :: b :: c :: l) 2 = some c := atI_nat (a :: b :: c :: l) 2
@[simp] theorem atI_three {α : Type} (a b c d : α) (l : List α) : L2.atI (a :: b :: c :: d :: l) 3 = some d := atI_nat (a :: b :: c :: d :: l) 3
theorem ixN_of {n : Nat} {i : Int} (h : 0 ≤ i) (h' : i < n) : ixN n i = some i.toNat := by
  unfold ixN
  rw [if_pos h, if_pos h']
theorem ixN_nat {n j : Nat} (h : j < n) : ixN n (j : Int) = some j := by
  rw [ixN_of (by omega) (by omega), Int.toNat_natCast]
theorem seq_nat {n j : Nat} (h : j < n) : seqIndex? (j : Int) n = some j := by
  have q : ¬ ((j : Int) < 0) := by omega
  unfold seqIndex?
  simp [q, h]
theorem rangeD_nat (n : Nat) : rangeD 0 1 n = (List.range n).map natD := by
  unfold rangeD
  refine List.map_congr_left fun i _ => ?_
  simp
theorem enumFrom_map {α : Type} (e : α → D) : ∀ (xs : List α) (k : Nat), enumFrom k (xs.map e) = (xs.zipIdx k).map fun p => .tuple [.int (p.2 : Nat), e p.1]
  | [], _ => rfl
  | x :: xs, k => by
    show PyData.tuple _ :: enumFrom (k + 1) (xs.map e) = _
    rw [enumFrom_map e xs (k + 1)]
    rfl
theorem mem_zipIdx {α : Type} : ∀ {xs : List α} {k : Nat} {p : α × Nat}, p ∈ xs.zipIdx k → k ≤ p.2 ∧ xs[p.2 - k]? = some p.1
  | x :: xs, k, p, m => by
    rw [List.zipIdx_cons] at m
    rcases List.mem_cons.mp m with rfl | m
    · simp
    · obtain ⟨h1, h2⟩ := mem_zipIdx m
      refine ⟨by omega, ?_⟩
      rw [show p.2 - k = (p.2 - (k + 1)) + 1 by omega]
      simpa using h2
/-- the places of those that are so -/
def spots {α : Type} (p : α → Bool) (xs : List α) : List Nat := ((xs.zipIdx).filter fun q => p q.1).map (·.2)
theorem mem_spots {α : Type} {p : α → Bool} {xs : List α} {i : Nat} : i ∈ spots p xs ↔ ∃ x, xs[i]? = some x ∧ p x = true := by
  unfold spots
  simp only [List.mem_map, List.mem_filter]
  constructor
  · rintro ⟨⟨x, j⟩, ⟨m, h⟩, rfl⟩
    have := (mem_zipIdx m).2
    exact ⟨x, by simpa using this, h⟩
  · rintro ⟨x, e, h⟩
    exact ⟨(x, i), ⟨List.mem_zipIdx_iff_getElem?.mpr (by simpa using e), h⟩, rfl⟩
theorem spots_lt {α : Type} {p : α → Bool} {xs : List α} {i : Nat} (m : i ∈ spots p xs) : i < xs.length := by
  obtain ⟨x, e, _⟩ := mem_spots.mp m
  exact (List.getElem?_eq_some_iff.mp e).1
theorem spots_len {α : Type} (p : α → Bool) (xs : List α) : (spots p xs).length ≤ xs.length := by
  unfold spots
  rw [List.length_map]
  exact Nat.le_trans (List.length_filter_le _ _) (by simp)
theorem lc_typ {α : Type} {vs : List Nat} {mt : MG} {mc : MB} {me : MV} {fw : Fz} {vw : Tau} {τ : Tau} {x : Option (List D × Tau)} {e : α → D} {xs : List α} {acc : List D} (h : lcLoop vs mt mc me fw vw (xs.map e) acc τ = x) (p : α → Bool) (f : α → D) (hτ : tout vs τ = τ)
    (hm : ∀ a ∈ xs, ∃ fz, mt (e a) fw = some fz ∧ mc ⟨fz, vw⟩ τ = some (p a, τ) ∧ (p a = true → ∃ r, me ⟨fz, vw⟩ τ = some (r, τ) ∧ r.st = some (f a))) : x = some (acc ++ (xs.filter p).map f, τ) := by
  subst h
  induction xs generalizing acc with
  | nil => simp [lcLoop]
  | cons d ds ih =>
    obtain ⟨fz, e1, e2, e3⟩ := hm d List.mem_cons_self
    have ih := fun acc => ih (acc := acc) fun d m => hm d (List.mem_cons_of_mem _ m)
    show (mt (e d) fw).bind _ = _
    rw [e1]
    show (mc ⟨fz, vw⟩ τ).bind _ = _
    rw [e2]
    cases q : p d with
    | false =>
      show lcLoop vs mt mc me fw vw (ds.map e) acc (tout vs τ) = _
      rw [hτ, ih, List.filter_cons_of_neg (by rw [q]; exact Bool.false_ne_true)]
    | true =>
      obtain ⟨r, e4, e5⟩ := e3 q
      show (me ⟨fz, vw⟩ τ).bind _ = _
      rw [e4]
      show r.st.bind _ = _
      rw [e5]
      show lcLoop vs mt mc me fw vw (ds.map e) (acc ++ [f d]) (tout vs τ) = _
      rw [hτ, ih, List.filter_cons_of_pos q]
      simp
/-- without a condition -/
theorem lc_typM {α : Type} {vs : List Nat} {mt : MG} {me : MV} {fw : Fz} {vw : Tau} {τ : Tau} {x : Option (List D × Tau)} {e : α → D} {xs : List α} {acc : List D} (h : lcLoop vs mt mYes me fw vw (xs.map e) acc τ = x) (f : α → D) (hτ : tout vs τ = τ)
    (hm : ∀ a ∈ xs, ∃ fz, mt (e a) fw = some fz ∧ ∃ r, me ⟨fz, vw⟩ τ = some (r, τ) ∧ r.st = some (f a)) : x = some (acc ++ xs.map f, τ) := by
  have := lc_typ h (fun _ => true) f hτ fun a m => by
    obtain ⟨fz, e1, e2⟩ := hm a m
    exact ⟨fz, e1, rfl, fun _ => e2⟩
  rw [this, List.filter_eq_self.mpr fun _ _ => rfl]
/-- .. by what holds of what is left -/
theorem for_inv {α : Type} {ws : List Nat} {mt : MG} {body : MS} {e : α → D} {xs : List α} {s : SS} {x : Option Out} (h : forL ws mt body (xs.map e) s = x) (Inv : List α → SS → Prop) (i : Inv xs s)
    (step : ∀ a as s, Inv (a :: as) s → ∃ fz, mt (e a) s.fz = some fz ∧ ∃ s', (body ⟨fz, tout ws s.ow⟩ = some (.nx s') ∨ body ⟨fz, tout ws s.ow⟩ = some (.ct s')) ∧ Inv as s') : ∃ s', x = some (.nx s') ∧ Inv [] s' := by
  subst h
  induction xs generalizing s with
  | nil => exact ⟨s, rfl, i⟩
  | cons a xs ih =>
    obtain ⟨fz, e1, s1, e2, h1⟩ := step a xs s i
    obtain ⟨s', e3, h3⟩ := ih h1
    refine ⟨s', ?_, h3⟩
    show (mt (e a) s.fz).bind _ = _
    rw [e1]
    show (body ⟨fz, tout ws s.ow⟩).bind _ = _
    rcases e2 with e2 | e2 <;> (rw [e2]; exact e3)
/-- the loop over the first numbers -/
theorem for_rng {ws : List Nat} {mt : MG} {body : MS} {n : Nat} {s : SS} {x : Option Out} (h : forL ws mt body (rangeD 0 1 n) s = x) (Inv : Nat → SS → Prop) (i : Inv 0 s)
    (step : ∀ k s, k < n → Inv k s → ∃ fz, mt (.int k) s.fz = some fz ∧ ∃ s', (body ⟨fz, tout ws s.ow⟩ = some (.nx s') ∨ body ⟨fz, tout ws s.ow⟩ = some (.ct s')) ∧ Inv (k + 1) s') : ∃ s', x = some (.nx s') ∧ Inv n s' := by
  rw [rangeD_nat] at h
  obtain ⟨s', e, k, hk, q, hi⟩ := for_inv h (fun as s => ∃ k, k + as.length = n ∧ as = (List.range n).drop k ∧ Inv k s) ⟨0, by simp, by simp, i⟩ (by
    rintro a as s ⟨k, hk, q, hi⟩
    rw [List.length_cons] at hk
    have hkn : k < (List.range n).length := by rw [List.length_range]; omega
    rw [List.drop_eq_getElem_cons hkn] at q
    injection q with q1 q2
    rw [List.getElem_range] at q1
    subst q1
    obtain ⟨fz, e1, s', e2, e3⟩ := step a s (by omega) hi
    exact ⟨fz, e1, s', e2, a + 1, by omega, q2, e3⟩)
  have : k = n := by simpa using hk
  subst this
  exact ⟨s', e, hi⟩
/-- while, by what holds ahead of each turn and a number that falls -/
theorem whL_of {mc : MXB} {body : MS} {n : Nat} {s : SS} {x : Option Out} (h : whL mc body n s = x) (Inv : Nat → SS → Prop) (Post : SS → Prop) (m : Nat) (i : Inv m s) (hm : m < n)
    (step : ∀ m s, Inv m s → (∃ s1, mc s = some (false, s1) ∧ Post s1) ∨ (∃ s1 s2 m', mc s = some (true, s1) ∧ (body s1 = some (.nx s2) ∨ body s1 = some (.ct s2)) ∧ m' < m ∧ Inv m' s2)) : ∃ s', x = some (.nx s') ∧ Post s' := by
  subst h
  induction n generalizing m s with
  | zero => omega
  | succ n ih =>
    rcases step m s i with ⟨s1, e1, hp⟩ | ⟨s1, s2, m', e1, e2, hl, hi⟩
    · refine ⟨s1, ?_, hp⟩
      show (mc s).bind _ = _
      rw [e1]
      rfl
    · obtain ⟨s', e3, h3⟩ := ih m' hi (by omega)
      refine ⟨s', ?_, h3⟩
      show (mc s).bind _ = _
      rw [e1]
      show (body s1).bind _ = _
      rcases e2 with e2 | e2 <;> (rw [e2]; exact e3)
/-- .. where the test leaves the state alone -/
theorem whL_st {mc : MXB} {body : MS} {n : Nat} {s : SS} {x : Option Out} (h : whL mc body n s = x) (Inv : Nat → SS → Prop) (Post : SS → Prop) (m : Nat) (i : Inv m s) (hm : m < n)
    (step : ∀ m s, Inv m s → (mc s = some (false, s) ∧ Post s) ∨ (mc s = some (true, s) ∧ ∃ s2, (body s = some (.nx s2) ∨ body s = some (.ct s2)) ∧ ∃ m', m' < m ∧ Inv m' s2)) : ∃ s', x = some (.nx s') ∧ Post s' :=
  whL_of h Inv Post m i hm fun m s i => by
    rcases step m s i with ⟨e, p⟩ | ⟨e, s2, b, m', l, i'⟩
    · exact .inl ⟨s, e, p⟩
    · exact .inr ⟨s, s2, m', e, b, l, i'⟩
theorem lay_nats : ∀ (Q : List Nat), PyData.canLayAll0 (Q.map natD) = true ∧ PyData.depthAll (Q.map natD) = 0
  | [] => ⟨rfl, by simp [PyData.depthAll]⟩
  | q :: Q => by
    obtain ⟨a, b⟩ := lay_nats Q
    exact ⟨by simpa [PyData.canLayAll0, PyData.canLay0] using a, by simp [PyData.depthAll, PyData.depth] at b ⊢; exact b⟩
@[simp] theorem shaped_nats (Q : List Nat) : SeqAt.shaped (.list (Q.map natD)) = true := by
  obtain ⟨a, b⟩ := lay_nats Q
  unfold SeqAt.shaped
  simp only [PyData.canLay0, PyData.depth, a, b]
  rfl
@[simp] theorem shaped_natsT (Q : List Nat) : SeqAt.shaped (.tuple (Q.map natD)) = true := by
  obtain ⟨a, b⟩ := lay_nats Q
  unfold SeqAt.shaped
  simp only [PyData.canLay0, PyData.depth, a, b]
  rfl
theorem any_nats (x : Nat) : ∀ (Q : List Nat), ((Q.map natD).any fun z => PyData.eqv z (.int x)) = decide (x ∈ Q)
  | [] => rfl
  | q :: Q => by
    rw [List.map_cons, List.any_cons, any_nats x Q, eqv_int]
    by_cases h : x = q
    · subst h
      simp
    · have h' : ¬ ((q : Int) = x) := by omega
      simp [h, h']
@[simp] theorem any_nats' (x : Nat) (Q : List Nat) : (Q.any ((fun z => PyData.eqv z (.int x)) ∘ natD)) = decide (x ∈ Q) := by
  rw [← any_nats x Q, List.any_map]
@[simp] theorem eqv_list (a b : List D) : PyData.eqv (.list a) (.list b) = PyData.eqvAll a b := by simp [PyData.eqv]
@[simp] theorem eqv_tuple (a b : List D) : PyData.eqv (.tuple a) (.tuple b) = PyData.eqvAll a b := by simp [PyData.eqv]
@[simp] theorem eqvAll_nn : PyData.eqvAll [] [] = true := by simp [PyData.eqvAll]
@[simp] theorem eqvAll_cn (a : D) (as : List D) : PyData.eqvAll (a :: as) [] = false := by simp [PyData.eqvAll]
@[simp] theorem eqvAll_nc (a : D) (as : List D) : PyData.eqvAll [] (a :: as) = false := by simp [PyData.eqvAll]
@[simp] theorem eqvAll_cc (a b : D) (as bs : List D) : PyData.eqvAll (a :: as) (b :: bs) = (PyData.eqv a b && PyData.eqvAll as bs) := by simp [PyData.eqvAll]
@[simp] theorem eqvAll_nil (as : List D) : PyData.eqvAll as [] = as.isEmpty := by cases as <;> simp
@[simp] theorem shaped_nil : SeqAt.shaped (.list []) = true := rfl
@[simp] theorem shaped_nilT : SeqAt.shaped (.tuple []) = true := rfl
@[simp] theorem eqv_ni (i : Int) : PyData.eqv .none (.int i) = false := by simp [PyData.eqv]
@[simp] theorem eqv_in (i : Int) : PyData.eqv (.int i) .none = false := by simp [PyData.eqv]
@[simp] def tMinK3 (ns : List Int) : Option R := ns.min?.map rInt
@[simp] def tMinK2 (ds : List D) : Option R := bd (intsD ds) tMinK3
def tMinK : Bool × List D → Option R
  | (true, ds) => tMinK2 ds
  | (false, _) => none
@[simp] theorem r_gMin (r : R) : gMin [r] = bd r.its tMinK := bd_of fun a => by
  obtain ⟨b, ds⟩ := a
  cases b <;> rfl
@[simp] def tMaxK3 (ns : List Int) : Option R := ns.max?.map rInt
@[simp] def tMaxK2 (ds : List D) : Option R := bd (intsD ds) tMaxK3
def tMaxK : Bool × List D → Option R
  | (true, ds) => tMaxK2 ds
  | (false, _) => none
@[simp] theorem r_gMax (r : R) : gMax [r] = bd r.its tMaxK := bd_of fun a => by
  obtain ⟨b, ds⟩ := a
  cases b <;> rfl
@[simp] theorem erase_map {α β : Type} (f : α → β) : ∀ (l : List α) (n : Nat), (l.map f).eraseIdx n = (l.eraseIdx n).map f
  | [], _ => rfl
  | _ :: _, 0 => rfl
  | a :: l, n + 1 => by
    show f a :: (l.map f).eraseIdx n = _
    rw [erase_map f l n]
    rfl
/-- a thing that may be owned yet -/
def Opt (base : Tau) (k : Nat) (τ : Tau) : Prop := τ = base ∨ ∃ u, τ = base ++ [(k, u)]
theorem Opt.no {base : Tau} {k : Nat} : Opt base k base := .inl rfl
mutual
theorem eqv_self : ∀ d : D, d.canLay0 = true → PyData.eqv d d = true
  | .none, _ => by simp
  | .bool _, _ => by simp
  | .int _, _ => by simp
  | .str _, _ => by simp
  | .dict _, h => by cases h
  | .list xs, h => by
    rw [eqv_list]
    exact eqvAll_self xs (by simpa [PyData.canLay0] using h)
  | .tuple xs, h => by
    rw [eqv_tuple]
    exact eqvAll_self xs (by simpa [PyData.canLay0] using h)
theorem eqvAll_self : ∀ ds : List D, PyData.canLayAll0 ds = true → PyData.eqvAll ds ds = true
  | [], _ => by simp
  | d :: ds, h => by
    have h' : d.canLay0 = true ∧ PyData.canLayAll0 ds = true := by simpa [PyData.canLayAll0] using h
    rw [eqvAll_cc, eqv_self d h'.1, eqvAll_self ds h'.2]
    rfl
end
theorem dec_nat (a b : Nat) : decide ((a : Int) = b) = (a == b) := by
  by_cases h : a = b
  · subst h
    simp
  · have h' : ¬ (a : Int) = b := by omega
    simp [h, h']
theorem for_rng' {ws : List Nat} {mt : MG} {body : MS} {n : Nat} {s : SS} {x : Option Out} (h : forL ws mt body ((List.range n).map natD) s = x) (Inv : Nat → SS → Prop) (i : Inv 0 s)
    (step : ∀ k s, k < n → Inv k s → ∃ fz, mt (.int k) s.fz = some fz ∧ ∃ s', (body ⟨fz, tout ws s.ow⟩ = some (.nx s') ∨ body ⟨fz, tout ws s.ow⟩ = some (.ct s')) ∧ Inv (k + 1) s') : ∃ s', x = some (.nx s') ∧ Inv n s' := by
  rw [← rangeD_nat] at h
  exact for_rng h Inv i step
end Tl

namespace La
def itr (f : Nat → Nat) : Nat → Nat → Nat
  | 0, x => x
  | k + 1, x => f (itr f k x)
theorem itr_in (f : Nat → Nat) : ∀ k x, itr f (k + 1) x = itr f k (f x)
  | 0, x => rfl
  | k + 1, x => by
    show f (itr f (k + 1) x) = f (itr f k (f x))
    rw [itr_in f k x]
theorem nodup_lenT {N : Nat} : ∀ {Q : List Nat}, Q.Nodup → (∀ x ∈ Q, x < N) → Q.length ≤ N := by
  induction N with
  | zero =>
    intro Q _ h
    cases Q with
    | nil => exact Nat.le_refl _
    | cons a r => exact absurd (h a List.mem_cons_self) (Nat.not_lt_zero _)
  | succ N ih =>
    intro Q nd h
    have e := ih (Q := Q.erase N) (nd.erase N) fun x m => by
      have h1 := h x (List.mem_of_mem_erase m)
      have h2 : x ≠ N := fun z => by
        rw [z] at m
        exact absurd m (nd.not_mem_erase)
      omega
    have := List.length_erase (a := N) (l := Q)
    split at this <;> omega
/-- a table of n houses, by columns -/
def okG (f : Nat → Nat) (n g : Nat) : Prop := f g = g ∧ ∀ x, x < n → itr f n x = g
end La

namespace La
open PySem PySem.Spec PyProof.Rows L2 Tl
def houB (n : Nat) : D → Bool
  | .int i => decide (0 ≤ i) && decide (i < n)
  | _ => false
def trow (n : Nat) (Tb : Nat → Nat → Nat) (x : Nat) : List D := (List.range n).map fun g => natD (Tb x g)
def tabN (n : Nat) (Tb : Nat → Nat → Nat) : D := .list ((List.range n).map fun x => .list (trow n Tb x))
theorem ix_tabN {n x : Nat} {Tb : Nat → Nat → Nat} (hx : x < n) : gIx [.val (.leaf (tabN n Tb)), .val (.leaf (.int (x : Nat)))] = some (rd (.list (trow n Tb x))) := by
  have e : ((List.range n).map fun x => PyData.list (trow n Tb x))[x]? = some (.list (trow n Tb x)) := by simp [hx]
  unfold tabN
  generalize ((List.range n).map fun x => PyData.list (trow n Tb x)) = Z at e
  simp [atI_ofNat, e]
theorem ix_trow {n x g : Nat} {Tb : Nat → Nat → Nat} (hg : g < n) : gIx [.val (.leaf (.list (trow n Tb x))), .val (.leaf (.int (g : Nat)))] = some (rInt (Tb x g)) := by
  have e : (trow n Tb x)[g]? = some (natD (Tb x g)) := by simp [trow, hg]
  generalize trow n Tb x = Z at e
  simp [atI_ofNat, e]
theorem len_tabN {n : Nat} {Tb : Nat → Nat → Nat} : gLen [.val (.leaf (tabN n Tb))] = some (rInt n) := by
  have e : ((List.range n).map fun x => PyData.list (trow n Tb x)).length = n := by rw [List.length_map, List.length_range]
  unfold tabN
  generalize ((List.range n).map fun x => PyData.list (trow n Tb x)) = Z at e
  simp [e]
theorem ishouse_ok (n : Nat) (d : D) : m_is_house [.leaf d, .leaf (.int n)] = some (.leaf (.bool (houB n d)), [.leaf d, .leaf (.int n)]) := by
  cases d with
  | int i =>
    by_cases q1 : 0 ≤ i
    · by_cases q2 : i < n
      · simp [m_is_house, b_is_house, houB, isIntD, isBoolD, q1, q2]
      · simp [m_is_house, b_is_house, houB, isIntD, isBoolD, q1, q2]
    · simp [m_is_house, b_is_house, houB, isIntD, isBoolD, q1]
  | _ => simp [m_is_house, b_is_house, houB, isIntD, isBoolD]
end La

namespace La
open PySem PySem.Spec PyProof.Rows L2 Tl
theorem t_nx {a b : MS} {s s' : SS} (e : a s = some (.nx s')) : mSeq a b s = b s' := by
  simp [e]
theorem t_rt {a b : MS} {s s' : SS} {r : T} (e : a s = some (.rt r s')) : mSeq a b s = some (.rt r s') := by
  simp [e]
end La

namespace La
open PySem PySem.Spec PyProof.Rows L2 Tl
theorem dec_nat (u g : Nat) : decide ((u : Int) = g) = decide (u = g) := by
  by_cases q : u = g
  · simp [q]
  · have : ¬ (u : Int) = g := by omega
    simp [q, this]
end La

namespace La
/-- houses in the order in which they came in; each goes to one that came before -/
def Ordered (f : Nat → Nat) (g : Nat) (I : List Nat) : Prop := I[0]? = some g ∧ ∀ i x, 0 < i → I[i]? = some x → ∃ j y, j < i ∧ I[j]? = some y ∧ f x = y
theorem ordered_one (f : Nat → Nat) (g : Nat) : Ordered f g [g] := ⟨rfl, fun i x h e => by
  have := (List.getElem?_eq_some_iff.mp e).1
  rw [List.length_singleton] at this
  omega⟩
theorem ordered_add {f f' : Nat → Nat} {g x j : Nat} {I : List Nat} (o : Ordered f g I) (same : ∀ y, y ∈ I → f' y = f y) (hj : I[j]? = some (f' x)) : Ordered f' g (I ++ [x]) := by
  obtain ⟨o1, o2⟩ := o
  have app : ∀ i y, I[i]? = some y → (I ++ [x])[i]? = some y := fun i y e => by
    rw [List.getElem?_append_left (List.getElem?_eq_some_iff.mp e).1]
    exact e
  refine ⟨app 0 g o1, fun i z hi e => ?_⟩
  by_cases q : i < I.length
  · rw [List.getElem?_append_left q] at e
    obtain ⟨j, y, a, b, c⟩ := o2 i z hi e
    exact ⟨j, y, a, app j y b, (same z (List.mem_of_getElem? e)).trans c⟩
  · have hl := (List.getElem?_eq_some_iff.mp e).1
    rw [List.length_append, List.length_singleton] at hl
    have : i = I.length := by omega
    subst this
    rw [List.getElem?_append_right (Nat.le_refl _), Nat.sub_self] at e
    have ez : x = z := by simpa using e
    subst ez
    exact ⟨j, f' x, (List.getElem?_eq_some_iff.mp hj).1, app j _ hj, rfl⟩
theorem itr_fix {f : Nat → Nat} {g : Nat} (fg : f g = g) : ∀ k, itr f k g = g
  | 0 => rfl
  | k + 1 => by
    rw [itr_in, fg]
    exact itr_fix fg k
theorem ordered_itr {f : Nat → Nat} {g : Nat} {I : List Nat} (o : Ordered f g I) (fg : f g = g) : ∀ i, ∀ x, I[i]? = some x → ∀ k, i ≤ k → itr f k x = g := by
  intro i
  induction i using Nat.strongRecOn with
  | ind i ih =>
    intro x e k hk
    by_cases q : i = 0
    · subst q
      have := o.1
      rw [e] at this
      cases this
      exact itr_fix fg k
    · obtain ⟨j, y, a, b, c⟩ := o.2 i x (by omega) e
      obtain ⟨k', rfl⟩ : ∃ k', k = k' + 1 := ⟨k - 1, by omega⟩
      rw [itr_in, c]
      exact ih j a y b k' (by omega)
theorem ordered_ok {f : Nat → Nat} {n g : Nat} {I : List Nat} (o : Ordered f g I) (fg : f g = g) (nd : I.Nodup) (lt : ∀ x ∈ I, x < n) (all : ∀ x, x < n → x ∈ I) : okG f n g := by
  refine ⟨fg, fun x hx => ?_⟩
  obtain ⟨i, hi, e⟩ := List.getElem_of_mem (all x hx)
  have := nodup_lenT nd lt
  exact ordered_itr o fg i x (by rw [List.getElem?_eq_getElem hi, e]) n (by omega)
theorem up_ok {f : Nat → Nat} {n g : Nat} (hg : g < n) (fg : f g = g) (h : ∀ x, x < n → x ≠ g → f x = (x + 1) % n) : okG f n g := by
  have key : ∀ d x, x < n → (x + d) % n = g → ∀ k, d ≤ k → itr f k x = g := by
    intro d
    induction d with
    | zero =>
      intro x hx e k _
      rw [Nat.add_zero, Nat.mod_eq_of_lt hx] at e
      subst e
      exact itr_fix fg k
    | succ d ih =>
      intro x hx e k hk
      by_cases q : x = g
      · subst q
        exact itr_fix fg k
      · obtain ⟨k', rfl⟩ : ∃ k', k = k' + 1 := ⟨k - 1, by omega⟩
        rw [itr_in, h x hx q]
        refine ih _ (Nat.mod_lt _ (by omega)) ?_ k' (by omega)
        rw [Nat.mod_add_mod, ← e]
        congr 1
        omega
  refine ⟨fg, fun x hx => key ((g + n - x) % n) x hx ?_ n (Nat.le_of_lt (Nat.mod_lt _ (by omega)))⟩
  rw [Nat.add_mod_mod, show x + (g + n - x) = g + n by omega, Nat.add_mod_right, Nat.mod_eq_of_lt hg]
theorem down_ok {f : Nat → Nat} {n g : Nat} (hg : g < n) (fg : f g = g) (h : ∀ x, x < n → x ≠ g → f x = (x + n - 1) % n) : okG f n g := by
  have key : ∀ d k, d ≤ k → itr f k ((g + d) % n) = g := by
    intro d
    induction d with
    | zero =>
      intro k _
      rw [Nat.add_zero, Nat.mod_eq_of_lt hg]
      exact itr_fix fg k
    | succ d ih =>
      intro k hk
      by_cases q : (g + (d + 1)) % n = g
      · rw [q]
        exact itr_fix fg k
      · obtain ⟨k', rfl⟩ : ∃ k', k = k' + 1 := ⟨k - 1, by omega⟩
        rw [itr_in, h _ (Nat.mod_lt _ (by omega)) q]
        have e : ((g + (d + 1)) % n + n - 1) % n = (g + d) % n := by
          have h1 := Nat.mod_lt (g + (d + 1)) (show n > 0 by omega)
          have h2 : (g + (d + 1)) % n + n - 1 = (g + (d + 1)) % n + (n - 1) := by omega
          rw [h2, Nat.mod_add_mod, show g + (d + 1) + (n - 1) = (g + d) + n by omega, Nat.add_mod_right]
        rw [e]
        exact ih k' (by omega)
  refine ⟨fg, fun x hx => ?_⟩
  have e : (g + (x + n - g) % n) % n = x := by
    rw [Nat.add_mod_mod, show g + (x + n - g) = x + n by omega, Nat.add_mod_right, Nat.mod_eq_of_lt hx]
  have := key ((x + n - g) % n) n (Nat.le_of_lt (Nat.mod_lt _ (by omega)))
  rw [e] at this
  exact this
end La

namespace Tl
open PySem PySem.Spec PyProof.Rows L2
theorem ok_of (s : String) : PyData.strOk (Str.ofString s) = true := by
  rw [Str.ofString_eq_toList]
  unfold PyData.strOk
  simp only [List.all_toArray, List.all_map, List.all_eq_true, Function.comp, decide_eq_true_eq]
  intro c _
  have h := c.valid
  have e : c.toNat = c.val.toNat := rfl
  rcases h with h | ⟨_, h⟩
  · have : c.val.toNat < 0xd800 := h
    omega
  · have : c.val.toNat < 0x110000 := h
    omega
theorem ok_app {a b : Str} (h : PyData.strOk a = true) (h' : PyData.strOk b = true) : PyData.strOk (a ++ b) = true := by
  unfold PyData.strOk at *
  show (a.cps ++ b.cps).all _ = true
  rw [Array.all_append, h, h']
  rfl
theorem ok_text : ∀ (ts : List Str) (k : Nat) (acc : Str), PyData.strOk acc = true → (∀ t ∈ ts, PyData.strOk t = true) → PyData.strOk (textFrom k acc ts) = true
  | [], _, _, h, _ => h
  | t :: r, k, acc, h, h' => by
    refine ok_text r (k + 1) _ (ok_app (ok_app h (ok_of _)) (h' t List.mem_cons_self)) fun t m => h' t (List.mem_cons_of_mem _ m)
theorem ok_join : ∀ (ts : List Str), (∀ t ∈ ts, PyData.strOk t = true) → PyData.strOk (Str.join ", " ts) = true
  | [], _ => by simp [Str.join, Str.empty, PyData.strOk]
  | [x], h => h x List.mem_cons_self
  | x :: y :: r, h => by
    show PyData.strOk (x ++ ", " ++ Str.join ", " (y :: r)) = true
    exact ok_app (ok_app (h x List.mem_cons_self) (ok_of _)) (ok_join (y :: r) fun t m => h t (List.mem_cons_of_mem _ m))
end Tl

namespace Tl
open PySem PySem.Spec PyProof.Rows L2
theorem char_lt (c : Char) : c.toNat < 0x110000 := by
  have h := c.valid
  have e : c.toNat = c.val.toNat := rfl
  rcases h with h | ⟨_, h⟩
  · have : c.val.toNat < 0xd800 := h
    omega
  · have : c.val.toNat < 0x110000 := h
    omega
theorem hex_lt (n : Nat) (cs : List Char) : ∀ x ∈ List.replicate n 48 ++ cs.map Char.toNat, x < 0x110000 := by
  intro x m
  rcases List.mem_append.mp m with m | m
  · rw [List.eq_of_mem_replicate m]
    decide
  · obtain ⟨c, _, rfl⟩ := List.mem_map.mp m
    exact char_lt c
theorem reprChar_lt (q c : Nat) (hc : c < 0x110000) : ∀ x ∈ PySem.Builtin.Str.reprChar q c, x < 0x110000 := by
  intro x m
  unfold PySem.Builtin.Str.reprChar at m
  dsimp only at m
  have two : ∀ a b : Nat, a < 0x110000 → b < 0x110000 → x ∈ [a, b] → x < 0x110000 := by
    intro a b ha hb m
    rcases List.mem_cons.mp m with rfl | m
    · exact ha
    · rw [List.mem_singleton.mp m]
      exact hb
  have hx : ∀ (a b n : Nat) (cs : List Char), a < 0x110000 → b < 0x110000 → x ∈ [a, b] ++ (List.replicate n 48 ++ cs.map Char.toNat) → x < 0x110000 := by
    intro a b n cs ha hb m
    rcases List.mem_append.mp m with m | m
    · exact two a b ha hb m
    · exact hex_lt n cs x m
  repeat' split at m
  · exact two _ _ (by decide) hc m
  · exact two _ _ (by decide) (by decide) m
  · exact two _ _ (by decide) (by decide) m
  · exact two _ _ (by decide) (by decide) m
  · rw [List.mem_singleton.mp m]
    exact hc
  · exact hx _ _ _ _ (by decide) (by decide) m
  · exact hx _ _ _ _ (by decide) (by decide) m
  · exact hx _ _ _ _ (by decide) (by decide) m
theorem foldl_repr_lt (q : Nat) : ∀ (l : List Nat) (acc : Array Nat), (∀ c ∈ l, c < 0x110000) → (∀ c ∈ acc, c < 0x110000) → ∀ c ∈ l.foldl (fun out c => out ++ (PySem.Builtin.Str.reprChar q c).toArray) acc, c < 0x110000
  | [], _, _, h => h
  | c :: r, acc, h, h' => by
    rw [List.foldl_cons]
    refine foldl_repr_lt q r _ (fun d m => h d (List.mem_cons_of_mem _ m)) fun d m => ?_
    rcases Array.mem_append.mp m with m | m
    · exact h' d m
    · exact reprChar_lt q c (h c List.mem_cons_self) d (by simpa using m)
theorem ok_iff {x : Str} : PyData.strOk x = true ↔ ∀ c ∈ x.cps, c < 0x110000 := by
  unfold PyData.strOk
  rw [Array.all_eq_true_iff_forall_mem]
  simp
theorem ok_reprText {x : Str} (h : PyData.strOk x = true) : PyData.strOk (reprText x) = true := by
  rw [ok_iff] at h ⊢
  have hq : reprQuote x < 0x110000 := by
    unfold reprQuote
    split <;> decide
  intro c m
  unfold reprText at m
  rcases Array.mem_push.mp m with m | m
  · rw [← Array.foldl_toList] at m
    exact foldl_repr_lt _ _ _ (fun d m => h d (Array.mem_toList_iff.mp m)) (fun d m => by
      have : d = reprQuote x := by simpa using m
      rw [this]
      exact hq) c m
  · rw [m]
    exact hq
mutual
theorem ok_shown0 : ∀ d : D, d.canLay0 = true → PyData.strOk d.shown = true
  | .none, _ => ok_of _
  | .bool true, _ => ok_of _
  | .bool false, _ => ok_of _
  | .int i, _ => ok_of _
  | .str s, h => ok_reprText (by simpa [PyData.canLay0] using h)
  | .dict _, h => by cases h
  | .list xs, h => ok_app (ok_text _ 0 _ (ok_of _) (ok_shownAll0 xs (by simpa [PyData.canLay0] using h))) (ok_of _)
  | .tuple xs, h => ok_app (ok_app (ok_of _) (ok_join _ (ok_shownAll0 xs (by simpa [PyData.canLay0] using h)))) (ok_of _)
theorem ok_shownAll0 : ∀ ds : List D, PyData.canLayAll0 ds = true → ∀ t ∈ PyData.shownAll ds, PyData.strOk t = true
  | [], _ => fun _ m => nomatch m
  | x :: xs, h => fun t m => by
    have h' : x.canLay0 = true ∧ PyData.canLayAll0 xs = true := by simpa [PyData.canLayAll0] using h
    rcases List.mem_cons.mp (show t ∈ x.shown :: PyData.shownAll xs from m) with e | m
    · rw [e]
      exact ok_shown0 x h'.1
    · exact ok_shownAll0 xs h'.2 t m
end
theorem shaped_str {s : Str} (h : PyData.strOk s = true) : SeqAt.shaped (.str s) = true := by
  unfold SeqAt.shaped
  have : PyData.canLay0 (.str s) = true := h
  rw [this]
  rfl
theorem ok_strOf {d : D} (h : d.canLay0 = true) : PyData.strOk (strOf d) = true := by
  cases d with
  | str s => exact h
  | _ => exact ok_shown0 _ h
/-- what may be shown: so deep, of such a weight -/
structure Shw (n w : Nat) (d : D) : Prop where
  lay : d.canLay0 = true
  sh : d.showable = true
  shr : d.intsShort 40 = true
  dp : d.depth ≤ n
  wt : d.weight ≤ w
structure ShwL (n w : Nat) (ds : List D) : Prop where
  lay : PyData.canLayAll0 ds = true
  sh : PyData.showableAll ds = true
  shr : PyData.intsShortAll 40 ds = true
  dp : PyData.depthAll ds ≤ n
  wt : PyData.weightAll ds ≤ w
theorem Shw.mono {n w n' w' : Nat} {d : D} (h : Shw n w d) (l : n ≤ n') (l' : w ≤ w') : Shw n' w' d := ⟨h.lay, h.sh, h.shr, Nat.le_trans h.dp l, Nat.le_trans h.wt l'⟩
theorem ShwL.mono {n w n' w' : Nat} {d : List D} (h : ShwL n w d) (l : n ≤ n') (l' : w ≤ w') : ShwL n' w' d := ⟨h.lay, h.sh, h.shr, Nat.le_trans h.dp l, Nat.le_trans h.wt l'⟩
theorem ShwL.nil {n w : Nat} : ShwL n w [] := ⟨rfl, rfl, rfl, by simp [PyData.depthAll], by simp [PyData.weightAll]⟩
theorem ShwL.cons {n w v : Nat} {d : D} {ds : List D} (h : Shw n w d) (k : ShwL n v ds) : ShwL n (w + 1 + v) (d :: ds) := by
  refine ⟨by simp [PyData.canLayAll0, h.lay, k.lay], by simp [PyData.showableAll, h.sh, k.sh], by simp [PyData.intsShortAll, h.shr, k.shr], ?_, ?_⟩
  · have := h.dp
    have := k.dp
    rw [PyData.depthAll]
    omega
  · have := h.wt
    have := k.wt
    rw [PyData.weightAll]
    omega
theorem ShwL.app {n w v : Nat} : ∀ {ds es : List D}, ShwL n w ds → ShwL n v es → ShwL n (w + v) (ds ++ es)
  | [], es, _, k => k.mono (Nat.le_refl _) (Nat.le_add_left _ _)
  | d :: ds, es, h, k => by
    have h1 : d.canLay0 = true ∧ PyData.canLayAll0 ds = true := by simpa [PyData.canLayAll0] using h.lay
    have h2 : d.showable = true ∧ PyData.showableAll ds = true := by simpa [PyData.showableAll] using h.sh
    have h3 : d.intsShort 40 = true ∧ PyData.intsShortAll 40 ds = true := by simpa [PyData.intsShortAll] using h.shr
    have h4 := h.dp
    have h5 := h.wt
    rw [PyData.depthAll] at h4
    rw [PyData.weightAll] at h5
    have a : Shw n d.weight d := ⟨h1.1, h2.1, h3.1, by omega, Nat.le_refl _⟩
    have b : ShwL n (w - d.weight - 1) ds := ⟨h1.2, h2.2, h3.2, by omega, by omega⟩
    exact (ShwL.cons a (ShwL.app b k)).mono (Nat.le_refl _) (by omega)
theorem Shw.list {n w : Nat} {ds : List D} (h : ShwL n w ds) : Shw (n + 1) w (.list ds) := ⟨by simpa [PyData.canLay0] using h.lay, by simpa [PyData.showable] using h.sh, by simpa [PyData.intsShort] using h.shr, by rw [PyData.depth]; have := h.dp; omega, by simpa [PyData.weight] using h.wt⟩
theorem Shw.tuple {n w : Nat} {ds : List D} (h : ShwL n w ds) : Shw (n + 1) w (.tuple ds) := ⟨by simpa [PyData.canLay0] using h.lay, by simpa [PyData.showable] using h.sh, by simpa [PyData.intsShort] using h.shr, by rw [PyData.depth]; have := h.dp; omega, by simpa [PyData.weight] using h.wt⟩
theorem Shw.ofL {n w : Nat} {ds : List D} (h : Shw (n + 1) w (.list ds)) : ShwL n w ds := ⟨by simpa [PyData.canLay0] using h.lay, by simpa [PyData.showable] using h.sh, by simpa [PyData.intsShort] using h.shr, by have := h.dp; rw [PyData.depth] at this; omega, by simpa [PyData.weight] using h.wt⟩
theorem Shw.ofT {n w : Nat} {ds : List D} (h : Shw (n + 1) w (.tuple ds)) : ShwL n w ds := ⟨by simpa [PyData.canLay0] using h.lay, by simpa [PyData.showable] using h.sh, by simpa [PyData.intsShort] using h.shr, by have := h.dp; rw [PyData.depth] at this; omega, by simpa [PyData.weight] using h.wt⟩
theorem Shw.none {n w : Nat} : Shw n w .none := ⟨rfl, rfl, rfl, by simp [PyData.depth], by simp [PyData.weight]⟩
theorem Shw.bool {n w : Nat} {b : Bool} : Shw n w (.bool b) := ⟨rfl, rfl, rfl, by simp [PyData.depth], by simp [PyData.weight]⟩
theorem Shw.str {n w : Nat} {s : Str} (h : PyData.strOk s = true) (l : s.length ≤ w) : Shw n w (.str s) := ⟨h, rfl, rfl, by simp [PyData.depth], by rw [PyData.weight]; exact l⟩
/-- a number of at most thirty figures -/
def lgI (i : Int) : Bool := decide (-1000000000000000000000000000000 < i ∧ i < 1000000000000000000000000000000)
theorem Shw.int {n : Nat} {i : Int} (h : lgI i = true) : Shw n 100 (.int i) := by
  have h2 : -1000000000000000000000000000000 < i ∧ i < 1000000000000000000000000000000 := of_decide_eq_true h
  have hl : i.natAbs.log2 < 100 := by
    by_cases q : i.natAbs = 0
    · rw [q]
      decide
    · exact (Nat.log2_lt q).mpr (by omega)
  refine ⟨rfl, by simp only [PyData.showable]; exact decide_eq_true (by omega), ?_, by simp [PyData.depth], ?_⟩
  · have e30 : (10 : Nat) ^ 30 = 1000000000000000000000000000000 := by decide
    have := int_text_length_le10 (a := i) (k := 30) (by decide) (by rw [e30]; omega)
    simp only [PyData.intsShort, decide_eq_true_eq]
    show (Str.ofString (toString i)).length ≤ 40
    rw [PySem.ofString_length]
    omega
  · simp only [PyData.weight]
    split <;> omega
theorem ShwL.mem {n w : Nat} : ∀ {ds : List D} {d : D}, ShwL n w ds → d ∈ ds → Shw n w d
  | e :: ds, d, h, m => by
    have h1 : e.canLay0 = true ∧ PyData.canLayAll0 ds = true := by simpa [PyData.canLayAll0] using h.lay
    have h2 : e.showable = true ∧ PyData.showableAll ds = true := by simpa [PyData.showableAll] using h.sh
    have h3 : e.intsShort 40 = true ∧ PyData.intsShortAll 40 ds = true := by simpa [PyData.intsShortAll] using h.shr
    have h4 := h.dp
    have h5 := h.wt
    rw [PyData.depthAll] at h4
    rw [PyData.weightAll] at h5
    rcases List.mem_cons.mp m with e | m
    · subst e
      exact ⟨h1.1, h2.1, h3.1, by omega, by omega⟩
    · exact ShwL.mem (ds := ds) ⟨h1.2, h2.2, h3.2, by omega, by omega⟩ m
theorem Shw.ok {n w : Nat} {d : D} (h : Shw n w d) (hn : n ≤ 150) (hw : w ≤ 300000) : okShow d = true := by
  have := PyData.shown_le 40 (by decide) d (PyData.leavesShort_of_canLay0 40 d h.lay h.shr)
  have := h.wt
  have := h.dp
  unfold okShow
  simp only [h.lay, h.sh, Bool.true_and, Bool.and_eq_true, decide_eq_true_eq]
  exact ⟨by omega, by omega⟩
theorem Shw.shaped {n w : Nat} {d : D} (h : Shw n w d) (hn : n ≤ 64) : SeqAt.shaped d = true := by
  have := h.dp
  unfold SeqAt.shaped
  simp only [h.lay, Bool.true_and, decide_eq_true_eq]
  omega
end Tl

namespace La
open PySem PySem.Spec PyProof.Rows L2 Tl
def netD (h : Int) (ls : List D) : D := .tuple [.int h, .list ls]
@[simp] theorem ix_net0 (h : Int) (ls : List D) : gIx [.val (.leaf (netD h ls)), .val (.leaf (.int 0))] = some (rInt h) := by
  have e : ixN 2 0 = some 0 := by decide
  simp [netD, L2.atI, e]
@[simp] theorem ix_net1 (h : Int) (ls : List D) : gIx [.val (.leaf (netD h ls)), .val (.leaf (.int 1))] = some (rd (.list ls)) := by
  have e : ixN 2 1 = some 1 := by decide
  simp [netD, L2.atI, e]
@[simp] theorem its_net (h : Int) (ls : List D) : (rd (netD h ls)).its = some (false, [.int h, .list ls]) := rfl
@[simp] theorem str_net (h : Int) (ls : List D) : strOf (netD h ls) = (netD h ls).shown := rfl
end La

namespace La
open PySem PySem.Spec PyProof.Rows L2 Tl
structure Lane where
  b : Nat
  e : Nat
  r : Nat
def laneD (l : Lane) : D := .tuple [.int l.b, .int l.e, .int l.r]
def netT (h : Nat) (L : List Lane) : D := .tuple [.int h, .list (L.map laneD)]
/-- the lanes of a net of h houses -/
def Ln (h : Nat) (L : List Lane) : Prop := ∀ l ∈ L, l.b < h ∧ l.e < h ∧ 1 ≤ l.r ∧ l.r ≤ 4 ∧ l.b ≠ l.e
theorem Ln.ln {h : Nat} {L : List Lane} (hL : Ln h L) : LN h (L.map laneD) := fun d m => by
  obtain ⟨l, ml, rfl⟩ := List.mem_map.mp m
  have := hL l ml
  exact ⟨l.b, l.e, l.r, rfl, by omega, by omega, by omega, by omega, by omega, by omega, by omega⟩
@[simp] theorem ix_netT0 (h : Nat) (L : List Lane) : gIx [.val (.leaf (netT h L)), .val (.leaf (.int 0))] = some (rInt h) := by
  simp [netT]
@[simp] theorem ix_netT1 (h : Nat) (L : List Lane) : gIx [.val (.leaf (netT h L)), .val (.leaf (.int 1))] = some (rd (.list (L.map laneD))) := by
  simp [netT]
@[simp] theorem its_netT (h : Nat) (L : List Lane) : (rd (netT h L)).its = some (false, [.int h, .list (L.map laneD)]) := rfl
@[simp] theorem str_netT (h : Nat) (L : List Lane) : strOf (netT h L) = (netT h L).shown := rfl
@[simp] theorem ix_lane0 (l : Lane) : gIx [.val (.leaf (laneD l)), .val (.leaf (.int 0))] = some (rInt l.b) := by
  simp [laneD]
@[simp] theorem ix_lane1 (l : Lane) : gIx [.val (.leaf (laneD l)), .val (.leaf (.int 1))] = some (rInt l.e) := by
  simp [laneD]
@[simp] theorem ix_lane2 (l : Lane) : gIx [.val (.leaf (laneD l)), .val (.leaf (.int 2))] = some (rInt l.r) := by
  simp [laneD]
@[simp] theorem gt_lane (m1 m2 m3 : MG) (l : Lane) (fz : Fz) : gtT (gtCons m1 (gtCons m2 (gtCons m3 gtNil))) (laneD l) fz = gtT (gtCons m1 (gtCons m2 (gtCons m3 gtNil))) (.tuple [.int l.b, .int l.e, .int l.r]) fz := rfl
theorem lay_lanes : ∀ (L : List Lane), PyData.canLayAll0 (L.map laneD) = true ∧ PyData.depthAll (L.map laneD) ≤ 1
  | [] => ⟨rfl, by simp [PyData.depthAll]⟩
  | l :: L => by
    obtain ⟨a, b⟩ := lay_lanes L
    exact ⟨by simp [PyData.canLayAll0, laneD, PyData.canLay0] at a ⊢; exact a, by simp [PyData.depthAll, PyData.depth, laneD] at b ⊢; omega⟩
@[simp] theorem shaped_lanes (L : List Lane) : SeqAt.shaped (.list (L.map laneD)) = true := by
  obtain ⟨a, b⟩ := lay_lanes L
  unfold SeqAt.shaped
  have c : PyData.canLay0 (.list (L.map laneD)) = true := by simpa [PyData.canLay0] using a
  rw [c]
  have d : PyData.depth (.list (L.map laneD)) = PyData.depthAll (L.map laneD) + 1 := by rw [PyData.depth]
  rw [d, Bool.true_and, decide_eq_true_eq]
  omega
@[simp] theorem eqv_lanes (L : List Lane) : PyData.eqvAll (L.map laneD) (L.map laneD) = true := eqvAll_self _ (lay_lanes L).1
theorem Ln.filter {h : Nat} {L : List Lane} (hL : Ln h L) (p : Lane → Bool) : Ln h (L.filter p) := fun l m => hL l (List.mem_filter.mp m).1
theorem lay_netT (h : Nat) (L : List Lane) : (netT h L).canLay0 = true ∧ (netT h L).depth ≤ 3 := by
  obtain ⟨a, b⟩ := lay_lanes L
  refine ⟨by simp only [netT, PyData.canLay0, PyData.canLayAll0, a, Bool.and_self], ?_⟩
  simp only [netT, PyData.depth, PyData.depthAll]
  omega
@[simp] theorem shaped_netT (h : Nat) (L : List Lane) : SeqAt.shaped (netT h L) = true := by
  obtain ⟨a, b⟩ := lay_netT h L
  unfold SeqAt.shaped
  rw [a, Bool.true_and, decide_eq_true_eq]
  omega
@[simp] theorem eqv_netT (h : Nat) (L : List Lane) : PyData.eqv (netT h L) (netT h L) = true := eqv_self _ (lay_netT h L).1
end La

namespace Tl
open PySem PySem.Spec PyProof.Rows L2
theorem lcT_typM {α : Type} {vs : List Nat} {mt : MG} {me : MV} {fw : Fz} {vw : Tau} {τ : Tau} {x : Option (List T × Tau)} {e : α → D} {xs : List α} {acc : List T} (h : lcLoopT vs mt mYes me fw vw (xs.map e) acc τ = x) (f : α → T) (hτ : tout vs τ = τ)
    (hm : ∀ a ∈ xs, ∃ fz, mt (e a) fw = some fz ∧ ∃ r, me ⟨fz, vw⟩ τ = some (r, τ) ∧ r.t = some (f a)) : x = some (acc ++ xs.map f, τ) := by
  subst h
  induction xs generalizing acc with
  | nil => simp [lcLoopT]
  | cons d ds ih =>
    obtain ⟨fz, e1, r, e4, e5⟩ := hm d List.mem_cons_self
    have ih := fun acc => ih (acc := acc) fun d m => hm d (List.mem_cons_of_mem _ m)
    show (mt (e d) fw).bind _ = _
    rw [e1]
    show (me ⟨fz, vw⟩ τ).bind _ = _
    rw [e4]
    show r.t.bind _ = _
    rw [e5]
    show lcLoopT vs mt mYes me fw vw (ds.map e) (acc ++ [f d]) (tout vs τ) = _
    rw [hτ, ih]
    simp
end Tl
namespace La
open PySem PySem.Spec PyProof.Rows L2 Tl
def natsT (Q : List Nat) : D := .tuple (Q.map natD)
abbrev rowD (h : Nat) (W : Nat → Nat → List Nat) (x : Nat) : List D := (List.range h).map fun g => natsT (W x g)
abbrev tabD (h : Nat) (W : Nat → Nat → List Nat) : D := .list ((List.range h).map fun x => .list (rowD h W x))
def wayT (h : Nat) (L : List Lane) (W : Nat → Nat → List Nat) : T := .tup [.ls ((List.range h).map fun x => .fl (rowD h W x)), .ls (L.map fun l => .fl (rowD h W l.e))]
def wayD (h : Nat) (L : List Lane) (W : Nat → Nat → List Nat) : D := .tuple [tabD h W, .list (L.map fun l => .list (rowD h W l.e))]
@[simp] theorem ix_way0 (h : Nat) (L : List Lane) (W : Nat → Nat → List Nat) : gIx [.val (.leaf (wayD h L W)), .val (.leaf (.int 0))] = some (rd (tabD h W)) := by
  simp [wayD]
@[simp] theorem ix_way1 (h : Nat) (L : List Lane) (W : Nat → Nat → List Nat) : gIx [.val (.leaf (wayD h L W)), .val (.leaf (.int 1))] = some (rd (.list (L.map fun l => .list (rowD h W l.e)))) := by
  simp [wayD]
@[simp] theorem hole_way (h : Nat) (L : List Lane) (W : Nat → Nat → List Nat) : isHole (wayT h L W) = false := rfl
theorem natsT_lay (Q : List Nat) : (natsT Q).canLay0 = true ∧ (natsT Q).depth = 1 := by
  obtain ⟨a, b⟩ := lay_nats Q
  exact ⟨by simpa [natsT, PyData.canLay0] using a, by simp [natsT, PyData.depth, b]⟩
end La

namespace La
open PySem PySem.Spec PyProof.Rows L2 Tl
def updT (Tb : Nat → Nat → Nat) (x g v : Nat) : Nat → Nat → Nat := fun y c => if y = x ∧ c = g then v else Tb y c
def rowsT (n : Nat) (Tb : Nat → Nat → Nat) : List T := (List.range n).map fun x => .fl (trow n Tb x)
theorem rowsT_len (n : Nat) (Tb : Nat → Nat → Nat) : (rowsT n Tb).length = n := by rw [rowsT, List.length_map, List.length_range]
theorem trow_len (n : Nat) (Tb : Nat → Nat → Nat) (x : Nat) : (trow n Tb x).length = n := by rw [trow, List.length_map, List.length_range]
theorem rowsT_at {n x : Nat} {Tb : Nat → Nat → Nat} (hx : x < n) : (rowsT n Tb)[x]? = some (.fl (trow n Tb x)) := by simp [rowsT, hx]
theorem trow_upd {n x g v : Nat} {Tb : Nat → Nat → Nat} (hg : g < n) : trow n (updT Tb x g v) x = (trow n Tb x).set g (natD v) := by
  refine List.ext_getElem? fun i => ?_
  by_cases h : i < n
  · by_cases e : i = g
    · subst e
      simp [trow, updT, h]
    · have e' : ¬ g = i := fun z => e z.symm
      simp [trow, updT, h, e, e']
  · have : ¬ g = i := by omega
    simp [trow, h, this]
theorem rowsT_upd {n x g v : Nat} {Tb : Nat → Nat → Nat} (hx : x < n) (hg : g < n) : (rowsT n Tb).set x (.fl ((trow n Tb x).set g (natD v))) = rowsT n (updT Tb x g v) := by
  refine List.ext_getElem? fun i => ?_
  by_cases h : i < n
  · by_cases e : i = x
    · subst e
      rw [← trow_upd hg]
      simp [rowsT, h]
    · have e' : ¬ x = i := fun z => e z.symm
      have et : trow n (updT Tb x g v) i = trow n Tb i := List.map_congr_left fun c _ => by simp [updT, e]
      simp [rowsT, h, e', et]
  · have : ¬ x = i := by omega
    simp [rowsT, h, this]
theorem fzL_rows (n : Nat) (Tb : Nat → Nat → Nat) : T.fz (.ls (rowsT n Tb)) = some (tabN n Tb) := by
  have : ∀ xs : List Nat, T.fzL (xs.map fun x => T.fl (trow n Tb x)) = some (xs.map fun x => PyData.list (trow n Tb x)) := fun xs => by
    induction xs with
    | nil => rfl
    | cons x xs ih =>
      show (some (PyData.list (trow n Tb x))).bind _ = _
      show (T.fzL (xs.map fun x => T.fl (trow n Tb x))).bind _ = _
      rw [ih]
      rfl
  show (T.fzL (rowsT n Tb)).map PyData.list = _
  rw [rowsT, this]
  rfl
abbrev tbS (n : Nat) (x2 x4 x7 : Option D) (τ : Tau) : SS := ⟨[none, some (.int n), x2, none, x4, none, none, x7], τ⟩
theorem shaped_natl46 (S : List Nat) : SeqAt.shaped (.list (S.map natD)) = true := by
  obtain ⟨a, b⟩ := natsT_lay S
  have a : (PyData.list (S.map natD)).canLay0 = true := by
    have : (PyData.tuple (S.map natD)).canLay0 = true := a
    simpa [PyData.canLay0] using this
  have b : (PyData.list (S.map natD)).depth = 1 := by
    have : (PyData.tuple (S.map natD)).depth = 1 := b
    simpa [PyData.depth] using this
  unfold SeqAt.shaped
  rw [a, b]
  rfl
theorem map_erase46 : ∀ (Q : List Nat) (i : Nat), (Q.eraseIdx i).map natD = (Q.map natD).eraseIdx i
  | [], i => rfl
  | q :: Q, 0 => rfl
  | q :: Q, i + 1 => by
    show natD q :: (Q.eraseIdx i).map natD = natD q :: (Q.map natD).eraseIdx i
    rw [map_erase46 Q i]
theorem pop46 {n k : Nat} {x2 x4 x7 : Option D} {t A I : T} {Q : List Nat} (hq : Q ≠ []) (hl : Q.length ≤ 1000) (ht : Tp (k + 1) t) : ∃ (i : Nat) (h : i < Q.length) (t' : T), s_law_table_3b_3b_1 (tbS n x2 x4 x7 [(0, t), (3, A), (5, I), (6, .fl (Q.map natD))]) = some (.nx (tbS n x2 x4 (some (natD Q[i])) [(0, t'), (3, A), (5, I), (6, .fl ((Q.eraseIdx i).map natD))])) ∧ Tp k t' := by
  have hpos : 0 < Q.length := List.length_pos_iff.mpr hq
  obtain ⟨v, t', e, l, u, h'⟩ := take_ok (n := k) (m := (Q.length : Int)) ht (by omega) (by omega)
  obtain ⟨i, rfl⟩ : ∃ i : Nat, v = i := ⟨v.toNat, by omega⟩
  have hi : i < Q.length := by omega
  refine ⟨i, hi, t', ?_, h'⟩
  have el : (Q.map natD).length = Q.length := List.length_map _
  have eg : (Q.map natD)[i]? = some (natD Q[i]) := by rw [List.getElem?_map, List.getElem?_eq_getElem hi]; rfl
  have ee : (Q.eraseIdx i).map natD = (Q.map natD).eraseIdx i := map_erase46 Q i
  have sp := seq_nat hi
  have pp : -16000000 ≤ (i : Int) ∧ (i : Int) ≤ 16000000 := by omega
  rw [ee]
  generalize Q.map natD = X at *
  generalize natD Q[i] = z at *
  simp [s_law_table_3b_3b_1, el, e, pp, sp, eg]
theorem put46 {n k x g : Nat} {x2 : Option D} {t B6 : T} {Tb : Nat → Nat → Nat} {I : List Nat} (hx : x < n) (hg : g < n) (hi : I ≠ []) (hl : I.length ≤ 1000) (ht : Tp (k + 1) t) : ∃ (j : Nat) (h : j < I.length) (t' : T), s_law_table_3b_3b_2 (tbS n x2 (some (natD g)) (some (natD x)) [(0, t), (3, .ls (rowsT n Tb)), (5, .fl (I.map natD)), (6, B6)]) = some (.nx (tbS n x2 (some (natD g)) (some (natD x)) [(0, t'), (3, .ls (rowsT n (updT Tb x g I[j]))), (5, .fl (I.map natD)), (6, B6)])) ∧ Tp k t' := by
  have hpos : 0 < I.length := List.length_pos_iff.mpr hi
  obtain ⟨v, t', e, l, u, h'⟩ := take_ok (n := k) (m := (I.length : Int)) ht (by omega) (by omega)
  obtain ⟨j, rfl⟩ : ∃ j : Nat, v = j := ⟨v.toNat, by omega⟩
  have hj : j < I.length := by omega
  refine ⟨j, hj, t', ?_, h'⟩
  have el : (I.map natD).length = I.length := List.length_map _
  have eg : (I.map natD)[j]? = some (natD I[j]) := by rw [List.getElem?_map, List.getElem?_eq_getElem hj]; rfl
  have eu := rowsT_upd (Tb := Tb) (v := I[j]) hx hg
  have rl := rowsT_len n Tb
  have cl := trow_len n Tb x
  have ra := rowsT_at (Tb := Tb) hx
  have i1 := ixN_nat hx
  have i2 := ixN_nat hg
  rw [← eu]
  generalize rowsT n Tb = A at *
  generalize trow n Tb x = R at *
  generalize I.map natD = X at *
  generalize natD I[j] = z at *
  simp [s_law_table_3b_3b_2, el, e, atI_ofNat, eg, ra, rl, cl, i1, i2]
theorem app46 {n : Nat} {x2 x4 : Option D} {t A B6 : T} {x : Nat} {I : List Nat} (hl : I.length ≤ 1000) : s_law_table_3b_3b_3 (tbS n x2 x4 (some (natD x)) [(0, t), (3, A), (5, .fl (I.map natD)), (6, B6)]) = some (.nx (tbS n x2 x4 (some (natD x)) [(0, t), (3, A), (5, .fl ((I ++ [x]).map natD)), (6, B6)])) := by
  have q : (I.map natD).length < 16000000 := by rw [List.length_map]; omega
  have e : (I ++ [x]).map natD = I.map natD ++ [natD x] := by rw [List.map_append]; rfl
  rw [e]
  generalize I.map natD = X at *
  simp [s_law_table_3b_3b_3, q]
theorem diag46 {n g : Nat} {x2 x7 : Option D} {t B5 B6 : T} {Tb : Nat → Nat → Nat} (hg : g < n) : s_law_table_3b_4 (tbS n x2 (some (natD g)) x7 [(0, t), (3, .ls (rowsT n Tb)), (5, B5), (6, B6)]) = some (.nx (tbS n x2 (some (natD g)) x7 [(0, t), (3, .ls (rowsT n (updT Tb g g g))), (5, B5), (6, B6)])) := by
  have eu := rowsT_upd (Tb := Tb) (v := g) hg hg
  have rl := rowsT_len n Tb
  have cl := trow_len n Tb g
  have ra := rowsT_at (Tb := Tb) hg
  have i1 := ixN_nat hg
  rw [← eu]
  generalize rowsT n Tb = A at *
  generalize trow n Tb g = R at *
  simp [s_law_table_3b_4, atI_ofNat, ra, rl, cl, i1]
/-- what a goal's turn does to the table -/
structure Col (n g : Nat) (Tb Tb' : Nat → Nat → Nat) : Prop where
  same : ∀ x c, c ≠ g → Tb' x c = Tb x c
  lt : (∀ x, x < n → ∀ c, c < n → Tb x c < n) → ∀ x, x < n → ∀ c, c < n → Tb' x c < n
theorem Col.refl {n g : Nat} {Tb : Nat → Nat → Nat} : Col n g Tb Tb := ⟨fun _ _ _ => rfl, fun h => h⟩
theorem Col.upd {n g x v : Nat} {Tb Tb' : Nat → Nat → Nat} (h : Col n g Tb Tb') (hv : v < n) : Col n g Tb (updT Tb' x g v) := ⟨fun y c q => by
  rw [updT, if_neg (fun k => q k.2)]
  exact h.same y c q, fun k y hy c hc => by
  unfold updT
  split
  · exact hv
  · exact h.lt k y hy c hc⟩
theorem tree46 {n g k : Nat} {x2 x7 : Option D} {t : T} {Tb : Nat → Nat → Nat} {Q : List Nat} (hn : n ≤ 1000) (hg : g < n) (hQ : ∀ x, x ∈ Q ↔ x < n ∧ x ≠ g) (nd : Q.Nodup) (ht : Tp (k + 2 * n) t) : ∃ (Tb' : Nat → Nat → Nat) (I : List Nat) (t' : T) (y7 : Option D), s_law_table_3b_3 (tbS n x2 (some (natD g)) x7 [(0, t), (3, .ls (rowsT n Tb)), (5, .fl [natD g]), (6, .fl (Q.map natD))]) = some (.nx (tbS n x2 (some (natD g)) y7 [(0, t'), (3, .ls (rowsT n Tb')), (5, .fl (I.map natD)), (6, .fl [])])) ∧ Col n g Tb Tb' ∧ Ordered (fun y => Tb' y g) g I ∧ I.Nodup ∧ (∀ x ∈ I, x < n) ∧ (∀ x, x < n → x ∈ I) ∧ Tp k t' := by
  generalize hF : s_law_table_3b_3 _ = y
  have hF' : whL (mXB (mBrB 6 (mBinB (gp pNe) (mSee 6) (mOp gLstD mNil)))) s_law_table_3b_3b whF (tbS n x2 (some (natD g)) x7 [(0, t), (3, .ls (rowsT n Tb)), (5, .fl [natD g]), (6, .fl (Q.map natD))]) = y := by
    rw [← hF]
    rfl
  have hQl : Q.length ≤ n := nodup_lenT nd fun x m => ((hQ x).mp m).1
  obtain ⟨s', rfl, Tb', I, t', y7, rfl, c1, c2, c3, c4, c5, c6⟩ := whL_st hF' (fun m s => ∃ (Tb' : Nat → Nat → Nat) (I Q' : List Nat) (t' : T) (y7 : Option D), s = tbS n x2 (some (natD g)) y7 [(0, t'), (3, .ls (rowsT n Tb')), (5, .fl (I.map natD)), (6, .fl (Q'.map natD))] ∧ Q'.length = m ∧ Col n g Tb Tb' ∧ Ordered (fun y => Tb' y g) g I ∧ I.Nodup ∧ Q'.Nodup ∧ (∀ x ∈ I, x < n) ∧ (∀ x, x < n → (x ∈ I ∨ x ∈ Q')) ∧ (∀ x ∈ Q', x < n ∧ x ∉ I) ∧ Tp (k + 2 * m) t')
    (fun s => ∃ (Tb' : Nat → Nat → Nat) (I : List Nat) (t' : T) (y7 : Option D), s = tbS n x2 (some (natD g)) y7 [(0, t'), (3, .ls (rowsT n Tb')), (5, .fl (I.map natD)), (6, .fl [])] ∧ Col n g Tb Tb' ∧ Ordered (fun y => Tb' y g) g I ∧ I.Nodup ∧ (∀ x ∈ I, x < n) ∧ (∀ x, x < n → x ∈ I) ∧ Tp k t') Q.length
    ⟨Tb, [g], Q, t, x7, rfl, rfl, Col.refl, ordered_one _ g, by simp, nd, fun x m => by rw [List.mem_singleton.mp m]; exact hg, fun x hx => by
      by_cases q : x = g
      · exact .inl (List.mem_singleton.mpr q)
      · exact .inr ((hQ x).mpr ⟨hx, q⟩), fun x m => ⟨((hQ x).mp m).1, fun z => ((hQ x).mp m).2 (List.mem_singleton.mp z)⟩, ht.mono (by omega)⟩ (by unfold whF; omega) (by
    rintro m s ⟨Tb', I, Q', t', y7, rfl, rfl, c1, c2, c3, c4, c5, c6, c7, ht'⟩
    cases hq : Q' with
    | nil =>
      subst hq
      refine .inl ⟨by simp, Tb', I, t', y7, rfl, c1, c2, c3, c5, fun x hx => (c6 x hx).elim id (fun z => by cases z), ht'⟩
    | cons a r =>
      have ne : Q' ≠ [] := by rw [hq]; simp
      rw [← hq]
      have hl : Q'.length ≤ n := nodup_lenT c4 fun x m => (c7 x m).1
      have hl2 : I.length ≤ n := nodup_lenT c3 c5
      have hlp : 0 < Q'.length := List.length_pos_iff.mpr ne
      have hI : I ≠ [] := fun z => by
        rw [z] at c2
        have := c2.1
        simp at this
      obtain ⟨i, hi, t1, f1, h1⟩ := pop46 (n := n) (k := k + 2 * (Q'.length - 1) + 1) (x2 := x2) (x4 := some (natD g)) (x7 := y7) (A := .ls (rowsT n Tb')) (I := .fl (I.map natD)) ne (by omega) (ht'.mono (by omega))
      obtain ⟨hx, hnI⟩ := c7 Q'[i] (List.getElem_mem hi)
      have hgI : g ∈ I := List.mem_of_getElem? c2.1
      have xg : Q'[i] ≠ g := fun z => hnI (z ▸ hgI)
      obtain ⟨j, hj, t2, f2, h2⟩ := put46 (k := k + 2 * (Q'.length - 1)) (x2 := x2) (t := t1) (B6 := .fl ((Q'.eraseIdx i).map natD)) (Tb := Tb') hx hg hI (by omega) h1
      have f3 := app46 (n := n) (x2 := x2) (x4 := some (natD g)) (t := t2) (A := .ls (rowsT n (updT Tb' Q'[i] g I[j]))) (B6 := .fl ((Q'.eraseIdx i).map natD)) (x := Q'[i]) (I := I) (by omega)
      have el : (Q'.eraseIdx i).length = Q'.length - 1 := List.length_eraseIdx_of_lt hi
      refine .inr ⟨?_, tbS n x2 (some (natD g)) (some (natD Q'[i])) [(0, t2), (3, .ls (rowsT n (updT Tb' Q'[i] g I[j]))), (5, .fl ((I ++ [Q'[i]]).map natD)), (6, .fl ((Q'.eraseIdx i).map natD))], .inl ?_, Q'.length - 1, by omega, updT Tb' Q'[i] g I[j], I ++ [Q'[i]], Q'.eraseIdx i, t2, some (natD Q'[i]), rfl, el, c1.upd (c5 _ (List.getElem_mem hj)), ?_, ?_, c4.sublist (List.eraseIdx_sublist _ _), ?_, ?_, ?_, h2⟩
      · rw [hq]
        have sh := shaped_natl46 (a :: r)
        rw [List.map_cons] at sh
        simp [sh]
      · unfold s_law_table_3b_3b
        rw [t_nx f1, t_nx f2, t_nx f3]
        rfl
      · refine ordered_add (j := j) c2 (fun y my => ?_) ?_
        · have : y ≠ Q'[i] := fun z => hnI (z ▸ my)
          show updT Tb' Q'[i] g I[j] y g = Tb' y g
          rw [updT, if_neg (fun z => this z.1)]
        · show I[j]? = some (updT Tb' Q'[i] g I[j] Q'[i] g)
          rw [updT, if_pos ⟨rfl, rfl⟩, List.getElem?_eq_getElem hj]
      · exact List.nodup_append.mpr ⟨c3, by simp, fun a ma b mb e => by
          rw [List.mem_singleton.mp mb] at e
          exact hnI (e ▸ ma)⟩
      · intro x m
        rcases List.mem_append.mp m with m | m
        · exact c5 x m
        · rw [List.mem_singleton.mp m]
          exact hx
      · intro x hxn
        rcases c6 x hxn with m | m
        · exact .inl (List.mem_append.mpr (.inl m))
        · by_cases q : x = Q'[i]
          · exact .inl (List.mem_append.mpr (.inr (List.mem_singleton.mpr q)))
          · refine .inr ?_
            obtain ⟨l, hl3, e⟩ := List.getElem_of_mem m
            refine List.mem_eraseIdx_iff_getElem?.mpr ⟨l, fun z => q ?_, by rw [List.getElem?_eq_getElem hl3, e]⟩
            subst z
            exact e.symm
      · intro x m
        have mQ := (List.eraseIdx_sublist Q' i).subset m
        refine ⟨(c7 x mQ).1, fun z => ?_⟩
        rcases List.mem_append.mp z with z | z
        · exact (c7 x mQ).2 z
        · have e := List.mem_singleton.mp z
          obtain ⟨l, hl3, e2⟩ := List.mem_eraseIdx_iff_getElem?.mp m
          rw [e] at e2
          obtain ⟨hl4, e3⟩ := List.getElem?_eq_some_iff.mp e2
          have pw := List.pairwise_iff_getElem.mp c4
          rcases Nat.lt_trichotomy l i with z | z | z
          · exact pw l i hl4 hi z e3
          · exact hl3 z
          · exact pw i l hi hl4 z e3.symm)
  exact ⟨Tb', I, t', y7, rfl, c1, c2, c3, c4, c5, c6⟩
end La

namespace La
open PySem PySem.Spec PyProof.Rows L2 Tl
theorem em_up {x n : Nat} : ((x : Int) + 1) % (n : Int) = (((x + 1) % n : Nat) : Int) := by simp
theorem em_down {x n : Nat} (hx : x < n) : ((x : Int) - 1) % (n : Int) = (((x + n - 1) % n : Nat) : Int) := by
  have e1 : ((x : Int) - 1) % (n : Int) = ((x : Int) - 1 + n) % (n : Int) := by rw [Int.add_emod_right]
  have e2 : (x : Int) - 1 + n = ((x + n - 1 : Nat) : Int) := by omega
  rw [e1, e2]
  simp
theorem ring46 {n g : Nat} {x2 x7 : Option D} {t B5 B6 : T} {Tb : Nat → Nat → Nat} (F : Nat → Nat) (body : MS) (hn : n ≤ 1000) (hg : g < n) (hF : ∀ x, x < n → F x < n)
    (step : ∀ (x : Nat) (Tb : Nat → Nat → Nat), x < n → (x = g → body (tbS n x2 (some (natD g)) (some (natD x)) [(0, t), (3, .ls (rowsT n Tb)), (5, B5), (6, B6)]) = some (.nx (tbS n x2 (some (natD g)) (some (natD x)) [(0, t), (3, .ls (rowsT n Tb)), (5, B5), (6, B6)]))) ∧ (x ≠ g → body (tbS n x2 (some (natD g)) (some (natD x)) [(0, t), (3, .ls (rowsT n Tb)), (5, B5), (6, B6)]) = some (.nx (tbS n x2 (some (natD g)) (some (natD x)) [(0, t), (3, .ls (rowsT n (updT Tb x g (F x)))), (5, B5), (6, B6)])))) :
    ∃ (Tb' : Nat → Nat → Nat) (y7 : Option D), forL [7] (gtN 7) body ((List.range n).map natD) (tbS n x2 (some (natD g)) x7 [(0, t), (3, .ls (rowsT n Tb)), (5, B5), (6, B6)]) = some (.nx (tbS n x2 (some (natD g)) y7 [(0, t), (3, .ls (rowsT n Tb')), (5, B5), (6, B6)])) ∧ Col n g Tb Tb' ∧ Tb' g g = Tb g g ∧ ∀ x, x < n → x ≠ g → Tb' x g = F x := by
  generalize hy : forL [7] (gtN 7) body ((List.range n).map natD) _ = y
  obtain ⟨s', rfl, Tb', y7, rfl, c1, c2, c3⟩ := for_rng' hy (fun k s => ∃ (Tb' : Nat → Nat → Nat) (y7 : Option D), s = tbS n x2 (some (natD g)) y7 [(0, t), (3, .ls (rowsT n Tb')), (5, B5), (6, B6)] ∧ Col n g Tb Tb' ∧ Tb' g g = Tb g g ∧ ∀ x, x < k → x ≠ g → Tb' x g = F x) ⟨Tb, x7, rfl, Col.refl, rfl, fun x h => absurd h (Nat.not_lt_zero _)⟩ (by
    rintro k s hk ⟨Tb', y7, rfl, c1, c2, c3⟩
    obtain ⟨s1, s2⟩ := step k Tb' hk
    by_cases q : k = g
    · refine ⟨_, rfl, tbS n x2 (some (natD g)) (some (natD k)) [(0, t), (3, .ls (rowsT n Tb')), (5, B5), (6, B6)], .inl (s1 q), Tb', _, rfl, c1, c2, fun x hx hxg => ?_⟩
      exact c3 x (by omega) hxg
    · refine ⟨_, rfl, tbS n x2 (some (natD g)) (some (natD k)) [(0, t), (3, .ls (rowsT n (updT Tb' k g (F k)))), (5, B5), (6, B6)], .inl (s2 q), _, _, rfl, c1.upd (hF k hk), ?_, fun x hx hxg => ?_⟩
      · rw [updT, if_neg (fun z => q z.1.symm)]
        exact c2
      · by_cases e : x = k
        · subst e
          rw [updT, if_pos ⟨rfl, rfl⟩]
        · rw [updT, if_neg (fun z => e z.1)]
          exact c3 x (by omega) hxg)
  exact ⟨Tb', y7, rfl, c1, c2, c3⟩
theorem up46 {n g x : Nat} {x2 : Option D} {t B5 B6 : T} {Tb : Nat → Nat → Nat} (hg : g < n) (hx : x < n) : (x = g → s_law_table_3b_5t_1b (tbS n x2 (some (natD g)) (some (natD x)) [(0, t), (3, .ls (rowsT n Tb)), (5, B5), (6, B6)]) = some (.nx (tbS n x2 (some (natD g)) (some (natD x)) [(0, t), (3, .ls (rowsT n Tb)), (5, B5), (6, B6)]))) ∧ (x ≠ g → s_law_table_3b_5t_1b (tbS n x2 (some (natD g)) (some (natD x)) [(0, t), (3, .ls (rowsT n Tb)), (5, B5), (6, B6)]) = some (.nx (tbS n x2 (some (natD g)) (some (natD x)) [(0, t), (3, .ls (rowsT n (updT Tb x g ((x + 1) % n)))), (5, B5), (6, B6)]))) := by
  constructor
  · intro q
    have q' : (x : Int) = g := by omega
    generalize rowsT n Tb = A
    simp [s_law_table_3b_5t_1b, s_law_table_3b_5t_1b_1, q]
  · intro q
    have eu := rowsT_upd (Tb := Tb) (v := (x + 1) % n) hx hg
    have rl := rowsT_len n Tb
    have cl := trow_len n Tb x
    have ra := rowsT_at (Tb := Tb) hx
    have i1 := ixN_nat hx
    have i2 := ixN_nat hg
    have em := em_up (x := x) (n := n)
    have n0 : 0 < n := by omega
    have qi : ¬ ((x : Int) = g) := by omega
    rw [← eu]
    generalize (x + 1) % n = v at *
    generalize rowsT n Tb = A at *
    generalize trow n Tb x = R at *
    simp [s_law_table_3b_5t_1b, s_law_table_3b_5t_1b_1, q, qi, em, n0, atI_ofNat, ra, rl, cl, i1, i2]
theorem down46 {n g x : Nat} {x2 : Option D} {t B5 B6 : T} {Tb : Nat → Nat → Nat} (hg : g < n) (hx : x < n) : (x = g → s_law_table_3b_5e_1t_1b (tbS n x2 (some (natD g)) (some (natD x)) [(0, t), (3, .ls (rowsT n Tb)), (5, B5), (6, B6)]) = some (.nx (tbS n x2 (some (natD g)) (some (natD x)) [(0, t), (3, .ls (rowsT n Tb)), (5, B5), (6, B6)]))) ∧ (x ≠ g → s_law_table_3b_5e_1t_1b (tbS n x2 (some (natD g)) (some (natD x)) [(0, t), (3, .ls (rowsT n Tb)), (5, B5), (6, B6)]) = some (.nx (tbS n x2 (some (natD g)) (some (natD x)) [(0, t), (3, .ls (rowsT n (updT Tb x g ((x + n - 1) % n)))), (5, B5), (6, B6)]))) := by
  constructor
  · intro q
    generalize rowsT n Tb = A
    simp [s_law_table_3b_5e_1t_1b, s_law_table_3b_5e_1t_1b_1, q]
  · intro q
    have eu := rowsT_upd (Tb := Tb) (v := (x + n - 1) % n) hx hg
    have rl := rowsT_len n Tb
    have cl := trow_len n Tb x
    have ra := rowsT_at (Tb := Tb) hx
    have i1 := ixN_nat hx
    have i2 := ixN_nat hg
    have em := em_down hx
    have n0 : 0 < n := by omega
    have qi : ¬ ((x : Int) = g) := by omega
    rw [← eu]
    generalize (x + n - 1) % n = v at *
    generalize rowsT n Tb = A at *
    generalize trow n Tb x = R at *
    simp [s_law_table_3b_5e_1t_1b, s_law_table_3b_5e_1t_1b_1, q, qi, em, n0, atI_ofNat, ra, rl, cl, i1, i2]
theorem goal46 {n g k : Nat} {w : Int} {x4 x7 : Option D} {t : T} {Tb : Nat → Nat → Nat} {r : Tau} (hn : n ≤ 1000) (hg : g < n) (hr : r = [] ∨ ∃ a b, r = [(5, a), (6, b)]) (ht : Tp (k + 1 + 2 * n) t) :
    ∃ (Tb' : Nat → Nat → Nat) (t' : T) (y7 : Option D) (a b : T), s_law_table_3b (tbS n (some (.int w)) (some (natD g)) x7 ((0, t) :: (3, .ls (rowsT n Tb)) :: r)) = some (.nx (tbS n (some (.int w)) (some (natD g)) y7 [(0, t'), (3, .ls (rowsT n Tb')), (5, a), (6, b)])) ∧ Col n g Tb Tb' ∧ okG (fun y => Tb' y g) n g ∧ Tp k t' := by
  have e8 : -8000000 ≤ (n : Int) ∧ (n : Int) ≤ 8000000 := by omega
  have hQ : ∀ x, x ∈ (List.range n).filter (fun x => !decide (x = g)) ↔ x < n ∧ x ≠ g := fun x => by simp
  have nd : ((List.range n).filter (fun x => !decide (x = g))).Nodup := List.nodup_range.filter _
  have f12 : ∀ R : MS, mSeq s_law_table_3b_1 (mSeq s_law_table_3b_2 R) (tbS n (some (.int w)) (some (natD g)) x7 ((0, t) :: (3, .ls (rowsT n Tb)) :: r)) = R (tbS n (some (.int w)) (some (natD g)) x7 [(0, t), (3, .ls (rowsT n Tb)), (5, .fl [natD g]), (6, .fl (((List.range n).filter (fun x => !decide (x = g))).map natD))]) := fun R => by
    generalize rowsT n Tb = A
    have f1 : ∃ b, s_law_table_3b_1 (tbS n (some (.int w)) (some (natD g)) x7 ((0, t) :: (3, .ls A) :: r)) = some (.nx (tbS n (some (.int w)) (some (natD g)) x7 ((0, t) :: (3, .ls A) :: (5, .fl [natD g]) :: b))) ∧ (b = [] ∨ ∃ c, b = [(6, c)]) := by
      rcases hr with rfl | ⟨a, b, rfl⟩
      · exact ⟨[], by simp [s_law_table_3b_1], .inl rfl⟩
      · exact ⟨[(6, b)], by simp [s_law_table_3b_1], .inr ⟨b, rfl⟩⟩
    obtain ⟨b, f1, hb⟩ := f1
    rw [t_nx f1]
    have f2 : s_law_table_3b_2 (tbS n (some (.int w)) (some (natD g)) x7 ((0, t) :: (3, .ls A) :: (5, .fl [natD g]) :: b)) = some (.nx (tbS n (some (.int w)) (some (natD g)) x7 [(0, t), (3, .ls A), (5, .fl [natD g]), (6, .fl (((List.range n).filter (fun x => !decide (x = g))).map natD))])) := by
      generalize hG : s_law_table_3b_2 _ = z
      have fin : ∀ z', lcLoop [7] (gtN 7) (mBinB (gp pNe) (mVar 7) (mVar 4)) (mVar 7) [none, some (.int n), some (.int w), none, some (natD g), none, none, none] [] ((List.range n).map natD) [] ((0, t) :: (3, .ls A) :: (5, .fl [natD g]) :: b) = z' → z' = some ([] ++ ((List.range n).filter (fun x => !decide (x = g))).map natD, (0, t) :: (3, .ls A) :: (5, .fl [natD g]) :: b) := fun z' hC => by
        refine lc_typ hC (fun x => !decide (x = g)) natD ?_ fun x m => ?_
        · rcases hb with rfl | ⟨c, rfl⟩ <;> rfl
        · refine ⟨_, by simp; rfl, ?_, fun _ => ⟨_, by simp; rfl, rfl⟩⟩
          have := dec_nat x g
          simp [this]
      rcases hb with rfl | ⟨c, rfl⟩
      all_goals
        simp [s_law_table_3b_2, e8, rangeD_nat] at hG
        generalize hC : lcLoop _ _ _ _ _ _ _ _ _ = z' at hG
        obtain rfl := fin z' hC
        generalize ((List.range n).filter (fun x => !decide (x = g))).map natD = Z at *
        simp at hG
        rw [← hG]
    rw [t_nx f2]
  obtain ⟨T1, I, t1, y7, f3, c1, o1, ndI, ltI, allI, h1⟩ := tree46 (k := k + 1) (x2 := some (.int w)) (x7 := x7) (t := t) (Tb := Tb) hn hg hQ nd ht
  have f4 := diag46 (x2 := some (.int w)) (x7 := y7) (t := t1) (B5 := .fl (I.map natD)) (B6 := .fl []) (Tb := T1) hg
  have c2 : Col n g Tb (updT T1 g g g) := c1.upd hg
  have fg2 : updT T1 g g g g g = g := by rw [updT, if_pos ⟨rfl, rfl⟩]
  have ok2 : okG (fun y => updT T1 g g g y g) n g := by
    refine ordered_ok (I := I) ⟨o1.1, fun i x hi e => ?_⟩ fg2 ndI ltI allI
    obtain ⟨j, y, a, b, c⟩ := o1.2 i x hi e
    refine ⟨j, y, a, b, ?_⟩
    have xg : x ≠ g := fun z => by
      subst z
      have h0 := o1.1
      obtain ⟨l0, e0⟩ := List.getElem?_eq_some_iff.mp h0
      obtain ⟨li, ei⟩ := List.getElem?_eq_some_iff.mp e
      exact List.pairwise_iff_getElem.mp ndI 0 i l0 li hi (e0.trans ei.symm)
    show updT T1 g g g x g = y
    rw [updT, if_neg (fun z => xg z.1)]
    exact c
  generalize updT T1 g g g = T2 at *
  have keep : ∀ (T3 : Nat → Nat → Nat), Col n g T2 T3 → Col n g Tb T3 := fun T3 c => ⟨fun x cc q => (c.same x cc q).trans (c2.same x cc q), fun hlt => c.lt (c2.lt hlt)⟩
  -- the rings
  have up : ∀ t2, ∃ (Tb' : Nat → Nat → Nat) (z7 : Option D), s_law_table_3b_5t (tbS n (some (.int w)) (some (natD g)) y7 [(0, t2), (3, .ls (rowsT n T2)), (5, .fl (I.map natD)), (6, .fl [])]) = some (.nx (tbS n (some (.int w)) (some (natD g)) z7 [(0, t2), (3, .ls (rowsT n Tb')), (5, .fl (I.map natD)), (6, .fl [])])) ∧ Col n g Tb Tb' ∧ okG (fun y => Tb' y g) n g := fun t2 => by
    obtain ⟨T3, z7, e, c, d1, d2⟩ := ring46 (x2 := some (.int w)) (x7 := y7) (t := t2) (B5 := .fl (I.map natD)) (B6 := .fl []) (Tb := T2) (fun x => (x + 1) % n) s_law_table_3b_5t_1b hn hg (fun x _ => Nat.mod_lt _ (by omega)) (fun x Tb hx => up46 hg hx)
    refine ⟨T3, z7, ?_, keep T3 c, up_ok hg (d1.trans fg2) d2⟩
    have e2 : s_law_table_3b_5t_1 (tbS n (some (.int w)) (some (natD g)) y7 [(0, t2), (3, .ls (rowsT n T2)), (5, .fl (I.map natD)), (6, .fl [])]) = some (.nx (tbS n (some (.int w)) (some (natD g)) z7 [(0, t2), (3, .ls (rowsT n T3)), (5, .fl (I.map natD)), (6, .fl [])])) := by
      rw [← e]
      generalize rowsT n T2 = A
      simp [s_law_table_3b_5t_1, e8, rangeD_nat]
    unfold s_law_table_3b_5t
    rw [t_nx e2]
    rfl
  have down : ∀ t2, ∃ (Tb' : Nat → Nat → Nat) (z7 : Option D), s_law_table_3b_5e_1t (tbS n (some (.int w)) (some (natD g)) y7 [(0, t2), (3, .ls (rowsT n T2)), (5, .fl (I.map natD)), (6, .fl [])]) = some (.nx (tbS n (some (.int w)) (some (natD g)) z7 [(0, t2), (3, .ls (rowsT n Tb')), (5, .fl (I.map natD)), (6, .fl [])])) ∧ Col n g Tb Tb' ∧ okG (fun y => Tb' y g) n g := fun t2 => by
    obtain ⟨T3, z7, e, c, d1, d2⟩ := ring46 (x2 := some (.int w)) (x7 := y7) (t := t2) (B5 := .fl (I.map natD)) (B6 := .fl []) (Tb := T2) (fun x => (x + n - 1) % n) s_law_table_3b_5e_1t_1b hn hg (fun x _ => Nat.mod_lt _ (by omega)) (fun x Tb hx => down46 hg hx)
    refine ⟨T3, z7, ?_, keep T3 c, down_ok hg (d1.trans fg2) d2⟩
    have e2 : s_law_table_3b_5e_1t_1 (tbS n (some (.int w)) (some (natD g)) y7 [(0, t2), (3, .ls (rowsT n T2)), (5, .fl (I.map natD)), (6, .fl [])]) = some (.nx (tbS n (some (.int w)) (some (natD g)) z7 [(0, t2), (3, .ls (rowsT n T3)), (5, .fl (I.map natD)), (6, .fl [])])) := by
      rw [← e]
      generalize rowsT n T2 = A
      simp [s_law_table_3b_5e_1t_1, e8, rangeD_nat]
    unfold s_law_table_3b_5e_1t
    rw [t_nx e2]
    rfl
  have f5 : ∃ (T3 : Nat → Nat → Nat) (t3 : T) (z7 : Option D), s_law_table_3b_5 (tbS n (some (.int w)) (some (natD g)) y7 [(0, t1), (3, .ls (rowsT n T2)), (5, .fl (I.map natD)), (6, .fl [])]) = some (.nx (tbS n (some (.int w)) (some (natD g)) z7 [(0, t3), (3, .ls (rowsT n T3)), (5, .fl (I.map natD)), (6, .fl [])])) ∧ Col n g Tb T3 ∧ okG (fun y => T3 y g) n g ∧ Tp k t3 := by
    by_cases w0 : w = 0
    · obtain ⟨T3, z7, e, a, b⟩ := up t1
      refine ⟨T3, t1, z7, ?_, a, b, h1.mono (by omega)⟩
      rw [← e]
      generalize rowsT n T2 = A
      unfold s_law_table_3b_5
      generalize s_law_table_3b_5t = R1
      generalize s_law_table_3b_5e = R2
      generalize I.map natD = X
      subst w0
      simp
    · by_cases w1 : w = 1
      · obtain ⟨v, t2, e2, l2, u2, h2⟩ := take_ok (n := k) (m := 3) (h1.mono (show k + 1 ≤ k + 1 by omega)) (by omega) (by omega)
        by_cases q : 0 < v
        · obtain ⟨T3, z7, e, a, b⟩ := up t2
          refine ⟨T3, t2, z7, ?_, a, b, h2⟩
          rw [← e]
          generalize rowsT n T2 = A
          unfold s_law_table_3b_5
          generalize s_law_table_3b_5t = R1
          generalize s_law_table_3b_5e = R2
          generalize I.map natD = X
          subst w1
          simp [e2, q]
        · obtain ⟨T3, z7, e, a, b⟩ := down t2
          refine ⟨T3, t2, z7, ?_, a, b, h2⟩
          have e5 : s_law_table_3b_5e (tbS n (some (.int w)) (some (natD g)) y7 [(0, t2), (3, .ls (rowsT n T2)), (5, .fl (I.map natD)), (6, .fl [])]) = some (.nx (tbS n (some (.int w)) (some (natD g)) z7 [(0, t2), (3, .ls (rowsT n T3)), (5, .fl (I.map natD)), (6, .fl [])])) := by
            have e6 : s_law_table_3b_5e_1 (tbS n (some (.int w)) (some (natD g)) y7 [(0, t2), (3, .ls (rowsT n T2)), (5, .fl (I.map natD)), (6, .fl [])]) = some (.nx (tbS n (some (.int w)) (some (natD g)) z7 [(0, t2), (3, .ls (rowsT n T3)), (5, .fl (I.map natD)), (6, .fl [])])) := by
              rw [← e]
              generalize rowsT n T2 = A
              unfold s_law_table_3b_5e_1
              generalize s_law_table_3b_5e_1t = R1
              generalize I.map natD = X
              subst w1
              simp
            unfold s_law_table_3b_5e
            rw [t_nx e6]
            rfl
          rw [← e5]
          generalize rowsT n T2 = A
          unfold s_law_table_3b_5
          generalize s_law_table_3b_5t = R1
          generalize s_law_table_3b_5e = R2
          generalize I.map natD = X
          subst w1
          simp [e2, q]
      · refine ⟨T2, t1, y7, ?_, c2, ok2, h1.mono (by omega)⟩
        generalize rowsT n T2 = A
        generalize I.map natD = X
        simp [s_law_table_3b_5, s_law_table_3b_5e, s_law_table_3b_5e_1, w0, w1]
  obtain ⟨T3, t3, z7, f5, a, b, c⟩ := f5
  refine ⟨T3, t3, z7, .fl (I.map natD), .fl [], ?_, a, b, c⟩
  unfold s_law_table_3b
  rw [f12, t_nx f3, t_nx f4, t_nx f5]
  rfl
end La

namespace La
open PySem PySem.Spec PyProof.Rows L2 Tl
theorem repD_one46 : ∀ n : Nat, repD [PyData.int 0] n = (List.range n).map fun _ => PyData.int 0 := by
  intro n
  have e : (List.range n).map (fun _ => PyData.int 0) = List.replicate n (PyData.int 0) := by
    refine List.eq_replicate_iff.mpr ⟨by rw [List.length_map, List.length_range], fun b m => ?_⟩
    obtain ⟨_, _, rfl⟩ := List.mem_map.mp m
    rfl
  rw [e]
  unfold repD
  induction n with
  | zero => rfl
  | succ n ih =>
    rw [List.replicate_succ, List.replicate_succ, List.flatten_cons, ih (by
      refine List.eq_replicate_iff.mpr ⟨by rw [List.length_map, List.length_range], fun b m => ?_⟩
      obtain ⟨_, _, rfl⟩ := List.mem_map.mp m
      rfl)]
    rfl
theorem table_okG {n k : Nat} {t : T} (h1 : 1 ≤ n) (hn : n ≤ 12) (ht : Tp (k + 1 + (1 + 2 * n) * n) t) : ∃ (Tb : Nat → Nat → Nat) (t' : T), m_law_table [t, .leaf (.int n)] = some (.ls (rowsT n Tb), [t', .leaf (.int n)]) ∧ (∀ x, x < n → ∀ c, c < n → Tb x c < n) ∧ (∀ g, g < n → okG (fun y => Tb y g) n g) ∧ Tp k t' := by
  have e8 : -8000000 ≤ (n : Int) ∧ (n : Int) ≤ 8000000 := by omega
  obtain ⟨w, t1, e1, l1, u1, ht1⟩ := take_ok (n := k + (1 + 2 * n) * n) (m := 4) (ht.mono (by omega)) (by omega) (by omega)
  have f1 : s_law_table_1 (tbS n none none none [(0, t)]) = some (.nx (tbS n (some (.int w)) none none [(0, t1)])) := by
    simp [s_law_table_1, e1]
  have f2 : s_law_table_2 (tbS n (some (.int w)) none none [(0, t1)]) = some (.nx (tbS n (some (.int w)) none none [(0, t1), (3, .ls (rowsT n fun _ _ => 0))])) := by
    have er : repD [PyData.int 0] n = trow n (fun _ _ => 0) 0 := by
      rw [trow, repD_one46]
      rfl
    have el : (-4000000 ≤ (n : Int) ∧ (n : Int) ≤ 4000000) ∧ n ≤ 16000000 := by omega
    generalize hG : s_law_table_2 _ = z
    simp [s_law_table_2, e8, rangeD_nat] at hG
    generalize hC : lcLoopT _ _ _ _ _ _ _ _ _ = z' at hG
    obtain rfl := lcT_typM hC (fun x => .fl (trow n (fun _ _ => 0) x)) rfl fun x m => ⟨_, by simp; rfl, .val (.fl (trow n (fun _ _ => 0) 0)), by simp [el, er], rfl⟩
    simp at hG
    rw [← hG]
    rfl
  have f3 : ∃ (Tb : Nat → Nat → Nat) (t' : T) (x4 x7 : Option D) (r : Tau), s_law_table_3 (tbS n (some (.int w)) none none [(0, t1), (3, .ls (rowsT n fun _ _ => 0))]) = some (.nx (tbS n (some (.int w)) x4 x7 ((0, t') :: (3, .ls (rowsT n Tb)) :: r))) ∧ (r = [] ∨ ∃ a b, r = [(5, a), (6, b)]) ∧ (∀ x, x < n → ∀ c, c < n → Tb x c < n) ∧ (∀ g, g < n → okG (fun y => Tb y g) n g) ∧ Tp k t' := by
    generalize hF : s_law_table_3 _ = y
    have eF : s_law_table_3 (tbS n (some (.int w)) none none [(0, t1), (3, .ls (rowsT n fun _ _ => 0))]) = forL [4] (gtN 4) s_law_table_3b ((List.range n).map natD) (tbS n (some (.int w)) none none [(0, t1), (3, .ls (rowsT n fun _ _ => 0))]) := by
      generalize rowsT n (fun _ _ => 0) = A
      simp [s_law_table_3, e8, rangeD_nat]
    rw [eF] at hF
    obtain ⟨s', rfl, Tb, t', x4, x7, r, rfl, hr, c1, c2, h'⟩ := for_rng' hF (fun g s => ∃ (Tb : Nat → Nat → Nat) (t' : T) (x4 x7 : Option D) (r : Tau), s = tbS n (some (.int w)) x4 x7 ((0, t') :: (3, .ls (rowsT n Tb)) :: r) ∧ (r = [] ∨ ∃ a b, r = [(5, a), (6, b)]) ∧ (∀ x, x < n → ∀ c, c < n → Tb x c < n) ∧ (∀ c, c < g → okG (fun y => Tb y c) n c) ∧ Tp (k + (1 + 2 * n) * (n - g)) t') ⟨fun _ _ => 0, t1, none, none, [], rfl, .inl rfl, fun x hx c hc => (by show 0 < n; omega), fun c hc => absurd hc (Nat.not_lt_zero _), ht1⟩ (by
      rintro g s hg ⟨Tb, t', x4, x7, r, rfl, hr, c1, c2, h'⟩
      have e9 : (1 + 2 * n) * (n - g) = (1 + 2 * n) * (n - (g + 1)) + (1 + 2 * n) := by
        rw [← Nat.mul_succ]
        congr 1
        omega
      rw [e9] at h'
      obtain ⟨T2, t2, y7, a, b, e, c, o, h2⟩ := goal46 (k := k + (1 + 2 * n) * (n - (g + 1))) (w := w) (x4 := x4) (x7 := x7) (t := t') (Tb := Tb) (by omega) hg hr (h'.mono (by omega))
      refine ⟨_, rfl, tbS n (some (.int w)) (some (natD g)) y7 [(0, t2), (3, .ls (rowsT n T2)), (5, a), (6, b)], .inl ?_, T2, t2, _, y7, [(5, a), (6, b)], rfl, .inr ⟨a, b, rfl⟩, c.lt c1, fun d hd => ?_, h2⟩
      · rcases hr with rfl | ⟨a', b', rfl⟩ <;> exact e
      · by_cases q : d = g
        · subst q
          exact o
        · have o1 := c2 d (by omega)
          have ef : (fun y => T2 y d) = fun y => Tb y d := funext fun y => c.same y d q
          rw [ef]
          exact o1)
    exact ⟨Tb, t', x4, x7, r, rfl, hr, c1, c2, h'.mono (by omega)⟩
  obtain ⟨Tb, t', x4, x7, r, f3, hr, c1, c2, h'⟩ := f3
  refine ⟨Tb, t', ?_, c1, c2, h'⟩
  have f4 : ∃ r', s_law_table_4 (tbS n (some (.int w)) x4 x7 ((0, t') :: (3, .ls (rowsT n Tb)) :: r)) = some (.rt (.ls (rowsT n Tb)) (tbS n (some (.int w)) x4 x7 ((0, t') :: r'))) := by
    generalize rowsT n Tb = A
    rcases hr with rfl | ⟨a, b, rfl⟩
    · exact ⟨_, by simp [s_law_table_4]; rfl⟩
    · exact ⟨_, by simp [s_law_table_4]; rfl⟩
  obtain ⟨r', f4⟩ := f4
  have eB : b_law_table (tbS n none none none [(0, t)]) = some (.rt (.ls (rowsT n Tb)) (tbS n (some (.int w)) x4 x7 ((0, t') :: r'))) := by
    rw [pieces_law_table, t_nx f1, t_nx f2, t_nx f3, t_rt f4]
  simp only [m_law_table]
  generalize rowsT n Tb = A at *
  simp [eB]
end La

namespace La
open PySem PySem.Spec PyProof.Rows L2 Tl
def s_follows_of_1 : MS := (mSetO 2 (mX (mOp gLstD mNil)))
def s_follows_of_2b_1 : MS := (mSet 4 (mX (mBin gIx (mBin gIx (mVar 0) (mVar 3)) (mVar 1))))
def s_follows_of_2b_2 : MS := (mIfS (mXB (mAndB (mBinB (gp pNe) (mVar 4) (mVar 1)) (mBinB (gp pNe) (mVar 3) (mVar 1)))) (mSeq (mDo (mX (mMut 2 gAppend (mCons (mOp gTupD (mCons (mOp gTupD (mCons (mVar 3) (mCons (mVar 4) mNil))) (mCons (mOp gTupD (mCons (mVar 4) (mCons (mBin gIx (mBin gIx (mVar 0) (mVar 4)) (mVar 1)) mNil))) mNil))) mNil)))) mNx) mNx)
abbrev s_follows_of_2b : MS := (mSeq s_follows_of_2b_1 (mSeq s_follows_of_2b_2 mNx))
def s_follows_of_2 : MS := (mFor [3] (mXI (iRng (mCons (mOp gLen (mCons (mVar 0) mNil)) mNil))) (gtN 3) s_follows_of_2b)
def s_follows_of_3 : MS := (mRet (mX (mTk 2)))
theorem pieces_follows_of : b_follows_of = (mSeq s_follows_of_1 (mSeq s_follows_of_2 (mSeq s_follows_of_3 mNx))) := rfl
end La

namespace La
open PySem PySem.Spec PyProof.Rows L2 Tl
def s_has_ring_1 : MS := (mSet 1 (mX (mOp gList (mCons (mVar 0) mNil))))
def s_has_ring_2 : MS := (mSet 2 (mX (mBin gAdd (mOp gLen (mCons (mVar 1) mNil)) (mC (.int 1)))))
def s_has_ring_3b_1 : MS := (mSet 2 (mX (mOp gLen (mCons (mVar 1) mNil))))
def s_has_ring_3b_2 : MS := (mSet 3 (mX (mOp gDictN (mCons (mLc [4, 5] (iSeq (mVar 1)) (gtT (gtCons (gtN 4) (gtCons (gtN 5) gtNil))) mYes (mOp gTupD (mCons (mVar 4) (mCons (mC (.bool true)) mNil)))) mNil))))
def s_has_ring_3b_3 : MS := (mSet 1 (mX (mLc [4, 5] (iSeq (mVar 1)) (gtT (gtCons (gtN 4) (gtCons (gtN 5) gtNil))) (mBinB (gp pNIn) (mVar 5) (mVar 3)) (mOp gTupD (mCons (mVar 4) (mCons (mVar 5) mNil))))))
abbrev s_has_ring_3b : MS := (mSeq s_has_ring_3b_1 (mSeq s_has_ring_3b_2 (mSeq s_has_ring_3b_3 mNx)))
def s_has_ring_3 : MS := (mWhile whF (mXB (mBinB gLt (mOp gLen (mCons (mVar 1) mNil)) (mVar 2))) s_has_ring_3b)
def s_has_ring_4 : MS := (mRet (mX (mBin gGt (mOp gLen (mCons (mVar 1) mNil)) (mC (.int 0)))))
theorem pieces_has_ring : b_has_ring = (mSeq s_has_ring_1 (mSeq s_has_ring_2 (mSeq s_has_ring_3 (mSeq s_has_ring_4 mNx)))) := rfl
def s_level_pairs_1 : MS := (mSetO 3 (mX (mOp gLstD mNil)))
def s_level_pairs_2b_1 : MS := (mIfS (mXB (mBinB (gp pEq) (mVar 5) (mVar 2))) (mSeq (mDo (mX (mMut 3 gExtendA (mCons (mCall m_follows_of (cCons (mVar 0) (cCons (mVar 4) cNil))) mNil)))) mNx) mNx)
abbrev s_level_pairs_2b : MS := (mSeq s_level_pairs_2b_1 mNx)
def s_level_pairs_2 : MS := (mFor [4, 5] (mXI (iEnumM (mVar 1))) (gtT (gtCons (gtN 4) (gtCons (gtN 5) gtNil))) s_level_pairs_2b)
def s_level_pairs_3 : MS := (mRet (mX (mTk 3)))
theorem pieces_level_pairs : b_level_pairs = (mSeq s_level_pairs_1 (mSeq s_level_pairs_2 (mSeq s_level_pairs_3 mNx))) := rfl
def s_shows_levels_1 : MS := (mSet 2 (mX (mOp gLen (mCons (mVar 0) mNil))))
def s_shows_levels_2 : MS := (mIfS (mXB (mOrB (mNotB (mTru (mIsi isListD (mVar 1)))) (mOrB (mBinB (gp pNe) (mOp gLen (mCons (mVar 1) mNil)) (mVar 2)) (mNotB (mTru (mOp gAll (mCons (mLc [5] (iSeq (mVar 1)) (gtN 5) mYes (mCall m_is_house (cCons (mVar 5) (cCons (mVar 2) cNil)))) mNil))))))) (mSeq (mRet (mX (mC (.bool false)))) mNx) mNx)
def s_shows_levels_3 : MS := (mSet 3 (mX (mUn gSortSet (mVar 1))))
def s_shows_levels_4 : MS := (mIfS (mXB (mBinB (gp pNe) (mVar 3) (mLRng (mOp gLen (mCons (mVar 3) mNil))))) (mSeq (mRet (mX (mC (.bool false)))) mNx) mNx)
def s_shows_levels_5 : MS := (mRet (mX (mNot (mOp gAny (mCons (mLc [4] (iSeq (mVar 3)) (gtN 4) mYes (mCall m_has_ring (cCons (mCall m_level_pairs (cCons (mVar 0) (cCons (mVar 1) (cCons (mVar 4) cNil)))) cNil))) mNil)))))
theorem pieces_shows_levels : b_shows_levels = (mSeq s_shows_levels_1 (mSeq s_shows_levels_2 (mSeq s_shows_levels_3 (mSeq s_shows_levels_4 (mSeq s_shows_levels_5 mNx))))) := rfl
def s_law_rings_1 : MS := (mSetO 1 (mX mDNewN))
def s_law_rings_2b_1 : MS := (mSetN 1 (mBin gAdd (mNGetOr 1 (mCons (mVar 2) (mCons (mOp gLstD mNil) mNil))) (mOp gLstD (mCons (mVar 3) mNil))) (mVar 2))
abbrev s_law_rings_2b : MS := (mSeq s_law_rings_2b_1 mNx)
def s_law_rings_2 : MS := (mFor [2, 3] (mXI (iSeq (mVar 0))) (gtT (gtCons (gtN 2) (gtCons (gtN 3) gtNil))) s_law_rings_2b)
def s_law_rings_3b_1 : MS := (mSetO 5 (mX mDNewN))
def s_law_rings_3b_2 : MS := (mSetO 6 (mX (mOp gList (mCons (mNGetO 1 (mVar 4)) mNil))))
def s_law_rings_3b_3b_1 : MS := (mSet 7 (mX (mMut 6 gPop mNil)))
def s_law_rings_3b_3b_2t_1 : MS := (mSetN 5 (mC (.bool true)) (mVar 7))
def s_law_rings_3b_3b_2t_2 : MS := (mDo (mX (mMut 6 gExtendA (mCons (mNGetOr 1 (mCons (mVar 7) (mCons (mOp gLstD mNil) mNil))) mNil))))
abbrev s_law_rings_3b_3b_2t : MS := (mSeq s_law_rings_3b_3b_2t_1 (mSeq s_law_rings_3b_3b_2t_2 mNx))
def s_law_rings_3b_3b_2 : MS := (mIfS (mXB (mBrB 5 (mBinB (gp pNNotIn) (mVar 7) (mSee 5)))) s_law_rings_3b_3b_2t mNx)
abbrev s_law_rings_3b_3b : MS := (mSeq s_law_rings_3b_3b_1 (mSeq s_law_rings_3b_3b_2 mNx))
def s_law_rings_3b_3 : MS := (mWhile whF (mXB (mBrB 6 (mBinB (gp pNe) (mSee 6) (mOp gLstD mNil)))) s_law_rings_3b_3b)
def s_law_rings_3b_4 : MS := (mIfS (mXB (mBrB 5 (mBinB (gp pNIn) (mVar 4) (mSee 5)))) (mSeq (mRet (mX (mC (.bool true)))) mNx) mNx)
abbrev s_law_rings_3b : MS := (mSeq s_law_rings_3b_1 (mSeq s_law_rings_3b_2 (mSeq s_law_rings_3b_3 (mSeq s_law_rings_3b_4 mNx))))
def s_law_rings_3 : MS := (mPre (mFzN 1) (mFor [4] (mXI (iNk (mSee 1))) (gtN 4) s_law_rings_3b))
def s_law_rings_4 : MS := (mRet (mX (mC (.bool false))))
theorem pieces_law_rings : b_law_rings = (mSeq s_law_rings_1 (mSeq s_law_rings_2 (mSeq s_law_rings_3 (mSeq s_law_rings_4 mNx)))) := rfl
def s_law_level_rings_1 : MS := (mSet 3 (mX (mOp gLstD mNil)))
def s_law_level_rings_2b_1 : MS := (mIfS (mXB (mBinB (gp pEq) (mVar 5) (mVar 2))) (mSeq (mSet 3 (mX (mBin gAdd (mVar 3) (mCall m_law_follows (cCons (mVar 0) (cCons (mVar 4) cNil)))))) mNx) mNx)
abbrev s_law_level_rings_2b : MS := (mSeq s_law_level_rings_2b_1 mNx)
def s_law_level_rings_2 : MS := (mFor [4, 5] (mXI (iEnumM (mVar 1))) (gtT (gtCons (gtN 4) (gtCons (gtN 5) gtNil))) s_law_level_rings_2b)
def s_law_level_rings_3 : MS := (mRet (mX (mCall m_law_rings (cCons (mVar 3) cNil))))
theorem pieces_law_level_rings : b_law_level_rings = (mSeq s_law_level_rings_1 (mSeq s_law_level_rings_2 (mSeq s_law_level_rings_3 mNx))) := rfl
end La

namespace La
open PySem PySem.Spec PyProof.Rows L2 Tl
section
variable {S : Type} [DecidableEq S]
inductive Rp (E : List (S × S)) : S → S → Prop
  | one {a b : S} : (a, b) ∈ E → Rp E a b
  | cons {a b c : S} : (a, b) ∈ E → Rp E b c → Rp E a c
theorem Rp.trans {E : List (S × S)} {a b c : S} (h : Rp E a b) (k : Rp E b c) : Rp E a c := by
  induction h with
  | one m => exact .cons m k
  | cons m _ ih => exact .cons m (ih k)
theorem Rp.snoc {E : List (S × S)} {a b c : S} (h : Rp E a b) (m : (b, c) ∈ E) : Rp E a c := h.trans (.one m)
theorem Rp.first {E : List (S × S)} {a b : S} (h : Rp E a b) : ∃ c, (a, c) ∈ E ∧ (c = b ∨ Rp E c b) := by
  cases h with
  | one m => exact ⟨_, m, .inl rfl⟩
  | cons m r => exact ⟨_, m, .inr r⟩
theorem Rp.mono {E E' : List (S × S)} (s : ∀ e ∈ E, e ∈ E') {a b : S} (h : Rp E a b) : Rp E' a b := by
  induction h with
  | one m => exact .one (s _ m)
  | cons m _ ih => exact .cons (s _ m) ih
/-- some pairs of E follow one another round -/
def Ri (E : List (S × S)) : Prop := ∃ E' : List (S × S), E' ≠ [] ∧ ∀ e ∈ E', e ∈ E ∧ ∃ e' ∈ E', e'.1 = e.2
theorem filter_lt {α : Type} {p q : α → Bool} : ∀ {l : List α}, (∀ x ∈ l, p x = true → q x = true) → (∃ x ∈ l, q x = true ∧ p x = false) → (l.filter p).length < (l.filter q).length
  | [], _, ⟨x, m, _⟩ => absurd m List.not_mem_nil
  | y :: l, h, ⟨x, m, h1, h2⟩ => by
    have le : ∀ (l : List α), (∀ x ∈ l, p x = true → q x = true) → (l.filter p).length ≤ (l.filter q).length := fun l => by
      induction l with
      | nil => intro _; exact Nat.le_refl _
      | cons z l ih =>
        intro h
        have := ih fun x m => h x (List.mem_cons_of_mem _ m)
        rw [List.filter_cons, List.filter_cons]
        by_cases a : p z = true
        · rw [if_pos a, if_pos (h z List.mem_cons_self a)]
          rw [List.length_cons, List.length_cons]
          omega
        · rw [if_neg a]
          split <;> (try rw [List.length_cons]) <;> omega
    have ht : ∀ x ∈ l, p x = true → q x = true := fun x m => h x (List.mem_cons_of_mem _ m)
    rw [List.filter_cons, List.filter_cons]
    rcases List.mem_cons.mp m with e | m
    · subst e
      rw [if_neg (by rw [h2]; exact Bool.false_ne_true), if_pos h1, List.length_cons]
      have := le l ht
      omega
    · have := filter_lt ht ⟨x, m, h1, h2⟩
      by_cases a : p y = true
      · rw [if_pos a, if_pos (h y List.mem_cons_self a)]
        rw [List.length_cons, List.length_cons]
        omega
      · rw [if_neg a]
        split <;> (try rw [List.length_cons]) <;> omega
open Classical in
theorem ri_iff {E : List (S × S)} : Ri E ↔ ∃ a, Rp E a a := by
  constructor
  · rintro ⟨E', ne, h⟩
    have succ : ∀ a ∈ E'.map (·.1), ∃ b ∈ E'.map (·.1), (a, b) ∈ E := by
      intro a m
      obtain ⟨e, me, rfl⟩ := List.mem_map.mp m
      obtain ⟨h1, e', m', h2⟩ := h e me
      exact ⟨e.2, List.mem_map.mpr ⟨e', m', h2⟩, h1⟩
    refine Classical.byContradiction fun no => ?_
    have irr : ∀ a, ¬ Rp E a a := fun a r => no ⟨a, r⟩
    generalize hA : E'.map (·.1) = A at succ
    have all : ∀ (n : Nat) (a : S), a ∈ A → (A.filter fun x => decide (Rp E a x)).length ≤ n → False := by
      intro n
      induction n with
      | zero =>
        intro a m hl
        obtain ⟨b, mb, hb⟩ := succ a m
        have : b ∈ A.filter fun x => decide (Rp E a x) := List.mem_filter.mpr ⟨mb, decide_eq_true (.one hb)⟩
        rw [List.eq_nil_of_length_eq_zero (Nat.le_zero.mp hl)] at this
        exact List.not_mem_nil this
      | succ n ih =>
        intro a m hl
        obtain ⟨b, mb, hb⟩ := succ a m
        refine ih b mb ?_
        have : (A.filter fun x => decide (Rp E b x)).length < (A.filter fun x => decide (Rp E a x)).length := by
          refine filter_lt (fun x _ r => decide_eq_true (.cons hb (of_decide_eq_true r))) ⟨b, mb, decide_eq_true (.one hb), decide_eq_false (irr b)⟩
        omega
    cases hE : E' with
    | nil => exact ne hE
    | cons e E'' =>
      have : e.1 ∈ A := by rw [← hA, hE]; exact List.mem_cons_self
      exact all _ e.1 this (Nat.le_refl _)
  · rintro ⟨a, r⟩
    obtain ⟨c, mc, hc⟩ := r.first
    refine ⟨E.filter fun e => decide (e.2 = a ∨ Rp E e.2 a), fun z => ?_, fun e m => ?_⟩
    · have : (a, c) ∈ E.filter fun e => decide (e.2 = a ∨ Rp E e.2 a) := List.mem_filter.mpr ⟨mc, decide_eq_true hc⟩
      rw [z] at this
      exact List.not_mem_nil this
    · obtain ⟨m1, m2⟩ := List.mem_filter.mp m
      refine ⟨m1, ?_⟩
      have go : ∀ b, Rp E b a → ∃ e' ∈ E.filter fun e => decide (e.2 = a ∨ Rp E e.2 a), e'.1 = b := by
        intro b rb
        obtain ⟨d, md, hd⟩ := rb.first
        exact ⟨(b, d), List.mem_filter.mpr ⟨md, decide_eq_true hd⟩, rfl⟩
      rcases of_decide_eq_true m2 with e1 | r1
      · rw [e1]
        exact go a r
      · exact go _ r1
/-- one round: the pairs whose second street begins another one -/
def stepR (E : List (S × S)) : List (S × S) := E.filter fun e => decide (e.2 ∈ E.map (·.1))
theorem stepR_sub (E : List (S × S)) : ∀ e ∈ stepR E, e ∈ E := fun e m => (List.mem_filter.mp m).1
theorem stepR_len (E : List (S × S)) : (stepR E).length ≤ E.length := List.length_filter_le _ _
/-- what the rounds leave -/
def Left (E L : List (S × S)) : Prop := (∀ e ∈ L, e ∈ E) ∧ ∀ E' : List (S × S), (∀ e ∈ E', e ∈ E ∧ ∃ e' ∈ E', e'.1 = e.2) → ∀ e ∈ E', e ∈ L
theorem left_first (E : List (S × S)) : Left E E := ⟨fun _ m => m, fun _ h e m => (h e m).1⟩
theorem left_step {E L : List (S × S)} (h : Left E L) : Left E (stepR L) := by
  refine ⟨fun e m => h.1 e (stepR_sub L e m), fun E' k e m => List.mem_filter.mpr ⟨h.2 E' k e m, ?_⟩⟩
  obtain ⟨_, e', m', q⟩ := k e m
  rw [decide_eq_true_iff, ← q]
  exact List.mem_map.mpr ⟨e', h.2 E' k e' m', rfl⟩
theorem left_end {E L : List (S × S)} (h : Left E (stepR L)) (hl : ¬ (stepR L).length < L.length) : Ri E ↔ 0 < (stepR L).length := by
  have e : stepR L = L := by
    have := stepR_len L
    exact (List.filter_sublist : List.Sublist (stepR L) L).eq_of_length (Nat.le_antisymm this (Nat.not_lt.mp hl))
  constructor
  · rintro ⟨E', ne, k⟩
    obtain ⟨x, m⟩ := List.exists_mem_of_ne_nil _ ne
    exact List.length_pos_iff.mpr fun z => by
      have := h.2 E' k x m
      rw [z] at this
      exact List.not_mem_nil this
  · intro p
    rw [e] at h p
    refine ⟨L, List.length_pos_iff.mp p, fun x m => ⟨h.1 x m, ?_⟩⟩
    rw [← e] at m
    obtain ⟨y, my, ey⟩ := List.mem_map.mp (of_decide_eq_true (List.mem_filter.mp m).2)
    exact ⟨y, my, ey⟩
end
end La

namespace La
open PySem PySem.Spec PyProof.Rows L2 Tl
/-- what is told is what is due -/
theorem same_ok : ∀ (j : Nat) (d : D), d.canLay0 = true → d.depth < j → m_law_same j [.leaf d, .leaf d] = some (.leaf (.bool true), [.leaf d, .leaf d])
  | 0, _, _, h => by omega
  | j + 1, d, hc, hj => by
    have lst : ∀ (ds : List D) (d : D), d = .list ds ∨ d = .tuple ds → PyData.canLayAll0 ds = true → PyData.depthAll ds < j → m_law_same (j + 1) [.leaf d, .leaf d] = some (.leaf (.bool true), [.leaf d, .leaf d]) := by
      intro ds d hd h1 h2
      have key : ∀ fw x, lcLoop [2, 3] (gtT (gtCons (gtN 2) (gtCons (gtN 3) gtNil))) mYes (mCall (m_law_same j) (cCons (mVar 2) (cCons (mVar 3) cNil))) [some d, some d, none, none] [] (zipD ds ds) [] [] = x → fw = 0 → ∃ acc, x = some (acc, []) ∧ ∀ b ∈ acc, b = .bool true := by
        intro _ x hL _
        obtain ⟨acc, τ, rfl, rfl, _, i3⟩ := lc_of hL (fun rem acc τ => τ = [] ∧ (∀ p ∈ rem, ∃ d ∈ ds, p = .tuple [d, d]) ∧ ∀ b ∈ acc, b = PyData.bool true) ⟨rfl, fun p m => zipD_self_mem m, fun _ m => nomatch m⟩ (by
          rintro p rem acc τ ⟨rfl, i2, i3⟩
          obtain ⟨d', m', rfl⟩ := i2 _ List.mem_cons_self
          have ih := same_ok j d' (layAll_mem h1 m') (Nat.lt_of_le_of_lt (depthAll_le m') h2)
          refine ⟨_, true, [], by simp; rfl, rfl, .inr ⟨rfl, _, _, _, by simp [ih]; exact ⟨rfl, rfl⟩, rfl, rfl, fun p m => i2 p (List.mem_cons_of_mem _ m), fun b m => ?_⟩⟩
          rcases List.mem_append.mp m with m | m
          · exact i3 b m
          · exact List.mem_singleton.mp m)
        exact ⟨acc, rfl, i3⟩
      have fin : ∀ acc : List D, (∀ b ∈ acc, b = PyData.bool true) → bd (boolsD acc) (gboolK Tl.allB) = some (rBool true) := by
        intro acc h
        have : ∀ acc : List D, (∀ b ∈ acc, b = PyData.bool true) → ∃ bs, boolsD acc = some bs ∧ Tl.allB bs = true := by
          intro acc
          induction acc with
          | nil => exact fun _ => ⟨[], rfl, rfl⟩
          | cons b acc ih =>
            intro h
            have e := h b List.mem_cons_self
            subst e
            obtain ⟨bs, e1, e2⟩ := ih fun b m => h b (List.mem_cons_of_mem _ m)
            refine ⟨true :: bs, ?_, ?_⟩
            · show (boolsD acc).map (true :: ·) = _
              rw [e1]
              rfl
            · have e3 : bs.all id = true := e2
              show (true :: bs).all id = true
              rw [List.all_cons, e3]
              rfl
        obtain ⟨bs, e1, e2⟩ := this acc h
        simp [e1, e2]
      rcases hd with rfl | rfl
      · simp [m_law_same, b_law_same]
        generalize hL : lcLoop _ _ _ _ _ _ _ _ _ = y
        obtain ⟨acc, rfl, ha⟩ := key 0 _ hL rfl
        simp [fin acc ha]
      · simp [m_law_same, b_law_same]
        generalize hL : lcLoop _ _ _ _ _ _ _ _ _ = y
        obtain ⟨acc, rfl, ha⟩ := key 0 _ hL rfl
        simp [fin acc ha]
    cases d with
    | none => simp [m_law_same, b_law_same]
    | bool b => simp [m_law_same, b_law_same]
    | int i => simp [m_law_same, b_law_same]
    | str s =>
      have hs : SeqAt.shaped (.str s) = true := by
        unfold SeqAt.shaped
        rw [hc]
        simp [PyData.depth]
      simp [m_law_same, b_law_same, hs]
    | list ds => exact lst ds _ (.inl rfl) (by simpa [PyData.canLay0] using hc) (by rw [PyData.depth] at hj; omega)
    | tuple ds => exact lst ds _ (.inr rfl) (by simpa [PyData.canLay0] using hc) (by rw [PyData.depth] at hj; omega)
    | dict kvs => cases hc
end La

namespace La
open PySem PySem.Spec PyProof.Rows L2 Tl
def stD47 (F : Nat → Nat) (x : Nat) : D := .tuple [natD x, natD (F x)]
def eD (F : Nat → Nat) (x : Nat) : D := .tuple [stD47 F x, stD47 F (F x)]
def okF (F : Nat → Nat) (g x : Nat) : Bool := decide (F x ≠ g) && decide (x ≠ g)
def folL (F : Nat → Nat) (n g : Nat) : List Nat := (List.range n).filter (okF F g)
abbrev foS (d : D) (g : Nat) (x3 x4 : Option D) (τ : Tau) : SS := ⟨[some d, some (natD g), none, x3, x4], τ⟩
theorem follows_ok {n g : Nat} {Tb : Nat → Nat → Nat} (hn : n ≤ 12) (hg : g < n) (hT : ∀ x, x < n → ∀ c, c < n → Tb x c < n) : m_follows_of [.leaf (tabN n Tb), .leaf (natD g)] = some (.fl ((folL (fun y => Tb y g) n g).map (eD fun y => Tb y g)), [.leaf (tabN n Tb), .leaf (natD g)]) := by
  have el := len_tabN (n := n) (Tb := Tb)
  have e8 : -8000000 ≤ (n : Int) ∧ (n : Int) ≤ 8000000 := by omega
  have f2 : ∃ y3 y4, s_follows_of_2 (foS (tabN n Tb) g none none [(2, .fl [])]) = some (.nx (foS (tabN n Tb) g y3 y4 [(2, .fl ((folL (fun y => Tb y g) n g).map (eD fun y => Tb y g)))])) := by
    generalize hF : s_follows_of_2 _ = y
    have i1 := fun x (hx : x < n) => ix_tabN (Tb := Tb) hx
    generalize tabN n Tb = d at *
    simp [s_follows_of_2, el, e8] at hF
    obtain ⟨s', rfl, y3, y4, rfl⟩ := for_rng hF (fun x s => ∃ y3 y4, s = foS d g y3 y4 [(2, .fl ((folL (fun y => Tb y g) x g).map (eD fun y => Tb y g)))]) ⟨none, none, rfl⟩ (by
      rintro x s hx ⟨y3, y4, rfl⟩
      have hF := hT x hx g hg
      have i1x := i1 x hx
      have i2x := ix_trow (n := n) (x := x) (Tb := Tb) hg
      have i1y := i1 (Tb x g) hF
      have i2y := ix_trow (n := n) (x := Tb x g) (Tb := Tb) hg
      refine ⟨_, rfl, foS d g (some (natD x)) (some (natD (Tb x g))) [(2, .fl ((folL (fun y => Tb y g) (x + 1) g).map (eD fun y => Tb y g)))], .inl ?_, _, _, rfl⟩
      have es : folL (fun y => Tb y g) (x + 1) g = folL (fun y => Tb y g) x g ++ if okF (fun y => Tb y g) g x = true then [x] else [] := by
        unfold folL
        rw [List.range_succ, List.filter_append]
        by_cases q : okF (fun y => Tb y g) g x = true <;> simp [q]
      have el : (folL (fun y => Tb y g) x g).length ≤ x := by
        have := List.length_filter_le (okF (fun y => Tb y g) g) (List.range x)
        rw [List.length_range] at this
        exact this
      rw [es]
      generalize folL (fun y => Tb y g) x g = R at *
      have f1 : s_follows_of_2b_1 (foS d g (some (natD x)) y4 [(2, .fl (R.map (eD fun y => Tb y g)))]) = some (.nx (foS d g (some (natD x)) (some (natD (Tb x g))) [(2, .fl (R.map (eD fun y => Tb y g)))])) := by
        generalize R.map (eD fun y => Tb y g) = RD
        generalize trow n Tb x = rx at *
        simp [s_follows_of_2b_1, i1x, i2x]
      have f3 : s_follows_of_2b_2 (foS d g (some (natD x)) (some (natD (Tb x g))) [(2, .fl (R.map (eD fun y => Tb y g)))]) = some (.nx (foS d g (some (natD x)) (some (natD (Tb x g))) [(2, .fl ((R ++ if okF (fun y => Tb y g) g x = true then [x] else []).map (eD fun y => Tb y g)))])) := by
        have ee : eD (fun y => Tb y g) x = .tuple [.tuple [natD x, natD (Tb x g)], .tuple [natD (Tb x g), natD (Tb (Tb x g) g)]] := rfl
        rw [List.map_append]
        have er : (R.map (eD fun y => Tb y g)).length < 16000000 := by rw [List.length_map]; omega
        generalize R.map (eD fun y => Tb y g) = RD at *
        have ek : okF (fun y => Tb y g) g x = (decide (Tb x g ≠ g) && decide (x ≠ g)) := rfl
        rw [ek]
        clear ek i1x i2x i1
        generalize trow n Tb (Tb x g) = ry at *
        generalize Tb (Tb x g) g = w at *
        generalize Tb x g = v at *
        by_cases q1 : v = g
        · have e1 := eq_true (show ((v : Nat) : Int) = g by omega)
          simp [s_follows_of_2b_2, e1, q1]
        · have e1 := eq_false (show ¬ ((v : Nat) : Int) = g by omega)
          by_cases q2 : x = g
          · have e2 := eq_true (show ((x : Nat) : Int) = g by omega)
            simp [s_follows_of_2b_2, e1, e2, q1, q2]
          · have e2 := eq_false (show ¬ ((x : Nat) : Int) = g by omega)
            simp [s_follows_of_2b_2, e1, e2, q1, q2, i1y, i2y, ee, er]
      show s_follows_of_2b _ = _
      unfold s_follows_of_2b
      show mSeq s_follows_of_2b_1 _ (foS d g (some (natD x)) y4 [(2, .fl (R.map (eD fun y => Tb y g)))]) = _
      rw [t_nx f1, t_nx f3]
      rfl)
    exact ⟨y3, y4, rfl⟩
  obtain ⟨y3, y4, f2⟩ := f2
  generalize (folL (fun y => Tb y g) n g).map (eD fun y => Tb y g) = RD at *
  generalize tabN n Tb = d at *
  simp [m_follows_of, pieces_follows_of, s_follows_of_1, f2, s_follows_of_3]
end La

namespace La
open PySem PySem.Spec PyProof.Rows L2 Tl
abbrev St2 := Nat × Nat
abbrev Pr2 := St2 × St2
def sD (s : St2) : D := .tuple [natD s.1, natD s.2]
def pD2 (e : Pr2) : D := .tuple [sD e.1, sD e.2]
def sk (s : St2) : NK := .tup [.num s.1, .num s.2]
theorem sk_inj {s t : St2} (h : sk s = sk t) : s = t := by
  unfold sk at h
  simp at h
  exact Prod.ext (by omega) (by omega)
theorem sk_free (s : St2) : tfree (sk s) = true := rfl
theorem sk_ok (s : St2) : okN (sk s) = true := rfl
theorem sk_data (s : St2) : (sk s).data = sD s := rfl
theorem keyN_sD (s : St2) : keyN (sD s) = some (sk s) := by
  rw [← sk_data]
  exact keyN_data (sk_ok s)
open Classical in
noncomputable def riB (E : List Pr2) : Bool := decide (Ri E)
/-- the dict of the streets with a pair behind them -/
def ahE (L : List Pr2) : List (NK × D) := mergeE [] (L.map fun e => (sk e.1, .bool true))
theorem ahE_has (L : List Pr2) (s : St2) : (valK (ahE L) (sk s)).isSome = decide (s ∈ L.map (·.1)) := by
  unfold ahE
  rw [merge_has]
  simp only [valK_nil, Option.isSome_none, Bool.false_or, List.any_map]
  rw [Bool.eq_iff_iff, List.any_eq_true, decide_eq_true_iff, List.mem_map]
  constructor
  · rintro ⟨e, m, h⟩
    exact ⟨e, m, sk_inj (of_decide_eq_true h)⟩
  · rintro ⟨e, m, rfl⟩
    exact ⟨e, m, decide_eq_true rfl⟩
theorem entriesN_ah : ∀ L : List Pr2, entriesN (L.map fun e => PyData.tuple [sD e.1, .bool true]) = some (L.map fun e => (sk e.1, .bool true))
  | [] => rfl
  | e :: L => by
    rw [List.map_cons, List.map_cons]
    show (keyN (sD e.1)).bind (fun k => (entriesN _).map ((k, PyData.bool true) :: ·)) = _
    rw [keyN_sD, entriesN_ah L]
    rfl
abbrev hrS (P : D) (L : List Pr2) (m : Int) (x3 x4 x5 : Option D) : SS := ⟨[some P, some (.list (L.map pD2)), some (.int m), x3, x4, x5], []⟩
theorem hr_body {P : D} {L : List Pr2} {m : Int} {x3 x4 x5 : Option D} (hL : L.length ≤ 1000) : ∃ y3, s_has_ring_3b (hrS P L m x3 x4 x5) = some (.nx (hrS P (stepR L) L.length y3 x4 x5)) := by
  have g1 : s_has_ring_3b_1 (hrS P L m x3 x4 x5) = some (.nx (hrS P L L.length x3 x4 x5)) := by
    have e1 : ((L.map pD2).length : Int) = L.length := by rw [List.length_map]
    unfold hrS
    generalize L.map pD2 = LD at *
    simp [s_has_ring_3b_1, e1]
  have g2 : s_has_ring_3b_2 (hrS P L L.length x3 x4 x5) = some (.nx (hrS P L L.length (some (.dict ((.none, .none) :: ndD (ahE L)))) x4 x5)) := by
    generalize hG : s_has_ring_3b_2 _ = y
    simp [s_has_ring_3b_2] at hG
    generalize hC : lcLoop _ _ _ _ _ _ _ _ _ = z at hG
    obtain rfl := lc_typM hC (fun e => .tuple [sD e.1, .bool true]) rfl fun e me => by
      refine ⟨_, by simp [pD2]; rfl, _, by simp; rfl, rfl⟩
    have e1 := entriesN_ah L
    rw [← hG]
    simp [e1]
    rfl
  have g3 : s_has_ring_3b_3 (hrS P L L.length (some (.dict ((.none, .none) :: ndD (ahE L)))) x4 x5) = some (.nx (hrS P (stepR L) L.length (some (.dict ((.none, .none) :: ndD (ahE L)))) x4 x5)) := by
    have hv := ahE_has L
    generalize ahE L = E at *
    generalize hG : s_has_ring_3b_3 _ = y
    simp [s_has_ring_3b_3] at hG
    generalize hC : lcLoop _ _ _ _ _ _ _ _ _ = z at hG
    obtain rfl := lc_typ hC (fun e => decide (e.2 ∈ L.map (·.1))) pD2 rfl fun e me => by
      have h1 := hv e.2
      have h2 := keyN_sD e.2
      refine ⟨_, by simp [pD2]; rfl, ?_, fun _ => ⟨_, by simp; rfl, rfl⟩⟩
      have h3 := sk_free e.2
      simp [h2, h1, h3]
    rw [← hG]
    have ef : L.filter (fun e => decide (e.2 ∈ L.map (·.1))) = stepR L := List.filter_congr fun e _ => decide_eq_decide.mpr Iff.rfl
    rw [ef]
    simp
  refine ⟨some (.dict ((.none, .none) :: ndD (ahE L))), ?_⟩
  unfold s_has_ring_3b
  rw [t_nx g1, t_nx g2, t_nx g3]
  rfl
theorem hasRing_ok {E : List Pr2} (hE : E.length ≤ 1000) : m_has_ring [.leaf (.list (E.map pD2))] = some (.leaf (.bool (riB E)), [.leaf (.list (E.map pD2))]) := by
  have f1 : s_has_ring_1 ⟨[some (.list (E.map pD2)), none, none, none, none, none], []⟩ = some (.nx ⟨[some (.list (E.map pD2)), some (.list (E.map pD2)), none, none, none, none], []⟩) := by
    have e1 : (E.map pD2).length ≤ 16000000 := by rw [List.length_map]; omega
    generalize E.map pD2 = ED at *
    simp [s_has_ring_1, e1]
  have f2 : s_has_ring_2 ⟨[some (.list (E.map pD2)), some (.list (E.map pD2)), none, none, none, none], []⟩ = some (.nx (hrS (.list (E.map pD2)) E (E.length + 1) none none none)) := by
    have e1 : ((E.map pD2).length : Int) = E.length := by rw [List.length_map]
    unfold hrS
    generalize E.map pD2 = ED at *
    simp [s_has_ring_2, e1]
  have f3 : ∃ (L : List Pr2) (m : Int) (y3 y4 y5 : Option D), s_has_ring_3 (hrS (.list (E.map pD2)) E (E.length + 1) none none none) = some (.nx (hrS (.list (E.map pD2)) L m y3 y4 y5)) ∧ (Ri E ↔ 0 < L.length) := by
    generalize hF : s_has_ring_3 _ = y
    simp [s_has_ring_3] at hF
    generalize PyData.list (E.map pD2) = ED at *
    obtain ⟨s', rfl, L, m, y3, y4, y5, rfl, h⟩ := whL_of hF (fun m s => ∃ (L : List Pr2) (y3 y4 y5 : Option D), s = hrS ED L m y3 y4 y5 ∧ L.length ≤ 1000 ∧ Left E L ∧ (¬ L.length < m → (Ri E ↔ 0 < L.length))) (fun s => ∃ (L : List Pr2) (m : Int) (y3 y4 y5 : Option D), s = hrS ED L m y3 y4 y5 ∧ (Ri E ↔ 0 < L.length)) (E.length + 1)
      ⟨E, none, none, none, rfl, hE, left_first E, fun h => absurd (Nat.lt_succ_self _) h⟩ (by unfold whF; omega) (by
      rintro m s ⟨L, y3, y4, y5, rfl, hL, lf, hm⟩
      have e1 : ((L.map pD2).length : Int) = L.length := by rw [List.length_map]
      have test : mXB (mBinB gLt (mOp gLen (mCons (mVar 1) mNil)) (mVar 2)) (hrS ED L m y3 y4 y5) = some (decide (L.length < m), hrS ED L m y3 y4 y5) := by
        have e2 : decide ((L.length : Int) < (m : Int)) = decide (L.length < m) := by simp
        unfold hrS
        generalize L.map pD2 = LD at *
        simp [e1, e2]
      by_cases q : L.length < m
      · obtain ⟨z3, hb⟩ := hr_body (P := ED) (m := m) (x3 := y3) (x4 := y4) (x5 := y5) hL
        refine .inr ⟨_, _, L.length, by rw [test, decide_eq_true q], .inl hb, q, stepR L, z3, y4, y5, rfl, Nat.le_trans (stepR_len L) hL, left_step lf, fun h => left_end (left_step lf) h⟩
      · exact .inl ⟨_, by rw [test, decide_eq_false q], L, m, y3, y4, y5, rfl, hm q⟩)
    exact ⟨L, m, y3, y4, y5, rfl, h⟩
  obtain ⟨L, m, y3, y4, y5, f3, h⟩ := f3
  have f4 : s_has_ring_4 (hrS (.list (E.map pD2)) L m y3 y4 y5) = some (.rt (.leaf (.bool (riB E))) (hrS (.list (E.map pD2)) L m y3 y4 y5)) := by
    have e1 : ((L.map pD2).length : Int) = L.length := by rw [List.length_map]
    have e2 : riB E = decide (0 < L.length) := by
      unfold riB
      exact decide_eq_decide.mpr h
    have e3 : decide ((0 : Int) < (L.length : Int)) = decide (0 < L.length) := by simp
    unfold hrS
    generalize L.map pD2 = LD at *
    generalize E.map pD2 = ED at *
    simp [s_has_ring_4, e1, e2, e3]
  generalize E.map pD2 = ED at *
  simp [m_has_ring, pieces_has_ring, f1, f2, f3, f4]
end La

namespace Tl
open PySem PySem.Spec PyProof.Rows L2
end Tl
namespace La
open PySem PySem.Spec PyProof.Rows L2 Tl
theorem shaped_nats (S : List Nat) : SeqAt.shaped (.list (S.map natD)) = true := by
  obtain ⟨a, b⟩ := lay_nats S
  unfold SeqAt.shaped
  have c : PyData.canLay0 (.list (S.map natD)) = true := by simpa [PyData.canLay0] using a
  rw [c, PyData.depth, b]
  rfl
end La

namespace Tl
open PySem PySem.Spec PyProof.Rows L2
end Tl
namespace La
open PySem PySem.Spec PyProof.Rows L2 Tl
/-- lanes towards a goal, as a law draws these: no lane leads back -/
structure To (h : Nat) (L : List Lane) (g : Nat) (W : Nat → List Nat) : Prop where
  sub : ∀ x, (W x).Sublist (spots (fun l => l.b == x) L)
  home : W g = []
  rk : ∃ R : Nat → Nat, ∀ x k, k ∈ W x → ∃ l, L[k]? = some l ∧ R l.e < R x ∧ (l.e = g ∨ W l.e ≠ [])
/-- .. while it is being drawn; I: the houses that are served -/
structure ToI (h : Nat) (L : List Lane) (g : Nat) (I : List Nat) (W : Nat → List Nat) : Prop where
  nd : I.Nodup
  lt : ∀ x ∈ I, x < h
  mem : g ∈ I
  sub : ∀ x, (W x).Sublist (spots (fun l => l.b == x) L)
  iff : ∀ x, W x ≠ [] ↔ x ∈ I ∧ x ≠ g
  rk : ∃ R : Nat → Nat, (∀ x ∈ I, R x < I.length) ∧ ∀ x k, k ∈ W x → ∃ l, L[k]? = some l ∧ R l.e < R x ∧ l.e ∈ I
theorem ToI.done {h g : Nat} {L : List Lane} {I : List Nat} {W : Nat → List Nat} (i : ToI h L g I W) : To h L g W where
  sub := i.sub
  home := by
    by_cases q : W g = []
    · exact q
    · exact absurd rfl ((i.iff g).mp q).2
  rk := by
    obtain ⟨R, _, h2⟩ := i.rk
    refine ⟨R, fun x k m => ?_⟩
    obtain ⟨l, e, lt, li⟩ := h2 x k m
    refine ⟨l, e, lt, ?_⟩
    by_cases q : l.e = g
    · exact .inl q
    · exact .inr ((i.iff _).mpr ⟨li, q⟩)
theorem ToI.start {h g : Nat} {L : List Lane} (hg : g < h) : ToI h L g [g] (fun _ => []) where
  nd := by simp
  lt := by simp [hg]
  mem := by simp
  sub := fun x => List.nil_sublist _
  iff := fun x => by simp
  rk := ⟨fun _ => 0, by simp, fun x k m => by cases m⟩
theorem ToI.len {h g : Nat} {L : List Lane} {I : List Nat} {W : Nat → List Nat} (i : ToI h L g I W) : I.length ≤ h := by
  have := List.Nodup.length_le_of_subset i.nd (l₂ := List.range h) fun x m => List.mem_range.mpr (i.lt x m)
  simpa using this
end La

namespace La
open PySem PySem.Spec PyProof.Rows L2 Tl
end La

namespace La
open PySem PySem.Spec PyProof.Rows L2 Tl
/-- a walk of so many lanes leads from x to the goal -/
def Rch (L : List Lane) (g : Nat) : Nat → Nat → Prop
  | 0, x => x = g
  | k + 1, x => ∃ l ∈ L, l.b = x ∧ Rch L g k l.e
abbrev Lab (T : List (Option Nat)) (x k : Nat) : Prop := T[x]? = some (some k)
structure IsDist (h : Nat) (L : List Lane) (g : Nat) (T : List (Option Nat)) : Prop where
  len : T.length = h
  ok : ∀ x k, Lab T x k → Rch L g k x ∧ ∀ j, j < k → ¬ Rch L g j x
  no : ∀ x, T[x]? = some none → ∀ k, ¬ Rch L g k x
theorem Lab.uniq {T : List (Option Nat)} {x j k : Nat} (a : Lab T x j) (b : Lab T x k) : j = k := by
  have : some (some j) = some (some k) := a.symm.trans b
  simpa using this
theorem Lab.lt {T : List (Option Nat)} {x k : Nat} (a : Lab T x k) : x < T.length := (List.getElem?_eq_some_iff.mp a).1
theorem IsDist.uniq {h g : Nat} {L : List Lane} {T U : List (Option Nat)} (a : IsDist h L g T) (b : IsDist h L g U) : T = U := by
  refine List.ext_getElem (a.len.trans b.len.symm) fun x h1 h2 => ?_
  have e1 : T[x]? = some T[x] := List.getElem?_eq_getElem h1
  have e2 : U[x]? = some U[x] := List.getElem?_eq_getElem h2
  cases p : T[x] with
  | none =>
    cases q : U[x] with
    | none => rfl
    | some k =>
      rw [p] at e1
      rw [q] at e2
      exact absurd (b.ok x k e2).1 (a.no x e1 k)
  | some j =>
    rw [p] at e1
    cases q : U[x] with
    | none =>
      rw [q] at e2
      exact absurd (a.ok x j e1).1 (b.no x e2 j)
    | some k =>
      rw [q] at e2
      obtain ⟨a1, a2⟩ := a.ok x j e1
      obtain ⟨b1, b2⟩ := b.ok x k e2
      have n1 : ¬ j < k := fun z => b2 j z a1
      have n2 : ¬ k < j := fun z => a2 k z b1
      rw [show j = k by omega]
theorem dist_of {h g : Nat} {L : List Lane} {T : List (Option Nat)} (len : T.length = h) (a : Lab T g 0) (b : ∀ x k, Lab T x k → k = 0 ∧ x = g ∨ ∃ l ∈ L, l.b = x ∧ ∃ j, Lab T l.e j ∧ k = j + 1)
    (c : ∀ l ∈ L, ∀ k, Lab T l.e k → ∃ j, Lab T l.b j ∧ j ≤ k + 1) : IsDist h L g T := by
  have h1 : ∀ k x, Rch L g k x → ∃ j, Lab T x j ∧ j ≤ k := by
    intro k
    induction k with
    | zero =>
      intro x r
      have r : x = g := r
      subst r
      exact ⟨0, a, Nat.le_refl _⟩
    | succ k ih =>
      rintro x ⟨l, m, rfl, r⟩
      obtain ⟨j, hj, lj⟩ := ih _ r
      obtain ⟨i, hi, li⟩ := c l m j hj
      exact ⟨i, hi, by omega⟩
  have h2 : ∀ k x, Lab T x k → Rch L g k x := by
    intro k
    induction k with
    | zero =>
      intro x e
      rcases b x 0 e with ⟨_, q⟩ | ⟨l, m, q, j, _, z⟩
      · exact q
      · omega
    | succ k ih =>
      intro x e
      rcases b x _ e with ⟨z, q⟩ | ⟨l, m, q, j, hj, z⟩
      · omega
      · have : j = k := by omega
        subst this
        exact ⟨l, m, q, ih _ hj⟩
  refine ⟨len, fun x k e => ⟨h2 k x e, fun j l r => ?_⟩, fun x e k r => ?_⟩
  · obtain ⟨i, hi, li⟩ := h1 j x r
    have := hi.uniq e
    omega
  · obtain ⟨i, hi, li⟩ := h1 k x r
    have hi' : T[x]? = some (some i) := hi
    rw [e] at hi'
    cases hi'
theorem lab_set {T : List (Option Nat)} {x y j k : Nat} (n : T[x]? = some none) : Lab (T.set x (some k)) y j ↔ Lab T y j ∨ y = x ∧ j = k := by
  show (T.set x (some k))[y]? = _ ↔ _
  rw [List.getElem?_set]
  by_cases q : x = y
  · subst q
    have hl : x < T.length := (List.getElem?_eq_some_iff.mp n).1
    rw [if_pos rfl, if_pos hl]
    constructor
    · intro e
      injection e with e
      injection e with e
      exact .inr ⟨rfl, e.symm⟩
    · rintro (e | ⟨_, e⟩)
      · have e : T[x]? = some (some j) := e
        rw [n] at e
        cases e
      · rw [e]
  · rw [if_neg q]
    constructor
    · exact .inl
    · rintro (e | ⟨e, _⟩)
      · exact e
      · exact absurd e.symm q
structure Bi (h : Nat) (L : List Lane) (g : Nat) (T : List (Option Nat)) (Q : List Nat) : Prop where
  len : T.length = h
  a : Lab T g 0
  b : ∀ x k, Lab T x k → k = 0 ∧ x = g ∨ ∃ l ∈ L, l.b = x ∧ ∃ j, Lab T l.e j ∧ k = j + 1
  q : ∀ x ∈ Q, ∃ k, Lab T x k
  srt : Q.Pairwise fun x y => ∀ j k, Lab T x j → Lab T y k → j ≤ k
  top : ∀ x, Q.head? = some x → ∀ k, Lab T x k → ∀ y j, Lab T y j → j ≤ k + 1
  dn : ∀ l ∈ L, ∀ k, Lab T l.e k → l.e ∈ Q ∨ ∃ j, Lab T l.b j ∧ j ≤ k + 1
/-- within the turn of x, of label d, these lanes being left -/
structure Bj (h : Nat) (L : List Lane) (g x d : Nat) (rem : List Nat) (T : List (Option Nat)) (Q : List Nat) : Prop where
  len : T.length = h
  a : Lab T g 0
  b : ∀ x k, Lab T x k → k = 0 ∧ x = g ∨ ∃ l ∈ L, l.b = x ∧ ∃ j, Lab T l.e j ∧ k = j + 1
  q : ∀ x ∈ Q, ∃ k, Lab T x k ∧ d ≤ k
  hx : Lab T x d
  srt : Q.Pairwise fun x y => ∀ j k, Lab T x j → Lab T y k → j ≤ k
  top : ∀ y j, Lab T y j → j ≤ d + 1
  dn : ∀ l ∈ L, ∀ k, Lab T l.e k → l.e ∈ Q ∨ (l.e = x ∧ ∃ n ∈ rem, L[n]? = some l) ∨ ∃ j, Lab T l.b j ∧ j ≤ k + 1
theorem Bi.start {h g : Nat} {L : List Lane} (hg : g < h) : Bi h L g ((List.replicate h none).set g (some 0)) [g] := by
  have n : (List.replicate h (none : Option Nat))[g]? = some none := by simp [hg]
  have z : ∀ x k, Lab ((List.replicate h none).set g (some 0)) x k ↔ x = g ∧ k = 0 := by
    intro x k
    rw [lab_set n]
    constructor
    · rintro (e | e)
      · have e : (List.replicate h (none : Option Nat))[x]? = some (some k) := e
        rw [List.getElem?_replicate] at e
        split at e <;> cases e
      · exact e
    · exact .inr
  refine ⟨by simp, (z _ _).mpr ⟨rfl, rfl⟩, fun x k e => ?_, fun x m => ?_, by simp, fun x e k q y j r => ?_, fun l m k e => ?_⟩
  · obtain ⟨e1, e2⟩ := (z _ _).mp e
    exact .inl ⟨e2, e1⟩
  · rw [List.mem_singleton.mp m]
    exact ⟨0, (z _ _).mpr ⟨rfl, rfl⟩⟩
  · have := (z _ _).mp r
    omega
  · exact .inl (by rw [((z _ _).mp e).1]; exact List.mem_singleton.mpr rfl)
theorem Bj.done {h g x d : Nat} {L : List Lane} {T : List (Option Nat)} {Q : List Nat} (i : Bj h L g x d [] T Q) : Bi h L g T Q := by
  refine ⟨i.len, i.a, i.b, fun y m => ?_, i.srt, fun y e k r z j s => ?_, fun l m k e => ?_⟩
  · obtain ⟨k, hk, _⟩ := i.q y m
    exact ⟨k, hk⟩
  · obtain ⟨k', hk, lk⟩ := i.q y (List.mem_of_mem_head? e)
    have := i.top z j s
    have := hk.uniq r
    omega
  · rcases i.dn l m k e with z | ⟨_, n, m, _⟩ | z
    · exact .inl z
    · cases m
    · exact .inr z
theorem Bj.put {h g x d n : Nat} {L : List Lane} {rem : List Nat} {T : List (Option Nat)} {Q : List Nat} {l : Lane} (i : Bj h L g x d (n :: rem) T Q) (hn : L[n]? = some l) (he : l.e = x) (hb : T[l.b]? = some none) :
    Bj h L g x d rem (T.set l.b (some (d + 1))) (Q ++ [l.b]) := by
  have st : ∀ {y j}, Lab T y j → Lab (T.set l.b (some (d + 1))) y j := fun e => (lab_set hb).mpr (.inl e)
  have nw : Lab (T.set l.b (some (d + 1))) l.b (d + 1) := (lab_set hb).mpr (.inr ⟨rfl, rfl⟩)
  have old : ∀ {y j k}, Lab T y j → Lab (T.set l.b (some (d + 1))) y k → Lab T y k := fun {y j k} a e => by
    have := (st a).uniq e
    rw [← this]
    exact a
  have tp : ∀ y j, Lab (T.set l.b (some (d + 1))) y j → j ≤ d + 1 := fun y j e => by
    rcases (lab_set hb).mp e with e | ⟨_, e⟩
    · exact i.top y j e
    · omega
  refine ⟨by rw [List.length_set]; exact i.len, st i.a, fun y k e => ?_, fun y m => ?_, st i.hx, ?_, tp, fun l' m j e => ?_⟩
  · rcases (lab_set hb).mp e with e | ⟨e1, e2⟩
    · rcases i.b y k e with z | ⟨l', m, z, j, hj, e⟩
      · exact .inl z
      · exact .inr ⟨l', m, z, j, st hj, e⟩
    · exact .inr ⟨l, List.mem_of_getElem? hn, e1.symm, d, by rw [he]; exact st i.hx, e2⟩
  · rcases List.mem_append.mp m with m | m
    · obtain ⟨k, hk, lk⟩ := i.q y m
      exact ⟨k, st hk, lk⟩
    · rw [List.mem_singleton.mp m]
      exact ⟨d + 1, nw, Nat.le_succ _⟩
  · refine List.pairwise_append.mpr ⟨List.Pairwise.imp_of_mem (fun {y z} my mz r j k e1 e2 => ?_) i.srt, List.pairwise_singleton _ _, fun y my z mz j k e1 e2 => ?_⟩
    · obtain ⟨j', hj, _⟩ := i.q y my
      obtain ⟨k', hk, _⟩ := i.q z mz
      exact r j k (old hj e1) (old hk e2)
    · rw [List.mem_singleton.mp mz] at e2
      have := tp _ _ e1
      have := e2.uniq nw
      omega
  · rcases (lab_set hb).mp e with e | ⟨e1, e2⟩
    · rcases i.dn l' m j e with z | ⟨z, n', m', e'⟩ | ⟨k, z, zk⟩
      · exact .inl (List.mem_append_left _ z)
      · rcases List.mem_cons.mp m' with q | q
        · rw [q, hn] at e'
          cases e'
          rw [he] at e
          have := e.uniq i.hx
          exact .inr (.inr ⟨d + 1, nw, by omega⟩)
        · exact .inr (.inl ⟨z, n', q, e'⟩)
      · exact .inr (.inr ⟨k, st z, zk⟩)
    · exact .inl (List.mem_append_right _ (by rw [e1]; exact List.mem_singleton.mpr rfl))
theorem Bi.fin {h g : Nat} {L : List Lane} {T : List (Option Nat)} (i : Bi h L g T []) : IsDist h L g T :=
  dist_of i.len i.a i.b fun l m k e => (i.dn l m k e).resolve_left (fun z => nomatch z)
end La

namespace La
open PySem PySem.Spec PyProof.Rows L2 Tl
@[simp] theorem optD_n : optD none = .none := rfl
@[simp] theorem optD_s (n : Nat) : optD (some n) = .int n := rfl
end La

namespace La
open PySem PySem.Spec PyProof.Rows L2 Tl
theorem many_le : ∀ (n : Nat) (T : List (Option Nat)), (∀ j, j < n → some j ∈ T) → n ≤ T.length
  | 0, _, _ => Nat.zero_le _
  | n + 1, T, h => by
    have m := h n (Nat.lt_succ_self n)
    have ih := many_le n (T.erase (some n)) fun j l => (List.mem_erase_of_ne (by intro e; cases e; omega)).mpr (h j (by omega))
    have := List.length_erase_of_mem m
    have := List.length_pos_of_mem m
    omega
theorem Rch.least {L : List Lane} {g x : Nat} : ∀ {j : Nat}, Rch L g j x → ∃ k, k ≤ j ∧ Rch L g k x ∧ ∀ i, i < k → ¬ Rch L g i x := by
  intro j
  induction j using Nat.strongRecOn with
  | ind j ih =>
    intro r
    by_cases q : ∃ i, i < j ∧ Rch L g i x
    · obtain ⟨i, l, r'⟩ := q
      obtain ⟨k, a, b, c⟩ := ih i l r'
      exact ⟨k, by omega, b, c⟩
    · exact ⟨j, Nat.le_refl _, r, fun i l r' => q ⟨i, l, r'⟩⟩
theorem IsDist.below {h g : Nat} {L : List Lane} {T : List (Option Nat)} (i : IsDist h L g T) (hL : Ln h L) (hg : g < h) : ∀ k x, Lab T x k → ∀ j, j ≤ k → ∃ y, Lab T y j := by
  intro k
  induction k with
  | zero =>
    intro x e j l
    rw [show j = 0 by omega]
    exact ⟨x, e⟩
  | succ k ih =>
    intro x e j l
    by_cases q : j = k + 1
    · rw [q]
      exact ⟨x, e⟩
    · obtain ⟨r, mi⟩ := i.ok x _ e
      obtain ⟨ln, m, rfl, r'⟩ := r
      have hl : ln.e < T.length := by rw [i.len]; exact (hL ln m).2.1
      have e1 : T[ln.e]? = some T[ln.e] := List.getElem?_eq_getElem hl
      cases z : T[ln.e] with
      | none =>
        rw [z] at e1
        exact absurd r' (i.no _ e1 k)
      | some k' =>
        rw [z] at e1
        obtain ⟨r2, mi2⟩ := i.ok _ k' e1
        have n1 : ¬ k < k' := fun l => mi2 k l r'
        have n2 : ¬ k' < k := fun l => mi (k' + 1) (by omega) ⟨ln, m, rfl, r2⟩
        have : k' = k := by omega
        subst this
        exact ih _ e1 j (by omega)
theorem IsDist.lt {h g x k : Nat} {L : List Lane} {T : List (Option Nat)} (i : IsDist h L g T) (hL : Ln h L) (hg : g < h) (e : Lab T x k) : k < h := by
  have := many_le (k + 1) T fun j l => by
    obtain ⟨y, hy⟩ := i.below hL hg k x e j (by omega)
    exact List.mem_of_getElem? hy
  rw [i.len] at this
  omega
theorem Rch.lt {h g : Nat} {L : List Lane} (hL : Ln h L) (hg : g < h) {m x : Nat} (r : Rch L g m x) : x < h := by
  cases m with
  | zero =>
    have r : x = g := r
    rw [r]
    exact hg
  | succ m =>
    obtain ⟨l, m, rfl, _⟩ := r
    exact (hL l m).1
theorem IsDist.someAt {h g x : Nat} {L : List Lane} {T : List (Option Nat)} (i : IsDist h L g T) (hx : x < h) {k : Nat} (r : Rch L g k x) : ∃ j, Lab T x j ∧ j ≤ k := by
  have hl : x < T.length := by rw [i.len]; exact hx
  have e1 : T[x]? = some T[x] := List.getElem?_eq_getElem hl
  cases w : T[x] with
  | none =>
    rw [w] at e1
    exact absurd r (i.no x e1 k)
  | some j =>
    rw [w] at e1
    refine ⟨j, e1, ?_⟩
    have := (i.ok x j e1).2 k
    by_cases q : k < j
    · exact absurd r (this q)
    · omega
end La

namespace La
open PySem PySem.Spec PyProof.Rows L2 Tl
theorem Rch.zero {L : List Lane} {g x : Nat} : Rch L g 0 x ↔ x = g := Iff.rfl
end La

namespace La
open PySem PySem.Spec PyProof.Rows L2 Tl
def labOf (T : List (Option Nat)) (x : Nat) : Option Nat := T[x]?.join
def endsOf (L : List Lane) (T : List (Option Nat)) (x : Nat) : List Nat := (L.filter fun l => l.b == x && (labOf T l.e).isSome).map fun l => (labOf T l.e).getD 0
theorem labOf_some {T : List (Option Nat)} {x k : Nat} : labOf T x = some k ↔ Lab T x k := by
  unfold labOf
  cases h : T[x]? with
  | none =>
    simp
    intro e
    have e : T[x]? = some (some k) := e
    rw [h] at e
    cases e
  | some o =>
    simp
    show o = some k ↔ T[x]? = some (some k)
    rw [h]
    simp
theorem mem_ends {L : List Lane} {T : List (Option Nat)} {x k : Nat} : k ∈ endsOf L T x ↔ ∃ l ∈ L, l.b = x ∧ Lab T l.e k := by
  unfold endsOf
  simp only [List.mem_map, List.mem_filter, Bool.and_eq_true, beq_iff_eq]
  constructor
  · rintro ⟨l, ⟨m, e, s⟩, q⟩
    obtain ⟨j, hj⟩ := Option.isSome_iff_exists.mp s
    rw [hj] at q
    simp at q
    subst q
    exact ⟨l, m, e, labOf_some.mp hj⟩
  · rintro ⟨l, m, e, q⟩
    have := labOf_some.mpr q
    exact ⟨l, ⟨m, e, by rw [this]; rfl⟩, by rw [this]; rfl⟩
/-- each house's number by those behind its lanes -/
theorem IsDist.least {h g x : Nat} {L : List Lane} {T : List (Option Nat)} (i : IsDist h L g T) (hL : Ln h L) (hx : x < h) (n : x ≠ g) : labOf T x = (endsOf L T x).min?.map (· + 1) := by
  have hl : x < T.length := by rw [i.len]; exact hx
  have e1 : T[x]? = some T[x] := List.getElem?_eq_getElem hl
  have step : ∀ k, Lab T x k → ∃ k', k = k' + 1 ∧ ∃ j, j ≤ k' ∧ j ∈ endsOf L T x := by
    intro k e
    obtain ⟨r, mi⟩ := i.ok x k e
    cases k with
    | zero => exact absurd r n
    | succ k =>
      obtain ⟨l, m, q, r'⟩ := r
      obtain ⟨j, hj, lj⟩ := i.someAt (hL l m).2.1 r'
      exact ⟨k, rfl, j, lj, mem_ends.mpr ⟨l, m, q, hj⟩⟩
  cases q : (endsOf L T x).min? with
  | none =>
    have e : endsOf L T x = [] := List.min?_eq_none_iff.mp q
    cases w : T[x] with
    | none => simp [labOf, e1, w]
    | some k =>
      rw [w] at e1
      obtain ⟨_, _, j, _, m⟩ := step k e1
      rw [e] at m
      cases m
  | some m =>
    obtain ⟨h1, h2⟩ := List.min?_eq_some_iff.mp q
    obtain ⟨l, ml, e, hm⟩ := mem_ends.mp h1
    obtain ⟨k, hk, lk⟩ := i.someAt (k := m + 1) hx ⟨l, ml, e, (i.ok _ _ hm).1⟩
    obtain ⟨k', e', j, lj, mj⟩ := step k hk
    have := h2 j mj
    rw [labOf_some.mpr hk]
    simp
    omega
end La

namespace La
open PySem PySem.Spec PyProof.Rows L2 Tl
end La

namespace La
open PySem PySem.Spec PyProof.Rows L2 Tl
abbrev toS (h g mo sv : Nat) (L : List Lane) (W : Nat → List Nat) (I : List Nat) (t : T) (a b c d : Option D) : SS := ⟨[none, some (netT h L), some (.int g), some (.int mo), none, none, some (.int sv), a, b, c, d], [(0, t), (4, .fl ((List.range h).map fun x => natsT (W x))), (5, .fl (I.map natD))]⟩
end La

namespace La
open PySem PySem.Spec PyProof.Rows L2 Tl
theorem seq_nx {a b : MS} {s s' : SS} (e : a s = some (.nx s')) : mSeq a b s = b s' := by
  obtain ⟨fz, τ⟩ := s
  rw [r_mSeq, e]
  obtain ⟨fz', τ'⟩ := s'
  rfl
end La

namespace La
open PySem PySem.Spec PyProof.Rows L2 Tl
end La

namespace La
open PySem PySem.Spec PyProof.Rows L2 Tl
end La

namespace La
open PySem PySem.Spec PyProof.Rows L2 Tl
def Thin (S Q : List Nat) : Prop := S.Sublist Q ∧ (Q = [] ↔ S = [])
theorem Thin.refl (Q : List Nat) : Thin Q Q := ⟨List.Sublist.refl _, Iff.rfl⟩
theorem shaped_natsT (S : List Nat) : SeqAt.shaped (natsT S) = true := by
  obtain ⟨a, b⟩ := natsT_lay S
  unfold SeqAt.shaped
  rw [a, b]
  rfl
end La

namespace La
open PySem PySem.Spec PyProof.Rows L2 Tl
abbrev rowsL (N h : Nat) (V : Nat → Nat → List Nat) : List D := (List.range N).map fun j => .list (rowD h V j)
/-- a way: begins, ons -/
def wayG (h : Nat) (L : List Lane) (B O : Nat → Nat → List Nat) : D := .tuple [.list (rowsL h h B), .list (rowsL L.length h O)]
def onW (L : List Lane) (W : Nat → Nat → List Nat) (j g : Nat) : List Nat := match L[j]? with
  | some l => W l.e g
  | none => []
/-- the ways that a law draws -/
def WayP (h : Nat) (L : List Lane) (B O : Nat → Nat → List Nat) : Prop := ∃ W : Nat → Nat → List Nat, (∀ g, g < h → To h L g (fun x => W x g)) ∧ (∀ x, x < h → ∀ g, g < h → Thin (B x g) (W x g)) ∧ ∀ j l, L[j]? = some l → ∀ g, g < h → Thin (O j g) (W l.e g)
end La

namespace La
open PySem PySem.Spec PyProof.Rows L2 Tl
theorem To.len {h g : Nat} {L : List Lane} {W : Nat → List Nat} (i : To h L g W) (x : Nat) : (W x).length ≤ L.length :=
  Nat.le_trans (i.sub x).length_le (spots_len _ _)
theorem WayP.whole {h : Nat} {L : List Lane} {W : Nat → Nat → List Nat} (hT : ∀ g, g < h → To h L g (fun x => W x g)) : WayP h L W (onW L W) :=
  ⟨W, hT, fun x _ g _ => Thin.refl _, fun j l e g _ => by rw [onW, e]; exact Thin.refl _⟩
end La

namespace La
open PySem PySem.Spec PyProof.Rows L2 Tl
def up (L : List Lane) (x : Nat) : Int → List Int → Bool
  | _, [] => true
  | a, i :: is => decide (a < i) && (decide (i < L.length) && ((L[i.toNat]?).elim false (fun l => l.b == x) && up L x i is))
end La

namespace La
open PySem PySem.Spec PyProof.Rows L2 Tl
end La

namespace La
open PySem PySem.Spec PyProof.Rows L2 Tl
end La
namespace La
open PySem PySem.Spec PyProof.Rows L2 Tl
@[simp] theorem ix30 : ixN 3 0 = some 0 := by decide
@[simp] theorem ix31 : ixN 3 1 = some 1 := by decide
@[simp] theorem ix32 : ixN 3 2 = some 2 := by decide
@[simp] theorem ix20 : ixN 2 0 = some 0 := by decide
@[simp] theorem ix21 : ixN 2 1 = some 1 := by decide
end La
namespace La
open PySem PySem.Spec PyProof.Rows L2 Tl
end La

namespace La
open PySem PySem.Spec PyProof.Rows L2 Tl
theorem eqv_ints : ∀ (a b : List Int), PyData.eqvAll (a.map PyData.int) (b.map PyData.int) = decide (a = b)
  | [], [] => rfl
  | [], _ :: _ => rfl
  | _ :: _, [] => rfl
  | x :: a, y :: b => by
    have ih := eqv_ints a b
    show (PyData.eqv (.int x) (.int y) && PyData.eqvAll (a.map PyData.int) (b.map PyData.int)) = _
    rw [ih, eqv_int]
    simp
end La

namespace La
open PySem PySem.Spec PyProof.Rows L2 Tl
theorem allB_map {α : Type} (f : α → Bool) (xs : List α) : Tl.allB (xs.map f) = xs.all f := by
  unfold Tl.allB
  rw [List.all_map]
  rfl
theorem boolsD_mapA {α : Type} (f : α → Bool) (xs : List α) : boolsD (xs.map fun a => PyData.bool (f a)) = some (xs.map f) := by
  have := boolsD_bs (xs.map f)
  rw [List.map_map] at this
  exact this
end La

namespace La
open PySem PySem.Spec PyProof.Rows L2 Tl
end La

namespace Tl
open PySem PySem.Spec PyProof.Rows L2
theorem forA_typ {α : Type} {ws : List Nat} {mt : MG} {body : MS} {e : α → D} {xs : List α} {s : SS} {x : Option Out} (h : forL ws mt body (xs.map e) s = x) (P : α → Bool) (SI : SS → Prop) (bad : T) (i : SI s)
    (step : ∀ a ∈ xs, ∀ s, SI s → ∃ fz, mt (e a) s.fz = some fz ∧ (P a = true → ∃ s', body ⟨fz, tout ws s.ow⟩ = some (.nx s') ∧ SI s') ∧ (P a = false → ∃ s', body ⟨fz, tout ws s.ow⟩ = some (.rt bad s'))) :
    (xs.all P = true ∧ ∃ s', x = some (.nx s') ∧ SI s') ∨ (xs.all P = false ∧ ∃ s', x = some (.rt bad s')) := by
  subst h
  induction xs generalizing s with
  | nil => exact .inl ⟨rfl, s, rfl, i⟩
  | cons d ds ih =>
    obtain ⟨fz, e1, a, b⟩ := step d List.mem_cons_self s i
    have eF : ∀ o, body ⟨fz, tout ws s.ow⟩ = some o → forL ws mt body ((d :: ds).map e) s = (match o with
      | .nx s1 => forL ws mt body (ds.map e) s1
      | .ct s1 => forL ws mt body (ds.map e) s1
      | .bk s1 => some (.nx s1)
      | .rt t s1 => some (.rt t s1)) := by
      intro o eo
      show (mt (e d) s.fz).bind _ = _
      rw [e1]
      show (body ⟨fz, tout ws s.ow⟩).bind _ = _
      rw [eo]
      rfl
    cases q : P d with
    | true =>
      obtain ⟨s1, e2, h1⟩ := a q
      rw [eF _ e2, List.all_cons, q, Bool.true_and]
      exact ih h1 fun a m => step a (List.mem_cons_of_mem _ m)
    | false =>
      obtain ⟨s1, e2⟩ := b q
      rw [eF _ e2, List.all_cons, q, Bool.false_and]
      exact .inr ⟨rfl, s1, rfl⟩
end Tl
namespace La
open PySem PySem.Spec PyProof.Rows L2 Tl
end La

namespace La
open PySem PySem.Spec PyProof.Rows L2 Tl
def succL (E : List Pr2) (s : St2) : List St2 := (E.filter fun e => decide (e.1 = s)).map (·.2)
theorem mem_succ {E : List Pr2} {s t : St2} : t ∈ succL E s ↔ (s, t) ∈ E := by
  unfold succL
  rw [List.mem_map]
  constructor
  · rintro ⟨e, m, rfl⟩
    obtain ⟨m1, m2⟩ := List.mem_filter.mp m
    rw [← of_decide_eq_true m2]
    exact m1
  · intro m
    exact ⟨(s, t), List.mem_filter.mpr ⟨m, decide_eq_true rfl⟩, rfl⟩
theorem succ_len (E : List Pr2) (s : St2) : (succL E s).length ≤ E.length := by
  unfold succL
  rw [List.length_map]
  exact List.length_filter_le _ _
theorem succ_app (E : List Pr2) (e : Pr2) (s : St2) : succL (E ++ [e]) s = succL E s ++ if e.1 = s then [e.2] else [] := by
  unfold succL
  rw [List.filter_append, List.map_append]
  by_cases q : e.1 = s <;> simp [q]
theorem succ_no {E : List Pr2} {s : St2} (h : s ∉ E.map (·.1)) : succL E s = [] := by
  unfold succL
  rw [List.filter_eq_nil_iff.mpr, List.map_nil]
  intro e m
  rw [decide_eq_true_iff]
  intro z
  exact h (List.mem_map.mpr ⟨e, m, z⟩)
structure Af (E : List Pr2) (es : List (NK × D)) (FE : List St2) : Prop where
  val : ∀ s, valK es (sk s) = if s ∈ E.map (·.1) then some (.list ((succL E s).map sD)) else none
  keys : es.map (·.1) = FE.map sk
  mem : ∀ s, s ∈ FE ↔ s ∈ E.map (·.1)
  len : FE.length ≤ E.length
theorem Af.nil : Af [] [] [] := ⟨fun _ => rfl, rfl, fun _ => Iff.rfl, Nat.le_refl _⟩
theorem Af.getD {E : List Pr2} {es : List (NK × D)} {FE : List St2} (a : Af E es FE) (s : St2) : (valK es (sk s)).getD (.list []) = .list ((succL E s).map sD) := by
  rw [a.val s]
  by_cases q : s ∈ E.map (·.1)
  · rw [if_pos q]
    rfl
  · rw [if_neg q, succ_no q]
    rfl
theorem putE_keys {κ α : Type} [DecidableEq κ] (es : List (κ × α)) (k : κ) (d : α) : (putE es k d).map (·.1) = if k ∈ es.map (·.1) then es.map (·.1) else es.map (·.1) ++ [k] := by
  unfold putE
  have e : (es.any fun p => decide (p.1 = k)) = decide (k ∈ es.map (·.1)) := by
    rw [Bool.eq_iff_iff, List.any_eq_true, decide_eq_true_iff, List.mem_map]
    constructor
    · rintro ⟨p, m, h⟩
      exact ⟨p, m, of_decide_eq_true h⟩
    · rintro ⟨p, m, h⟩
      exact ⟨p, m, decide_eq_true h⟩
  rw [e]
  by_cases q : k ∈ es.map (·.1)
  · rw [if_pos (decide_eq_true q), if_pos q, List.map_map]
    refine List.map_congr_left fun p _ => ?_
    show (if p.1 = k then (p.1, d) else p).1 = p.1
    by_cases z : p.1 = k
    · rw [if_pos z]
    · rw [if_neg z]
  · rw [if_neg (by rw [decide_eq_true_iff]; exact q), if_neg q, List.map_append]
    rfl
theorem Af.put {E : List Pr2} {es : List (NK × D)} {FE : List St2} (a : Af E es FE) (e : Pr2) : ∃ FE', Af (E ++ [e]) (putE es (sk e.1) (.list ((succL E e.1).map sD ++ [sD e.2]))) FE' := by
  have mk : sk e.1 ∈ es.map (·.1) ↔ e.1 ∈ E.map (·.1) := by
    rw [a.keys, ← a.mem, List.mem_map]
    constructor
    · rintro ⟨s, m, h⟩
      rw [← sk_inj h]
      exact m
    · intro m
      exact ⟨_, m, rfl⟩
  refine ⟨if e.1 ∈ E.map (·.1) then FE else FE ++ [e.1], fun s => ?_, ?_, fun s => ?_, ?_⟩
  · rw [valK_put, List.map_append, succ_app]
    by_cases q : s = e.1
    · subst q
      have hm : e.1 ∈ E.map (·.1) ++ [e].map (·.1) := List.mem_append_right _ (by rw [List.map_cons]; exact List.mem_cons_self)
      rw [if_pos rfl, if_pos rfl, if_pos hm, List.map_append]
      rfl
    · have q' : ¬ sk s = sk e.1 := fun z => q (sk_inj z)
      have q2 : ¬ e.1 = s := fun z => q z.symm
      rw [if_neg q', a.val s, if_neg q2, List.append_nil]
      have hm : s ∈ E.map (·.1) ++ [e].map (·.1) ↔ s ∈ E.map (·.1) := by
        rw [List.mem_append, List.map_cons, List.map_nil, List.mem_singleton]
        exact ⟨fun h => h.resolve_right q, .inl⟩
      by_cases z : s ∈ E.map (·.1)
      · rw [if_pos z, if_pos (hm.mpr z)]
      · rw [if_neg z, if_neg fun y => z (hm.mp y)]
  · rw [putE_keys]
    by_cases q : e.1 ∈ E.map (·.1)
    · rw [if_pos (mk.mpr q), if_pos q, a.keys]
    · rw [if_neg (fun z => q (mk.mp z)), if_neg q, a.keys, List.map_append]
      rfl
  · rw [List.map_append]
    by_cases q : e.1 ∈ E.map (·.1)
    · rw [if_pos q, a.mem, List.mem_append]
      constructor
      · exact .inl
      · rintro (h | h)
        · exact h
        · have : s = e.1 := by simpa using h
          rw [this]
          exact q
    · rw [if_neg q, List.mem_append, List.mem_append, a.mem]
      simp
  · rw [List.length_append]
    have := a.len
    split <;> simp <;> omega
abbrev rgS (P : D) (x1 x2 x3 x4 x7 : Option D) (τ : Tau) : SS := ⟨[some P, x1, x2, x3, x4, none, none, x7], τ⟩
theorem rg_build {E : List Pr2} {P : D} (hP : P = .list (E.map pD2)) (hE : E.length ≤ 200) : ∃ (es : List (NK × D)) (FE : List St2) (x2 x3 : Option D), s_law_rings_2 (rgS P none none none none none [(1, .dn [])]) = some (.nx (rgS P none x2 x3 none none [(1, .dn es)])) ∧ Af E es FE := by
  generalize hF : s_law_rings_2 _ = y
  subst hP
  simp [s_law_rings_2] at hF
  generalize PyData.list (E.map pD2) = P at *
  obtain ⟨s', rfl, ys, es, FE, x2, x3, hy, af, rfl⟩ := for_inv hF (fun as s => ∃ (ys : List Pr2) (es : List (NK × D)) (FE : List St2) (x2 x3 : Option D), ys ++ as = E ∧ Af ys es FE ∧ s = rgS P none x2 x3 none none [(1, .dn es)])
    ⟨[], [], [], none, none, rfl, Af.nil, rfl⟩ (by
    rintro e as s ⟨ys, es, FE, x2, x3, hy, af, rfl⟩
    obtain ⟨FE', af'⟩ := af.put e
    have hl : ys.length + (as.length + 1) = E.length := by rw [← hy, List.length_append, List.length_cons]
    have h1 := keyN_sD e.1
    have h2 := af.getD e.1
    have h3 : es.length < 16000000 := by
      have a1 := congrArg List.length af.keys
      rw [List.length_map, List.length_map] at a1
      have := af.len
      omega
    have h4 : ((succL ys e.1).map sD).length + 1 ≤ 16000000 := by
      rw [List.length_map]
      have := succ_len ys e.1
      omega
    refine ⟨_, by simp [pD2]; rfl, rgS P none (some (sD e.1)) (some (sD e.2)) none none [(1, .dn (putE es (sk e.1) (.list ((succL ys e.1).map sD ++ [sD e.2]))))], .inl ?_, ys ++ [e], _, FE', _, _, by simp [hy], af', rfl⟩
    generalize (succL ys e.1).map sD = Z at *
    generalize sD e.1 = S1 at *
    generalize sD e.2 = S2 at *
    simp [s_law_rings_2b_1, h1, h2, h3, h4])
  rw [List.append_nil] at hy
  subst hy
  exact ⟨es, FE, x2, x3, rfl, af⟩
/-- streets met -/
def mtE (M : List St2) : List (NK × D) := M.map fun s => (sk s, .bool true)
theorem mt_val (M : List St2) (s : St2) : (valK (mtE M) (sk s)).isSome = decide (s ∈ M) := by
  rw [← valK_any]
  unfold mtE
  rw [List.any_map, Bool.eq_iff_iff, List.any_eq_true, decide_eq_true_iff]
  constructor
  · rintro ⟨t, m, h⟩
    rw [sk_inj (of_decide_eq_true h : sk t = sk s)] at m
    exact m
  · intro m
    exact ⟨s, m, decide_eq_true rfl⟩
theorem mt_put {M : List St2} {s : St2} (h : s ∉ M) : putE (mtE M) (sk s) (.bool true) = mtE (M ++ [s]) := by
  unfold putE
  rw [valK_any, mt_val, if_neg (by rw [decide_eq_true_iff]; exact h)]
  unfold mtE
  rw [List.map_append]
  rfl
theorem lay_sD : ∀ R : List St2, PyData.canLayAll0 (R.map sD) = true ∧ PyData.depthAll (R.map sD) ≤ 1
  | [] => ⟨rfl, by simp [PyData.depthAll]⟩
  | x :: R => by
    obtain ⟨a, b⟩ := lay_sD R
    constructor
    · simp [PyData.canLayAll0, a, sD, PyData.canLay0]
    · rw [List.map_cons, PyData.depthAll]
      have : (sD x).depth = 1 := by simp [sD, PyData.depth, PyData.depthAll]
      omega
theorem shaped_sD (R : List St2) : SeqAt.shaped (.list (R.map sD)) = true := by
  obtain ⟨a, b⟩ := lay_sD R
  unfold SeqAt.shaped
  rw [PyData.canLay0, a, Bool.true_and, decide_eq_true_eq, PyData.depth]
  omega
structure Dfs (E : List Pr2) (f : St2) (M W : List St2) : Prop where
  nd : M.Nodup
  rm : ∀ s ∈ M, Rp E f s
  rw_ : ∀ s ∈ W, Rp E f s
  c0 : ∀ t, (f, t) ∈ E → t ∈ M ∨ t ∈ W
  c1 : ∀ s ∈ M, ∀ t, (s, t) ∈ E → t ∈ M ∨ t ∈ W
theorem Rp.last {E : List Pr2} {a b : St2} (h : Rp E a b) : b ∈ E.map (·.2) := by
  induction h with
  | one m => exact List.mem_map.mpr ⟨_, m, rfl⟩
  | cons _ _ ih => exact ih
theorem dfs_len {E : List Pr2} {f : St2} {M W : List St2} (d : Dfs E f M W) : M.length ≤ E.length := by
  have sub : ∀ (A B : List St2), A.Nodup → (∀ x ∈ A, x ∈ B) → A.length ≤ B.length := by
    intro A
    induction A with
    | nil => intro _ _ _; exact Nat.zero_le _
    | cons a A ih =>
      intro B n h
      obtain ⟨n1, n2⟩ := List.nodup_cons.mp n
      have := ih (B.erase a) n2 fun x m => (List.mem_erase_of_ne fun (z : x = a) => n1 (by rw [← z]; exact m)).mpr (h x (List.mem_cons_of_mem _ m))
      have l := List.length_erase_of_mem (h a List.mem_cons_self)
      have p := List.length_pos_of_mem (h a List.mem_cons_self)
      rw [List.length_cons]
      omega
  have := sub M (E.map (·.2)) d.nd fun x m => (d.rm x m).last
  rw [List.length_map] at this
  exact this
theorem dfs_end {E : List Pr2} {f : St2} {M : List St2} (d : Dfs E f M []) (t : St2) : t ∈ M ↔ Rp E f t := by
  have go : ∀ a b, Rp E a b → (a ∈ M ∨ a = f) → b ∈ M := by
    intro a b r
    have one : ∀ a b, (a, b) ∈ E → (a ∈ M ∨ a = f) → b ∈ M := by
      rintro a b m (h | rfl)
      · exact (d.c1 a h b m).resolve_right List.not_mem_nil
      · exact (d.c0 b m).resolve_right List.not_mem_nil
    induction r with
    | one m => exact one _ _ m
    | cons m _ ih => exact fun h => ih (.inl (one _ _ m h))
  exact ⟨d.rm t, fun r => go f t r (.inr rfl)⟩
theorem rg_walk {E : List Pr2} {P : D} {es : List (NK × D)} {FE : List St2} {x2 x3 x7 : Option D} {f : St2} (hE : E.length ≤ 200) (af : Af E es FE) :
    ∃ (y7 : Option D) (M : List St2), s_law_rings_3b_3 (rgS P (some (.dict ((.none, .bool true) :: ndD es))) x2 x3 (some (sD f)) x7 [(5, .dn []), (6, .fl ((succL E f).map sD))]) = some (.nx (rgS P (some (.dict ((.none, .bool true) :: ndD es))) x2 x3 (some (sD f)) y7 [(5, .dn (mtE M)), (6, .fl [])])) ∧ Dfs E f M [] := by
  generalize hF : s_law_rings_3b_3 _ = y
  have hg := af.getD
  simp [s_law_rings_3b_3] at hF
  obtain ⟨s', rfl, y7, M, rfl, d⟩ := whL_of hF (fun m s => ∃ (x7 : Option D) (M W : List St2), s = rgS P (some (.dict ((.none, .bool true) :: ndD es))) x2 x3 (some (sD f)) x7 [(5, .dn (mtE M)), (6, .fl (W.map sD))] ∧ Dfs E f M W ∧ m ≤ 50000 ∧ m = (E.length - M.length) * (E.length + 1) + W.length)
    (fun s => ∃ (x7 : Option D) (M : List St2), s = rgS P (some (.dict ((.none, .bool true) :: ndD es))) x2 x3 (some (sD f)) x7 [(5, .dn (mtE M)), (6, .fl [])] ∧ Dfs E f M []) (E.length * (E.length + 1) + (succL E f).length)
    ⟨x7, [], succL E f, rfl, ⟨.nil, (fun _ m => by cases m), fun s m => .one (mem_succ.mp m), fun t m => .inr (mem_succ.mpr m), (fun _ m => by cases m)⟩, by
        have h1 := succ_len E f
        have h2 : E.length * (E.length + 1) ≤ 200 * 201 := Nat.mul_le_mul hE (by omega)
        omega, by simp⟩
    (by
      have h1 := succ_len E f
      have h2 : E.length * (E.length + 1) ≤ 200 * 201 := Nat.mul_le_mul hE (by omega)
      unfold whF
      omega) (by
    rintro m s ⟨x7, M, W, rfl, d, hW, rfl⟩
    have lm := dfs_len d
    rcases List.eq_nil_or_concat W with rfl | ⟨W', s, rfl⟩
    · refine .inl ⟨_, ?_, x7, M, rfl, d⟩
      simp
    · refine .inr ?_
      rw [List.concat_eq_append] at *
      have hl : (W' ++ [s]).length = W'.length + 1 := by simp
      have test : mXB (mBrB 6 (mBinB (gp pNe) (mSee 6) (mOp gLstD mNil))) (rgS P (some (.dict ((.none, .bool true) :: ndD es))) x2 x3 (some (sD f)) x7 [(5, .dn (mtE M)), (6, .fl ((W' ++ [s]).map sD))]) = some (true, rgS P (some (.dict ((.none, .bool true) :: ndD es))) x2 x3 (some (sD f)) x7 [(5, .dn (mtE M)), (6, .fl ((W' ++ [s]).map sD))]) := by
        have ne : ((W' ++ [s]).map sD).isEmpty = false := by simp
        have hsh := shaped_sD (W' ++ [s])
        generalize (W' ++ [s]).map sD = WD at *
        simp [ne, hsh]
      have g1 : s_law_rings_3b_3b_1 (rgS P (some (.dict ((.none, .bool true) :: ndD es))) x2 x3 (some (sD f)) x7 [(5, .dn (mtE M)), (6, .fl ((W' ++ [s]).map sD))]) = some (.nx (rgS P (some (.dict ((.none, .bool true) :: ndD es))) x2 x3 (some (sD f)) (some (sD s)) [(5, .dn (mtE M)), (6, .fl (W'.map sD))])) := by
        rw [List.map_append]
        generalize W'.map sD = WD at *
        simp [s_law_rings_3b_3b_1]
      have hv := mt_val M s
      have hk := keyN_sD s
      have hs := sk_free s
      by_cases q : s ∈ M
      · have g2 : s_law_rings_3b_3b_2 (rgS P (some (.dict ((.none, .bool true) :: ndD es))) x2 x3 (some (sD f)) (some (sD s)) [(5, .dn (mtE M)), (6, .fl (W'.map sD))]) = some (.nx (rgS P (some (.dict ((.none, .bool true) :: ndD es))) x2 x3 (some (sD f)) (some (sD s)) [(5, .dn (mtE M)), (6, .fl (W'.map sD))])) := by
          rw [decide_eq_true q] at hv
          generalize mtE M = ME at *
          generalize W'.map sD = WD at *
          generalize sD s = S1 at *
          generalize sD f = S0 at *
          simp [s_law_rings_3b_3b_2, hk, hs, hv]
        refine ⟨_, _, (E.length - M.length) * (E.length + 1) + W'.length, test, .inl (by unfold s_law_rings_3b_3b; rw [t_nx g1, t_nx g2]; rfl), by omega, _, M, W', rfl, ⟨d.nd, d.rm, fun t m => d.rw_ t (List.mem_append_left _ m), fun t m => ?_, fun t mt u m => ?_⟩, by omega, rfl⟩
        · rcases d.c0 t m with h | h
          · exact .inl h
          · rcases List.mem_append.mp h with h | h
            · exact .inr h
            · exact .inl (by rw [List.mem_singleton.mp h]; exact q)
        · rcases d.c1 t mt u m with h | h
          · exact .inl h
          · rcases List.mem_append.mp h with h | h
            · exact .inr h
            · exact .inl (by rw [List.mem_singleton.mp h]; exact q)
      · have ls := succ_len E s
        have hp := mt_put q
        have hgs := hg s
        have hml : (mtE M).length < 16000000 := by
          unfold mtE
          rw [List.length_map]
          omega
        have g2 : s_law_rings_3b_3b_2 (rgS P (some (.dict ((.none, .bool true) :: ndD es))) x2 x3 (some (sD f)) (some (sD s)) [(5, .dn (mtE M)), (6, .fl (W'.map sD))]) = some (.nx (rgS P (some (.dict ((.none, .bool true) :: ndD es))) x2 x3 (some (sD f)) (some (sD s)) [(5, .dn (mtE (M ++ [s]))), (6, .fl ((W' ++ succL E s).map sD))])) := by
          rw [List.map_append]
          rw [decide_eq_false q] at hv
          have hlen : (W'.map sD).length + ((succL E s).map sD).length ≤ 16000000 := by
            rw [List.length_map, List.length_map]
            omega
          generalize mtE M = ME at *
          generalize mtE (M ++ [s]) = ME' at *
          generalize W'.map sD = WD at *
          generalize (succL E s).map sD = WS at *
          generalize sD s = S1 at *
          generalize sD f = S0 at *
          simp [s_law_rings_3b_3b_2, s_law_rings_3b_3b_2t_1, s_law_rings_3b_3b_2t_2, hk, hs, hv, hml, hp, hgs, hlen]
        have d' : Dfs E f (M ++ [s]) (W' ++ succL E s) := by
          have rs := d.rw_ s (List.mem_append_right _ List.mem_cons_self)
          refine ⟨?_, fun t m => ?_, fun t m => ?_, fun t m => ?_, fun t mt u m => ?_⟩
          · exact List.nodup_append.mpr ⟨d.nd, by simp, fun a ma b mb => by
              rw [List.mem_singleton.mp mb]
              exact fun z => q (z ▸ ma)⟩
          · rcases List.mem_append.mp m with h | h
            · exact d.rm t h
            · rw [List.mem_singleton.mp h]
              exact rs
          · rcases List.mem_append.mp m with h | h
            · exact d.rw_ t (List.mem_append_left _ h)
            · exact rs.snoc (mem_succ.mp h)
          · rcases d.c0 t m with h | h
            · exact .inl (List.mem_append_left _ h)
            · rcases List.mem_append.mp h with h | h
              · exact .inr (List.mem_append_left _ h)
              · exact .inl (List.mem_append_right _ h)
          · rcases List.mem_append.mp mt with h | h
            · rcases d.c1 t h u m with h | h
              · exact .inl (List.mem_append_left _ h)
              · rcases List.mem_append.mp h with h | h
                · exact .inr (List.mem_append_left _ h)
                · exact .inl (List.mem_append_right _ h)
            · rw [List.mem_singleton.mp h] at m
              exact .inr (List.mem_append_right _ (mem_succ.mpr m))
        have lm' := dfs_len d'
        rw [List.length_append] at lm'
        have lw : (W' ++ succL E s).length = W'.length + (succL E s).length := List.length_append
        have hm : (E.length - (M ++ [s]).length) * (E.length + 1) + (E.length + 1) = (E.length - M.length) * (E.length + 1) := by
          rw [List.length_append]
          obtain ⟨z, hz⟩ : ∃ z, E.length - M.length = z + 1 := ⟨E.length - M.length - 1, by simp at lm'; omega⟩
          have : E.length - (M.length + [s].length) = z := by simp at lm' ⊢; omega
          rw [this, hz, Nat.succ_mul]
        refine ⟨_, _, (E.length - (M ++ [s]).length) * (E.length + 1) + (W' ++ succL E s).length, test, .inl (by unfold s_law_rings_3b_3b; rw [t_nx g1, t_nx g2]; rfl), by omega, _, M ++ [s], W' ++ succL E s, rfl, d', by omega, rfl⟩)
  exact ⟨y7, M, rfl, d⟩
end La

namespace La
open PySem PySem.Spec PyProof.Rows L2 Tl
def s_law_follows_1 : MS := (mSetO 2 (mX (mOp gLstD mNil)))
def s_law_follows_2b_1 : MS := (mSet 4 (mX (mBin gIx (mBin gIx (mVar 0) (mVar 3)) (mVar 1))))
def s_law_follows_2b_2 : MS := (mIfS (mXB (mAndB (mBinB (gp pNe) (mVar 3) (mVar 1)) (mBinB (gp pNe) (mVar 4) (mVar 1)))) (mSeq (mDo (mX (mMut 2 gAppend (mCons (mOp gTupD (mCons (mOp gTupD (mCons (mVar 3) (mCons (mVar 4) mNil))) (mCons (mOp gTupD (mCons (mVar 4) (mCons (mBin gIx (mBin gIx (mVar 0) (mVar 4)) (mVar 1)) mNil))) mNil))) mNil)))) mNx) mNx)
abbrev s_law_follows_2b : MS := (mSeq s_law_follows_2b_1 (mSeq s_law_follows_2b_2 mNx))
def s_law_follows_2 : MS := (mFor [3] (mXI (iRng (mCons (mOp gLen (mCons (mVar 0) mNil)) mNil))) (gtN 3) s_law_follows_2b)
def s_law_follows_3 : MS := (mRet (mX (mTk 2)))
theorem pieces_law_follows : b_law_follows = (mSeq s_law_follows_1 (mSeq s_law_follows_2 (mSeq s_law_follows_3 mNx))) := rfl
end La

namespace La
open PySem PySem.Spec PyProof.Rows L2 Tl
theorem lawFollows_ok {n g : Nat} {Tb : Nat → Nat → Nat} (hn : n ≤ 12) (hg : g < n) (hT : ∀ x, x < n → ∀ c, c < n → Tb x c < n) : m_law_follows [.leaf (tabN n Tb), .leaf (natD g)] = some (.fl ((folL (fun y => Tb y g) n g).map (eD fun y => Tb y g)), [.leaf (tabN n Tb), .leaf (natD g)]) := by
  have el := len_tabN (n := n) (Tb := Tb)
  have e8 : -8000000 ≤ (n : Int) ∧ (n : Int) ≤ 8000000 := by omega
  have f2 : ∃ y3 y4, s_law_follows_2 (foS (tabN n Tb) g none none [(2, .fl [])]) = some (.nx (foS (tabN n Tb) g y3 y4 [(2, .fl ((folL (fun y => Tb y g) n g).map (eD fun y => Tb y g)))])) := by
    generalize hF : s_law_follows_2 _ = y
    have i1 := fun x (hx : x < n) => ix_tabN (Tb := Tb) hx
    generalize tabN n Tb = d at *
    simp [s_law_follows_2, el, e8] at hF
    obtain ⟨s', rfl, y3, y4, rfl⟩ := for_rng hF (fun x s => ∃ y3 y4, s = foS d g y3 y4 [(2, .fl ((folL (fun y => Tb y g) x g).map (eD fun y => Tb y g)))]) ⟨none, none, rfl⟩ (by
      rintro x s hx ⟨y3, y4, rfl⟩
      have hF := hT x hx g hg
      have i1x := i1 x hx
      have i2x := ix_trow (n := n) (x := x) (Tb := Tb) hg
      have i1y := i1 (Tb x g) hF
      have i2y := ix_trow (n := n) (x := Tb x g) (Tb := Tb) hg
      refine ⟨_, rfl, foS d g (some (natD x)) (some (natD (Tb x g))) [(2, .fl ((folL (fun y => Tb y g) (x + 1) g).map (eD fun y => Tb y g)))], .inl ?_, _, _, rfl⟩
      have es : folL (fun y => Tb y g) (x + 1) g = folL (fun y => Tb y g) x g ++ if okF (fun y => Tb y g) g x = true then [x] else [] := by
        unfold folL
        rw [List.range_succ, List.filter_append]
        by_cases q : okF (fun y => Tb y g) g x = true <;> simp [q]
      have el : (folL (fun y => Tb y g) x g).length ≤ x := by
        have := List.length_filter_le (okF (fun y => Tb y g) g) (List.range x)
        rw [List.length_range] at this
        exact this
      rw [es]
      generalize folL (fun y => Tb y g) x g = R at *
      have f1 : s_law_follows_2b_1 (foS d g (some (natD x)) y4 [(2, .fl (R.map (eD fun y => Tb y g)))]) = some (.nx (foS d g (some (natD x)) (some (natD (Tb x g))) [(2, .fl (R.map (eD fun y => Tb y g)))])) := by
        generalize R.map (eD fun y => Tb y g) = RD
        generalize trow n Tb x = rx at *
        simp [s_law_follows_2b_1, i1x, i2x]
      have f3 : s_law_follows_2b_2 (foS d g (some (natD x)) (some (natD (Tb x g))) [(2, .fl (R.map (eD fun y => Tb y g)))]) = some (.nx (foS d g (some (natD x)) (some (natD (Tb x g))) [(2, .fl ((R ++ if okF (fun y => Tb y g) g x = true then [x] else []).map (eD fun y => Tb y g)))])) := by
        have ee : eD (fun y => Tb y g) x = .tuple [.tuple [natD x, natD (Tb x g)], .tuple [natD (Tb x g), natD (Tb (Tb x g) g)]] := rfl
        rw [List.map_append]
        have er : (R.map (eD fun y => Tb y g)).length < 16000000 := by rw [List.length_map]; omega
        generalize R.map (eD fun y => Tb y g) = RD at *
        have ek : okF (fun y => Tb y g) g x = (decide (Tb x g ≠ g) && decide (x ≠ g)) := rfl
        rw [ek]
        clear ek i1x i2x i1
        generalize trow n Tb (Tb x g) = ry at *
        generalize Tb (Tb x g) g = w at *
        generalize Tb x g = v at *
        by_cases q1 : v = g
        · have e1 := eq_true (show ((v : Nat) : Int) = g by omega)
          by_cases q2 : x = g
          · have e2 := eq_true (show ((x : Nat) : Int) = g by omega)
            simp [s_law_follows_2b_2, e1, e2, q1, q2]
          · have e2 := eq_false (show ¬ ((x : Nat) : Int) = g by omega)
            simp [s_law_follows_2b_2, e1, e2, q1, q2]
        · have e1 := eq_false (show ¬ ((v : Nat) : Int) = g by omega)
          by_cases q2 : x = g
          · have e2 := eq_true (show ((x : Nat) : Int) = g by omega)
            simp [s_law_follows_2b_2, e1, e2, q1, q2]
          · have e2 := eq_false (show ¬ ((x : Nat) : Int) = g by omega)
            simp [s_law_follows_2b_2, e1, e2, q1, q2, i1y, i2y, ee, er]
      show s_law_follows_2b _ = _
      unfold s_law_follows_2b
      show mSeq s_law_follows_2b_1 _ (foS d g (some (natD x)) y4 [(2, .fl (R.map (eD fun y => Tb y g)))]) = _
      rw [t_nx f1, t_nx f3]
      rfl)
    exact ⟨y3, y4, rfl⟩
  obtain ⟨y3, y4, f2⟩ := f2
  generalize (folL (fun y => Tb y g) n g).map (eD fun y => Tb y g) = RD at *
  generalize tabN n Tb = d at *
  simp [m_law_follows, pieces_law_follows, s_law_follows_1, f2, s_law_follows_3]
end La

namespace La
open PySem PySem.Spec PyProof.Rows L2 Tl
theorem rg_turn {E : List Pr2} {P : D} {es : List (NK × D)} {FE : List St2} {x2 x3 x4 x7 : Option D} {τ : Tau} {f : St2} (hE : E.length ≤ 200) (af : Af E es FE) (hf : f ∈ FE) (hτ : τ = [] ∨ ∃ a b, τ = [(5, a), (6, b)]) :
    ∃ (o : Out) (y7 : Option D) (a b : T), s_law_rings_3b (rgS P (some (.dict ((.none, .bool true) :: ndD es))) x2 x3 (some (sD f)) x7 τ) = some o ∧ (Rp E f f → ∃ s', o = .rt (.leaf (.bool true)) s') ∧ (¬ Rp E f f → o = .nx (rgS P (some (.dict ((.none, .bool true) :: ndD es))) x2 x3 (some (sD f)) y7 [(5, a), (6, b)])) := by
  have hv := af.val f
  rw [if_pos ((af.mem f).mp hf)] at hv
  have hk := keyN_sD f
  have hs := sk_free f
  obtain ⟨y7, M, g3, d⟩ := rg_walk (P := P) (x2 := x2) (x3 := x3) (x7 := x7) (f := f) hE af
  have ls : ((succL E f).map sD).length ≤ 16000000 := by
    rw [List.length_map]
    have := succ_len E f
    omega
  obtain ⟨B, g1⟩ : ∃ B : Tau, s_law_rings_3b_1 (rgS P (some (.dict ((.none, .bool true) :: ndD es))) x2 x3 (some (sD f)) x7 τ) = some (.nx (rgS P (some (.dict ((.none, .bool true) :: ndD es))) x2 x3 (some (sD f)) x7 ((5, .dn []) :: B))) ∧ (B = [] ∨ ∃ b, B = [(6, b)]) := by
    rcases hτ with rfl | ⟨a, b, rfl⟩
    · exact ⟨[], by simp [s_law_rings_3b_1], .inl rfl⟩
    · exact ⟨[(6, b)], by simp [s_law_rings_3b_1], .inr ⟨b, rfl⟩⟩
  obtain ⟨g1, hB⟩ := g1
  have g2 : s_law_rings_3b_2 (rgS P (some (.dict ((.none, .bool true) :: ndD es))) x2 x3 (some (sD f)) x7 ((5, .dn []) :: B)) = some (.nx (rgS P (some (.dict ((.none, .bool true) :: ndD es))) x2 x3 (some (sD f)) x7 [(5, .dn []), (6, .fl ((succL E f).map sD))])) := by
    generalize (succL E f).map sD = Z at *
    generalize sD f = S0 at *
    rcases hB with rfl | ⟨b, rfl⟩ <;> simp [s_law_rings_3b_2, hk, hs, hv, ls]
  have hm := mt_val M f
  have dd := dfs_end d f
  by_cases q : Rp E f f
  · rw [decide_eq_true (dd.mpr q)] at hm
    have g4 : s_law_rings_3b_4 (rgS P (some (.dict ((.none, .bool true) :: ndD es))) x2 x3 (some (sD f)) y7 [(5, .dn (mtE M)), (6, .fl [])]) = some (.rt (.leaf (.bool true)) (rgS P (some (.dict ((.none, .bool true) :: ndD es))) x2 x3 (some (sD f)) y7 [(5, .dn (mtE M)), (6, .fl [])])) := by
      generalize mtE M = ME at *
      generalize sD f = S0 at *
      simp [s_law_rings_3b_4, hk, hs, hm]
    have run : s_law_rings_3b (rgS P (some (.dict ((.none, .bool true) :: ndD es))) x2 x3 (some (sD f)) x7 τ) = some (.rt (.leaf (.bool true)) (rgS P (some (.dict ((.none, .bool true) :: ndD es))) x2 x3 (some (sD f)) y7 [(5, .dn (mtE M)), (6, .fl [])])) := by
      unfold s_law_rings_3b
      rw [t_nx g1, t_nx g2, t_nx g3, t_rt g4]
    exact ⟨_, y7, .hole, .hole, run, fun _ => ⟨_, rfl⟩, fun z => absurd q z⟩
  · rw [decide_eq_false (fun z => q (dd.mp z))] at hm
    have g4 : s_law_rings_3b_4 (rgS P (some (.dict ((.none, .bool true) :: ndD es))) x2 x3 (some (sD f)) y7 [(5, .dn (mtE M)), (6, .fl [])]) = some (.nx (rgS P (some (.dict ((.none, .bool true) :: ndD es))) x2 x3 (some (sD f)) y7 [(5, .dn (mtE M)), (6, .fl [])])) := by
      generalize mtE M = ME at *
      generalize sD f = S0 at *
      simp [s_law_rings_3b_4, hk, hs, hm]
    refine ⟨_, y7, .dn (mtE M), .fl [], ?_, fun z => absurd z q, fun _ => rfl⟩
    unfold s_law_rings_3b
    rw [t_nx g1, t_nx g2, t_nx g3, t_nx g4]
    rfl
open Classical in
theorem lawRings_ok {E : List Pr2} (hE : E.length ≤ 200) : m_law_rings [.leaf (.list (E.map pD2))] = some (.leaf (.bool (riB E)), [.leaf (.list (E.map pD2))]) := by
  obtain ⟨es, FE, x2, x3, f2, af⟩ := rg_build (P := .list (E.map pD2)) rfl hE
  have f1 : s_law_rings_1 (rgS (.list (E.map pD2)) none none none none none []) = some (.nx (rgS (.list (E.map pD2)) none none none none none [(1, .dn [])])) := by
    generalize PyData.list (E.map pD2) = P at *
    simp [s_law_rings_1]
  have f3 : ∃ (o : Out), s_law_rings_3 (rgS (.list (E.map pD2)) none x2 x3 none none [(1, .dn es)]) = some o ∧ ((riB E = true ∧ ∃ s', o = .rt (.leaf (.bool true)) s') ∨ (riB E = false ∧ ∃ s', o = .nx s')) := by
    generalize PyData.list (E.map pD2) = P at *
    generalize hF : s_law_rings_3 _ = y
    have ek : es.map ((fun x : D × D => x.1) ∘ fun p : NK × D => (p.1.data, p.2)) = FE.map sD := by
      have := congrArg (List.map NestedKey.data) af.keys
      rw [List.map_map, List.map_map] at this
      exact this
    have el : es.length ≤ 16000000 := by
      have h1 := congrArg List.length af.keys
      rw [List.length_map, List.length_map] at h1
      have := af.len
      omega
    have hF' : forL [4] (gtN 4) s_law_rings_3b (FE.map sD) (rgS P (some (.dict ((.none, .bool true) :: ndD es))) x2 x3 none none []) = y := by
      rw [← hF]
      simp [s_law_rings_3, el, ek]
    have iff : riB E = true ↔ ∃ f ∈ FE, Rp E f f := by
      unfold riB
      rw [decide_eq_true_iff, ri_iff]
      constructor
      · rintro ⟨a, r⟩
        obtain ⟨c, m, _⟩ := r.first
        exact ⟨a, (af.mem a).mpr (List.mem_map.mpr ⟨_, m, rfl⟩), r⟩
      · rintro ⟨a, _, r⟩
        exact ⟨a, r⟩
    rcases forA_typ hF' (fun f => !decide (Rp E f f)) (fun s => ∃ (x4 x7 : Option D) (τ : Tau), s = rgS P (some (.dict ((.none, .bool true) :: ndD es))) x2 x3 x4 x7 τ ∧ (τ = [] ∨ ∃ a b, τ = [(5, a), (6, b)])) (.leaf (.bool true)) ⟨none, none, [], rfl, .inl rfl⟩ (by
      rintro f hf s ⟨x4, x7, τ, rfl, hτ⟩
      obtain ⟨o, y7, a, b, e, h1, h2⟩ := rg_turn (P := P) (x2 := x2) (x3 := x3) (x4 := x4) (x7 := x7) hE af hf hτ
      have et : tout [4] τ = τ := by rcases hτ with rfl | ⟨a, b, rfl⟩ <;> rfl
      refine ⟨_, rfl, fun q => ?_, fun q => ?_⟩
      · have q' : ¬ Rp E f f := by simpa using q
        rw [h2 q'] at e
        refine ⟨_, ?_, some (sD f), y7, [(5, a), (6, b)], rfl, .inr ⟨a, b, rfl⟩⟩
        show s_law_rings_3b (⟨_, tout [4] τ⟩ : SS) = _
        rw [et]
        exact e
      · have q' : Rp E f f := by simpa using q
        obtain ⟨s', rfl⟩ := h1 q'
        refine ⟨s', ?_⟩
        show s_law_rings_3b (⟨_, tout [4] τ⟩ : SS) = _
        rw [et]
        exact e) with ⟨h, s', rfl, _⟩ | ⟨h, s', rfl⟩
    · refine ⟨_, rfl, .inr ⟨?_, _, rfl⟩⟩
      rw [Bool.eq_false_iff]
      intro z
      obtain ⟨f, m, r⟩ := iff.mp z
      have := List.all_eq_true.mp h f m
      simp [r] at this
    · refine ⟨_, rfl, .inl ⟨?_, _, rfl⟩⟩
      rw [iff]
      rw [List.all_eq_false] at h
      obtain ⟨f, m, r⟩ := h
      exact ⟨f, m, by simpa using r⟩
  obtain ⟨o, f3, h⟩ := f3
  generalize PyData.list (E.map pD2) = P at *
  rcases h with ⟨h, s', rfl⟩ | ⟨h, s', rfl⟩
  · simp [m_law_rings, pieces_law_rings, f1, f2, f3, h]
  · obtain ⟨fz, ow⟩ := s'
    simp [m_law_rings, pieces_law_rings, f1, f2, f3, h, s_law_rings_4]
end La

namespace La
open PySem PySem.Spec PyProof.Rows L2 Tl
end La

namespace La
open PySem PySem.Spec PyProof.Rows L2 Tl
structure Tr where
  b : Nat
  g : Nat
  p : Int
def trD (t : Tr) : D := .tuple [.int t.b, .int t.g, .int t.p]
structure St where
  left : Int
  held : List (Nat × Int)
  come : Int
def pcD (p : Nat × Int) : D := .tuple [.int p.1, .int p.2]
def heldD (Q : List (Nat × Int)) : D := .tuple (Q.map pcD)
def stD (s : St) : D := .tuple [.int s.left, heldD s.held, .int s.come]
@[simp] theorem ix_tr0 (t : Tr) : gIx [.val (.leaf (trD t)), .val (.leaf (.int 0))] = some (rInt t.b) := by simp [trD]
@[simp] theorem ix_tr1 (t : Tr) : gIx [.val (.leaf (trD t)), .val (.leaf (.int 1))] = some (rInt t.g) := by simp [trD]
@[simp] theorem ix_tr2 (t : Tr) : gIx [.val (.leaf (trD t)), .val (.leaf (.int 2))] = some (rInt t.p) := by simp [trD]
@[simp] theorem ix_st0 (t : St) : gIx [.val (.leaf (stD t)), .val (.leaf (.int 0))] = some (rInt t.left) := by simp [stD]
@[simp] theorem ix_st1 (t : St) : gIx [.val (.leaf (stD t)), .val (.leaf (.int 1))] = some (rd (heldD t.held)) := by simp [stD]
@[simp] theorem ix_st2 (t : St) : gIx [.val (.leaf (stD t)), .val (.leaf (.int 2))] = some (rInt t.come) := by simp [stD]
@[simp] theorem ix_pc0 (t : Nat × Int) : gIx [.val (.leaf (pcD t)), .val (.leaf (.int 0))] = some (rInt t.1) := by simp [pcD]
@[simp] theorem ix_pc1 (t : Nat × Int) : gIx [.val (.leaf (pcD t)), .val (.leaf (.int 1))] = some (rInt t.2) := by simp [pcD]
@[simp] theorem gt_tr (m1 m2 m3 : MG) (l : Tr) (fz : Fz) : gtT (gtCons m1 (gtCons m2 (gtCons m3 gtNil))) (trD l) fz = gtT (gtCons m1 (gtCons m2 (gtCons m3 gtNil))) (.tuple [.int l.b, .int l.g, .int l.p]) fz := rfl
@[simp] theorem gt_st (m1 m2 m3 : MG) (l : St) (fz : Fz) : gtT (gtCons m1 (gtCons m2 (gtCons m3 gtNil))) (stD l) fz = gtT (gtCons m1 (gtCons m2 (gtCons m3 gtNil))) (.tuple [.int l.left, heldD l.held, .int l.come]) fz := rfl
@[simp] theorem gt_pc (m1 m2 : MG) (l : Nat × Int) (fz : Fz) : gtT (gtCons m1 (gtCons m2 gtNil)) (pcD l) fz = gtT (gtCons m1 (gtCons m2 gtNil)) (.tuple [.int l.1, .int l.2]) fz := rfl
@[simp] theorem its_held (Q : List (Nat × Int)) : (rd (heldD Q)).its = some (false, Q.map pcD) := rfl
theorem lay_pcs : ∀ Q : List (Nat × Int), PyData.canLayAll0 (Q.map pcD) = true ∧ PyData.depthAll (Q.map pcD) ≤ 1
  | [] => ⟨rfl, by simp [PyData.depthAll]⟩
  | q :: Q => by
    obtain ⟨a, b⟩ := lay_pcs Q
    exact ⟨by simp [PyData.canLayAll0, pcD, PyData.canLay0] at a ⊢; exact a, by simp [PyData.depthAll, PyData.depth, pcD] at b ⊢; omega⟩
theorem lay_held (Q : List (Nat × Int)) : (heldD Q).canLay0 = true ∧ (heldD Q).depth ≤ 2 := by
  obtain ⟨a, b⟩ := lay_pcs Q
  exact ⟨by simpa [heldD, PyData.canLay0] using a, by simp only [heldD, PyData.depth]; omega⟩
theorem shaped_of {d : D} (a : d.canLay0 = true) (b : d.depth ≤ 60) : SeqAt.shaped d = true := by
  unfold SeqAt.shaped
  rw [a, Bool.true_and, decide_eq_true_eq]
  omega
@[simp] theorem shaped_held (Q : List (Nat × Int)) : SeqAt.shaped (heldD Q) = true := shaped_of (lay_held Q).1 (by have := (lay_held Q).2; omega)
@[simp] theorem eqv_held_nil (Q : List (Nat × Int)) : PyData.eqv (heldD Q) (.tuple []) = Q.isEmpty := by
  cases Q <;> simp [heldD]
def TrOk (h : Nat) (B : Nat → Nat → List Nat) (t : Tr) : Prop := t.b < h ∧ t.g < h ∧ B t.b t.g ≠ [] ∧ 1 ≤ t.p ∧ t.p ≤ 12
def prD (p : Nat × Nat) : D := .tuple [.int p.1, .int p.2]
@[simp] theorem gt_pr (m1 m2 : MG) (l : Nat × Nat) (fz : Fz) : gtT (gtCons m1 (gtCons m2 gtNil)) (prD l) fz = gtT (gtCons m1 (gtCons m2 gtNil)) (.tuple [.int l.1, .int l.2]) fz := rfl
@[simp] theorem eqv_natsT_nil (Q : List Nat) : PyData.eqv (natsT Q) (.tuple []) = Q.isEmpty := by
  cases Q <;> simp [natsT]
@[simp] theorem ix_wayG0 (h : Nat) (L : List Lane) (B O : Nat → Nat → List Nat) : gIx [.val (.leaf (wayG h L B O)), .val (.leaf (.int 0))] = some (rd (.list (rowsL h h B))) := by simp [wayG]
@[simp] theorem ix_wayG1 (h : Nat) (L : List Lane) (B O : Nat → Nat → List Nat) : gIx [.val (.leaf (wayG h L B O)), .val (.leaf (.int 1))] = some (rd (.list (rowsL L.length h O))) := by simp [wayG]
end La

namespace La
open PySem PySem.Spec PyProof.Rows L2 Tl
theorem for_at {α : Type} {ws : List Nat} {mt : MG} {body : MS} {e : α → D} {xs : List α} {s : SS} {x : Option Out} (h : forL ws mt body (xs.map e) s = x) (Inv : Nat → SS → Prop) (i : Inv 0 s)
    (step : ∀ k (hk : k < xs.length) s, Inv k s → ∃ fz, mt (e xs[k]) s.fz = some fz ∧ ∃ s', (body ⟨fz, tout ws s.ow⟩ = some (.nx s') ∨ body ⟨fz, tout ws s.ow⟩ = some (.ct s')) ∧ Inv (k + 1) s') : ∃ s', x = some (.nx s') ∧ Inv xs.length s' := by
  obtain ⟨s', e1, k, hk, q, hi⟩ := for_inv h (fun as s => ∃ k, k + as.length = xs.length ∧ as = xs.drop k ∧ Inv k s) ⟨0, by simp, by simp, i⟩ (by
    rintro a as s ⟨k, hk, q, hi⟩
    rw [List.length_cons] at hk
    have hkn : k < xs.length := by omega
    rw [List.drop_eq_getElem_cons hkn] at q
    injection q with q1 q2
    subst q1
    obtain ⟨fz, e1, s', e2, e3⟩ := step k hkn s hi
    exact ⟨fz, e1, s', e2, k + 1, by omega, q2, e3⟩)
  have : k = xs.length := by simpa using hk
  subst this
  exact ⟨s', e1, hi⟩
/-- the loop over enumerate -/
theorem for_enum {α : Type} {ws : List Nat} {mt : MG} {body : MS} {e : α → D} {xs : List α} {s : SS} {x : Option Out} (h : forL ws mt body (enumFrom 0 (xs.map e)) s = x) (Inv : Nat → SS → Prop) (i : Inv 0 s)
    (step : ∀ k (hk : k < xs.length) s, Inv k s → ∃ fz, mt (.tuple [.int (k : Nat), e xs[k]]) s.fz = some fz ∧ ∃ s', (body ⟨fz, tout ws s.ow⟩ = some (.nx s') ∨ body ⟨fz, tout ws s.ow⟩ = some (.ct s')) ∧ Inv (k + 1) s') : ∃ s', x = some (.nx s') ∧ Inv xs.length s' := by
  rw [enumFrom_map] at h
  have := for_at h Inv i (by
    intro k hk s hi
    have hk' : k < xs.length := by simpa using hk
    obtain ⟨fz, e1, e2⟩ := step k hk' s hi
    exact ⟨fz, by simpa using e1, e2⟩)
  simpa using this
theorem atI_neg1 {α : Type} (xs : List α) : L2.atI xs (-1) = xs.getLast? := by
  cases xs with
  | nil => rfl
  | cons x xs =>
    unfold L2.atI ixN
    rw [if_neg (by decide), if_pos (by simp; omega)]
    rw [List.getLast?_eq_getElem?]
    show (x :: xs)[((-1 : Int) + ((x :: xs).length : Nat)).toNat]? = _
    congr 1
    simp
    omega
@[simp] def lastK (p : Nat × Int) : Option R := some (rd (pcD p))
@[simp] theorem ix_held_last (Q : List (Nat × Int)) : gIx [.val (.leaf (heldD Q)), .val (.leaf (.int (-1)))] = bd Q.getLast? lastK := by
  simp only [heldD, ix_t, atI_neg1, List.getLast?_map]
  cases Q.getLast? <;> rfl
def roomAt (L : List Lane) (l : Nat) : Int := match L[l]? with
  | some x => x.r
  | none => 0
def endAt (L : List Lane) (l : Nat) : Nat := match L[l]? with
  | some x => x.e
  | none => 0
def goOn (L : List Lane) : Int → List (Nat × Int) → List Int
  | _, [] => []
  | b, (l, c) :: r => (if 0 < b ∧ c < roomAt L l then [(l : Int)] else []) ++ goOn L c r
def comes1 (L : List Lane) (t : Tr) (s : St) : List Int := match s.held.getLast? with
  | some (a, c) => if endAt L a = t.g ∧ 0 < c then [-1] else []
  | none => []
def mayTake (B O : Nat → Nat → List Nat) (t : Tr) (s : St) : List Nat := match s.held.getLast? with
  | some (a, _) => O a t.g
  | none => B t.b t.g
def lawTake (B O : Nat → Nat → List Nat) (t : Tr) (s : St) : List Nat := if s.come = 0 ∧ (s.held ≠ [] ∨ s.left = t.p) then mayTake B O t s else []
def takenL (S : List St) : List Nat := S.flatMap fun s => s.held.map (·.1)
def lawOne (L : List Lane) (B O : Nat → Nat → List Nat) (tk : List Nat) (t : Tr) (s : St) : List Int := comes1 L t s ++ goOn L s.left s.held ++ ((lawTake B O t s).filter fun l => !decide (l ∈ tk)).map fun l : Nat => (l : Int)
def allOf (f : Tr → St → List Int) (Ts : List Tr) (S : List St) : List (Int × Int) := ((Ts.zip S).zipIdx).flatMap fun q => (f q.1.1 q.1.2).map fun x => ((q.2 : Int), x)
def lawSteps (L : List Lane) (B O : Nat → Nat → List Nat) (Ts : List Tr) (S : List St) : List (Int × Int) := sortBy ltQ (allOf (lawOne L B O (takenL S)) Ts S)
theorem goOn_cons (L : List Lane) (b : Int) (l : Nat) (c : Int) (r : List (Nat × Int)) : goOn L b ((l, c) :: r) = (if 0 < b ∧ c < roomAt L l then [(l : Int)] else []) ++ goOn L c r := rfl
theorem mayTake_mem {B O : Nat → Nat → List Nat} {t : Tr} {s : St} : mayTake B O t s = B t.b t.g ∨ ∃ a, (∃ c, (a, c) ∈ s.held) ∧ mayTake B O t s = O a t.g := by
  unfold mayTake
  cases e : s.held.getLast? with
  | none => exact .inl rfl
  | some p =>
    obtain ⟨a, c⟩ := p
    exact .inr ⟨a, ⟨c, List.mem_of_getLast? e⟩, rfl⟩
/-- no house, no lane lets more lanes be taken than there are -/
def WayZ (h N : Nat) (B O : Nat → Nat → List Nat) : Prop := (∀ x, x < h → ∀ g, g < h → (B x g).length ≤ N) ∧ ∀ j, j < N → ∀ g, g < h → (O j g).length ≤ N
end La

namespace La
open PySem PySem.Spec PyProof.Rows L2 Tl
def edgF (F : Nat → Nat) (x : Nat) : Pr2 := ((x, F x), (F x, F (F x)))
/-- the pairs of a goal's streets that follow -/
def folE (n : Nat) (Tb : Nat → Nat → Nat) (g : Nat) : List Pr2 := (folL (fun y => Tb y g) n g).map (edgF fun y => Tb y g)
theorem folE_eD (n : Nat) (Tb : Nat → Nat → Nat) (g : Nat) : (folL (fun y => Tb y g) n g).map (eD fun y => Tb y g) = (folE n Tb g).map pD2 := by
  unfold folE
  rw [List.map_map]
  rfl
theorem folE_len (n : Nat) (Tb : Nat → Nat → Nat) (g : Nat) : (folE n Tb g).length ≤ n := by
  unfold folE folL
  rw [List.length_map]
  have := List.length_filter_le (okF (fun y => Tb y g) g) (List.range n)
  rw [List.length_range] at this
  exact this
/-- .. of a level's first k goals -/
def lvK (n : Nat) (Tb : Nat → Nat → Nat) (S : List Nat) (l k : Nat) : List Pr2 := ((List.range k).filter fun g => decide (S[g]? = some l)).flatMap (folE n Tb)
def lvE (n : Nat) (Tb : Nat → Nat → Nat) (S : List Nat) (l : Nat) : List Pr2 := lvK n Tb S l S.length
theorem lvK_succ {n : Nat} {Tb : Nat → Nat → Nat} {S : List Nat} {l k : Nat} (hk : k < S.length) : lvK n Tb S l (k + 1) = lvK n Tb S l k ++ if S[k] = l then folE n Tb k else [] := by
  unfold lvK
  rw [List.range_succ, List.filter_append, List.flatMap_append]
  by_cases q : S[k] = l
  · simp [q, hk]
  · simp [q, hk]
theorem lvK_len {n : Nat} {Tb : Nat → Nat → Nat} {S : List Nat} {l : Nat} : ∀ k, k ≤ S.length → (lvK n Tb S l k).length ≤ k * n
  | 0, _ => Nat.zero_le _
  | k + 1, h => by
    rw [lvK_succ (by omega), List.length_append, Nat.succ_mul]
    have := lvK_len (n := n) (Tb := Tb) (S := S) (l := l) k (by omega)
    have := folE_len n Tb k
    split <;> simp <;> omega
theorem lvE_len' {n : Nat} {Tb : Nat → Nat → Nat} {S : List Nat} {l : Nat} (hn : n ≤ 12) (hS : S.length ≤ n) : (lvE n Tb S l).length ≤ 200 := by
  have h1 := lvK_len (n := n) (Tb := Tb) (S := S) (l := l) S.length (Nat.le_refl _)
  have h2 : S.length * n ≤ 12 * 12 := Nat.mul_le_mul (by omega) hn
  unfold lvE
  omega
theorem lvE_len {n : Nat} {Tb : Nat → Nat → Nat} {S : List Nat} {l : Nat} (hn : n ≤ 12) (hS : S.length = n) : (lvE n Tb S l).length ≤ 200 := lvE_len' hn (Nat.le_of_eq hS)
abbrev lpS (d : D) (S : List Nat) (l : Nat) (x3 x4 x5 : Option D) (τ : Tau) : SS := ⟨[some d, some (.list (S.map natD)), some (natD l), x3, x4, x5], τ⟩
theorem levelPairs_ok' {n l : Nat} {Tb : Nat → Nat → Nat} {S : List Nat} (hn : n ≤ 12) (hT : ∀ x, x < n → ∀ c, c < n → Tb x c < n) (hS : S.length ≤ n) :
    m_level_pairs [.leaf (tabN n Tb), .leaf (.list (S.map natD)), .leaf (natD l)] = some (.fl ((lvE n Tb S l).map pD2), [.leaf (tabN n Tb), .leaf (.list (S.map natD)), .leaf (natD l)]) := by
  have hf := fun g (hg : g < n) => follows_ok (Tb := Tb) hn hg hT
  have f2 : ∃ y4 y5, s_level_pairs_2 (lpS (tabN n Tb) S l none none none [(3, .fl [])]) = some (.nx (lpS (tabN n Tb) S l none y4 y5 [(3, .fl ((lvE n Tb S l).map pD2))])) := by
    generalize hF : s_level_pairs_2 _ = y
    generalize tabN n Tb = d at *
    simp [s_level_pairs_2] at hF
    obtain ⟨s', rfl, y4, y5, rfl⟩ := for_enum hF (fun k s => ∃ y4 y5, s = lpS d S l none y4 y5 [(3, .fl ((lvK n Tb S l k).map pD2))]) ⟨none, none, rfl⟩ (by
      rintro k hk s ⟨y4, y5, rfl⟩
      have e1 := hf k (by omega)
      rw [folE_eD] at e1
      have el := lvK_len (n := n) (Tb := Tb) (S := S) (l := l) k (by omega)
      have el2 : k * n ≤ 12 * 12 := Nat.mul_le_mul (by omega) hn
      have el3 := folE_len n Tb k
      have ll : ((lvK n Tb S l k).map pD2).length + ((folE n Tb k).map pD2).length ≤ 16000000 := by
        rw [List.length_map, List.length_map]
        omega
      refine ⟨_, rfl, lpS d S l none (some (natD k)) (some (natD S[k])) [(3, .fl ((lvK n Tb S l (k + 1)).map pD2))], .inl ?_, _, _, rfl⟩
      rw [lvK_succ hk, List.map_append]
      generalize (lvK n Tb S l k).map pD2 = A at *
      generalize hE : folE n Tb k = E at *
      unfold lpS at *
      generalize hL : S.map natD = SD at *
      by_cases q : S[k] = l
      · have eq := eq_true (show ((S[k] : Nat) : Int) = l by omega)
        rw [if_pos q]
        generalize E.map pD2 = ED at *
        simp [s_level_pairs_2b, s_level_pairs_2b_1, eq, e1, ll]
      · have eq := eq_false (show ¬ ((S[k] : Nat) : Int) = l by omega)
        rw [if_neg q]
        simp [s_level_pairs_2b, s_level_pairs_2b_1, eq])
    exact ⟨y4, y5, rfl⟩
  obtain ⟨y4, y5, f2⟩ := f2
  unfold lpS at f2
  generalize (lvE n Tb S l).map pD2 = RD at *
  generalize tabN n Tb = d at *
  generalize S.map natD = SD at *
  simp [m_level_pairs, pieces_level_pairs, s_level_pairs_1, f2, s_level_pairs_3]
theorem levelPairs_ok {n l : Nat} {Tb : Nat → Nat → Nat} {S : List Nat} (hn : n ≤ 12) (hT : ∀ x, x < n → ∀ c, c < n → Tb x c < n) (hS : S.length = n) :
    m_level_pairs [.leaf (tabN n Tb), .leaf (.list (S.map natD)), .leaf (natD l)] = some (.fl ((lvE n Tb S l).map pD2), [.leaf (tabN n Tb), .leaf (.list (S.map natD)), .leaf (natD l)]) := levelPairs_ok' hn hT (Nat.le_of_eq hS)
theorem lawLevelRings_ok {n l : Nat} {Tb : Nat → Nat → Nat} {S : List Nat} (hn : n ≤ 12) (hT : ∀ x, x < n → ∀ c, c < n → Tb x c < n) (hS : S.length = n) :
    m_law_level_rings [.leaf (tabN n Tb), .leaf (.list (S.map natD)), .leaf (natD l)] = some (.leaf (.bool (riB (lvE n Tb S l))), [.leaf (tabN n Tb), .leaf (.list (S.map natD)), .leaf (natD l)]) := by
  have hf := fun g (hg : g < n) => lawFollows_ok (Tb := Tb) hn hg hT
  have hr := lawRings_ok (E := lvE n Tb S l) (lvE_len hn hS)
  have f2 : ∃ y4 y5, s_law_level_rings_2 (lpS (tabN n Tb) S l (some (.list [])) none none []) = some (.nx (lpS (tabN n Tb) S l (some (.list ((lvE n Tb S l).map pD2))) y4 y5 [])) := by
    generalize hF : s_law_level_rings_2 _ = y
    generalize tabN n Tb = d at *
    simp [s_law_level_rings_2] at hF
    obtain ⟨s', rfl, y4, y5, rfl⟩ := for_enum hF (fun k s => ∃ y4 y5, s = lpS d S l (some (.list ((lvK n Tb S l k).map pD2))) y4 y5 []) ⟨none, none, rfl⟩ (by
      rintro k hk s ⟨y4, y5, rfl⟩
      have e1 := hf k (by omega)
      rw [folE_eD] at e1
      have el := lvK_len (n := n) (Tb := Tb) (S := S) (l := l) k (by omega)
      have el2 : k * n ≤ 12 * 12 := Nat.mul_le_mul (by omega) hn
      have el3 := folE_len n Tb k
      have ll : ((lvK n Tb S l k).map pD2).length + ((folE n Tb k).map pD2).length ≤ 16000000 := by
        rw [List.length_map, List.length_map]
        omega
      refine ⟨_, rfl, lpS d S l (some (.list ((lvK n Tb S l (k + 1)).map pD2))) (some (natD k)) (some (natD S[k])) [], .inl ?_, _, _, rfl⟩
      rw [lvK_succ hk, List.map_append]
      generalize (lvK n Tb S l k).map pD2 = A at *
      generalize hE : folE n Tb k = E at *
      unfold lpS at *
      generalize hL : S.map natD = SD at *
      by_cases q : S[k] = l
      · have eq := eq_true (show ((S[k] : Nat) : Int) = l by omega)
        rw [if_pos q]
        generalize E.map pD2 = ED at *
        simp [s_law_level_rings_2b, s_law_level_rings_2b_1, eq, e1, ll]
      · have eq := eq_false (show ¬ ((S[k] : Nat) : Int) = l by omega)
        rw [if_neg q]
        simp [s_law_level_rings_2b, s_law_level_rings_2b_1, eq])
    exact ⟨y4, y5, rfl⟩
  obtain ⟨y4, y5, f2⟩ := f2
  unfold lpS at f2
  generalize (lvE n Tb S l).map pD2 = RD at *
  generalize tabN n Tb = d at *
  generalize S.map natD = SD at *
  simp [m_law_level_rings, pieces_law_level_rings, s_law_level_rings_1, f2, hr, s_law_level_rings_3]
end La

namespace La
open PySem PySem.Spec PyProof.Rows L2 Tl
def bump (Q : List (Nat × Int)) (i : Nat) (d : Int) : List (Nat × Int) := match Q[i]? with
  | some p => Q.set i (p.1, p.2 + d)
  | none => Q
def thin (left : Int) (Q : List (Nat × Int)) : List (Nat × Int) := if left = 0 then Q.dropWhile fun p => decide (p.2 = 0) else Q
def withLane (Q : List (Nat × Int)) (l : Nat) : List (Nat × Int) := if l ∈ Q.map (·.1) then Q else Q ++ [(l, 0)]
def placeOf (Q : List (Nat × Int)) (l : Nat) : Nat := Q.findIdx fun p => decide (p.1 = l)
def wentOn (left : Int) (Q : List (Nat × Int)) (l : Nat) : Int × List (Nat × Int) :=
  if placeOf (withLane Q l) l = 0 then (left - 1, bump (withLane Q l) 0 1) else (left, bump (bump (withLane Q l) (placeOf (withLane Q l) l) 1) (placeOf (withLane Q l) l - 1) (-1))
def doneSt (s : St) (x : Int) : St := if x = -1 then ⟨s.left, thin s.left (bump s.held (s.held.length - 1) (-1)), s.come + 1⟩ else ⟨(wentOn s.left s.held x.toNat).1, thin (wentOn s.left s.held x.toNat).1 (wentOn s.left s.held x.toNat).2, s.come⟩
theorem bump_fst (Q : List (Nat × Int)) (i : Nat) (d : Int) : (bump Q i d).map (·.1) = Q.map (·.1) := by
  unfold bump
  cases h : Q[i]? with
  | none => rfl
  | some p =>
    show (Q.set i _).map _ = _
    rw [List.map_set]
    obtain ⟨hi, e⟩ := List.getElem?_eq_some_iff.mp h
    refine List.ext_getElem (by simp) fun j h1 h2 => ?_
    rw [List.getElem_set]
    split
    · next q =>
      subst q
      simp [e]
    · rfl
theorem bump_ne {Q : List (Nat × Int)} {i j : Nat} {d : Int} (n : i ≠ j) : (bump Q i d)[j]? = Q[j]? := by
  unfold bump
  cases h : Q[i]? with
  | none => rfl
  | some p =>
    show (Q.set i _)[j]? = _
    rw [List.getElem?_set_ne n]
theorem withLane_ln {N l : Nat} {Q : List (Nat × Int)} (h : ∀ p ∈ Q, p.1 < N) (hl : l < N) : ∀ p ∈ withLane Q l, p.1 < N := by
  intro p m
  unfold withLane at m
  split at m
  · exact h p m
  · rcases List.mem_append.mp m with m | m
    · exact h p m
    · rw [List.mem_singleton.mp m]
      exact hl
theorem ln_of_fst {N : Nat} {A B : List (Nat × Int)} (e : A.map (·.1) = B.map (·.1)) (h : ∀ p ∈ B, p.1 < N) : ∀ p ∈ A, p.1 < N := by
  intro p m
  have : p.1 ∈ A.map (·.1) := List.mem_map_of_mem m
  rw [e] at this
  obtain ⟨q, mq, eq⟩ := List.mem_map.mp this
  rw [← eq]
  exact h q mq
theorem thin_sub (a : Int) (Q : List (Nat × Int)) : (thin a Q).Sublist Q := by
  unfold thin
  split
  · exact List.dropWhile_sublist _
  · exact List.Sublist.refl _
theorem fst_withLane {C : List (Nat × Int)} {P : List Nat} {l : Nat} (hP : C.map (·.1) = P) : (withLane C l).map (·.1) = if l ∈ P then P else P ++ [l] := by
  unfold withLane
  rw [hP]
  split
  · exact hP
  · rw [List.map_append, hP]
    rfl
end La

namespace La
open PySem PySem.Spec PyProof.Rows L2 Tl
/-- lanes told are lanes of the net -/
def WayIn (h N : Nat) (B O : Nat → Nat → List Nat) : Prop := (∀ x, x < h → ∀ g, g < h → ∀ l ∈ B x g, l < N) ∧ ∀ j, j < N → ∀ g, g < h → ∀ l ∈ O j g, l < N
structure StG (N : Nat) (t : Tr) (s : St) : Prop where
  ln : ∀ p ∈ s.held, p.1 < N
  nd : (s.held.map (·.1)).Nodup
  c0 : 0 ≤ s.come
  lp : s.left ≤ t.p
theorem nodup_len {N : Nat} : ∀ {Q : List Nat}, Q.Nodup → (∀ x ∈ Q, x < N) → Q.length ≤ N := by
  induction N with
  | zero =>
    intro Q _ h
    cases Q with
    | nil => exact Nat.le_refl _
    | cons x Q => exact absurd (h x List.mem_cons_self) (Nat.not_lt_zero _)
  | succ N ih =>
    intro Q nd h
    have h1 := ih (Q := Q.erase N) (nd.erase N) fun x m => by
      have q1 := h x (List.mem_of_mem_erase m)
      have q2 : x ≠ N := fun e => by
        subst e
        exact (List.Nodup.mem_erase_iff nd).mp m |>.1 rfl
      omega
    have h2 : Q.length ≤ (Q.erase N).length + 1 := by
      rw [List.length_erase]
      split <;> omega
    omega
theorem StG.len {N : Nat} {t : Tr} {s : St} (g : StG N t s) : s.held.length ≤ N := by
  have := nodup_len g.nd fun x m => by
    obtain ⟨p, mp, rfl⟩ := List.mem_map.mp m
    exact g.ln p mp
  rwa [List.length_map] at this
theorem thin_nd {a : Int} {Q : List (Nat × Int)} (h : (Q.map (·.1)).Nodup) : ((thin a Q).map (·.1)).Nodup := ((thin_sub a Q).map _).nodup h
theorem withLane_nd {Q : List (Nat × Int)} {l : Nat} (h : (Q.map (·.1)).Nodup) : ((withLane Q l).map (·.1)).Nodup := by
  rw [fst_withLane rfl]
  split
  · exact h
  · next m =>
    refine List.nodup_append.mpr ⟨h, by simp, fun a ma b mb e => ?_⟩
    rw [List.mem_singleton.mp mb] at e
    exact m (e ▸ ma)
theorem wentOn_fst (left : Int) (Q : List (Nat × Int)) (l : Nat) : (wentOn left Q l).2.map (·.1) = (withLane Q l).map (·.1) ∧ (wentOn left Q l).1 ≤ left := by
  unfold wentOn
  split
  · exact ⟨bump_fst _ _ _, by show left - 1 ≤ left; omega⟩
  · exact ⟨by show List.map _ (bump _ _ _) = _; rw [bump_fst, bump_fst], by show left ≤ left; omega⟩
theorem StG.done {N : Nat} {t : Tr} {s : St} {x : Int} (g : StG N t s) (hx : x = -1 ∨ ∃ l : Nat, x = l ∧ l < N) : StG N t (doneSt s x) := by
  by_cases q : x = -1
  · subst q
    rw [doneSt, if_pos rfl]
    refine ⟨fun p m => ?_, thin_nd (by rw [bump_fst]; exact g.nd), ?_, g.lp⟩
    · exact ln_of_fst (bump_fst _ _ _) g.ln p ((thin_sub _ _).subset m)
    · show 0 ≤ s.come + 1
      have := g.c0
      omega
  · obtain ⟨l, rfl, hl⟩ := hx.resolve_left q
    obtain ⟨e1, e2⟩ := wentOn_fst s.left s.held l
    rw [doneSt, if_neg q, Int.toNat_natCast]
    refine ⟨fun p m => ?_, thin_nd (by rw [e1]; exact withLane_nd g.nd), g.c0, Int.le_trans e2 g.lp⟩
    exact ln_of_fst e1 (withLane_ln g.ln hl) p ((thin_sub _ _).subset m)
/-- stands such as weavings come to -/
structure Good (h : Nat) (L : List Lane) (Ts : List Tr) (S : List St) : Prop where
  len : S.length = Ts.length
  ok : ∀ (n : Nat) (t : Tr) (s : St), Ts[n]? = some t → S[n]? = some s → StG L.length t s
structure Led (h : Nat) (L : List Lane) (B O : Nat → Nat → List Nat) (Ts : List Tr) : Prop where
  ln : L.length ≤ 100
  wz : WayZ h L.length B O
  wi : WayIn h L.length B O
  few : Ts.length ≤ 20
  tr : ∀ t ∈ Ts, t.b < h ∧ t.g < h
theorem Good.at_ {h : Nat} {L : List Lane} {Ts : List Tr} {S : List St} (g : Good h L Ts S) {n : Nat} {s : St} (e : S[n]? = some s) : ∃ t, Ts[n]? = some t ∧ StG L.length t s := by
  have hn := (List.getElem?_eq_some_iff.mp e).1
  have hn' : n < Ts.length := by rw [← g.len]; exact hn
  exact ⟨_, List.getElem?_eq_getElem hn', g.ok n _ s (List.getElem?_eq_getElem hn') e⟩
theorem goOn_mem {L : List Lane} {x : Int} : ∀ {b : Int} {Q : List (Nat × Int)}, x ∈ goOn L b Q → ∃ p ∈ Q, x = (p.1 : Nat)
  | _, [], m => nomatch m
  | b, (l, c) :: r, m => by
    rw [goOn_cons] at m
    rcases List.mem_append.mp m with m | m
    · split at m
      · exact ⟨(l, c), List.mem_cons_self, List.mem_singleton.mp m⟩
      · cases m
    · obtain ⟨p, mp, e⟩ := goOn_mem m
      exact ⟨p, List.mem_cons_of_mem _ mp, e⟩
theorem allOf_mem {f : Tr → St → List Int} {Ts : List Tr} {S : List St} {q : Int × Int} (m : q ∈ allOf f Ts S) : ∃ (n : Nat) (t : Tr) (s : St), q.1 = n ∧ Ts[n]? = some t ∧ S[n]? = some s ∧ q.2 ∈ f t s := by
  obtain ⟨⟨⟨t, s⟩, n⟩, m1, m2⟩ := List.mem_flatMap.mp m
  obtain ⟨x, mx, e⟩ := List.mem_map.mp m2
  subst e
  have := (mem_zipIdx m1).2
  rw [Nat.sub_zero, List.getElem?_zip_eq_some] at this
  exact ⟨n, t, s, rfl, this.1, this.2, mx⟩
/-- what a step of a stand is -/
theorem steps_mem {h : Nat} {L : List Lane} {B O : Nat → Nat → List Nat} {Ts : List Tr} {S : List St} (g : Good h L Ts S) (w : Led h L B O Ts) {q : Int × Int} (m : q ∈ lawSteps L B O Ts S) : ∃ (n : Nat) (s : St), q.1 = n ∧ S[n]? = some s ∧ (q.2 = -1 ∧ s.held ≠ [] ∨ ∃ l : Nat, q.2 = l ∧ l < L.length) := by
  have m' := (sortBy_perm ltQ _).mem_iff.mp m
  obtain ⟨n, t, s, e1, e2, e3, mx⟩ := allOf_mem m'
  refine ⟨n, s, e1, e3, ?_⟩
  have G := g.ok n t s e2 e3
  obtain ⟨hb, hg⟩ := w.tr t (List.mem_of_getElem? e2)
  unfold lawOne at mx
  rcases List.mem_append.mp mx with mx | mx
  · rcases List.mem_append.mp mx with mx | mx
    · unfold comes1 at mx
      cases el : s.held.getLast? with
      | none =>
        rw [el] at mx
        cases mx
      | some p =>
        rw [el] at mx
        have mx : q.2 ∈ (if endAt L p.1 = t.g ∧ 0 < p.2 then [-1] else []) := mx
        split at mx
        · exact .inl ⟨List.mem_singleton.mp mx, fun z => by rw [z] at el; cases el⟩
        · cases mx
    · obtain ⟨p, mp, e⟩ := goOn_mem mx
      exact .inr ⟨p.1, e, G.ln p mp⟩
  · obtain ⟨l, ml, e⟩ := List.mem_map.mp mx
    refine .inr ⟨l, e.symm, ?_⟩
    have ml := (List.mem_filter.mp ml).1
    unfold lawTake at ml
    split at ml
    · rcases mayTake_mem (B := B) (O := O) (t := t) (s := s) with e | ⟨a, ⟨c, mc⟩, e⟩ <;> rw [e] at ml
      · exact w.wi.1 _ hb _ hg l ml
      · exact w.wi.2 _ (G.ln _ mc) _ hg l ml
    · cases ml
theorem Good.done {h : Nat} {L : List Lane} {B O : Nat → Nat → List Nat} {Ts : List Tr} {S : List St} (g : Good h L Ts S) {n : Nat} {s : St} {x : Int} (e : S[n]? = some s) (hx : x = -1 ∨ ∃ l : Nat, x = l ∧ l < L.length) : Good h L Ts (S.set n (doneSt s x)) := by
  refine ⟨by rw [List.length_set]; exact g.len, fun j t s' e1 e2 => ?_⟩
  by_cases q : n = j
  · subst q
    have hn := (List.getElem?_eq_some_iff.mp e).1
    rw [List.getElem?_set_self hn] at e2
    cases e2
    exact (g.ok n t s e1 e).done hx
  · rw [List.getElem?_set_ne q] at e2
    exact g.ok j t s' e1 e2
end La

namespace La
open PySem PySem.Spec PyProof.Rows L2 Tl
def sumC (Q : List (Nat × Int)) : Int := (Q.map (·.2)).sum
@[simp] theorem sumC_nil : sumC [] = 0 := rfl
@[simp] theorem sumC_cons (p : Nat × Int) (Q : List (Nat × Int)) : sumC (p :: Q) = p.2 + sumC Q := by simp [sumC]
@[simp] theorem sumC_app (A B : List (Nat × Int)) : sumC (A ++ B) = sumC A + sumC B := by simp [sumC]
theorem sumC_drop0 (Q : List (Nat × Int)) : sumC (Q.dropWhile fun p => decide (p.2 = 0)) = sumC Q := by
  induction Q with
  | nil => rfl
  | cons p Q ih =>
    rw [List.dropWhile_cons]
    split
    · next q =>
      have := of_decide_eq_true q
      rw [ih, sumC_cons]
      omega
    · rfl
theorem sumC_thin (a : Int) (Q : List (Nat × Int)) : sumC (thin a Q) = sumC Q := by
  unfold thin
  split
  · exact sumC_drop0 Q
  · rfl
theorem dropWhile_head {α : Type} (f : α → Bool) (Q : List α) : ∀ p, (Q.dropWhile f).head? = some p → f p = false := by
  induction Q with
  | nil => exact fun _ h => nomatch h
  | cons q Q ih =>
    intro p h
    rw [List.dropWhile_cons] at h
    split at h
    · exact ih p h
    · next z =>
      cases h
      simpa using z
theorem last_suffix {α : Type} {Q R : List α} (h : R <:+ Q) {p : α} (e : R.getLast? = some p) : Q.getLast? = some p := by
  obtain ⟨A, rfl⟩ := h
  rw [List.getLast?_append, e]
  rfl
theorem thin_suffix (a : Int) (Q : List (Nat × Int)) : thin a Q <:+ Q := by
  unfold thin
  split
  · exact List.dropWhile_suffix _
  · exact List.suffix_refl _
structure Pk (L : List Lane) (t : Tr) (s : St) : Prop where
  l0 : 0 ≤ s.left
  cnt : ∀ p ∈ s.held, 0 ≤ p.2 ∧ p.2 ≤ roomAt L p.1
  sum : s.left + sumC s.held + s.come = t.p
  hd : s.left = 0 → ∀ p, s.held.head? = some p → p.2 ≠ 0
  la : s.come = 0 → ∀ p, s.held.getLast? = some p → 0 < p.2
/-- where the lane stands -/
theorem place_at {A R : List (Nat × Int)} {l : Nat} {c : Int} (h : l ∉ A.map (·.1)) : placeOf (A ++ (l, c) :: R) l = A.length := by
  unfold placeOf
  rw [List.findIdx_append]
  have e : A.findIdx (fun p => decide (p.1 = l)) = A.length := by
    rw [List.findIdx_eq_length]
    intro p m
    simp only [decide_eq_false_iff_not]
    exact fun e => h (List.mem_map.mpr ⟨p, m, e⟩)
  rw [e, if_neg (Nat.lt_irrefl _), List.findIdx_cons]
  simp
theorem bump_at (A R : List (Nat × Int)) (p : Nat × Int) (d : Int) : bump (A ++ p :: R) A.length d = A ++ (p.1, p.2 + d) :: R := by
  unfold bump
  simp
theorem went_first {left : Int} {Q R : List (Nat × Int)} {l : Nat} {c : Int} (e : withLane Q l = (l, c) :: R) : wentOn left Q l = (left - 1, (l, c + 1) :: R) := by
  unfold wentOn
  have p0 := place_at (A := []) (R := R) (l := l) (c := c) (by simp)
  rw [List.nil_append] at p0
  rw [e, p0, List.length_nil, if_pos rfl]
  have := bump_at [] R (l, c) 1
  rw [List.nil_append, List.length_nil] at this
  rw [this]
  rfl
theorem went_mid {left : Int} {Q A R : List (Nat × Int)} {l l' : Nat} {c b : Int} (e : withLane Q l = (A ++ [(l', b)]) ++ (l, c) :: R) (h : l ∉ (A ++ [(l', b)]).map (·.1)) : wentOn left Q l = (left, A ++ (l', b - 1) :: (l, c + 1) :: R) := by
  unfold wentOn
  have pl := place_at (R := R) (c := c) h
  rw [e, pl, if_neg (by simp), bump_at]
  have e2 : (A ++ [(l', b)]) ++ ((l, c).1, (l, c).2 + 1) :: R = A ++ (l', b) :: (l, c + 1) :: R := by simp
  have e3 : (A ++ [(l', b)]).length - 1 = A.length := by simp
  rw [e2, e3, bump_at]
  rfl
theorem goOn_at {L : List Lane} {x : Int} : ∀ {b : Int} {Q : List (Nat × Int)}, x ∈ goOn L b Q → ∃ (A R : List (Nat × Int)) (l : Nat) (c : Int), Q = A ++ (l, c) :: R ∧ x = l ∧ c < roomAt L l ∧ ((A = [] ∧ 0 < b) ∨ ∃ A' l' b', A = A' ++ [(l', b')] ∧ 0 < b')
  | _, [], m => nomatch m
  | b, (l, c) :: r, m => by
    rw [goOn_cons] at m
    rcases List.mem_append.mp m with m | m
    · split at m
      · next z => exact ⟨[], r, l, c, rfl, List.mem_singleton.mp m, z.2, .inl ⟨rfl, z.1⟩⟩
      · cases m
    · obtain ⟨A, R, l2, c2, rfl, e, h1, h2⟩ := goOn_at m
      refine ⟨(l, c) :: A, R, l2, c2, rfl, e, h1, .inr ?_⟩
      rcases h2 with ⟨rfl, h2⟩ | ⟨A', l', b', rfl, h2⟩
      · exact ⟨[], l, c, rfl, h2⟩
      · exact ⟨(l, c) :: A', l', b', rfl, h2⟩
/-- behind a step into a lane -/
theorem Pk.went {L : List Lane} {t : Tr} {s : St} (g : Pk L t s) {A R : List (Nat × Int)} {l : Nat} {c : Int} (e : withLane s.held l = A ++ (l, c) :: R) (hl : l ∉ A.map (·.1)) (hc : 0 ≤ c ∧ c < roomAt L l) (hA : ∀ p ∈ A ++ (l, c) :: R, 0 ≤ p.2 ∧ p.2 ≤ roomAt L p.1) (hs : sumC (A ++ (l, c) :: R) = sumC s.held)
    (hp : (A = [] ∧ 0 < s.left) ∨ ∃ A' l' b', A = A' ++ [(l', b')] ∧ 0 < b') (hR : s.come = 0 → ∀ p, R.getLast? = some p → 0 < p.2) : Pk L t (doneSt s (l : Nat)) := by
  rw [doneSt, if_neg (by omega), Int.toNat_natCast]
  obtain ⟨b, Q', e1, hb, hQ, hsum, hlast⟩ : ∃ (b : Int) (Q' : List (Nat × Int)), wentOn s.left s.held l = (b, Q') ∧ 0 ≤ b ∧ (∀ p ∈ Q', 0 ≤ p.2 ∧ p.2 ≤ roomAt L p.1) ∧ b + sumC Q' = s.left + sumC s.held ∧ (s.come = 0 → ∀ p, Q'.getLast? = some p → 0 < p.2) := by
    have last : s.come = 0 → ∀ p, ((l, c + 1) :: R).getLast? = some p → 0 < p.2 := fun z p m => by
      cases R with
      | nil =>
        cases m
        show 0 < c + 1
        omega
      | cons r R =>
        rw [List.getLast?_cons_cons] at m
        exact hR z p m
    rcases hp with ⟨rfl, h0⟩ | ⟨A', l', b', rfl, h0⟩
    · refine ⟨_, _, went_first e, by omega, fun p m => ?_, ?_, last⟩
      · rcases List.mem_cons.mp m with rfl | m
        · exact ⟨by show 0 ≤ c + 1; omega, by show c + 1 ≤ roomAt L l; omega⟩
        · exact hA p (by simp [m])
      · simp at hs ⊢
        omega
    · refine ⟨_, _, went_mid e hl, g.l0, fun p m => ?_, ?_, fun z p m => ?_⟩
      · rcases List.mem_append.mp m with m | m
        · exact hA p (by simp [m])
        · rcases List.mem_cons.mp m with rfl | m
          · have := hA (l', b') (by simp)
            exact ⟨by show 0 ≤ b' - 1; omega, by show b' - 1 ≤ roomAt L l'; have := this.2; simp at this; omega⟩
          · rcases List.mem_cons.mp m with rfl | m
            · exact ⟨by show 0 ≤ c + 1; omega, by show c + 1 ≤ roomAt L l; omega⟩
            · exact hA p (by simp [m])
      · simp at hs ⊢
        omega
      · rw [List.getLast?_append, List.getLast?_cons_cons] at m
        have e3 : ∃ q, ((l, c + 1) :: R).getLast? = some q := ⟨_, List.getLast?_eq_some_getLast (by simp)⟩
        obtain ⟨q, e3⟩ := e3
        rw [e3] at m
        cases m
        exact last z _ e3
  rw [e1]
  refine ⟨hb, fun p m => hQ p ((thin_sub _ _).subset m), ?_, fun z p m => ?_, fun z p m => hlast z p (last_suffix (thin_suffix _ _) m)⟩
  · show b + sumC (thin b Q') + s.come = t.p
    rw [sumC_thin]
    have := g.sum
    omega
  · have z : b = 0 := z
    have m : (thin b Q').head? = some p := m
    rw [thin, if_pos z] at m
    have := dropWhile_head _ _ p m
    simpa using this
theorem Pk.come {L : List Lane} {t : Tr} {s : St} (g : Pk L t s) (c0 : 0 ≤ s.come) {A : List (Nat × Int)} {a : Nat} {c : Int} (e : s.held = A ++ [(a, c)]) (hc : 0 < c) : Pk L t (doneSt s (-1)) := by
  have e1 : bump s.held (s.held.length - 1) (-1) = A ++ [(a, c - 1)] := by
    rw [e]
    have := bump_at A [] (a, c) (-1)
    simpa [Int.sub_eq_add_neg] using this
  rw [doneSt, if_pos rfl, e1]
  refine ⟨g.l0, fun p m => ?_, ?_, fun z p m => ?_, fun z => ?_⟩
  · have m := (thin_sub _ _).subset m
    have ha := g.cnt (a, c) (by rw [e]; simp)
    simp only at ha
    rcases List.mem_append.mp m with m | m
    · exact g.cnt p (by rw [e]; simp [m])
    · rw [List.mem_singleton.mp m]
      exact ⟨by show 0 ≤ c - 1; omega, by show c - 1 ≤ roomAt L a; omega⟩
  · show s.left + sumC (thin s.left _) + (s.come + 1) = t.p
    rw [sumC_thin]
    have := g.sum
    rw [e] at this
    simp at this ⊢
    omega
  · have z : s.left = 0 := z
    have m : (thin s.left (A ++ [(a, c - 1)])).head? = some p := m
    rw [thin, if_pos z] at m
    have := dropWhile_head _ _ p m
    simpa using this
  · have z : s.come + 1 = 0 := z
    omega
/-- behind a step of a law's -/
theorem Pk.step {L : List Lane} {B O : Nat → Nat → List Nat} {tk : List Nat} {t : Tr} {s : St} {x : Int} (g : Pk L t s) (G : StG L.length t s) (hr : ∀ l, l < L.length → 1 ≤ roomAt L l) (tp : 1 ≤ t.p) (hw : ∀ l ∈ mayTake B O t s, l < L.length) (htk : ∀ p ∈ s.held, p.1 ∈ tk) (m : x ∈ lawOne L B O tk t s) : Pk L t (doneSt s x) := by
  unfold lawOne at m
  rcases List.mem_append.mp m with m | m
  · rcases List.mem_append.mp m with m | m
    · unfold comes1 at m
      rcases List.eq_nil_or_concat s.held with e | ⟨A, ⟨a, c⟩, e⟩
      · rw [e] at m
        cases m
      · have el : s.held.getLast? = some (a, c) := by rw [e]; simp
        rw [el] at m
        have m : x ∈ (if endAt L a = t.g ∧ 0 < c then [-1] else []) := m
        split at m
        · next z =>
          rw [List.mem_singleton.mp m]
          exact g.come G.c0 (by rw [e, List.concat_eq_append]) z.2
        · cases m
    · obtain ⟨A, R, l, c, e, rfl, h1, h2⟩ := goOn_at m
      have nd := G.nd
      rw [e, List.map_append, List.map_cons] at nd
      have nl : l ∉ A.map (·.1) := fun z => (List.nodup_append.mp nd).2.2 l z l (by simp) rfl
      have ew : withLane s.held l = A ++ (l, c) :: R := by
        rw [withLane, if_pos (by rw [e]; simp), e]
      have hc := g.cnt (l, c) (by rw [e]; simp)
      refine g.went ew nl ⟨hc.1, h1⟩ (by rw [← e]; exact g.cnt) (by rw [← e]) h2 fun z p mp => g.la z p ?_
      rw [e, List.getLast?_append, List.getLast?_cons, mp]
      rfl
  · obtain ⟨l, ml, rfl⟩ := List.mem_map.mp m
    obtain ⟨ml, nt⟩ := List.mem_filter.mp ml
    have nl : l ∉ s.held.map (·.1) := fun z => by
      obtain ⟨p, mp, rfl⟩ := List.mem_map.mp z
      simp [htk p mp] at nt
    unfold lawTake at ml
    split at ml
    · next z =>
      have ew : withLane s.held l = s.held ++ (l, 0) :: [] := by
        rw [withLane, if_neg nl]
      have h1 := hr l (hw l ml)
      refine g.went ew nl ⟨Int.le_refl _, by omega⟩ (fun p mp => ?_) (by simp) ?_ (fun _ p mp => nomatch mp)
      · rcases List.mem_append.mp mp with mp | mp
        · exact g.cnt p mp
        · rw [List.mem_singleton.mp mp]
          exact ⟨Int.le_refl _, by show 0 ≤ roomAt L l; omega⟩
      · rcases List.eq_nil_or_concat s.held with e | ⟨A, ⟨a, c⟩, e⟩
        · refine .inl ⟨e, ?_⟩
          rcases z.2 with z | z
          · exact absurd e z
          · omega
        · rw [List.concat_eq_append] at e
          exact .inr ⟨A, a, c, e, g.la z.1 (a, c) (by rw [e]; simp)⟩
    · cases ml
/-- of all trains of a stand -/
def PkS (L : List Lane) (Ts : List Tr) (S : List St) : Prop := ∀ (n : Nat) (t : Tr) (s : St), Ts[n]? = some t → S[n]? = some s → Pk L t s
theorem roomAt_ln {h : Nat} {L : List Lane} (hL : Ln h L) : ∀ l, l < L.length → 1 ≤ roomAt L l ∧ roomAt L l ≤ 4 := fun l hl => by
  have el : L[l]? = some L[l] := List.getElem?_eq_getElem hl
  rw [roomAt, el]
  obtain ⟨_, _, a, b, _⟩ := hL _ (List.getElem_mem hl)
  show (1 : Int) ≤ L[l].r ∧ (L[l].r : Int) ≤ 4
  omega
theorem taken_own {S : List St} {n : Nat} {s : St} (e : S[n]? = some s) : ∀ p ∈ s.held, p.1 ∈ takenL S := fun p m => List.mem_flatMap.mpr ⟨s, List.mem_of_getElem? e, List.mem_map_of_mem m⟩
theorem PkS.step {h : Nat} {L : List Lane} {B O : Nat → Nat → List Nat} {Ts : List Tr} {S : List St} (k : PkS L Ts S) (g : Good h L Ts S) (w : Led h L B O Ts) (hL : Ln h L) (tp : ∀ t ∈ Ts, 1 ≤ t.p) {n : Nat} {s : St} {x : Int} (e : S[n]? = some s) (m : ((n : Int), x) ∈ lawSteps L B O Ts S) : PkS L Ts (S.set n (doneSt s x)) := by
  have m' := (sortBy_perm ltQ _).mem_iff.mp m
  obtain ⟨n', t, s', e1, e2, e3, mx⟩ := allOf_mem m'
  have e1 : (n : Int) = n' := e1
  obtain rfl : n = n' := by omega
  rw [e] at e3
  cases e3
  have G := g.ok n t s e2 e
  obtain ⟨hb, hg⟩ := w.tr t (List.mem_of_getElem? e2)
  intro i u v eu ev
  by_cases q : n = i
  · subst q
    rw [e2] at eu
    cases eu
    have hn := (List.getElem?_eq_some_iff.mp e).1
    rw [List.getElem?_set_self hn] at ev
    cases ev
    refine (k n t s e2 e).step G (fun l hl => (roomAt_ln hL l hl).1) (tp t (List.mem_of_getElem? e2)) (fun l ml => ?_) (taken_own e) mx
    rcases mayTake_mem (B := B) (O := O) (t := t) (s := s) with e | ⟨a, ⟨c, mc⟩, e⟩ <;> rw [e] at ml
    · exact w.wi.1 _ hb _ hg l ml
    · exact w.wi.2 _ (G.ln _ mc) _ hg l ml
  · rw [List.getElem?_set_ne q] at ev
    exact k i u v eu ev
end La

namespace La
open PySem PySem.Spec PyProof.Rows L2 Tl
theorem lay_pqs : ∀ Q : List (Int × Int), PyData.canLayAll0 (Q.map Tl.pqD) = true ∧ PyData.depthAll (Q.map Tl.pqD) ≤ 1
  | [] => ⟨rfl, by simp [PyData.depthAll]⟩
  | q :: Q => by
    obtain ⟨a, b⟩ := lay_pqs Q
    exact ⟨by simp [PyData.canLayAll0, Tl.pqD, PyData.canLay0] at a ⊢; exact a, by simp [PyData.depthAll, PyData.depth, Tl.pqD] at b ⊢; omega⟩
@[simp] theorem shaped_pqs (Q : List (Int × Int)) : SeqAt.shaped (.list (Q.map Tl.pqD)) = true := by
  obtain ⟨a, b⟩ := lay_pqs Q
  exact shaped_of (by simpa [PyData.canLay0] using a) (by simp only [PyData.depth]; omega)
/-- numbers of a stand, bounded -/
def BdS (K : Int) (S : List St) : Prop := ∀ s ∈ S, (-K ≤ s.left ∧ s.left ≤ K) ∧ (-K ≤ s.come ∧ s.come ≤ K) ∧ ∀ p ∈ s.held, -K ≤ p.2 ∧ p.2 ≤ K
theorem BdS.mono {K K' : Int} {S : List St} (h : BdS K S) (l : K ≤ K') : BdS K' S := fun s m => by
  obtain ⟨a, b, c⟩ := h s m
  exact ⟨by omega, by omega, fun p mp => by have := c p mp; omega⟩
theorem bump_bd {K : Int} {Q : List (Nat × Int)} {i : Nat} {d : Int} (hd : -1 ≤ d ∧ d ≤ 1) (h : ∀ p ∈ Q, -K ≤ p.2 ∧ p.2 ≤ K) : ∀ p ∈ bump Q i d, -(K + 1) ≤ p.2 ∧ p.2 ≤ K + 1 := by
  intro p m
  unfold bump at m
  cases e : Q[i]? with
  | none =>
    rw [e] at m
    have := h p m
    omega
  | some q =>
    rw [e] at m
    have hq := h q (List.mem_of_getElem? e)
    rcases List.mem_or_eq_of_mem_set (show p ∈ Q.set i _ from m) with m | m
    · have := h p m
      omega
    · rw [m]
      show -(K + 1) ≤ q.2 + d ∧ q.2 + d ≤ K + 1
      omega
theorem bump_one {Q : List (Nat × Int)} {i : Nat} {d : Int} {p : Nat × Int} (m : p ∈ bump Q i d) : p ∈ Q ∨ ∃ q ∈ Q, p = (q.1, q.2 + d) ∧ Q[i]? = some q := by
  unfold bump at m
  cases e : Q[i]? with
  | none =>
    rw [e] at m
    exact .inl m
  | some q =>
    rw [e] at m
    rcases List.mem_or_eq_of_mem_set (show p ∈ Q.set i _ from m) with m | m
    · exact .inl m
    · exact .inr ⟨q, List.mem_of_getElem? e, m, rfl⟩
theorem withLane_bd {K : Int} (hK : 0 ≤ K) {Q : List (Nat × Int)} {l : Nat} (h : ∀ p ∈ Q, -K ≤ p.2 ∧ p.2 ≤ K) : ∀ p ∈ withLane Q l, -K ≤ p.2 ∧ p.2 ≤ K := by
  intro p m
  unfold withLane at m
  split at m
  · exact h p m
  · rcases List.mem_append.mp m with m | m
    · exact h p m
    · rw [List.mem_singleton.mp m]
      show -K ≤ (0 : Int) ∧ (0 : Int) ≤ K
      omega
theorem done_bd {K : Int} (hK : 0 ≤ K) {s : St} {x : Int} (h : (-K ≤ s.left ∧ s.left ≤ K) ∧ (-K ≤ s.come ∧ s.come ≤ K) ∧ ∀ p ∈ s.held, -K ≤ p.2 ∧ p.2 ≤ K) : (-(K + 1) ≤ (doneSt s x).left ∧ (doneSt s x).left ≤ K + 1) ∧ (-(K + 1) ≤ (doneSt s x).come ∧ (doneSt s x).come ≤ K + 1) ∧ ∀ p ∈ (doneSt s x).held, -(K + 1) ≤ p.2 ∧ p.2 ≤ K + 1 := by
  obtain ⟨a, b, c⟩ := h
  by_cases q : x = -1
  · rw [doneSt, if_pos q]
    refine ⟨by show -(K + 1) ≤ s.left ∧ s.left ≤ K + 1; omega, by show -(K + 1) ≤ s.come + 1 ∧ s.come + 1 ≤ K + 1; omega, fun p m => ?_⟩
    exact bump_bd (by omega) c p ((thin_sub _ _).subset m)
  · rw [doneSt, if_neg q]
    have wl := withLane_bd hK (l := x.toNat) c
    have e : (wentOn s.left s.held x.toNat).1 = s.left ∨ (wentOn s.left s.held x.toNat).1 = s.left - 1 := by
      unfold wentOn
      split
      · exact .inr rfl
      · exact .inl rfl
    have e' : -(K + 1) ≤ (wentOn s.left s.held x.toNat).1 ∧ (wentOn s.left s.held x.toNat).1 ≤ K + 1 := by
      rcases e with e | e <;> rw [e] <;> constructor <;> omega
    refine ⟨e', by show -(K + 1) ≤ s.come ∧ s.come ≤ K + 1; omega, fun p m => ?_⟩
    have m : p ∈ (wentOn s.left s.held x.toNat).2 := (thin_sub _ _).subset m
    unfold wentOn at m
    split at m
    · exact bump_bd (by omega) wl p m
    · next z =>
      rcases bump_one m with m | ⟨q, mq, e, eq⟩
      · exact bump_bd (by omega) wl p m
      · rw [e]
        have hne : placeOf (withLane s.held x.toNat) x.toNat ≠ placeOf (withLane s.held x.toNat) x.toNat - 1 := by omega
        rw [bump_ne hne] at eq
        have := wl q (List.mem_of_getElem? eq)
        show -(K + 1) ≤ q.2 + -1 ∧ q.2 + -1 ≤ K + 1
        omega
theorem BdS.done {K : Int} (hK : 0 ≤ K) {S : List St} (h : BdS K S) {j : Nat} {s : St} {x : Int} (e : S[j]? = some s) : BdS (K + 1) (S.set j (doneSt s x)) := by
  intro q m
  rcases List.mem_or_eq_of_mem_set m with m | m
  · exact (h.mono (by omega)) q m
  · rw [m]
    exact done_bd hK (h s (List.mem_of_getElem? e))
theorem To.way {h : Nat} {L : List Lane} {B O : Nat → Nat → List Nat} (hL : Ln h L) (w : WayP h L B O) : WayZ h L.length B O ∧ WayIn h L.length B O := by
  obtain ⟨W, hT, hB, hO⟩ := w
  have sB : ∀ x, x < h → ∀ g, g < h → ∀ l ∈ B x g, l < L.length := fun x hx g hg l ml => spots_lt (((hT g hg).sub x).subset ((hB x hx g hg).1.subset ml))
  have lB : ∀ x, x < h → ∀ g, g < h → (B x g).length ≤ L.length := fun x hx g hg => Nat.le_trans (hB x hx g hg).1.length_le ((hT g hg).len x)
  have sO : ∀ j, j < L.length → ∀ g, g < h → ∀ l ∈ O j g, l < L.length := fun j hj g hg l ml =>
    spots_lt (((hT g hg).sub _).subset ((hO j _ (List.getElem?_eq_getElem hj) g hg).1.subset ml))
  have lO : ∀ j, j < L.length → ∀ g, g < h → (O j g).length ≤ L.length := fun j hj g hg => Nat.le_trans (hO j _ (List.getElem?_eq_getElem hj) g hg).1.length_le ((hT g hg).len _)
  exact ⟨⟨lB, lO⟩, sB, sO⟩
end La

namespace La
open PySem PySem.Spec PyProof.Rows L2 Tl
end La

namespace La
open PySem PySem.Spec PyProof.Rows L2 Tl
abbrev lanS (s : St) : List Nat := s.held.map (·.1)
def Fol (O : Nat → Nat → List Nat) (g : Nat) : List Nat → Prop
  | [] => True
  | a :: r => (∀ b, r.head? = some b → b ∈ O a g) ∧ Fol O g r
theorem Fol.suf {O : Nat → Nat → List Nat} {g : Nat} {R : List Nat} : ∀ {A : List Nat}, Fol O g (A ++ R) → Fol O g R
  | [], f => f
  | _ :: A, f => Fol.suf (A := A) f.2
theorem Fol.snoc {O : Nat → Nat → List Nat} {g l : Nat} : ∀ {Q : List Nat}, Fol O g Q → (∀ a, Q.getLast? = some a → l ∈ O a g) → Fol O g (Q ++ [l])
  | [], _, _ => ⟨fun b h => by simp at h, trivial⟩
  | [a], f, h => ⟨fun b e => by simp at e; subst e; exact h a rfl, ⟨fun b e => by simp at e, trivial⟩⟩
  | a :: b :: r, f, h => ⟨fun c e => f.1 c (by simpa using e), Fol.snoc f.2 (fun c e => h c (by rw [List.getLast?_cons_cons]; exact e))⟩
theorem done_come (s : St) : lanS (doneSt s (-1)) <:+ lanS s ∧ (s.left ≠ 0 → lanS (doneSt s (-1)) = lanS s) ∧ (doneSt s (-1)).left = s.left ∧ (doneSt s (-1)).come = s.come + 1 := by
  rw [doneSt, if_pos rfl]
  refine ⟨?_, fun q => ?_, rfl, rfl⟩
  · have := (thin_suffix s.left (bump s.held (s.held.length - 1) (-1))).map (·.1)
    rw [bump_fst] at this
    exact this
  · show (thin _ _).map (·.1) = _
    rw [thin, if_neg q, bump_fst]
theorem done_went (s : St) (l : Nat) : lanS (doneSt s l) <:+ (withLane s.held l).map (·.1) ∧ ((doneSt s l).left ≠ 0 → lanS (doneSt s l) = (withLane s.held l).map (·.1)) ∧ (doneSt s l).left ≤ s.left ∧ (doneSt s l).come = s.come := by
  obtain ⟨e1, e2⟩ := wentOn_fst s.left s.held l
  rw [doneSt, if_neg (by omega), Int.toNat_natCast]
  refine ⟨?_, fun q => ?_, e2, rfl⟩
  · have := (thin_suffix (wentOn s.left s.held l).1 (wentOn s.left s.held l).2).map (·.1)
    rw [e1] at this
    exact this
  · show (thin _ _).map (·.1) = _
    have q : (wentOn s.left s.held l).1 ≠ 0 := q
    rw [thin, if_neg q, e1]
theorem one_cases {L : List Lane} {B O : Nat → Nat → List Nat} {tk : List Nat} {t : Tr} {s : St} {x : Int} (m : x ∈ lawOne L B O tk t s) : (x = -1 ∧ ∃ A a c, s.held = A ++ [(a, c)] ∧ 0 < c ∧ endAt L a = t.g) ∨ (∃ l : Nat, x = l ∧ l ∈ lanS s) ∨ ∃ l : Nat, x = l ∧ l ∉ tk ∧ l ∈ mayTake B O t s ∧ s.come = 0 ∧ (s.held ≠ [] ∨ s.left = t.p) := by
  unfold lawOne at m
  rcases List.mem_append.mp m with m | m
  · rcases List.mem_append.mp m with m | m
    · unfold comes1 at m
      rcases List.eq_nil_or_concat s.held with e | ⟨A, ⟨a, c⟩, e⟩
      · rw [e] at m
        cases m
      · have el : s.held.getLast? = some (a, c) := by rw [e]; simp
        rw [el] at m
        have m : x ∈ (if endAt L a = t.g ∧ 0 < c then [-1] else []) := m
        split at m
        · next z => exact .inl ⟨List.mem_singleton.mp m, A, a, c, by rw [e, List.concat_eq_append], z.2, z.1⟩
        · cases m
    · obtain ⟨p, mp, e⟩ := goOn_mem m
      exact .inr (.inl ⟨p.1, e, List.mem_map_of_mem mp⟩)
  · obtain ⟨l, ml, rfl⟩ := List.mem_map.mp m
    obtain ⟨ml, nt⟩ := List.mem_filter.mp ml
    unfold lawTake at ml
    split at ml
    · next z => exact .inr (.inr ⟨l, rfl, by simpa using nt, ml, z.1, z.2⟩)
    · cases ml
/-- a lane that some way lets a train take -/
def Told (h N : Nat) (B O : Nat → Nat → List Nat) (g l : Nat) : Prop := (∃ b, b < h ∧ l ∈ B b g) ∨ ∃ a, a < N ∧ l ∈ O a g
structure Fo (h : Nat) (L : List Lane) (B O : Nat → Nat → List Nat) (t : Tr) (s : St) : Prop where
  told : ∀ l ∈ lanS s, Told h L.length B O t.g l
  fol : Fol O t.g (lanS s)
  st : 0 < s.left → ∀ l, (lanS s).head? = some l → l ∈ B t.b t.g
  em : s.held = [] → s.left = t.p ∨ s.left = 0
  ce : 0 < s.come → ∀ l, (lanS s).getLast? = some l → endAt L l = t.g
theorem lanS_last (s : St) : (lanS s).getLast? = s.held.getLast?.map (·.1) := by
  simp [lanS, List.getLast?_map]
theorem lanS_nil {s : St} (e : s.held = []) : lanS s = [] := by simp [lanS, e]
theorem withLane_old {s : St} {l : Nat} (m : l ∈ lanS s) : (withLane s.held l).map (·.1) = lanS s := by
  rw [fst_withLane rfl, if_pos m]
theorem withLane_new {s : St} {l : Nat} (m : l ∉ lanS s) : (withLane s.held l).map (·.1) = lanS s ++ [l] := by
  rw [fst_withLane rfl, if_neg m]
theorem took {B O : Nat → Nat → List Nat} {t : Tr} {s : St} {l : Nat} (m : l ∈ mayTake B O t s) : (s.held = [] ∧ l ∈ B t.b t.g) ∨ ∃ a, (lanS s).getLast? = some a ∧ l ∈ O a t.g := by
  unfold mayTake at m
  rw [lanS_last]
  cases e : s.held.getLast? with
  | none =>
    rw [e] at m
    exact .inl ⟨List.getLast?_eq_none_iff.mp e, m⟩
  | some p =>
    obtain ⟨a, c⟩ := p
    rw [e] at m
    exact .inr ⟨a, rfl, m⟩
theorem Fo.step {h : Nat} {L : List Lane} {B O : Nat → Nat → List Nat} {tk : List Nat} {t : Tr} {s : St} {x : Int} (f : Fo h L B O t s) (G : StG L.length t s) (hb : t.b < h) (htk : ∀ p ∈ s.held, p.1 ∈ tk) (m : x ∈ lawOne L B O tk t s) : Fo h L B O t (doneSt s x) := by
  rcases one_cases m with ⟨rfl, A, a, c, e, hc, eg⟩ | ⟨l, rfl, ml⟩ | ⟨l, rfl, nl, ml, hcome, hst⟩
  · obtain ⟨d1, d2, d3, d4⟩ := done_come s
    obtain ⟨Z, hZ⟩ := d1
    refine ⟨fun l ml => f.told l (hZ ▸ List.mem_append_right _ ml), by have := f.fol; rw [← hZ] at this; exact this.suf, fun q l ml => ?_, fun q => ?_, fun q l ml => ?_⟩
    · rw [d3] at q
      rw [d2 (by omega)] at ml
      exact f.st q l ml
    · rw [d3]
      by_cases z : s.left = 0
      · exact .inr z
      · have := d2 z
        rw [lanS_nil q] at this
        have : lanS s = [] := this.symm
        simp [lanS, e] at this
    · have : (lanS s).getLast? = some l := by
        rw [← hZ, List.getLast?_append, ml]
        rfl
      rw [lanS_last, e] at this
      simp at this
      rw [← this]
      exact eg
  · obtain ⟨d1, d2, d3, d4⟩ := done_went s l
    rw [withLane_old ml] at d1 d2
    obtain ⟨Z, hZ⟩ := d1
    refine ⟨fun l ml => f.told l (hZ ▸ List.mem_append_right _ ml), by have := f.fol; rw [← hZ] at this; exact this.suf, fun q k mk => ?_, fun q => ?_, fun q k mk => ?_⟩
    · rw [d2 (by omega)] at mk
      exact f.st (by omega) k mk
    · by_cases z : (doneSt s l).left = 0
      · exact .inr z
      · have := d2 z
        rw [lanS_nil q] at this
        rw [← this] at ml
        cases ml
    · rw [d4] at q
      exact f.ce q k (by rw [← hZ, List.getLast?_append, mk]; rfl)
  · obtain ⟨d1, d2, d3, d4⟩ := done_went s l
    have nm : l ∉ lanS s := fun z => by
      obtain ⟨p, mp, rfl⟩ := List.mem_map.mp z
      exact nl (htk p mp)
    rw [withLane_new nm] at d1 d2
    obtain ⟨Z, hZ⟩ := d1
    have tk := took ml
    have tl : Told h L.length B O t.g l := by
      rcases tk with ⟨_, q⟩ | ⟨a, ea, q⟩
      · exact .inl ⟨_, hb, q⟩
      · have ma := List.mem_of_getLast? ea
        obtain ⟨p, mp, rfl⟩ := List.mem_map.mp ma
        exact .inr ⟨_, G.ln p mp, q⟩
    refine ⟨fun k mk => ?_, ?_, fun q k mk => ?_, fun q => ?_, fun q k mk => ?_⟩
    · have : k ∈ lanS s ++ [l] := hZ ▸ List.mem_append_right _ mk
      rcases List.mem_append.mp this with z | z
      · exact f.told k z
      · rw [List.mem_singleton.mp z]
        exact tl
    · have := Fol.snoc (l := l) f.fol fun a ea => by
        rcases tk with ⟨e, _⟩ | ⟨a', ea', q⟩
        · rw [lanS_nil e] at ea
          cases ea
        · rw [ea] at ea'
          cases ea'
          exact q
      rw [← hZ] at this
      exact this.suf
    · rw [d2 (by omega)] at mk
      rcases tk with ⟨e, q'⟩ | ⟨a, ea, _⟩
      · rw [lanS_nil e] at mk
        cases mk
        exact q'
      · refine f.st (by omega) k ?_
        cases eL : lanS s with
        | nil => rw [eL] at ea; cases ea
        | cons b r =>
          rw [eL] at mk
          exact mk
    · by_cases z : (doneSt s l).left = 0
      · exact .inr z
      · have := d2 z
        rw [lanS_nil q] at this
        simp at this
    · rw [d4] at q
      omega
def FoS (h : Nat) (L : List Lane) (B O : Nat → Nat → List Nat) (Ts : List Tr) (S : List St) : Prop := (∀ (n : Nat) (t : Tr) (s : St), Ts[n]? = some t → S[n]? = some s → Fo h L B O t s) ∧ (takenL S).Nodup
theorem taken_mid (A C : List St) (s : St) : takenL (A ++ s :: C) = takenL A ++ lanS s ++ takenL C := by
  simp [takenL]
theorem taken_set {S : List St} {n : Nat} {s : St} (e : S[n]? = some s) (s' : St) : ∃ A C, takenL S = A ++ lanS s ++ C ∧ takenL (S.set n s') = A ++ lanS s' ++ C := by
  obtain ⟨hn, rfl⟩ := List.getElem?_eq_some_iff.mp e
  refine ⟨takenL (S.take n), takenL (S.drop (n + 1)), ?_, ?_⟩
  · have : S = S.take n ++ S[n] :: S.drop (n + 1) := by
      rw [List.getElem_cons_drop, List.take_append_drop]
    conv => lhs; rw [this]
    exact taken_mid _ _ _
  · rw [List.set_eq_take_append_cons_drop, if_pos hn]
    exact taken_mid _ _ _
theorem disj_step {L : List Lane} {B O : Nat → Nat → List Nat} {S : List St} {t : Tr} {n : Nat} {s : St} {x : Int} (d : (takenL S).Nodup) (e : S[n]? = some s) (m : x ∈ lawOne L B O (takenL S) t s) : (takenL (S.set n (doneSt s x))).Nodup := by
  obtain ⟨A, C, e1, e2⟩ := taken_set e (doneSt s x)
  rw [e2]
  have sub : ∀ {Q : List Nat}, Q <:+ lanS s → (A ++ Q ++ C).Nodup := fun {Q} q => by
    rw [e1] at d
    exact (((List.Sublist.refl A).append q.sublist).append (List.Sublist.refl C)).nodup d
  rcases one_cases m with ⟨rfl, _⟩ | ⟨l, rfl, ml⟩ | ⟨l, rfl, nl, _⟩
  · exact sub (done_come s).1
  · have := (done_went s l).1
    rw [withLane_old ml] at this
    exact sub this
  · have nm : l ∉ lanS s := fun z => nl (by rw [e1]; simp [z])
    have := (done_went s l).1
    rw [withLane_new nm] at this
    have d2 : (A ++ (lanS s ++ [l]) ++ C).Nodup := by
      rw [e1] at nl d
      have p : (A ++ (lanS s ++ [l]) ++ C).Perm (l :: (A ++ lanS s ++ C)) := by
        have : A ++ (lanS s ++ [l]) ++ C = (A ++ lanS s) ++ l :: C := by simp
        rw [this]
        exact List.perm_middle
      exact p.nodup_iff.mpr (List.nodup_cons.mpr ⟨nl, d⟩)
    exact (((List.Sublist.refl A).append this.sublist).append (List.Sublist.refl C)).nodup d2
theorem FoS.step1 {h : Nat} {L : List Lane} {B O : Nat → Nat → List Nat} {Ts : List Tr} {S : List St} (f : FoS h L B O Ts S) (g : Good h L Ts S) (hb : ∀ t ∈ Ts, t.b < h) {n : Nat} {t : Tr} {s : St} {x : Int} (et : Ts[n]? = some t) (e : S[n]? = some s) (m : x ∈ lawOne L B O (takenL S) t s) : FoS h L B O Ts (S.set n (doneSt s x)) := by
  refine ⟨fun i u v eu ev => ?_, disj_step f.2 e m⟩
  by_cases q : n = i
  · subst q
    rw [et] at eu
    cases eu
    have hn := (List.getElem?_eq_some_iff.mp e).1
    rw [List.getElem?_set_self hn] at ev
    cases ev
    exact (f.1 n t s et e).step (g.ok n t s et e) (hb t (List.mem_of_getElem? et)) (taken_own e) m
  · rw [List.getElem?_set_ne q] at ev
    exact f.1 i u v eu ev
theorem one_of {L : List Lane} {B O : Nat → Nat → List Nat} {Ts : List Tr} {S : List St} {n : Nat} {s : St} {x : Int} (e : S[n]? = some s) (m : ((n : Int), x) ∈ lawSteps L B O Ts S) : ∃ t, Ts[n]? = some t ∧ x ∈ lawOne L B O (takenL S) t s := by
  have m' := (sortBy_perm ltQ _).mem_iff.mp m
  obtain ⟨n', t, s', e1, e2, e3, mx⟩ := allOf_mem m'
  have e1 : (n : Int) = n' := e1
  obtain rfl : n = n' := by omega
  rw [e] at e3
  cases e3
  exact ⟨t, e2, mx⟩
theorem FoS.step {h : Nat} {L : List Lane} {B O : Nat → Nat → List Nat} {Ts : List Tr} {S : List St} (f : FoS h L B O Ts S) (g : Good h L Ts S) (w : Led h L B O Ts) {n : Nat} {s : St} {x : Int} (e : S[n]? = some s) (m : ((n : Int), x) ∈ lawSteps L B O Ts S) : FoS h L B O Ts (S.set n (doneSt s x)) := by
  obtain ⟨t, et, mx⟩ := one_of e m
  exact f.step1 g (fun t m => (w.tr t m).1) et e mx
end La

namespace La
open PySem PySem.Spec PyProof.Rows L2 Tl
instance : Inhabited Lane := ⟨⟨0, 0, 0⟩⟩
theorem lane_mod {h : Nat} (h2 : 2 ≤ h) {x : Nat} (hx : x < h) : (x + 1) % h < h ∧ x ≠ (x + 1) % h := by
  refine ⟨Nat.mod_lt _ (by omega), ?_⟩
  by_cases q : x + 1 = h
  · rw [q, Nat.mod_self]
    omega
  · rw [Nat.mod_eq_of_lt (by omega)]
    omega
/-- a lane of the ring -/
def RLane (h x : Nat) (l : Lane) : Prop := l.b = x ∧ l.e = (x + 1) % h ∧ 1 ≤ l.r ∧ l.r ≤ 4
theorem RLane.ok {h x : Nat} (h2 : 2 ≤ h) (hx : x < h) {l : Lane} (q : RLane h x l) : l.b < h ∧ l.e < h ∧ 1 ≤ l.r ∧ l.r ≤ 4 ∧ l.b ≠ l.e := by
  obtain ⟨a, b⟩ := lane_mod h2 hx
  obtain ⟨q1, q2, q3, q4⟩ := q
  rw [q1, q2]
  exact ⟨hx, a, q3, q4, b⟩
/-- what a law's case is: a net, a way that lets lanes of it be taken, trains, a stand -/
structure Case (h : Nat) (L : List Lane) (B O : Nat → Nat → List Nat) (Ts : List Tr) (S : List St) : Prop where
  h2 : 2 ≤ h
  h12 : h ≤ 12
  net : Ln h L
  few : L.length ≤ 40
  led : Led h L B O Ts
  tr : ∀ t ∈ Ts, TrOk h B t
  ok : Good h L Ts S
  bd : BdS 450 S
  pk : PkS L Ts S
  way : WayP h L B O
  fo : FoS h L B O Ts S
end La

namespace La
open PySem PySem.Spec PyProof.Rows L2 Tl
end La

namespace La
open PySem PySem.Spec PyProof.Rows L2 Tl
end La

namespace La
open PySem PySem.Spec PyProof.Rows L2 Tl
theorem Shw.lg {n k : Nat} {i : Int} (h : i.natAbs < 2 ^ k) (h1 : 1 ≤ k) (hk : k ≤ 90) : Shw n k (.int i) := by
  have hl : i.natAbs.log2 < k := by
    by_cases q : i.natAbs = 0
    · rw [q, Nat.log2_zero]
      exact h1
    · exact (Nat.log2_lt q).mpr h
  have h2 : i.natAbs < 2 ^ 90 := Nat.lt_of_lt_of_le h (Nat.pow_le_pow_right (by decide) hk)
  have e90 : (2 : Nat) ^ 90 = 1237940039285380274899124224 := by decide
  have a := Shw.int (n := n) (i := i) (decide_eq_true (by omega))
  refine ⟨a.lay, a.sh, a.shr, a.dp, ?_⟩
  simp only [PyData.weight]
  split <;> omega
end La

namespace La
open PySem PySem.Spec PyProof.Rows L2 Tl
def waits (L : List Lane) (t : Tr) (s : St) : Bool := decide (s.come = 0) && match s.held.getLast? with
  | some p => !decide (endAt L p.1 = t.g)
  | none => decide (s.left = t.p)
def wants (L : List Lane) (B O : Nat → Nat → List Nat) (t : Tr) (s : St) : List Nat := if waits L t s then mayTake B O t s else []
theorem lay_intsL {α : Type} (f : α → Int) : ∀ xs : List α, PyData.canLayAll0 (xs.map fun x => PyData.int (f x)) = true ∧ PyData.depthAll (xs.map fun x => PyData.int (f x)) ≤ 0
  | [] => ⟨rfl, by simp [PyData.depthAll]⟩
  | x :: xs => by
    obtain ⟨a, b⟩ := lay_intsL f xs
    exact ⟨by simp [PyData.canLayAll0, PyData.canLay0] at a ⊢; exact a, by simp [PyData.depthAll, PyData.depth] at b ⊢; omega⟩
end La

namespace La
open PySem PySem.Spec PyProof.Rows L2 Tl
def roomS (L : List Lane) (Q : List Nat) : Int := (Q.map (roomAt L)).sum
@[simp] theorem roomS_nil (L : List Lane) : roomS L [] = 0 := rfl
@[simp] theorem roomS_cons (L : List Lane) (l : Nat) (Q : List Nat) : roomS L (l :: Q) = roomAt L l + roomS L Q := by simp [roomS]
/-- the fewest lanes from the head back that hold the whole train, or all -/
def keepsL (L : List Lane) (p : Int) : List Nat → List Nat
  | [] => []
  | l :: r => if p ≤ roomS L r then keepsL L p r else l :: r
@[simp] theorem ix_held (Q : List (Nat × Int)) (b : Nat) : gIx [.val (.leaf (heldD Q)), .val (.leaf (.int (b : Int)))] = bd Q[b]? lastK := by
  simp only [heldD, ix_t]
  simp
  cases Q[b]? <;> rfl
end La

namespace La
open PySem PySem.Spec PyProof.Rows L2 Tl
abbrev lanesS (s : St) : List Nat := s.held.map (·.1)
def keeps (L : List Lane) (t : Tr) (s : St) : List Nat := if waits L t s then keepsL L t.p (lanesS s) else []
end La

namespace La
open PySem PySem.Spec PyProof.Rows L2 Tl
end La

namespace La
open PySem PySem.Spec PyProof.Rows L2 Tl
end La

namespace La
open PySem PySem.Spec PyProof.Rows L2 Tl
@[simp] theorem ix_pq0 (q : Int × Int) : gIx [.val (.leaf (Tl.pqD q)), .val (.leaf (.int 0))] = some (rInt q.1) := by simp [Tl.pqD]
@[simp] theorem ix_pq1 (q : Int × Int) : gIx [.val (.leaf (Tl.pqD q)), .val (.leaf (.int 1))] = some (rInt q.2) := by simp [Tl.pqD]
end La

namespace La
open PySem PySem.Spec PyProof.Rows L2 Tl
@[simp] def lookTK2 (τ : Tau) : T × List T → Option (R × Tau)
  | (r, _) => if plainT r = true then some (.val r, τ) else none
@[simp] def lookTK1 (f : MF) (τ : Tau) (ts : List T) : Option (R × Tau) := bd (f ts) (lookTK2 τ)
@[simp] def lookTK (f : MF) : List CArg × Tau → Option (R × Tau)
  | (cs, τ) => bd (leafs cs) (lookTK1 f τ)
@[simp] theorem r_mLookT (f : MF) (l : MCA) (ro : Ro) (τ : Tau) : mLookT f l ro τ = bd (l ro τ) (lookTK f) := bd_of fun a => bd_of fun b => bd_of fun c => rfl
end La

namespace La
open PySem PySem.Spec PyProof.Rows L2 Tl
end La

namespace La
open PySem PySem.Spec PyProof.Rows L2 Tl
end La

namespace La
open PySem PySem.Spec PyProof.Rows L2 Tl
structure Path (W K : Nat → List Nat) (G P : List Nat) : Prop where
  ne : P ≠ []
  nd : P.Nodup
  sub : ∀ u ∈ P, u ∈ G
  lk : ∀ (i : Nat) (u v : Nat), P[i]? = some u → P[i + 1]? = some v → ∃ l ∈ W u, l ∈ K v
theorem Path.one {W K : Nat → List Nat} {G : List Nat} {u : Nat} (m : u ∈ G) : Path W K G [u] where
  ne := by simp
  nd := by simp
  sub := fun x mx => by rw [List.mem_singleton.mp mx]; exact m
  lk := fun i a b ea eb => by simp at eb
end La

namespace La
open PySem PySem.Spec PyProof.Rows L2 Tl
end La

namespace La
open PySem PySem.Spec PyProof.Rows L2 Tl
end La

namespace La
open PySem PySem.Spec PyProof.Rows L2 Tl
end La

namespace La
open PySem PySem.Spec PyProof.Rows L2 Tl
/-- a case, some steps on -/
structure On (K : Int) (h : Nat) (L : List Lane) (B O : Nat → Nat → List Nat) (Ts : List Tr) (S : List St) : Prop where
  g : Good h L Ts S
  bd : BdS K S
  pk : PkS L Ts S
  fo : FoS h L B O Ts S
theorem Case.on {h : Nat} {L : List Lane} {B O : Nat → Nat → List Nat} {Ts : List Tr} {S : List St} (c : Case h L B O Ts S) : On 450 h L B O Ts S := ⟨c.ok, c.bd, c.pk, c.fo⟩
theorem On.mono {K K' : Int} {h : Nat} {L : List Lane} {B O : Nat → Nat → List Nat} {Ts : List Tr} {S : List St} (o : On K h L B O Ts S) (l : K ≤ K') : On K' h L B O Ts S := ⟨o.g, o.bd.mono l, o.pk, o.fo⟩
theorem Case.tp {h : Nat} {L : List Lane} {B O : Nat → Nat → List Nat} {Ts : List Tr} {S : List St} (c : Case h L B O Ts S) : ∀ t ∈ Ts, 1 ≤ t.p ∧ t.p ≤ 1000 := fun t m => by
  obtain ⟨_, _, _, a, b⟩ := c.tr t m
  omega
theorem On.step {K : Int} {h : Nat} {L : List Lane} {B O : Nat → Nat → List Nat} {Ts : List Tr} {S0 S : List St} (c : Case h L B O Ts S0) (hK : 0 ≤ K) (o : On K h L B O Ts S) {j : Nat} {s : St} {x : Int} (e : S[j]? = some s) (m : ((j : Int), x) ∈ lawSteps L B O Ts S) : On (K + 1) h L B O Ts (S.set j (doneSt s x)) := by
  obtain ⟨n', s', e1, e2, hx⟩ := steps_mem o.g c.led m
  have e1 : (j : Int) = n' := e1
  obtain rfl : j = n' := by omega
  exact ⟨o.g.done (B := B) (O := O) e (hx.imp (fun z => z.1) id), BdS.done hK o.bd e, o.pk.step o.g c.led c.net (fun t m => (c.tp t m).1) e m, o.fo.step o.g c.led e m⟩
end La

namespace La
open PySem PySem.Spec PyProof.Rows L2 Tl
/-- a weighted sum of pieces -/
def wsum (f : Nat → Nat) (Q : List (Nat × Int)) : Int := (Q.map fun p => p.2 * (f p.1 : Int)).sum
@[simp] theorem wsum_nil (f : Nat → Nat) : wsum f [] = 0 := rfl
@[simp] theorem wsum_cons (f : Nat → Nat) (p : Nat × Int) (Q : List (Nat × Int)) : wsum f (p :: Q) = p.2 * (f p.1 : Int) + wsum f Q := by simp [wsum]
@[simp] theorem wsum_app (f : Nat → Nat) (A B : List (Nat × Int)) : wsum f (A ++ B) = wsum f A + wsum f B := by simp [wsum]
end La

namespace La
open PySem PySem.Spec PyProof.Rows L2 Tl
end La

namespace La
open PySem PySem.Spec PyProof.Rows L2 Tl
end La

namespace La
open PySem PySem.Spec PyProof.Rows L2 Tl
end La

namespace La
open PySem PySem.Spec PyProof.Rows L2 Tl
end La

namespace La
open PySem PySem.Spec PyProof.Rows L2 Tl
end La

namespace La
open PySem PySem.Spec PyProof.Rows L2 Tl
end La

namespace La
open PySem PySem.Spec PyProof.Rows L2 Tl
end La

namespace La
open PySem PySem.Spec PyProof.Rows L2 Tl
def idxB (n : Nat) : D → Bool
  | .int i => decide (0 ≤ i) && decide (i < n)
  | _ => false
section
variable {h : Nat} {L : List Lane} {B O : Nat → Nat → List Nat} {Ts : List Tr} {S : List St}
end
end La

namespace La
open PySem PySem.Spec PyProof.Rows L2 Tl
def intB : D → Bool
  | .int _ => true
  | _ => false
theorem idx_int {n : Nat} (ds : List D) (h : ds.all (idxB n) = true) : ds.all intB = true := by
  rw [List.all_eq_true] at h ⊢
  intro d m
  have := h d m
  cases d <;> first | rfl | cases this
section
variable {h : Nat} {L : List Lane} {B O : Nat → Nat → List Nat} {Ts : List Tr} {S : List St}
theorem shaped_ints (ns : List Int) : SeqAt.shaped (.list (ns.map PyData.int)) = true := by
  obtain ⟨a, b⟩ := lay_intsL (fun i : Int => i) ns
  exact shaped_of (by simpa [PyData.canLay0] using a) (by
    simp only [PyData.depth]
    have : PyData.depthAll (ns.map PyData.int) ≤ 0 := b
    omega)
end
end La

namespace La
open PySem PySem.Spec PyProof.Rows L2 Tl
def intOf : D → Int
  | .int i => i
  | _ => 0
def nnB : D → Bool
  | .int i => decide (0 ≤ i)
  | _ => false
/-- the unlike numbers, rising -/
def numL (ds : List D) : List Int := sset (ds.map intOf)
def natL (ds : List D) : List Nat := ds.map fun d => (intOf d).toNat
def upto (k : Nat) : List Int := (List.range k).map fun i => ((i : Nat) : Int)
/-- whether a thing is a list of levels -/
noncomputable def dueL (n : Nat) (Tb : Nat → Nat → Nat) : D → Bool
  | .list ds => decide (ds.length = n) && ds.all (houB n) && decide (numL ds = upto (numL ds).length) && !((List.range (numL ds).length).any fun l => riB (lvE n Tb (natL ds) l))
  | _ => false
theorem dueL_list (n : Nat) (Tb : Nat → Nat → Nat) (ds : List D) : dueL n Tb (.list ds) = (decide (ds.length = n) && ds.all (houB n) && decide (numL ds = upto (numL ds).length) && !((List.range (numL ds).length).any fun l => riB (lvE n Tb (natL ds) l))) := rfl
theorem ints_of {ds : List D} (h : ds.all nnB = true) : ds = (natL ds).map natD ∧ ds.map intOf = (natL ds).map (fun i => ((i : Nat) : Int)) ∧ intsD ds = some (ds.map intOf) := by
  have e : ds = (natL ds).map natD := by
    unfold natL
    rw [List.map_map]
    conv => lhs; rw [← List.map_id ds]
    refine List.map_congr_left fun d m => ?_
    have q := List.all_eq_true.mp h d m
    cases d with
    | int i =>
      have : 0 ≤ i := of_decide_eq_true q
      show PyData.int i = .int ((i.toNat : Nat) : Int)
      rw [Int.toNat_of_nonneg this]
    | _ => cases q
  have e2 : ds.map intOf = (natL ds).map (fun i => ((i : Nat) : Int)) := by
    conv => lhs; rw [e]
    rw [List.map_map]
    rfl
  refine ⟨e, e2, ?_⟩
  rw [e2]
  conv => lhs; rw [e]
  have : (natL ds).map natD = ((natL ds).map fun i => ((i : Nat) : Int)).map PyData.int := by rw [List.map_map]; rfl
  rw [this, intsD_of]
theorem hou_nn {n : Nat} {d : D} (h : houB n d = true) : nnB d = true := by
  cases d with
  | int i =>
    have h' : (decide (0 ≤ i) && decide (i < (n : Int))) = true := by simpa [houB] using h
    rw [Bool.and_eq_true] at h'
    exact h'.1
  | _ => simp [houB] at h
theorem upto_len (k : Nat) : (upto k).length = k := by rw [upto, List.length_map, List.length_range]
theorem upto_rng (k : Nat) : (upto k).map PyData.int = rangeD 0 1 k := by
  unfold upto
  rw [List.map_map, rangeD_nat]
  rfl
/-- numbers that are just those up to some one are houses -/
theorem num_small {n : Nat} {ds : List D} (hl : ds.length = n) (h : ds.all nnB = true) (e : numL ds = upto (numL ds).length) : ds.all (houB n) = true := by
  rw [List.all_eq_true]
  intro d m
  have nn := List.all_eq_true.mp h d m
  have m1 : intOf d ∈ numL ds := (sset_mem _ _).mpr (List.mem_map.mpr ⟨d, m, rfl⟩)
  rw [e] at m1
  obtain ⟨i, mi, ei⟩ := List.mem_map.mp m1
  have lt := List.mem_range.mp mi
  have l2 := sset_len (ds.map intOf)
  rw [List.length_map] at l2
  cases d with
  | int j =>
    have : j = i := ei.symm
    subst this
    have h1 : (i : Int) < n := by unfold numL at lt; omega
    simp [houB, h1]
  | _ => cases nn
abbrev slS (d X : D) (x2 x3 : Option D) : SS := ⟨[some d, some X, x2, x3, none, none], []⟩
section
variable {n : Nat} {Tb : Nat → Nat → Nat} {ds : List D}
theorem cmp_nums {Z : List Int} : (SeqAt.shaped (.list (Z.map PyData.int)) = true ∧ SeqAt.shaped (.list (rangeD 0 1 Z.length)) = true) ∧ PyData.eqvAll (Z.map PyData.int) (rangeD 0 1 Z.length) = decide (Z = upto Z.length) := by
  rw [← upto_rng]
  exact ⟨⟨shaped_ints _, shaped_ints _⟩, eqv_ints _ _⟩
theorem rings_ok (hn : n ≤ 12) (hT : ∀ x, x < n → ∀ c, c < n → Tb x c < n) {S : List Nat} (hS : S.length = n) {Z : List Int} (hZ : Z = upto Z.length) :
    s_shows_levels_5 (slS (tabN n Tb) (.list (S.map natD)) (some (.int n)) (some (.list (Z.map PyData.int)))) = some (.rt (.leaf (.bool (!((List.range Z.length).any fun l => riB (lvE n Tb S l))))) (slS (tabN n Tb) (.list (S.map natD)) (some (.int n)) (some (.list (Z.map PyData.int))))) := by
  have hp := fun l => levelPairs_ok (l := l) hn hT hS
  have hh := fun l => hasRing_ok (E := lvE n Tb S l) (Nat.le_trans (lvE_len hn hS) (by omega))
  have eZ : Z.map PyData.int = (List.range Z.length).map natD := by
    conv => lhs; rw [hZ]
    unfold upto
    rw [List.map_map]
    rfl
  rw [eZ]
  generalize Z.length = k at *
  generalize tabN n Tb = d at *
  unfold slS
  generalize S.map natD = SD at *
  generalize hG : s_shows_levels_5 _ = y
  simp [s_shows_levels_5] at hG
  generalize hC : lcLoop _ _ _ _ _ _ _ _ _ = z at hG
  obtain rfl := lc_typM hC (fun l => .bool (riB (lvE n Tb S l))) rfl fun l m => by
    have h1 := hp l
    have h2 := hh l
    generalize (lvE n Tb S l).map pD2 = ED at *
    refine ⟨_, rfl, rd (.bool (riB (lvE n Tb S l))), ?_, rfl⟩
    simp [h1, h2]
  have b1 := boolsD_mapA (fun l => riB (lvE n Tb S l)) (List.range k)
  have b2 : Tl.anyB ((List.range k).map fun l => riB (lvE n Tb S l)) = (List.range k).any fun l => riB (lvE n Tb S l) := by
    unfold Tl.anyB
    rw [List.any_map]
    first | done | rfl
  rw [← hG]
  simp [b1, b2]
theorem showsL_ok (hn : n ≤ 12) (hT : ∀ x, x < n → ∀ c, c < n → Tb x c < n) (X : D) (hX : ∀ ds, X = .list ds → ds.length ≤ 1000) : m_shows_levels [.leaf (tabN n Tb), .leaf X] = some (.leaf (.bool (dueL n Tb X)), [.leaf (tabN n Tb), .leaf X]) := by
  have el := len_tabN (n := n) (Tb := Tb)
  have f1 : s_shows_levels_1 (slS (tabN n Tb) X none none) = some (.nx (slS (tabN n Tb) X (some (.int n)) none)) := by
    generalize tabN n Tb = d at *
    simp [s_shows_levels_1, el]
  have bad : ∀ b, b = false → s_shows_levels_2 (slS (tabN n Tb) X (some (.int n)) none) = some (.rt (.leaf (.bool b)) (slS (tabN n Tb) X (some (.int n)) none)) → dueL n Tb X = b → m_shows_levels [.leaf (tabN n Tb), .leaf X] = some (.leaf (.bool (dueL n Tb X)), [.leaf (tabN n Tb), .leaf X]) := by
    rintro b rfl f2 e
    rw [e]
    generalize tabN n Tb = d at *
    simp [m_shows_levels, pieces_shows_levels, f1, f2]
  cases X with
  | list ds =>
    have hl := hX ds rfl
    by_cases q1 : ds.length = n
    · by_cases q2 : ds.all (houB n) = true
      · obtain ⟨e1, e2, e3⟩ := ints_of (ds := ds) (List.all_eq_true.mpr fun d m => hou_nn (List.all_eq_true.mp q2 d m))
        have f2 : s_shows_levels_2 (slS (tabN n Tb) (.list ds) (some (.int n)) none) = some (.nx (slS (tabN n Tb) (.list ds) (some (.int n)) none)) := by
          generalize tabN n Tb = d at *
          generalize hG : s_shows_levels_2 _ = y
          have q1' := eq_true (show ((ds.length : Nat) : Int) = n by omega)
          simp [s_shows_levels_2, isListD, q1'] at hG
          generalize hC : lcLoop _ _ _ _ _ _ _ _ _ = z at hG
          obtain rfl := lc_mapM_of hC (fun d => .bool (houB n d)) rfl fun d m => ⟨_, rfl, rd (.bool (houB n d)), by simp [ishouse_ok], rfl⟩
          have b1 := boolsD_mapA (houB n) ds
          have b2 : Tl.allB (ds.map (houB n)) = true := by rw [allB_map]; exact q2
          rw [← hG]
          simp [b1, b2]
        have f3 : s_shows_levels_3 (slS (tabN n Tb) (.list ds) (some (.int n)) none) = some (.nx (slS (tabN n Tb) (.list ds) (some (.int n)) (some (.list ((numL ds).map PyData.int))))) := by
          have l60 : ds.length < 60 := by omega
          unfold numL
          generalize tabN n Tb = d at *
          generalize ds.map intOf = ns at *
          have ln : ns.length < 60 := by
            have := congrArg List.length e2
            rw [this, List.length_map]
            unfold natL
            rw [List.length_map]
            omega
          simp [s_shows_levels_3, e3, ln]
        have hd : dueL n Tb (.list ds) = (decide (numL ds = upto (numL ds).length) && !((List.range (numL ds).length).any fun l => riB (lvE n Tb (natL ds) l))) := by
          rw [dueL_list]
          rw [decide_eq_true q1, q2]
          simp
        have lz : ((numL ds).map PyData.int).length = (numL ds).length := List.length_map _
        have lz2 : (numL ds).length ≤ ds.length := by
          have := sset_len (ds.map intOf)
          rw [List.length_map] at this
          exact this
        have e8 : ((numL ds).length : Int) ≤ 16000000 := by omega
        have hc := cmp_nums (Z := numL ds)
        by_cases q3 : numL ds = upto (numL ds).length
        · have f4 : s_shows_levels_4 (slS (tabN n Tb) (.list ds) (some (.int n)) (some (.list ((numL ds).map PyData.int)))) = some (.nx (slS (tabN n Tb) (.list ds) (some (.int n)) (some (.list ((numL ds).map PyData.int))))) := by
            rw [decide_eq_true q3] at hc
            generalize tabN n Tb = d at *
            generalize (numL ds).map PyData.int = ZD at *
            generalize (numL ds).length = k at *
            simp [s_shows_levels_4, lz, e8, hc]
          have f5 := rings_ok (S := natL ds) hn hT (by unfold natL; rw [List.length_map]; exact q1) q3
          rw [← e1] at f5
          rw [hd, decide_eq_true q3, Bool.true_and]
          generalize (!((List.range (numL ds).length).any fun l => riB (lvE n Tb (natL ds) l))) = bb at *
          generalize tabN n Tb = d at *
          generalize (numL ds).map PyData.int = ZD at *
          simp [m_shows_levels, pieces_shows_levels, f1, f2, f3, f4, f5]
        · have f4 : s_shows_levels_4 (slS (tabN n Tb) (.list ds) (some (.int n)) (some (.list ((numL ds).map PyData.int)))) = some (.rt (.leaf (.bool false)) (slS (tabN n Tb) (.list ds) (some (.int n)) (some (.list ((numL ds).map PyData.int))))) := by
            rw [decide_eq_false q3] at hc
            generalize tabN n Tb = d at *
            generalize (numL ds).map PyData.int = ZD at *
            generalize (numL ds).length = k at *
            simp [s_shows_levels_4, lz, e8, hc]
          rw [hd, decide_eq_false q3, Bool.false_and]
          generalize tabN n Tb = d at *
          generalize (numL ds).map PyData.int = ZD at *
          simp [m_shows_levels, pieces_shows_levels, f1, f2, f3, f4]
      · refine bad false rfl ?_ (by rw [dueL_list]; rw [Bool.eq_false_iff.mpr q2]; simp)
        generalize tabN n Tb = d at *
        generalize hG : s_shows_levels_2 _ = y
        have q1' := eq_true (show ((ds.length : Nat) : Int) = n by omega)
        simp [s_shows_levels_2, isListD, q1'] at hG
        generalize hC : lcLoop _ _ _ _ _ _ _ _ _ = z at hG
        obtain rfl := lc_mapM_of hC (fun d => .bool (houB n d)) rfl fun d m => ⟨_, rfl, rd (.bool (houB n d)), by simp [ishouse_ok], rfl⟩
        have b1 := boolsD_mapA (houB n) ds
        have b2 : Tl.allB (ds.map (houB n)) = false := by rw [allB_map]; exact Bool.eq_false_iff.mpr q2
        rw [← hG]
        simp [b1, b2]
    · refine bad false rfl ?_ (by rw [dueL_list]; rw [decide_eq_false q1]; simp)
      generalize tabN n Tb = d at *
      have q1' := eq_false (show ¬ ((ds.length : Nat) : Int) = n by omega)
      simp [s_shows_levels_2, isListD, q1']
  | _ =>
    refine bad false rfl ?_ rfl
    generalize tabN n Tb = d at *
    simp [s_shows_levels_2, isListD]
end
end La

namespace La
open PySem PySem.Spec PyProof.Rows L2 Tl
section
variable {n : Nat} {Tb : Nat → Nat → Nat} {ds : List D}
end
end La

namespace La
open PySem PySem.Spec PyProof.Rows L2 Tl
end La

namespace La
open PySem PySem.Spec PyProof.Rows L2 Tl
mutual
/-- no dict, texts that may be, numbers of at most B -/
def okB (B : Nat) : D → Bool
  | .int i => decide (-(B : Int) ≤ i ∧ i ≤ B)
  | .str s => PyData.strOk s
  | .list ds => okBL B ds
  | .tuple ds => okBL B ds
  | .dict _ => false
  | .none => true
  | .bool _ => true
def okBL (B : Nat) : List D → Bool
  | [] => true
  | d :: ds => okB B d && okBL B ds
end
theorem okBL_iff {B : Nat} : ∀ {ds : List D}, okBL B ds = true ↔ ∀ d ∈ ds, okB B d = true
  | [] => by simp [okBL]
  | d :: ds => by
    rw [okBL, Bool.and_eq_true, okBL_iff]
    simp
mutual
theorem okB_mono {B B' : Nat} (h : B ≤ B') : ∀ d : D, okB B d = true → okB B' d = true
  | .int i, q => by
    have q : decide (-(B : Int) ≤ i ∧ i ≤ B) = true := q
    have q := of_decide_eq_true q
    exact decide_eq_true (by omega)
  | .str _, q => q
  | .list ds, q => okBL_mono h ds q
  | .tuple ds, q => okBL_mono h ds q
  | .dict _, q => q
  | .none, q => q
  | .bool _, q => q
theorem okBL_mono {B B' : Nat} (h : B ≤ B') : ∀ ds : List D, okBL B ds = true → okBL B' ds = true
  | [], q => q
  | d :: ds, q => by
    rw [okBL, Bool.and_eq_true] at q ⊢
    exact ⟨okB_mono h d q.1, okBL_mono h ds q.2⟩
end
mutual
theorem okB_facts {B : Nat} (h : B < 1000000000000000000000) : ∀ d : D, okB B d = true → d.canLay0 = true ∧ d.showable = true ∧ d.intsShort 22 = true
  | .int i, q => by
    have q : decide (-(B : Int) ≤ i ∧ i ≤ B) = true := q
    have q := of_decide_eq_true q
    have hl : i.natAbs.log2 < 100 := by
      by_cases z : i.natAbs = 0
      · rw [z]
        decide
      · exact (Nat.log2_lt z).mpr (by omega)
    refine ⟨rfl, by simp only [PyData.showable]; exact decide_eq_true (by omega), ?_⟩
    have e21 : (10 : Nat) ^ 21 = 1000000000000000000000 := by decide
    have := int_text_length_le10 (a := i) (k := 21) (by decide) (by rw [e21]; omega)
    simp only [PyData.intsShort, decide_eq_true_eq]
    show (Str.ofString (toString i)).length ≤ 22
    rw [PySem.ofString_length]
    omega
  | .str s, q => ⟨q, rfl, rfl⟩
  | .list ds, q => by
    obtain ⟨a, b, c⟩ := okBL_facts h ds q
    exact ⟨by simpa [PyData.canLay0] using a, by simpa [PyData.showable] using b, by simpa [PyData.intsShort] using c⟩
  | .tuple ds, q => by
    obtain ⟨a, b, c⟩ := okBL_facts h ds q
    exact ⟨by simpa [PyData.canLay0] using a, by simpa [PyData.showable] using b, by simpa [PyData.intsShort] using c⟩
  | .dict _, q => by cases q
  | .none, _ => ⟨rfl, rfl, rfl⟩
  | .bool _, _ => ⟨rfl, rfl, rfl⟩
theorem okBL_facts {B : Nat} (h : B < 1000000000000000000000) : ∀ ds : List D, okBL B ds = true → PyData.canLayAll0 ds = true ∧ PyData.showableAll ds = true ∧ PyData.intsShortAll 22 ds = true
  | [], _ => ⟨rfl, rfl, rfl⟩
  | d :: ds, q => by
    rw [okBL, Bool.and_eq_true] at q
    obtain ⟨a, b, c⟩ := okB_facts h d q.1
    obtain ⟨a', b', c'⟩ := okBL_facts h ds q.2
    exact ⟨by simp [PyData.canLayAll0, a, a'], by simp [PyData.showableAll, b, b'], by simp [PyData.intsShortAll, c, c']⟩
end
theorem depthAll_iff {n : Nat} : ∀ {ds : List D}, PyData.depthAll ds ≤ n ↔ ∀ d ∈ ds, d.depth ≤ n
  | [] => by simp [PyData.depthAll]
  | d :: ds => by
    rw [PyData.depthAll, Nat.max_le, depthAll_iff]
    simp
theorem weightAll_app : ∀ (as bs : List D), PyData.weightAll (as ++ bs) = PyData.weightAll as + PyData.weightAll bs
  | [], bs => by simp [PyData.weightAll]
  | a :: as, bs => by
    rw [List.cons_append, PyData.weightAll, weightAll_app as bs, PyData.weightAll]
    omega
theorem weightAll_sub {as bs : List D} (h : as.Sublist bs) : PyData.weightAll as ≤ PyData.weightAll bs := by
  induction h with
  | slnil => exact Nat.le_refl _
  | cons a _ ih => rw [PyData.weightAll]; omega
  | cons_cons a _ ih => rw [PyData.weightAll, PyData.weightAll]; omega
theorem weightAll_mem {ds : List D} {d : D} (m : d ∈ ds) : d.weight + 1 ≤ PyData.weightAll ds := by
  have := weightAll_sub (List.singleton_sublist.mpr m)
  simpa [PyData.weightAll] using this
theorem weightAll_len : ∀ ds : List D, ds.length ≤ PyData.weightAll ds
  | [] => Nat.le_refl _
  | d :: ds => by
    have := weightAll_len ds
    rw [PyData.weightAll, List.length_cons]
    omega
theorem weightAll_set : ∀ {ds : List D} {k : Nat} {d e : D}, ds[k]? = some d → PyData.weightAll (ds.set k e) + d.weight = PyData.weightAll ds + e.weight
  | [], _, _, _, h => by simp at h
  | a :: ds, 0, d, e, h => by
    simp at h
    subst h
    simp only [List.set_cons_zero, PyData.weightAll]
    omega
  | a :: ds, k + 1, d, e, h => by
    have := weightAll_set (ds := ds) (k := k) (d := d) (e := e) (by simpa using h)
    simp only [List.set_cons_succ, PyData.weightAll]
    omega
/-- a thing: numbers of at most B, so deep, so heavy -/
structure Sd (B n w : Nat) (d : D) : Prop where
  ok : okB B d = true
  dp : d.depth ≤ n
  wt : d.weight ≤ w
structure SdL (B n w : Nat) (ds : List D) : Prop where
  ok : ∀ d ∈ ds, okB B d = true
  dp : ∀ d ∈ ds, d.depth ≤ n
  wt : PyData.weightAll ds ≤ w
theorem Sd.mono {B n w B' n' w' : Nat} {d : D} (h : Sd B n w d) (a : B ≤ B') (b : n ≤ n') (c : w ≤ w') : Sd B' n' w' d := ⟨okB_mono a d h.ok, Nat.le_trans h.dp b, Nat.le_trans h.wt c⟩
theorem SdL.mono {B n w B' n' w' : Nat} {ds : List D} (h : SdL B n w ds) (a : B ≤ B') (b : n ≤ n') (c : w ≤ w') : SdL B' n' w' ds := ⟨fun d m => okB_mono a d (h.ok d m), fun d m => Nat.le_trans (h.dp d m) b, Nat.le_trans h.wt c⟩
theorem Sd.list {B n w : Nat} {ds : List D} (h : SdL B n w ds) : Sd B (n + 1) w (.list ds) := ⟨okBL_iff.mpr h.ok, by rw [PyData.depth]; have := depthAll_iff.mpr h.dp; omega, h.wt⟩
theorem Sd.tuple {B n w : Nat} {ds : List D} (h : SdL B n w ds) : Sd B (n + 1) w (.tuple ds) := ⟨okBL_iff.mpr h.ok, by rw [PyData.depth]; have := depthAll_iff.mpr h.dp; omega, h.wt⟩
theorem Sd.ofL {B n w : Nat} {ds : List D} (h : Sd B n w (.list ds)) : 1 ≤ n ∧ SdL B (n - 1) w ds := by
  have := h.dp
  rw [PyData.depth] at this
  exact ⟨by omega, okBL_iff.mp h.ok, depthAll_iff.mp (by omega), h.wt⟩
theorem Sd.ofT {B n w : Nat} {ds : List D} (h : Sd B n w (.tuple ds)) : 1 ≤ n ∧ SdL B (n - 1) w ds := by
  have := h.dp
  rw [PyData.depth] at this
  exact ⟨by omega, okBL_iff.mp h.ok, depthAll_iff.mp (by omega), h.wt⟩
theorem SdL.mem {B n w : Nat} {ds : List D} (h : SdL B n w ds) {d : D} (m : d ∈ ds) : Sd B n w d := ⟨h.ok d m, h.dp d m, by have := weightAll_mem m; have := h.wt; omega⟩
theorem SdL.app {B n w v : Nat} {as bs : List D} (h : SdL B n w as) (k : SdL B n v bs) : SdL B n (w + v) (as ++ bs) := ⟨fun d m => (List.mem_append.mp m).elim (h.ok d) (k.ok d), fun d m => (List.mem_append.mp m).elim (h.dp d) (k.dp d), by rw [weightAll_app]; have := h.wt; have := k.wt; omega⟩
theorem SdL.sub {B n w : Nat} {as bs : List D} (h : SdL B n w bs) (s : as.Sublist bs) : SdL B n w as := ⟨fun d m => h.ok d (s.subset m), fun d m => h.dp d (s.subset m), Nat.le_trans (weightAll_sub s) h.wt⟩
theorem SdL.one {B n w : Nat} {d : D} (h : Sd B n w d) : SdL B n (w + 1) [d] := ⟨fun e m => by rw [List.mem_singleton.mp m]; exact h.ok, fun e m => by rw [List.mem_singleton.mp m]; exact h.dp, by simp only [PyData.weightAll]; have := h.wt; omega⟩
theorem SdL.len {B n w : Nat} {ds : List D} (h : SdL B n w ds) : ds.length ≤ w := Nat.le_trans (weightAll_len ds) h.wt
theorem Sd.int {B n : Nat} {i : Int} (h : -(B : Int) ≤ i ∧ i ≤ B) (hB : B < 1000000000000000000000) : Sd B n 100 (.int i) := by
  have hl : i.natAbs.log2 < 99 := by
    by_cases z : i.natAbs = 0
    · rw [z]
      decide
    · exact (Nat.log2_lt z).mpr (by omega)
  refine ⟨decide_eq_true h, by simp [PyData.depth], ?_⟩
  simp only [PyData.weight]
  split <;> omega
theorem Sd.none {B n w : Nat} : Sd B n w .none := ⟨rfl, by simp [PyData.depth], by simp [PyData.weight]⟩
theorem Sd.bool {B n w : Nat} {b : Bool} : Sd B n w (.bool b) := ⟨rfl, by simp [PyData.depth], by simp [PyData.weight]⟩
theorem Sd.str {B n w : Nat} {s : Str} (h : PyData.strOk s = true) (l : s.length ≤ w) : Sd B n w (.str s) := ⟨h, by simp [PyData.depth], by rw [PyData.weight]; exact l⟩
theorem Sd.shown {B n w : Nat} {d : D} (h : Sd B n w d) (hB : B < 1000000000000000000000) : d.shown.length ≤ 24 * w + 22 := by
  obtain ⟨a, b, c⟩ := okB_facts hB d h.ok
  have := PyData.shown_le 22 (by decide) d (PyData.leavesShort_of_canLay0 22 d a c)
  have := h.wt
  omega
theorem Sd.show_ok {B n w : Nat} {d : D} (h : Sd B n w d) (hB : B < 1000000000000000000000) (hn : n ≤ 150) (hw : w ≤ 660000) : okShow d = true := by
  obtain ⟨a, b, c⟩ := okB_facts hB d h.ok
  have := h.shown hB
  have := h.dp
  unfold okShow
  simp only [a, b, Bool.true_and, Bool.and_eq_true, decide_eq_true_eq]
  exact ⟨by omega, by omega⟩
theorem Sd.strOf {B n w : Nat} {d : D} (h : Sd B n w d) (hB : B < 1000000000000000000000) (m : Nat) : Sd B m (24 * w + 22) (.str (Tl.strOf d)) := by
  obtain ⟨a, _, _⟩ := okB_facts hB d h.ok
  refine Sd.str (ok_strOf a) ?_
  cases d with
  | str s =>
    have := h.wt
    rw [PyData.weight] at this
    show s.cps.size ≤ _
    omega
  | _ => exact h.shown hB
theorem Sd.lay {B n w : Nat} {d : D} (h : Sd B n w d) (hB : B < 1000000000000000000000) : d.canLay0 = true := (okB_facts hB d h.ok).1
def subD : D → List Nat → D
  | d, [] => d
  | .list ds, k :: s => subD (ds.getD k .none) s
  | .tuple ds, k :: s => subD (ds.getD k .none) s
  | d, _ :: _ => d
def putD : D → List Nat → D → D
  | _, [], x => x
  | .list ds, k :: s, x => .list (ds.set k (putD (ds.getD k .none) s x))
  | .tuple ds, k :: s, x => .tuple (ds.set k (putD (ds.getD k .none) s x))
  | d, _ :: _, _ => d
inductive Spot : D → List Nat → Prop
  | here (d : D) : Spot d []
  | list {ds : List D} {k : Nat} {e : D} {s : List Nat} : ds[k]? = some e → Spot e s → Spot (.list ds) (k :: s)
  | tuple {ds : List D} {k : Nat} {e : D} {s : List Nat} : ds[k]? = some e → Spot e s → Spot (.tuple ds) (k :: s)
theorem getD_of {ds : List D} {k : Nat} {e : D} (h : ds[k]? = some e) : ds.getD k .none = e := by
  rw [List.getD_eq_getElem?_getD, h]
  rfl
theorem Sd.sub {B n w : Nat} {d : D} {s : List Nat} (h : Sd B n w d) (p : Spot d s) : Sd B n w (subD d s) := by
  induction p generalizing n with
  | here d => cases d <;> exact h
  | list e _ ih =>
    obtain ⟨a, b⟩ := h.ofL
    show Sd B n w (subD (List.getD _ _ .none) _)
    rw [getD_of e]
    exact (ih (b.mem (List.mem_of_getElem? e))).mono (Nat.le_refl _) (by omega) (Nat.le_refl _)
  | tuple e _ ih =>
    obtain ⟨a, b⟩ := h.ofT
    show Sd B n w (subD (List.getD _ _ .none) _)
    rw [getD_of e]
    exact (ih (b.mem (List.mem_of_getElem? e))).mono (Nat.le_refl _) (by omega) (Nat.le_refl _)
theorem Spot.len {B n w : Nat} {d : D} {s : List Nat} (h : Sd B n w d) (p : Spot d s) : s.length ≤ n := by
  induction p generalizing n with
  | here d => exact Nat.zero_le _
  | list e _ ih =>
    obtain ⟨a, b⟩ := h.ofL
    have := ih (b.mem (List.mem_of_getElem? e))
    rw [List.length_cons]
    omega
  | tuple e _ ih =>
    obtain ⟨a, b⟩ := h.ofT
    have := ih (b.mem (List.mem_of_getElem? e))
    rw [List.length_cons]
    omega
theorem SdL.set {B n w v : Nat} {ds : List D} {k : Nat} {d e : D} (h : SdL B n w ds) (x : Sd B n v e) (g : ds[k]? = some d) (lt : e.weight ≤ d.weight + v) : SdL B n (w + v) (ds.set k e) := by
  refine ⟨fun a m => ?_, fun a m => ?_, ?_⟩
  · rcases List.mem_or_eq_of_mem_set m with m | rfl
    · exact h.ok a m
    · exact x.ok
  · rcases List.mem_or_eq_of_mem_set m with m | rfl
    · exact h.dp a m
    · exact x.dp
  · have := weightAll_set (e := e) g
    have := h.wt
    omega
theorem put_sd {B n w v m : Nat} {d x : D} {s : List Nat} (h : Sd B n w d) (p : Spot d s) (y : Sd B m v x) : okB B (putD d s x) = true ∧ (putD d s x).depth ≤ n + m ∧ (putD d s x).weight ≤ d.weight + v := by
  induction p generalizing n w with
  | here d => exact ⟨by cases d <;> exact y.ok, by cases d <;> (have := y.dp; exact Nat.le_trans this (Nat.le_add_left _ _)), by cases d <;> (have := y.wt; exact Nat.le_trans this (Nat.le_add_left _ _))⟩
  | @list ds k e s g _ ih =>
    obtain ⟨a, b⟩ := h.ofL
    obtain ⟨i1, i2, i3⟩ := ih (b.mem (List.mem_of_getElem? g))
    show okB B (.list (ds.set k (putD (ds.getD k .none) s x))) = true ∧ _
    rw [getD_of g]
    refine ⟨okBL_iff.mpr fun z m => ?_, ?_, ?_⟩
    · rcases List.mem_or_eq_of_mem_set m with m | rfl
      · exact b.ok z m
      · exact i1
    · show (PyData.list (ds.set k (putD (ds.getD k .none) s x))).depth ≤ _
      rw [getD_of g, PyData.depth]
      have : PyData.depthAll (ds.set k (putD e s x)) ≤ n - 1 + m := depthAll_iff.mpr fun z mz => by
        rcases List.mem_or_eq_of_mem_set mz with mz | rfl
        · have := b.dp z mz
          omega
        · omega
      omega
    · show (PyData.list (ds.set k (putD (ds.getD k .none) s x))).weight ≤ _
      rw [getD_of g]
      show PyData.weightAll (ds.set k (putD e s x)) ≤ PyData.weightAll ds + v
      have := weightAll_set (e := putD e s x) g
      omega
  | @tuple ds k e s g _ ih =>
    obtain ⟨a, b⟩ := h.ofT
    obtain ⟨i1, i2, i3⟩ := ih (b.mem (List.mem_of_getElem? g))
    show okB B (.tuple (ds.set k (putD (ds.getD k .none) s x))) = true ∧ _
    rw [getD_of g]
    refine ⟨okBL_iff.mpr fun z m => ?_, ?_, ?_⟩
    · rcases List.mem_or_eq_of_mem_set m with m | rfl
      · exact b.ok z m
      · exact i1
    · show (PyData.tuple (ds.set k (putD (ds.getD k .none) s x))).depth ≤ _
      rw [getD_of g, PyData.depth]
      have : PyData.depthAll (ds.set k (putD e s x)) ≤ n - 1 + m := depthAll_iff.mpr fun z mz => by
        rcases List.mem_or_eq_of_mem_set mz with mz | rfl
        · have := b.dp z mz
          omega
        · omega
      omega
    · show (PyData.tuple (ds.set k (putD (ds.getD k .none) s x))).weight ≤ _
      rw [getD_of g]
      show PyData.weightAll (ds.set k (putD e s x)) ≤ PyData.weightAll ds + v
      have := weightAll_set (e := putD e s x) g
      omega
theorem Sd.put {B n w v m : Nat} {d x : D} {s : List Nat} (h : Sd B n w d) (p : Spot d s) (y : Sd B m v x) : Sd B (n + m) (w + v) (putD d s x) := by
  obtain ⟨a, b, c⟩ := put_sd h p y
  have := h.wt
  exact ⟨a, b, by omega⟩
end La

namespace La
open PySem PySem.Spec PyProof.Rows L2 Tl
section
variable {n k : Nat}
end
end La

namespace La
open PySem PySem.Spec PyProof.Rows L2 Tl
theorem tab_sd48 {n : Nat} {Tb : Nat → Nat → Nat} (hn : n ≤ 12) (hT : ∀ x, x < n → ∀ c, c < n → Tb x c < n) : Sd 100 2 732 (tabN n Tb) := by
  have small : ∀ i : Nat, i ≤ 15 → okB 100 (.int i) = true ∧ (PyData.int i).weight ≤ 4 := fun i hi => by
    refine ⟨decide_eq_true (by omega), ?_⟩
    have : ∀ j, j ≤ 15 → (PyData.int (j : Nat)).weight ≤ 4 := by decide +kernel
    exact this i hi
  have cell : ∀ x c, x < n → c < n → okB 100 (natD (Tb x c)) = true ∧ (natD (Tb x c)).depth ≤ 0 ∧ (natD (Tb x c)).weight ≤ 4 := fun x c hx hc => by
    have := hT x hx c hc
    obtain ⟨a, b⟩ := small (Tb x c) (by omega)
    exact ⟨a, by simp [PyData.depth], b⟩
  have wl : ∀ (W : Nat) (Q : List D), (∀ d ∈ Q, d.weight ≤ W) → PyData.weightAll Q ≤ (W + 1) * Q.length := fun W Q => by
    induction Q with
    | nil => intro _; exact Nat.zero_le _
    | cons q Q ih =>
      intro hq
      have h1 := hq q List.mem_cons_self
      have h2 := ih fun l m => hq l (List.mem_cons_of_mem _ m)
      rw [PyData.weightAll, List.length_cons, Nat.mul_succ]
      omega
  have row : ∀ x, x < n → Sd 100 1 60 (.list (trow n Tb x)) := fun x hx => by
    have mem : ∀ d ∈ trow n Tb x, okB 100 d = true ∧ d.depth ≤ 0 ∧ d.weight ≤ 4 := fun d m => by
      obtain ⟨c, mc, rfl⟩ := List.mem_map.mp m
      exact cell x c hx (List.mem_range.mp mc)
    have := wl 4 (trow n Tb x) fun d m => (mem d m).2.2
    rw [trow_len] at this
    exact Sd.list (n := 0) ⟨fun d m => (mem d m).1, fun d m => (mem d m).2.1, by omega⟩
  have mem : ∀ d ∈ (List.range n).map fun x => PyData.list (trow n Tb x), Sd 100 1 60 d := fun d m => by
    obtain ⟨x, mx, rfl⟩ := List.mem_map.mp m
    exact row x (List.mem_range.mp mx)
  have := wl 60 _ fun d m => (mem d m).wt
  rw [List.length_map, List.length_range] at this
  exact Sd.list (n := 1) ⟨fun d m => (mem d m).ok, fun d m => (mem d m).dp, by omega⟩
theorem many48 {k : Nat} {t : T} (ht : Tp (k + 1) t) : ∃ (n : Nat) (t' : T), m_law_many_k46 [t] = some (.leaf (.int n), [t']) ∧ 1 ≤ n ∧ n ≤ 7 ∧ Tp k t' := by
  obtain ⟨v, t', e, l, u, h'⟩ := take_ok (n := k) (m := 8) ht (by omega) (by omega)
  have c : v = 0 ∨ v = 1 ∨ v = 2 ∨ v = 3 ∨ v = 4 ∨ v = 5 ∨ v = 6 ∨ v = 7 := by omega
  have go : ∀ n : Nat, L2.atI [PyData.int 1, .int 2, .int 3, .int 4, .int 5, .int 6, .int 4, .int 7] v = some (.int n) → m_law_many_k46 [t] = some (.leaf (.int n), [t']) := fun n en => by
    simp [m_law_many_k46, b_law_many_k46, e, en]
  rcases c with rfl | rfl | rfl | rfl | rfl | rfl | rfl | rfl
  · exact ⟨1, t', go 1 rfl, by omega, by omega, h'⟩
  · exact ⟨2, t', go 2 rfl, by omega, by omega, h'⟩
  · exact ⟨3, t', go 3 rfl, by omega, by omega, h'⟩
  · exact ⟨4, t', go 4 rfl, by omega, by omega, h'⟩
  · exact ⟨5, t', go 5 rfl, by omega, by omega, h'⟩
  · exact ⟨6, t', go 6 rfl, by omega, by omega, h'⟩
  · exact ⟨4, t', go 4 rfl, by omega, by omega, h'⟩
  · exact ⟨7, t', go 7 rfl, by omega, by omega, h'⟩
theorem itr_add48 (f : Nat → Nat) : ∀ i j x, itr f (i + j) x = itr f i (itr f j x)
  | 0, j, x => by rw [Nat.zero_add]; rfl
  | i + 1, j, x => by
    rw [show i + 1 + j = (i + j) + 1 from by omega]
    show f (itr f (i + j) x) = f (itr f i (itr f j x))
    rw [itr_add48 f i j x]
theorem sortedL_uniq48 : ∀ {A B : List Int}, A.Pairwise (· < ·) → B.Pairwise (· < ·) → (∀ x, x ∈ A ↔ x ∈ B) → A = B
  | [], [], _, _, _ => rfl
  | [], b :: B, _, _, h => absurd ((h b).mpr List.mem_cons_self) List.not_mem_nil
  | a :: A, [], _, _, h => absurd ((h a).mp List.mem_cons_self) List.not_mem_nil
  | a :: A, b :: B, ha, hb, h => by
    obtain ⟨a1, a2⟩ := List.pairwise_cons.mp ha
    obtain ⟨b1, b2⟩ := List.pairwise_cons.mp hb
    have e : a = b := by
      rcases List.mem_cons.mp ((h a).mp List.mem_cons_self) with e | m
      · exact e
      · rcases List.mem_cons.mp ((h b).mpr List.mem_cons_self) with e | m'
        · exact e.symm
        · have := a1 b m'
          have := b1 a m
          omega
    subst e
    have : A = B := sortedL_uniq48 a2 b2 fun x => by
      constructor
      · intro m
        rcases List.mem_cons.mp ((h x).mp (List.mem_cons_of_mem _ m)) with e | m'
        · have := a1 x m
          omega
        · exact m'
      · intro m
        rcases List.mem_cons.mp ((h x).mpr (List.mem_cons_of_mem _ m)) with e | m'
        · have := b1 x m
          omega
        · exact m'
    rw [this]
/-- each goal its own level: no ring -/
theorem own48 {n : Nat} {Tb : Nat → Nat → Nat} (h1 : 1 ≤ n) (hT : ∀ x, x < n → ∀ c, c < n → Tb x c < n) (ok : ∀ g, g < n → okG (fun y => Tb y g) n g) : dueL n Tb (.list (rangeD 0 1 n)) = true := by
  rw [dueL_list, rangeD_nat]
  have e1 : ((List.range n).map natD).length = n := by rw [List.length_map, List.length_range]
  have e2 : ((List.range n).map natD).all (houB n) = true := List.all_eq_true.mpr fun d m => by
    obtain ⟨i, mi, rfl⟩ := List.mem_map.mp m
    have := List.mem_range.mp mi
    simp [houB, this]
  have e3 : natL ((List.range n).map natD) = List.range n := by
    unfold natL
    rw [List.map_map]
    exact (List.map_congr_left fun i _ => rfl).trans (List.map_id _)
  have e4 : numL ((List.range n).map natD) = upto n := by
    unfold numL
    rw [List.map_map]
    show sset ((List.range n).map fun i : Nat => (i : Int)) = upto n
    have up : (upto n).Pairwise (· < ·) := by
      unfold upto
      rw [List.pairwise_map]
      exact List.pairwise_lt_range.imp fun h => by omega
    refine sortedL_uniq48 (sset_up _) up fun k => ?_
    rw [sset_mem]
    unfold upto
    exact Iff.rfl
  rw [decide_eq_true e1, e2, e4, upto_len, e3]
  simp only [decide_true, Bool.true_and, Bool.not_eq_true']
  rw [List.any_eq_false]
  intro l ml
  have hl := List.mem_range.mp ml
  have ev : lvE n Tb (List.range n) l = folE n Tb l := by
    unfold lvE lvK
    rw [List.length_range]
    have : (List.range n).filter (fun g => decide ((List.range n)[g]? = some l)) = [l] := by
      have h : ∀ m, (List.range m).filter (fun g => decide ((List.range n)[g]? = some l)) = if l < m ∧ m ≤ n then [l] else (List.range m).filter (fun g => decide ((List.range n)[g]? = some l)) := by
        intro m
        split
        · rename_i hm
          have : (List.range m).filter (fun g => decide ((List.range n)[g]? = some l)) = (List.range m).filter (fun g => decide (g = l)) := List.filter_congr fun g mg => by
            have := List.mem_range.mp mg
            rw [List.getElem?_range (by omega)]
            simp
          rw [this]
          obtain ⟨hm1, hm2⟩ := hm
          clear this hm2
          induction m with
          | zero => omega
          | succ m ih =>
            rw [List.range_succ, List.filter_append]
            by_cases q : l < m
            · rw [ih q]
              have : ¬ m = l := by omega
              simp [this]
            · have : m = l := by omega
              subst this
              have : (List.range m).filter (fun g => decide (g = m)) = [] := List.filter_eq_nil_iff.mpr fun g mg => by
                have := List.mem_range.mp mg
                simp
                omega
              rw [this]
              simp
        · rfl
      rw [h n, if_pos ⟨hl, Nat.le_refl _⟩]
    rw [this, List.flatMap_cons, List.flatMap_nil, List.append_nil]
  rw [ev, Bool.not_eq_true]
  unfold riB
  rw [decide_eq_false_iff_not, ri_iff]
  rintro ⟨a, r⟩
  -- streets go on to the goal
  have go : ∀ a b, Rp (folE n Tb l) a b → a.1 < n ∧ a.1 ≠ l ∧ a.2 = Tb a.1 l ∧ ∃ k, b.1 = itr (fun y => Tb y l) (k + 1) a.1 := by
    intro a b r
    have edge : ∀ a b, (a, b) ∈ folE n Tb l → a.1 < n ∧ a.1 ≠ l ∧ a.2 = Tb a.1 l ∧ b.1 = Tb a.1 l := by
      intro a b m
      obtain ⟨x, mx, e⟩ := List.mem_map.mp m
      obtain ⟨m1, m2⟩ := List.mem_filter.mp mx
      have m2' : (decide (Tb x l ≠ l) && decide (x ≠ l)) = true := m2
      rw [Bool.and_eq_true] at m2'
      cases e
      exact ⟨List.mem_range.mp m1, of_decide_eq_true m2'.2, rfl, rfl⟩
    induction r with
    | one m =>
      obtain ⟨q1, q2, q3, q4⟩ := edge _ _ m
      exact ⟨q1, q2, q3, 0, q4⟩
    | cons m _ ih =>
      obtain ⟨q1, q2, q3, q4⟩ := edge _ _ m
      obtain ⟨_, _, _, k, e⟩ := ih
      refine ⟨q1, q2, q3, k + 1, ?_⟩
      rw [e, q4, itr_in (fun y => Tb y l) (k + 1)]
  obtain ⟨q1, q2, _, k, e⟩ := go a a r
  have rep : ∀ m, a.1 = itr (fun y => Tb y l) (m * (k + 1)) a.1 := by
    intro m
    induction m with
    | zero => rw [Nat.zero_mul]; rfl
    | succ m ih =>
      rw [Nat.succ_mul, itr_add48, ← e]
      exact ih
  obtain ⟨fg, all⟩ := ok l hl
  have far : ∀ j, itr (fun y => Tb y l) (n + j) a.1 = l := by
    intro j
    rw [Nat.add_comm, itr_add48, all a.1 q1]
    exact itr_fix (f := fun y => Tb y l) fg j
  have h2 := rep n
  rw [show n * (k + 1) = n + n * k from by rw [Nat.mul_succ, Nat.add_comm], far] at h2
  exact q2 h2
end La

namespace La
open PySem PySem.Spec PyProof.Rows L2 Tl
def s_filled_levels_1 (r : MF) : MS := (mSet 3 (mX (mBr 1 (mBin gAdd (mBin gMaxDf (mSee 1) (mUn (gp pNeg) (mC (.int 1)))) (mC (.int 1))))))
def s_filled_levels_2 (r : MF) : MS := (mIfS (mXB (mBrB 1 (mBinB (gp pEq) (mOp gLen (mCons (mSee 1) mNil)) (mOp gLen (mCons (mVar 0) mNil))))) (mSeq (mRet (mX (mIf (mBinB (gp pEq) (mVar 3) (mVar 2)) (mTk 1) (mC .none)))) mNx) mNx)
def s_filled_levels_3b_1 (r : MF) : MS := (mSetO 5 (mX (mBr 1 (mBin gAdd (mSee 1) (mOp gLstD (mCons (mVar 4) mNil))))))
def s_filled_levels_3b_2t_1 (r : MF) : MS := (mSetO 6 (mX (mCall r (cCons (mVar 0) (cIo 5 (cCons (mVar 2) cNil))))))
def s_filled_levels_3b_2t_2 (r : MF) : MS := (mIfS (mXB (mBrB 6 (mBinB (gp pNotN) (mSee 6) (mC .none)))) (mSeq (mRet (mX (mTk 6))) mNx) mNx)
abbrev s_filled_levels_3b_2t (r : MF) : MS := (mSeq (s_filled_levels_3b_2t_1 r) (mSeq (s_filled_levels_3b_2t_2 r) mNx))
def s_filled_levels_3b_2 (r : MF) : MS := (mIfS (mXB (mBrB 5 (mNotB (mTru (mLook m_has_ring (cSeeL m_level_pairs (cSee (mVar 0) (cSee (mSee 5) (cSee (mVar 4) cNil))))))))) (s_filled_levels_3b_2t r) mNx)
abbrev s_filled_levels_3b (r : MF) : MS := (mSeq (s_filled_levels_3b_1 r) (mSeq (s_filled_levels_3b_2 r) mNx))
def s_filled_levels_3 (r : MF) : MS := (mFor [4] (mXI (iRng (mCons (mOp (gp pMin2) (mCons (mBin gAdd (mVar 3) (mC (.int 1))) (mCons (mVar 2) mNil))) mNil))) (gtN 4) (s_filled_levels_3b r))
def s_filled_levels_4 (r : MF) : MS := (mRet (mX (mC .none)))
theorem pieces_filled_levels (r : MF) : b_filled_levels r = (mSeq (s_filled_levels_1 r) (mSeq (s_filled_levels_2 r) (mSeq (s_filled_levels_3 r) (mSeq (s_filled_levels_4 r) mNx)))) := rfl
def s_least_levels_1 : MS := (mSetO 1 (mX (mC .none)))
def s_least_levels_2 : MS := (mSet 2 (mX (mC (.int 0))))
def s_least_levels_3b_1 : MS := (mAug 2 gAddI (mC (.int 1)))
def s_least_levels_3b_2 : MS := (mSetO 1 (mX (mCall (m_filled_levels 60) (cCons (mVar 0) (cOw (mOp gLstD mNil) (cCons (mVar 2) cNil))))))
abbrev s_least_levels_3b : MS := (mSeq s_least_levels_3b_1 (mSeq s_least_levels_3b_2 mNx))
def s_least_levels_3 : MS := (mWhile whF (mXB (mBrB 1 (mBinB (gp pIsN) (mSee 1) (mC .none)))) s_least_levels_3b)
def s_least_levels_4 : MS := (mRet (mX (mTk 1)))
theorem pieces_least_levels : b_least_levels = (mSeq s_least_levels_1 (mSeq s_least_levels_2 (mSeq s_least_levels_3 (mSeq s_least_levels_4 mNx)))) := rfl
def s_law_all_lists_1 : MS := (mSet 1 (mX (mOp gLstD (mCons (mOp gLstD mNil) mNil))))
def s_law_all_lists_2b_1 : MS := (mSetO 3 (mX (mOp gLstD mNil)))
def s_law_all_lists_2b_2b_1 : MS := (mDo (mX (mMut 3 gExtend (mCons (mLc [5] (iRng (mCons (mBin gAdd (mOp gMax (mCons (mBin gAdd (mVar 4) (mOp gLstD (mCons (mUn (gp pNeg) (mC (.int 1))) mNil))) mNil)) (mC (.int 2))) mNil)) (gtN 5) mYes (mBin gAdd (mVar 4) (mOp gLstD (mCons (mVar 5) mNil)))) mNil))))
abbrev s_law_all_lists_2b_2b : MS := (mSeq s_law_all_lists_2b_2b_1 mNx)
def s_law_all_lists_2b_2 : MS := (mFor [4] (mXI (iSeq (mVar 1))) (gtN 4) s_law_all_lists_2b_2b)
def s_law_all_lists_2b_3 : MS := (mPre (mFz 3) (mSet 1 (mX (mVar 3))))
abbrev s_law_all_lists_2b : MS := (mSeq s_law_all_lists_2b_1 (mSeq s_law_all_lists_2b_2 (mSeq s_law_all_lists_2b_3 mNx)))
def s_law_all_lists_2 : MS := (mFor [2] (mXI (iRng (mCons (mVar 0) mNil))) (gtN 2) s_law_all_lists_2b)
def s_law_all_lists_3 : MS := (mRet (mX (mVar 1)))
theorem pieces_law_all_lists : b_law_all_lists = (mSeq s_law_all_lists_1 (mSeq s_law_all_lists_2 (mSeq s_law_all_lists_3 mNx))) := rfl
def s_law_due_k49_1 : MS := (mSetO 1 (mX mDNewN))
def s_law_due_k49_2 : MS := (mSet 2 (mX (mC .none)))
def s_law_due_k49_3b_1 : MS := (mSet 4 (mX (mBin gAdd (mOp gMax (mCons (mVar 3) mNil)) (mC (.int 1)))))
def s_law_due_k49_3b_2t_1 : MS := (mSet 5 (mX (mC (.bool false))))
def s_law_due_k49_3b_2t_2b_1 : MS := (mSet 7 (mX (mOp gTuple (mCons (mLc [8, 9] (iEnumM (mVar 3)) (gtT (gtCons (gtN 8) (gtCons (gtN 9) gtNil))) (mBinB (gp pEq) (mVar 9) (mVar 6)) (mVar 8)) mNil))))
def s_law_due_k49_3b_2t_2b_2 : MS := (mIfS (mXB (mBrB 1 (mBinB (gp pNNotIn) (mVar 7) (mSee 1)))) (mSeq (mSetN 1 (mNot (mCall m_law_level_rings (cCons (mVar 0) (cCons (mVar 3) (cCons (mVar 6) cNil))))) (mVar 7)) mNx) mNx)
def s_law_due_k49_3b_2t_2b_3 : MS := (mSet 5 (mX (mOr (mVar 5) (mNot (mNGetO 1 (mVar 7))))))
abbrev s_law_due_k49_3b_2t_2b : MS := (mSeq s_law_due_k49_3b_2t_2b_1 (mSeq s_law_due_k49_3b_2t_2b_2 (mSeq s_law_due_k49_3b_2t_2b_3 mNx)))
def s_law_due_k49_3b_2t_2 : MS := (mFor [6] (mXI (iRng (mCons (mVar 4) mNil))) (gtN 6) s_law_due_k49_3b_2t_2b)
def s_law_due_k49_3b_2t_3 : MS := (mIfS (mXB (mNotB (mTru (mVar 5)))) (mSeq (mSet 2 (mX (mVar 3))) mNx) mNx)
abbrev s_law_due_k49_3b_2t : MS := (mSeq s_law_due_k49_3b_2t_1 (mSeq s_law_due_k49_3b_2t_2 (mSeq s_law_due_k49_3b_2t_3 mNx)))
def s_law_due_k49_3b_2 : MS := (mIfS (mXB (mOrB (mBinB (gp pIsN) (mVar 2) (mC .none)) (mBinB gLt (mVar 4) (mBin gAdd (mOp gMax (mCons (mVar 2) mNil)) (mC (.int 1)))))) s_law_due_k49_3b_2t mNx)
abbrev s_law_due_k49_3b : MS := (mSeq s_law_due_k49_3b_1 (mSeq s_law_due_k49_3b_2 mNx))
def s_law_due_k49_3 : MS := (mFor [3] (mXI (iSeq (mCall m_law_all_lists (cCons (mOp gLen (mCons (mVar 0) mNil)) cNil)))) (gtN 3) s_law_due_k49_3b)
def s_law_due_k49_4 : MS := (mRet (mX (mVar 2)))
theorem pieces_law_due_k49 : b_law_due_k49 = (mSeq s_law_due_k49_1 (mSeq s_law_due_k49_2 (mSeq s_law_due_k49_3 (mSeq s_law_due_k49_4 mNx)))) := rfl
def s_law_k49_1b_1 : MS := (mSetO 2 (mX (mCall m_law_tape (cIo 0 (cCons (mVar 1) cNil)))))
def s_law_k49_1b_2 : MS := (mSet 3 (mX (mCall m_law_table (cIo 2 (cCons (mCall m_law_many_k46 (cIo 2 cNil)) cNil)))))
def s_law_k49_1b_3 : MS := (mSet 4 (mX (mOp (gp pRepr) (mCons (mVar 3) mNil))))
def s_law_k49_1b_4 : MS := (mSet 5 (mX (mCall m_law_due_k49 (cCons (mVar 3) cNil))))
def s_law_k49_1b_5 : MS := (mSetO 6 (mX (mCall m_least_levels (cCons (mVar 3) cNil))))
def s_law_k49_1b_6 : MS := (mIfS (mXB (mOrB (mBrB 6 (mNotB (mTru (mLook (m_law_same 60) (cSee (mSee 6) (cSee (mVar 5) cNil)))))) (mOrB (mBinB (gp pNe) (mOp (gp pRepr) (mCons (mVar 3) mNil)) (mVar 4)) (mBrB 6 (mBinB (gp pNotIsB) (mLook m_shows_levels (cSee (mVar 3) (cSee (mSee 6) cNil))) (mC (.bool true))))))) (mSeq (mRet (mX (mC (.bool false)))) mNx) mNx)
def s_law_k49_1b_7 : MS := (mDo (mX (mMut 6 gAppend (mCons (mC (.int 0)) mNil))))
def s_law_k49_1b_8 : MS := (mIfS (mXB (mNotB (mTru (mCall (m_law_same 60) (cCons (mCall m_least_levels (cCons (mVar 3) cNil)) (cCons (mVar 5) cNil)))))) (mSeq (mRet (mX (mC (.bool false)))) mNx) mNx)
abbrev s_law_k49_1b : MS := (mSeq s_law_k49_1b_1 (mSeq s_law_k49_1b_2 (mSeq s_law_k49_1b_3 (mSeq s_law_k49_1b_4 (mSeq s_law_k49_1b_5 (mSeq s_law_k49_1b_6 (mSeq s_law_k49_1b_7 (mSeq s_law_k49_1b_8 mNx))))))))
def s_law_k49_1 : MS := (mFor [1] (mXI (iRng (mCons (mBr 0 (mBin gAdd (mC (.int 1)) (mOp (gp pMin2) (mCons (mC (.int 6)) (mCons (mOp gLen (mCons (mSee 0) mNil)) mNil))))) mNil))) (gtN 1) s_law_k49_1b)
def s_law_k49_2 : MS := (mRet (mX (mC (.bool true))))
theorem pieces_law_k49 : b_law_k49 = (mSeq s_law_k49_1 (mSeq s_law_k49_2 mNx)) := rfl
end La

namespace La
open PySem PySem.Spec PyProof.Rows L2 Tl
/-- how many numbers -/
def mxL (s : List Nat) : Nat := s.foldl (fun m x => max m (x + 1)) 0
theorem mxL_snoc (s : List Nat) (l : Nat) : mxL (s ++ [l]) = max (mxL s) (l + 1) := by simp [mxL, List.foldl_append]
def stepL (s : List Nat) : List (List Nat) := (List.range (mxL s + 1)).map fun l => s ++ [l]
def extL : Nat → List Nat → List (List Nat)
  | 0, s => [s]
  | k + 1, s => (stepL s).flatMap (extL k)
theorem extL_step (k : Nat) : ∀ s, (extL k s).flatMap stepL = extL (k + 1) s := by
  induction k with
  | zero =>
    intro s
    show [s].flatMap stepL = (stepL s).flatMap (extL 0)
    have : (stepL s).flatMap (extL 0) = stepL s := by
      show (stepL s).flatMap (fun t => [t]) = stepL s
      rw [List.flatMap_singleton']
    rw [this]
    simp
  | succ k ih =>
    intro s
    show ((stepL s).flatMap (extL k)).flatMap stepL = (stepL s).flatMap (extL (k + 1))
    rw [List.flatMap_assoc]
    congr 1
    funext t
    exact ih t
theorem mxL_le (s : List Nat) (l : Nat) : mxL s ≤ mxL (s ++ [l]) := by
  rw [mxL_snoc]
  exact Nat.le_max_left _ _
/-- what an extension keeps -/
theorem extL_mem {k : Nat} : ∀ {s t : List Nat}, t ∈ extL k s → t.length = s.length + k ∧ mxL s ≤ mxL t ∧ ∃ u, t = s ++ u := by
  induction k with
  | zero =>
    intro s t m
    rw [List.mem_singleton.mp m]
    exact ⟨rfl, Nat.le_refl _, [], by simp⟩
  | succ k ih =>
    intro s t m
    obtain ⟨r, mr, mt⟩ := List.mem_flatMap.mp (show t ∈ (stepL s).flatMap (extL k) from m)
    obtain ⟨l, ml, rfl⟩ := List.mem_map.mp mr
    obtain ⟨h1, h2, u, h3⟩ := ih mt
    refine ⟨by rw [h1, List.length_append]; simp; omega, Nat.le_trans (mxL_le s l) h2, l :: u, by rw [h3]; simp⟩
/-- all numbers stand there -/
def FullL (s : List Nat) : Prop := (∀ x ∈ s, x < mxL s) ∧ ∀ x, x < mxL s → x ∈ s
theorem full_snoc {s : List Nat} (h : FullL s) {l : Nat} (hl : l < mxL s + 1) : FullL (s ++ [l]) := by
  obtain ⟨h1, h2⟩ := h
  have e := mxL_snoc s l
  refine ⟨fun x m => ?_, fun x hx => ?_⟩
  · rw [e]
    rcases List.mem_append.mp m with m | m
    · have := h1 x m
      omega
    · rw [List.mem_singleton.mp m]
      omega
  · rw [e] at hx
    by_cases q : x < mxL s
    · exact List.mem_append_left _ (h2 x q)
    · have : x = l := by omega
      rw [this]
      simp
theorem extL_full {k : Nat} : ∀ {s t : List Nat}, FullL s → t ∈ extL k s → FullL t := by
  induction k with
  | zero =>
    intro s t h m
    rw [List.mem_singleton.mp m]
    exact h
  | succ k ih =>
    intro s t h m
    obtain ⟨r, mr, mt⟩ := List.mem_flatMap.mp (show t ∈ (stepL s).flatMap (extL k) from m)
    obtain ⟨l, ml, rfl⟩ := List.mem_map.mp mr
    exact ih (full_snoc h (List.mem_range.mp ml)) mt
theorem full_nil : FullL [] := ⟨fun _ m => (nomatch m), fun x h => by simp [mxL] at h⟩
section
variable {n : Nat} {Tb : Nat → Nat → Nat}
theorem lvE_snoc (s : List Nat) (l l' : Nat) : lvE n Tb (s ++ [l]) l' = lvE n Tb s l' ++ if l = l' then folE n Tb s.length else [] := by
  unfold lvE
  have hl : (s ++ [l]).length = s.length + 1 := by simp
  have e : lvK n Tb (s ++ [l]) l' s.length = lvK n Tb s l' s.length := by
    unfold lvK
    congr 1
    refine List.filter_congr fun g mg => ?_
    have := List.mem_range.mp mg
    rw [List.getElem?_append_left this]
  rw [hl, lvK_succ (by omega), e]
  congr 1
  have : (s ++ [l])[s.length] = l := by simp
  rw [this]
theorem riB_iff {E : List Pr2} : riB E = true ↔ Ri E := by
  unfold riB
  simp
theorem ri_mono {E E' : List Pr2} (s : ∀ e ∈ E, e ∈ E') (h : Ri E) : Ri E' := by
  obtain ⟨F, ne, hF⟩ := h
  exact ⟨F, ne, fun e m => ⟨s e (hF e m).1, (hF e m).2⟩⟩
/-- no level has a ring -/
def NoR (n : Nat) (Tb : Nat → Nat → Nat) (s : List Nat) : Prop := ∀ l, riB (lvE n Tb s l) = false
theorem noR_snoc (s : List Nat) (l : Nat) : NoR n Tb (s ++ [l]) ↔ NoR n Tb s ∧ riB (lvE n Tb (s ++ [l]) l) = false := by
  constructor
  · intro h
    refine ⟨fun l' => ?_, h l⟩
    have := h l'
    cases q : riB (lvE n Tb s l') with
    | false => rfl
    | true =>
      have := riB_iff.mpr (ri_mono (E' := lvE n Tb (s ++ [l]) l') (fun e m => by rw [lvE_snoc]; exact List.mem_append_left _ m) (riB_iff.mp q))
      rw [h l'] at this
      cases this
  · rintro ⟨h1, h2⟩ l'
    by_cases q : l = l'
    · subst q
      exact h2
    · rw [lvE_snoc, if_neg q, List.append_nil]
      exact h1 l'
theorem noR_app : ∀ {u s : List Nat}, NoR n Tb (s ++ u) → NoR n Tb s
  | [], s, h => by
    rw [List.append_nil] at h
    exact h
  | l :: u, s, h => by
    have e : s ++ l :: u = (s ++ [l]) ++ u := by simp
    rw [e] at h
    exact ((noR_snoc _ _).mp (noR_app h)).1
open Classical in
/-- a list with so many numbers and no ring -/
noncomputable def goodB (n : Nat) (Tb : Nat → Nat → Nat) (m : Nat) (t : List Nat) : Bool := decide (mxL t = m) && decide (NoR n Tb t)
theorem goodB_iff {m : Nat} {t : List Nat} : goodB n Tb m t = true ↔ mxL t = m ∧ NoR n Tb t := by
  unfold goodB
  simp
/-- what filled_levels tells -/
noncomputable def fillF (n : Nat) (Tb : Nat → Nat → Nat) (m : Nat) : Nat → List Nat → Option (List Nat)
  | 0, s => if mxL s = m then some s else none
  | k + 1, s => (List.range (min (mxL s + 1) m)).findSome? fun l => if riB (lvE n Tb (s ++ [l]) l) = true then none else fillF n Tb m k (s ++ [l])
theorem findSome_congr {α β : Type} {f g : α → Option β} : ∀ {l : List α}, (∀ a ∈ l, f a = g a) → l.findSome? f = l.findSome? g
  | [], _ => rfl
  | a :: l, h => by
    rw [List.findSome?_cons, List.findSome?_cons, h a List.mem_cons_self, findSome_congr fun b m => h b (List.mem_cons_of_mem _ m)]
theorem findSome_none {α β : Type} {f : α → Option β} : ∀ {l : List α}, (∀ a ∈ l, f a = none) → l.findSome? f = none
  | [], _ => rfl
  | a :: l, h => by
    rw [List.findSome?_cons, h a List.mem_cons_self, findSome_none fun b m => h b (List.mem_cons_of_mem _ m)]
theorem fill_find (m : Nat) : ∀ (k : Nat) (s : List Nat), NoR n Tb s → fillF n Tb m k s = (extL k s).find? (goodB n Tb m)
  | 0, s, h => by
    show (if mxL s = m then some s else none) = [s].find? (goodB n Tb m)
    by_cases q : mxL s = m
    · have : goodB n Tb m s = true := goodB_iff.mpr ⟨q, h⟩
      simp [q, this]
    · have : goodB n Tb m s = false := by
        cases z : goodB n Tb m s with
        | false => rfl
        | true => exact absurd (goodB_iff.mp z).1 q
      simp [q, this]
  | k + 1, s, h => by
    show (List.range (min (mxL s + 1) m)).findSome? _ = ((stepL s).flatMap (extL k)).find? (goodB n Tb m)
    have e1 : ((stepL s).flatMap (extL k)).find? (goodB n Tb m) = (List.range (mxL s + 1)).findSome? fun l => (extL k (s ++ [l])).find? (goodB n Tb m) := by
      unfold stepL
      rw [List.find?_flatMap, List.findSome?_map]
      rfl
    have e2 : ∀ l, (if riB (lvE n Tb (s ++ [l]) l) = true then none else fillF n Tb m k (s ++ [l])) = (extL k (s ++ [l])).find? (goodB n Tb m) := fun l => by
      by_cases q : riB (lvE n Tb (s ++ [l]) l) = true
      · rw [if_pos q]
        refine (List.find?_eq_none.mpr fun t mt hg => ?_).symm
        obtain ⟨_, _, u, rfl⟩ := extL_mem mt
        have := ((noR_snoc s l).mp (noR_app (goodB_iff.mp hg).2)).2
        rw [this] at q
        cases q
      · rw [if_neg q]
        exact fill_find m k (s ++ [l]) ((noR_snoc s l).mpr ⟨h, by simpa using q⟩)
    rw [e1]
    have e3 : (List.range (min (mxL s + 1) m)).findSome? (fun l => if riB (lvE n Tb (s ++ [l]) l) = true then none else fillF n Tb m k (s ++ [l])) = (List.range (min (mxL s + 1) m)).findSome? fun l => (extL k (s ++ [l])).find? (goodB n Tb m) := findSome_congr fun l _ => e2 l
    rw [e3]
    by_cases q : mxL s + 1 ≤ m
    · rw [Nat.min_eq_left q]
    · have hm : min (mxL s + 1) m = m := Nat.min_eq_right (by omega)
      have er : List.range (mxL s + 1) = List.range m ++ (List.range (mxL s + 1 - m)).map (m + ·) := by
        have e0 : mxL s + 1 = m + (mxL s + 1 - m) := by omega
        conv => lhs; rw [e0]
        exact List.range_add
      rw [hm, er, List.findSome?_append]
      have : ((List.range (mxL s + 1 - m)).map (m + ·)).findSome? (fun l => (extL k (s ++ [l])).find? (goodB n Tb m)) = none := findSome_none fun l ml => by
        obtain ⟨d, _, rfl⟩ := List.mem_map.mp ml
        refine List.find?_eq_none.mpr fun t mt hg => ?_
        have h1 := (extL_mem mt).2.1
        rw [mxL_snoc] at h1
        have h2 := (goodB_iff.mp hg).1
        omega
      rw [this, Option.or_none]
/-- all lists of n levels -/
def allL (n : Nat) : List (List Nat) := extL n []
/-- the best of lists: the first of the fewest -/
noncomputable def bestL (n : Nat) (Tb : Nat → Nat → Nat) : Option (List Nat) → List (List Nat) → Option (List Nat) := fun b ls => ls.foldl (fun b t => open Classical in if (b = none ∨ ∃ c, b = some c ∧ mxL t < mxL c) ∧ NoR n Tb t then some t else b) b
theorem best_inv {ls : List (List Nat)} : (bestL n Tb none ls = none ∧ ∀ t ∈ ls, ¬ NoR n Tb t) ∨ ∃ b, bestL n Tb none ls = some b ∧ ls.find? (goodB n Tb (mxL b)) = some b ∧ ∀ t ∈ ls, NoR n Tb t → mxL b ≤ mxL t := by
  have key : ∀ (k : Nat), k ≤ ls.length → (bestL n Tb none (ls.take k) = none ∧ ∀ t ∈ ls.take k, ¬ NoR n Tb t) ∨ ∃ b, bestL n Tb none (ls.take k) = some b ∧ (ls.take k).find? (goodB n Tb (mxL b)) = some b ∧ ∀ t ∈ ls.take k, NoR n Tb t → mxL b ≤ mxL t := by
    intro k
    induction k with
    | zero => exact fun _ => .inl ⟨by simp [bestL], fun t m => by simp at m⟩
    | succ k ih =>
      intro hk
      have hk' : k < ls.length := by omega
      have e : ls.take (k + 1) = ls.take k ++ [ls[k]] := by rw [List.take_succ_eq_append_getElem hk']
      generalize ls.take k = P at *
      generalize ls[k] = t at *
      rw [e]
      have eb : bestL n Tb none (P ++ [t]) = (open Classical in if (bestL n Tb none P = none ∨ ∃ c, bestL n Tb none P = some c ∧ mxL t < mxL c) ∧ NoR n Tb t then some t else bestL n Tb none P) := by
        show (P ++ [t]).foldl _ none = _
        rw [List.foldl_append]
        rfl
      rw [eb]
      rcases ih (by omega) with ⟨h1, h2⟩ | ⟨b, h1, h2, h3⟩
      · rw [h1]
        by_cases q : NoR n Tb t
        · refine .inr ⟨t, by rw [if_pos ⟨.inl rfl, q⟩], ?_, fun u mu hu => ?_⟩
          · rw [List.find?_append]
            have : P.find? (goodB n Tb (mxL t)) = none := List.find?_eq_none.mpr fun u mu hu => h2 u mu (goodB_iff.mp hu).2
            rw [this]
            have g : goodB n Tb (mxL t) t = true := goodB_iff.mpr ⟨rfl, q⟩
            simp [g]
          · rcases List.mem_append.mp mu with mu | mu
            · exact absurd hu (h2 u mu)
            · rw [List.mem_singleton.mp mu]
              exact Nat.le_refl _
        · refine .inl ⟨by rw [if_neg fun z => q z.2], fun u mu => ?_⟩
          rcases List.mem_append.mp mu with mu | mu
          · exact h2 u mu
          · rw [List.mem_singleton.mp mu]
            exact q
      · rw [h1]
        by_cases q : NoR n Tb t ∧ mxL t < mxL b
        · refine .inr ⟨t, by rw [if_pos ⟨.inr ⟨b, rfl, q.2⟩, q.1⟩], ?_, fun u mu hu => ?_⟩
          · rw [List.find?_append]
            have : P.find? (goodB n Tb (mxL t)) = none := List.find?_eq_none.mpr fun u mu hu => by
              have g := goodB_iff.mp hu
              have := h3 u mu g.2
              have := g.1
              omega
            rw [this]
            have g : goodB n Tb (mxL t) t = true := goodB_iff.mpr ⟨rfl, q.1⟩
            simp [g]
          · rcases List.mem_append.mp mu with mu | mu
            · have := h3 u mu hu
              omega
            · rw [List.mem_singleton.mp mu]
              exact Nat.le_refl _
        · refine .inr ⟨b, ?_, ?_, fun u mu hu => ?_⟩
          · rw [if_neg fun z => ?_]
            rcases z.1 with z1 | ⟨c, z1, z2⟩
            · cases z1
            · cases z1
              exact q ⟨z.2, z2⟩
          · rw [List.find?_append, h2]
            rfl
          · rcases List.mem_append.mp mu with mu | mu
            · exact h3 u mu hu
            · rw [List.mem_singleton.mp mu] at hu ⊢
              by_cases z : mxL t < mxL b
              · exact absurd ⟨hu, z⟩ q
              · omega
  have := key ls.length (Nat.le_refl _)
  rw [List.take_length] at this
  exact this
/-- filled_levels, most by most -/
noncomputable def tryF (n : Nat) (Tb : Nat → Nat → Nat) (m : Nat) : Option (List Nat) := fillF n Tb m n []
theorem noR_nil : NoR n Tb [] := fun l => by
  cases q : riB (lvE n Tb [] l) with
  | false => rfl
  | true =>
    obtain ⟨F, ne, hF⟩ := riB_iff.mp q
    cases F with
    | nil => exact absurd rfl ne
    | cons e F =>
      have := (hF e List.mem_cons_self).1
      simp [lvE, lvK] at this
theorem tryF_eq (m : Nat) : tryF n Tb m = (allL n).find? (goodB n Tb m) := fill_find m n [] noR_nil
/-- the first m for which filled_levels tells a list tells the best one -/
theorem least_best {b : List Nat} (hb : bestL n Tb none (allL n) = some b) : tryF n Tb (mxL b) = some b ∧ ∀ m, m < mxL b → tryF n Tb m = none := by
  rcases best_inv (n := n) (Tb := Tb) (ls := allL n) with ⟨h1, _⟩ | ⟨c, h1, h2, h3⟩
  · rw [hb] at h1
    cases h1
  · rw [hb] at h1
    cases h1
    refine ⟨by rw [tryF_eq]; exact h2, fun m hm => ?_⟩
    rw [tryF_eq]
    refine List.find?_eq_none.mpr fun t mt hg => ?_
    have g := goodB_iff.mp hg
    have := h3 t mt g.2
    have := g.1
    omega
end
end La

namespace La
open PySem PySem.Spec PyProof.Rows L2 Tl
theorem mxL_range (a : Nat) : mxL (List.range a) = a := by
  induction a with
  | zero => rfl
  | succ a ih =>
    rw [List.range_succ, mxL_snoc, ih]
    omega
theorem range_ext : ∀ (k a : Nat), List.range (a + k) ∈ extL k (List.range a)
  | 0, a => List.mem_singleton.mpr rfl
  | k + 1, a => by
    refine List.mem_flatMap.mpr ⟨List.range (a + 1), ?_, ?_⟩
    · refine List.mem_map.mpr ⟨a, List.mem_range.mpr (by rw [mxL_range]; omega), ?_⟩
      rw [List.range_succ]
    · have := range_ext k (a + 1)
      rw [show a + 1 + k = a + (k + 1) by omega] at this
      exact this
section
variable {n : Nat} {Tb : Nat → Nat → Nat}
theorem natL_nats (Q : List Nat) : natL (Q.map natD) = Q := by
  unfold natL
  rw [List.map_map]
  exact (List.map_congr_left fun i _ => rfl).trans (List.map_id _)
theorem numL_full {s : List Nat} (h : FullL s) : numL (s.map natD) = upto (mxL s) := by
  unfold numL
  rw [List.map_map]
  show sset (s.map fun i : Nat => (i : Int)) = upto (mxL s)
  have up : (upto (mxL s)).Pairwise (· < ·) := by
    unfold upto
    rw [List.pairwise_map]
    exact List.pairwise_lt_range.imp fun h => by omega
  refine sortedL_uniq48 (sset_up _) up fun k => ?_
  rw [sset_mem]
  unfold upto
  constructor
  · intro m
    obtain ⟨x, mx, rfl⟩ := List.mem_map.mp m
    exact List.mem_map_of_mem (List.mem_range.mpr (h.1 x mx))
  · intro m
    obtain ⟨x, mx, rfl⟩ := List.mem_map.mp m
    exact List.mem_map_of_mem (h.2 x (List.mem_range.mp mx))
theorem full_range (a : Nat) : FullL (List.range a) := by
  refine ⟨fun x m => ?_, fun x h => ?_⟩
  · rw [mxL_range]
    exact List.mem_range.mp m
  · rw [mxL_range] at h
    exact List.mem_range.mpr h
theorem noR_range (h1 : 1 ≤ n) (hT : ∀ x, x < n → ∀ c, c < n → Tb x c < n) (ok : ∀ g, g < n → okG (fun y => Tb y g) n g) : NoR n Tb (List.range n) := by
  have h := own48 h1 hT ok
  rw [dueL_list, rangeD_nat, natL_nats, numL_full (full_range n), mxL_range, upto_len] at h
  simp only [Bool.and_eq_true, Bool.not_eq_true', List.any_eq_false] at h
  intro l
  by_cases q : l < n
  · have := h.2 l (List.mem_range.mpr q)
    simpa using this
  · cases z : riB (lvE n Tb (List.range n) l) with
    | false => rfl
    | true =>
      obtain ⟨F, ne, hF⟩ := riB_iff.mp z
      have : lvE n Tb (List.range n) l = [] := by
        unfold lvE lvK
        have : ((List.range (List.range n).length).filter fun g => decide ((List.range n)[g]? = some l)) = [] := List.filter_eq_nil_iff.mpr fun g mg => by
          have := List.mem_range.mp mg
          rw [List.length_range] at this
          rw [List.getElem?_range this]
          simp
          omega
        rw [this]
        rfl
      cases F with
      | nil => exact absurd rfl ne
      | cons e F =>
        have m := (hF e List.mem_cons_self).1
        rw [this] at m
        cases m
theorem best_some (h1 : 1 ≤ n) (hT : ∀ x, x < n → ∀ c, c < n → Tb x c < n) (ok : ∀ g, g < n → okG (fun y => Tb y g) n g) : ∃ b, bestL n Tb none (allL n) = some b ∧ b.length = n ∧ FullL b ∧ NoR n Tb b ∧ 1 ≤ mxL b ∧ mxL b ≤ n := by
  have mr : List.range n ∈ allL n := by
    have := range_ext n 0
    rw [Nat.zero_add] at this
    exact this
  have nr := noR_range h1 hT ok
  rcases best_inv (n := n) (Tb := Tb) (ls := allL n) with ⟨_, h2⟩ | ⟨b, e, h2, h3⟩
  · exact absurd nr (h2 _ mr)
  · have mb := List.mem_of_find?_eq_some h2
    have gb := goodB_iff.mp (List.find?_some h2)
    have l := (extL_mem mb).1
    have f := extL_full full_nil mb
    rw [List.length_nil, Nat.zero_add] at l
    refine ⟨b, e, l, f, gb.2, ?_, ?_⟩
    · cases b with
      | nil => simp at l; omega
      | cons x b =>
        have := f.1 x List.mem_cons_self
        omega
    · have := h3 _ mr nr
      rw [mxL_range] at this
      exact this
theorem due_best {b : List Nat} (hl : b.length = n) (f : FullL b) (r : NoR n Tb b) : dueL n Tb (.list (b.map natD)) = true := by
  have e1 := numL_full f
  have e2 : numL (b.map natD) = upto (numL (b.map natD)).length := by
    rw [e1, upto_len]
  have l1 : (b.map natD).length = n := by rw [List.length_map, hl]
  have nn : (b.map natD).all nnB = true := List.all_eq_true.mpr fun d m => by
    obtain ⟨i, _, rfl⟩ := List.mem_map.mp m
    simp [nnB, natD]
  have hou := num_small l1 nn e2
  rw [dueL_list, natL_nats, decide_eq_true l1, hou, decide_eq_true e2]
  simp only [Bool.true_and, Bool.not_eq_true', List.any_eq_false]
  intro l _
  rw [r l]
  simp
end
end La

namespace La
open PySem PySem.Spec PyProof.Rows L2 Tl
theorem alike49 (s : List Nat) (x : Nat) : okMn ((x :: s).map natD) = true := by
  have pl : ∀ Q : List Nat, PyData.plainAll (Q.map natD) = true ∧ PyData.canLayAll0 (Q.map natD) = true ∧ PyData.depthAll (Q.map natD) = 0 := fun Q => by
    induction Q with
    | nil => exact ⟨rfl, rfl, by simp [PyData.depthAll]⟩
    | cons p Q ih =>
      obtain ⟨a, b, c⟩ := ih
      refine ⟨?_, ?_, ?_⟩
      · rw [List.map_cons, PyData.plainAll, a]
        rfl
      · rw [List.map_cons, PyData.canLayAll0, b]
        rfl
      · rw [List.map_cons, PyData.depthAll, c]
        rfl
  obtain ⟨a, b, c⟩ := pl (x :: s)
  unfold okMn
  rw [a, b, decide_eq_true (show PyData.depthAll ((x :: s).map natD) ≤ 60 by omega), Bool.and_true, Bool.and_true, Bool.and_true, Bool.and_eq_true, List.all_eq_true, List.all_eq_true]
  constructor
  · intro x mx
    obtain ⟨p, _, rfl⟩ := List.mem_map.mp mx
    rw [List.all_eq_true]
    intro y my
    obtain ⟨p', _, rfl⟩ := List.mem_map.mp my
    rfl
  · intro x mx
    obtain ⟨p, _, rfl⟩ := List.mem_map.mp mx
    rfl
theorem foldmax49 (s : List Nat) : ∀ a : Nat, ((s.map fun i : Nat => (i : Int)).foldl max (a : Int)) = ((s.foldl (fun m x => max m (x + 1)) (a + 1) : Nat) : Int) - 1 := by
  induction s with
  | nil => intro a; simp
  | cons x s ih =>
    intro a
    have e1 : max (a : Int) (x : Int) = ((max a x : Nat) : Int) := by omega
    have e2 : max (a + 1) (x + 1) = max a x + 1 := by omega
    rw [List.map_cons, List.foldl_cons, List.foldl_cons, e1, ih, e2]
theorem gmax49 (s : List Nat) : gMaxDf [.vw (.fl (s.map natD)), rd (.int (-1))] = some (rInt ((mxL s : Int) - 1)) := by
  rw [r_gMaxDf _ _ (s.map natD) (-1) rfl rfl]
  cases s with
  | nil => rfl
  | cons x s =>
    have ok := alike49 s x
    show (if okMn ((x :: s).map natD) = true then some (rd (PySem.W.maxD (natD x) (s.map natD))) else none) = _
    rw [if_pos ok]
    have e : s.map natD = (s.map fun i : Nat => (i : Int)).map PyData.int := by rw [List.map_map]; rfl
    rw [e]
    show some (rd (PySem.W.maxD (.int (x : Nat)) _)) = _
    rw [PySem.W.maxD_ints, foldmax49]
    have : mxL (x :: s) = s.foldl (fun m x => max m (x + 1)) (x + 1) := by
      show (x :: s).foldl _ 0 = _
      rw [List.foldl_cons, Nat.zero_max]
    rw [this]
section
variable {n m : Nat} {Tb : Nat → Nat → Nat}
def optF : Option (List Nat) → T
  | none => .leaf .none
  | some t => .fl (t.map natD)
abbrev flS (tab : D) (m u : Nat) (s : List Nat) (x4 : Option D) (τ : Tau) : SS := ⟨[some tab, none, some (natD m), some (natD u), x4, none, none], (1, .fl (s.map natD)) :: τ⟩
def Tl49 (τ : Tau) : Prop := τ = [] ∨ (∃ a, τ = [(5, a)]) ∨ ∃ a b, τ = [(5, a), (6, b)]
theorem fl_turn {tab : D} {s : List Nat} {u l : Nat} {r : MF} {R : Option (List Nat)} {b' : T} {τ : Tau} (hτ : Tl49 τ) (hs : s.length ≤ 100)
    (hp : m_level_pairs [.leaf tab, .leaf (.list ((s ++ [l]).map natD)), .leaf (natD l)] = some (.fl ((lvE n Tb (s ++ [l]) l).map pD2), [.leaf tab, .leaf (.list ((s ++ [l]).map natD)), .leaf (natD l)]))
    (he : (lvE n Tb (s ++ [l]) l).length ≤ 1000) (hr : riB (lvE n Tb (s ++ [l]) l) = false → r [.leaf tab, .fl ((s ++ [l]).map natD), .leaf (natD m)] = some (optF R, [.leaf tab, b', .leaf (natD m)])) :
    ∃ τ', Tl49 τ' ∧ s_filled_levels_3b r (flS tab m u s (some (natD l)) τ) = match (if riB (lvE n Tb (s ++ [l]) l) = true then none else R) with
      | none => some (.nx (flS tab m u s (some (natD l)) τ'))
      | some t => some (.rt (.fl (t.map natD)) (flS tab m u s (some (natD l)) τ')) := by
  have hh := hasRing_ok he
  have ll : (s.map natD).length + [natD l].length ≤ 16000000 := by rw [List.length_map]; simp; omega
  have ea : s.map natD ++ [natD l] = (s ++ [l]).map natD := by simp
  have f1 : s_filled_levels_3b_1 r (flS tab m u s (some (natD l)) τ) = some (.nx (flS tab m u s (some (natD l)) (tset τ 5 (.fl ((s ++ [l]).map natD))))) := by
    rw [← ea]
    unfold flS
    generalize s.map natD = S at *
    rcases hτ with rfl | ⟨a, rfl⟩ | ⟨a, b, rfl⟩
    · simp [s_filled_levels_3b_1] at ll ⊢
      simp [ll]
    · simp [s_filled_levels_3b_1] at ll ⊢
      simp [ll]
    · simp [s_filled_levels_3b_1] at ll ⊢
      simp [ll]
  have hτ2 : tset τ 5 (.fl ((s ++ [l]).map natD)) = [(5, .fl ((s ++ [l]).map natD))] ∨ ∃ b, tset τ 5 (.fl ((s ++ [l]).map natD)) = [(5, .fl ((s ++ [l]).map natD)), (6, b)] := by
    rcases hτ with rfl | ⟨a, rfl⟩ | ⟨a, b, rfl⟩
    · exact .inl rfl
    · exact .inl rfl
    · exact .inr ⟨b, rfl⟩
  generalize tset τ 5 (.fl ((s ++ [l]).map natD)) = τ2 at *
  unfold s_filled_levels_3b
  rw [seq_nx f1]
  unfold flS at *
  generalize s.map natD = S at *
  generalize (s ++ [l]).map natD = M at *
  generalize hE : (lvE n Tb (s ++ [l]) l).map pD2 = E at *
  have nl : natD l = .int (l : Nat) := rfl
  have nm : natD m = .int (m : Nat) := rfl
  cases q : riB (lvE n Tb (s ++ [l]) l) with
  | true =>
    rw [q] at hh
    refine ⟨τ2, ?_, ?_⟩
    · rcases hτ2 with rfl | ⟨b, rfl⟩
      · exact .inr (.inl ⟨_, rfl⟩)
      · exact .inr (.inr ⟨_, b, rfl⟩)
    · rw [if_pos rfl]
      rcases hτ2 with rfl | ⟨b, rfl⟩
      · simp [s_filled_levels_3b_2, hp, hh]
      · simp [s_filled_levels_3b_2, hp, hh]
  | false =>
    rw [q] at hh
    have hr := hr q
    have g1 : s_filled_levels_3b_2t_1 r ⟨[some tab, none, some (natD m), some (natD u), some (natD l), none, none], (1, .fl S) :: τ2⟩ = some (.nx ⟨[some tab, none, some (natD m), some (natD u), some (natD l), none, none], [(1, .fl S), (5, b'), (6, optF R)]⟩) := by
      generalize natD m = MM at *
      generalize natD l = LL at *
      rcases hτ2 with rfl | ⟨b, rfl⟩
      · simp [s_filled_levels_3b_2t_1, hr]
      · simp [s_filled_levels_3b_2t_1, hr]
    have g0 : s_filled_levels_3b_2 r ⟨[some tab, none, some (natD m), some (natD u), some (natD l), none, none], (1, .fl S) :: τ2⟩ = s_filled_levels_3b_2t r ⟨[some tab, none, some (natD m), some (natD u), some (natD l), none, none], (1, .fl S) :: τ2⟩ := by
      generalize hB : s_filled_levels_3b_2t r = B at *
      generalize natD m = MM at *
      generalize natD l = LL at *
      rcases hτ2 with rfl | ⟨b, rfl⟩
      · simp [s_filled_levels_3b_2, hp, hh, hB]
      · simp [s_filled_levels_3b_2, hp, hh, hB]
    rw [if_neg (by simp)]
    cases R with
    | none =>
      refine ⟨[(5, b'), (6, .leaf .none)], .inr (.inr ⟨_, _, rfl⟩), ?_⟩
      have g2 : s_filled_levels_3b_2t_2 r ⟨[some tab, none, some (natD m), some (natD u), some (natD l), none, none], [(1, .fl S), (5, b'), (6, .leaf .none)]⟩ = some (.nx ⟨[some tab, none, some (natD m), some (natD u), some (natD l), none, none], [(1, .fl S), (5, b'), (6, .leaf .none)]⟩) := by
        generalize natD m = MM at *
        generalize natD l = LL at *
        simp [s_filled_levels_3b_2t_2]
      have g : s_filled_levels_3b_2 r ⟨[some tab, none, some (natD m), some (natD u), some (natD l), none, none], (1, .fl S) :: τ2⟩ = some (.nx ⟨[some tab, none, some (natD m), some (natD u), some (natD l), none, none], [(1, .fl S), (5, b'), (6, .leaf .none)]⟩) := by
        rw [g0]
        unfold s_filled_levels_3b_2t
        rw [seq_nx g1]
        have : optF none = .leaf .none := rfl
        rw [this, seq_nx g2]
        rfl
      rw [seq_nx g]
      rfl
    | some t =>
      refine ⟨[(5, b'), (6, .hole)], .inr (.inr ⟨_, _, rfl⟩), ?_⟩
      have g2 : s_filled_levels_3b_2t_2 r ⟨[some tab, none, some (natD m), some (natD u), some (natD l), none, none], [(1, .fl S), (5, b'), (6, .fl (t.map natD))]⟩ = some (.rt (.fl (t.map natD)) ⟨[some tab, none, some (natD m), some (natD u), some (natD l), none, none], [(1, .fl S), (5, b'), (6, .hole)]⟩) := by
        generalize natD m = MM at *
        generalize natD l = LL at *
        generalize t.map natD = TT at *
        simp [s_filled_levels_3b_2t_2]
      have g : s_filled_levels_3b_2 r ⟨[some tab, none, some (natD m), some (natD u), some (natD l), none, none], (1, .fl S) :: τ2⟩ = some (.rt (.fl (t.map natD)) ⟨[some tab, none, some (natD m), some (natD u), some (natD l), none, none], [(1, .fl S), (5, b'), (6, .hole)]⟩) := by
        rw [g0]
        unfold s_filled_levels_3b_2t
        rw [seq_nx g1]
        have : optF (some t) = .fl (t.map natD) := rfl
        rw [this]
        show (mSeq (s_filled_levels_3b_2t_2 r) mNx) _ = _
        show (s_filled_levels_3b_2t_2 r _).bind _ = _
        rw [g2]
        rfl
      show (s_filled_levels_3b_2 r _).bind _ = _
      rw [g]
      rfl
theorem fl_loop {tab : D} {s : List Nat} {u : Nat} {r : MF} {R : Nat → Option (List Nat)} (hs : s.length ≤ 100) : ∀ (ls : List Nat) (x4 : Option D) (τ : Tau), Tl49 τ →
    (∀ l ∈ ls, (m_level_pairs [.leaf tab, .leaf (.list ((s ++ [l]).map natD)), .leaf (natD l)] = some (.fl ((lvE n Tb (s ++ [l]) l).map pD2), [.leaf tab, .leaf (.list ((s ++ [l]).map natD)), .leaf (natD l)])) ∧ (lvE n Tb (s ++ [l]) l).length ≤ 1000 ∧
      (riB (lvE n Tb (s ++ [l]) l) = false → ∃ b', r [.leaf tab, .fl ((s ++ [l]).map natD), .leaf (natD m)] = some (optF (R l), [.leaf tab, b', .leaf (natD m)]))) →
    ∃ y4 τ', Tl49 τ' ∧ forL [4] (gtN 4) (s_filled_levels_3b r) (ls.map natD) (flS tab m u s x4 τ) = match ls.findSome? (fun l => if riB (lvE n Tb (s ++ [l]) l) = true then none else R l) with
      | none => some (.nx (flS tab m u s y4 τ'))
      | some t => some (.rt (.fl (t.map natD)) (flS tab m u s y4 τ'))
  | [], x4, τ, hτ, _ => ⟨x4, τ, hτ, rfl⟩
  | l :: ls, x4, τ, hτ, h => by
    obtain ⟨h1, h2, h3⟩ := h l List.mem_cons_self
    obtain ⟨b', h3⟩ : ∃ b', riB (lvE n Tb (s ++ [l]) l) = false → r [.leaf tab, .fl ((s ++ [l]).map natD), .leaf (natD m)] = some (optF (R l), [.leaf tab, b', .leaf (natD m)]) := by
      cases q : riB (lvE n Tb (s ++ [l]) l) with
      | true => exact ⟨.hole, fun z => by cases z⟩
      | false =>
        obtain ⟨b', e⟩ := h3 q
        exact ⟨b', fun _ => e⟩
    obtain ⟨τ1, hτ1, e⟩ := fl_turn (u := u) hτ hs h1 h2 h3
    have ht : tout [4] τ = τ := by
      rcases hτ with rfl | ⟨a, rfl⟩ | ⟨a, b, rfl⟩ <;> simp
    have eF : forL [4] (gtN 4) (s_filled_levels_3b r) ((l :: ls).map natD) (flS tab m u s x4 τ) = (s_filled_levels_3b r (flS tab m u s (some (natD l)) (tout [4] τ))).bind fun o => match o with
        | .nx s1 => forL [4] (gtN 4) (s_filled_levels_3b r) (ls.map natD) s1
        | .ct s1 => forL [4] (gtN 4) (s_filled_levels_3b r) (ls.map natD) s1
        | .bk s1 => some (.nx s1)
        | .rt t s1 => some (.rt t s1) := rfl
    rw [eF, ht, e, List.findSome?_cons]
    cases q : (if riB (lvE n Tb (s ++ [l]) l) = true then none else R l) with
    | none =>
      obtain ⟨y4, τ', hτ', e'⟩ := fl_loop (R := R) hs ls (some (natD l)) τ1 hτ1 fun l m => h l (List.mem_cons_of_mem _ m)
      exact ⟨y4, τ', hτ', e'⟩
    | some t => exact ⟨some (natD l), τ1, hτ1, rfl⟩
theorem fill_ok (hn : n ≤ 12) (hm : m ≤ 100) (hT : ∀ x, x < n → ∀ c, c < n → Tb x c < n) : ∀ (k j : Nat) (s : List Nat), k < j → s.length + k = n →
    ∃ b', m_filled_levels j [.leaf (tabN n Tb), .fl (s.map natD), .leaf (natD m)] = some (optF (fillF n Tb m k s), [.leaf (tabN n Tb), b', .leaf (natD m)]) := by
  intro k
  induction k with
  | zero =>
    intro j s hj hs
    obtain ⟨j, rfl⟩ : ∃ i, j = i + 1 := ⟨j - 1, by omega⟩
    have el := len_tabN (n := n) (Tb := Tb)
    have gm := gmax49 s
    have ls : (s.map natD).length = n := by rw [List.length_map]; omega
    have f1 : s_filled_levels_1 (m_filled_levels j) ⟨[some (tabN n Tb), none, some (natD m), none, none, none, none], [(1, .fl (s.map natD))]⟩ = some (.nx (flS (tabN n Tb) m (mxL s) s none [])) := by
      unfold flS
      generalize s.map natD = S at *
      generalize tabN n Tb = tab at *
      generalize natD m = MM at *
      have : ((mxL s : Int) - 1 + 1) = (mxL s : Int) := by omega
      simp [s_filled_levels_1, gm, this]
    by_cases q : mxL s = m
    · have f2 : s_filled_levels_2 (m_filled_levels j) (flS (tabN n Tb) m (mxL s) s none []) = some (.rt (.fl (s.map natD)) ⟨[some (tabN n Tb), none, some (natD m), some (natD (mxL s)), none, none, none], [(1, .hole)]⟩) := by
        unfold flS
        generalize s.map natD = S at *
        generalize tabN n Tb = tab at *
        rw [q]
        simp [s_filled_levels_2, el, ls]
      refine ⟨.hole, ?_⟩
      have e : fillF n Tb m 0 s = some s := by
        show (if mxL s = m then some s else none) = _
        rw [if_pos q]
      rw [e]
      show _ = some (T.fl (s.map natD), _)
      unfold flS at f1 f2
      generalize s.map natD = S at *
      generalize tabN n Tb = tab at *
      generalize natD m = MM at *
      simp [m_filled_levels, pieces_filled_levels, f1, f2]
    · have q' : ¬ (mxL s : Int) = (m : Int) := by omega
      have f2 : s_filled_levels_2 (m_filled_levels j) (flS (tabN n Tb) m (mxL s) s none []) = some (.rt (.leaf .none) (flS (tabN n Tb) m (mxL s) s none [])) := by
        unfold flS
        generalize s.map natD = S at *
        generalize tabN n Tb = tab at *
        simp [s_filled_levels_2, el, ls, q']
      refine ⟨.fl (s.map natD), ?_⟩
      have e : fillF n Tb m 0 s = none := by
        show (if mxL s = m then some s else none) = _
        rw [if_neg q]
      rw [e]
      show _ = some (T.leaf .none, _)
      unfold flS at f1 f2
      generalize s.map natD = S at *
      generalize tabN n Tb = tab at *
      generalize natD m = MM at *
      simp [m_filled_levels, pieces_filled_levels, f1, f2]
  | succ k ih =>
    intro j s hj hs
    obtain ⟨j, rfl⟩ : ∃ i, j = i + 1 := ⟨j - 1, by omega⟩
    have el := len_tabN (n := n) (Tb := Tb)
    have gm := gmax49 s
    have ls : (s.map natD).length = s.length := List.length_map _
    have f1 : s_filled_levels_1 (m_filled_levels j) ⟨[some (tabN n Tb), none, some (natD m), none, none, none, none], [(1, .fl (s.map natD))]⟩ = some (.nx (flS (tabN n Tb) m (mxL s) s none [])) := by
      unfold flS
      generalize s.map natD = S at *
      generalize tabN n Tb = tab at *
      generalize natD m = MM at *
      have : ((mxL s : Int) - 1 + 1) = (mxL s : Int) := by omega
      simp [s_filled_levels_1, gm, this]
    have q' : ¬ (s.length : Int) = (n : Int) := by omega
    have f2 : s_filled_levels_2 (m_filled_levels j) (flS (tabN n Tb) m (mxL s) s none []) = some (.nx (flS (tabN n Tb) m (mxL s) s none [])) := by
      unfold flS
      generalize s.map natD = S at *
      generalize tabN n Tb = tab at *
      simp [s_filled_levels_2, el, ls, q']
    obtain ⟨y4, τ', hτ', lp⟩ := fl_loop (m := m) (n := n) (Tb := Tb) (tab := tabN n Tb) (s := s) (u := mxL s) (r := m_filled_levels j) (R := fun l => fillF n Tb m k (s ++ [l])) (by omega) (List.range (min (mxL s + 1) m)) none [] (.inl rfl) fun l _ => by
      have hl : (s ++ [l]).length ≤ n := by rw [List.length_append]; simp; omega
      refine ⟨levelPairs_ok' hn hT hl, by have := lvE_len' (Tb := Tb) (l := l) hn hl; omega, fun _ => ?_⟩
      exact ih j (s ++ [l]) (by omega) (by rw [List.length_append]; simp; omega)
    have eM : (if (m : Int) < (mxL s : Int) + 1 then (m : Int) else (mxL s : Int) + 1) = ((min (mxL s + 1) m : Nat) : Int) := by
      split <;> omega
    have e8 : -8000000 ≤ ((min (mxL s + 1) m : Nat) : Int) ∧ ((min (mxL s + 1) m : Nat) : Int) ≤ 8000000 := by omega
    have f3 : s_filled_levels_3 (m_filled_levels j) (flS (tabN n Tb) m (mxL s) s none []) = forL [4] (gtN 4) (s_filled_levels_3b (m_filled_levels j)) ((List.range (min (mxL s + 1) m)).map natD) (flS (tabN n Tb) m (mxL s) s none []) := by
      rw [← rangeD_nat]
      unfold flS
      generalize s.map natD = S at *
      generalize tabN n Tb = tab at *
      generalize hB : s_filled_levels_3b (m_filled_levels j) = B at *
      generalize min (mxL s + 1) m = M at *
      simp [s_filled_levels_3, hB, eM, e8]
    rw [lp] at f3
    have e : fillF n Tb m (k + 1) s = (List.range (min (mxL s + 1) m)).findSome? fun l => if riB (lvE n Tb (s ++ [l]) l) = true then none else fillF n Tb m k (s ++ [l]) := rfl
    rw [e]
    refine ⟨.fl (s.map natD), ?_⟩
    cases q : (List.range (min (mxL s + 1) m)).findSome? (fun l => if riB (lvE n Tb (s ++ [l]) l) = true then none else fillF n Tb m k (s ++ [l])) with
    | none =>
      rw [q] at f3
      have f3 : s_filled_levels_3 (m_filled_levels j) (flS (tabN n Tb) m (mxL s) s none []) = some (.nx (flS (tabN n Tb) m (mxL s) s y4 τ')) := f3
      have f4 : s_filled_levels_4 (m_filled_levels j) (flS (tabN n Tb) m (mxL s) s y4 τ') = some (.rt (.leaf .none) (flS (tabN n Tb) m (mxL s) s y4 τ')) := by
        unfold flS
        generalize s.map natD = S at *
        generalize tabN n Tb = tab at *
        simp [s_filled_levels_4]
      show _ = some (T.leaf .none, _)
      have run : b_filled_levels (m_filled_levels j) ⟨[some (tabN n Tb), none, some (natD m), none, none, none, none], [(1, .fl (s.map natD))]⟩ = some (.rt (.leaf .none) (flS (tabN n Tb) m (mxL s) s y4 τ')) := by
        rw [pieces_filled_levels, seq_nx f1, seq_nx f2, seq_nx f3]
        show (s_filled_levels_4 _ _).bind _ = _
        rw [f4]
        rfl
      unfold flS at run
      generalize s.map natD = S at *
      generalize tabN n Tb = tab at *
      generalize natD m = MM at *
      rcases hτ' with rfl | ⟨a, rfl⟩ | ⟨a, b, rfl⟩ <;> simp [m_filled_levels, run]
    | some t =>
      rw [q] at f3
      have f3 : s_filled_levels_3 (m_filled_levels j) (flS (tabN n Tb) m (mxL s) s none []) = some (.rt (.fl (t.map natD)) (flS (tabN n Tb) m (mxL s) s y4 τ')) := f3
      show _ = some (T.fl (t.map natD), _)
      have run : b_filled_levels (m_filled_levels j) ⟨[some (tabN n Tb), none, some (natD m), none, none, none, none], [(1, .fl (s.map natD))]⟩ = some (.rt (.fl (t.map natD)) (flS (tabN n Tb) m (mxL s) s y4 τ')) := by
        rw [pieces_filled_levels, seq_nx f1, seq_nx f2]
        show (s_filled_levels_3 _ _).bind _ = _
        rw [f3]
        rfl
      unfold flS at run
      generalize s.map natD = S at *
      generalize t.map natD = TT at *
      generalize tabN n Tb = tab at *
      generalize natD m = MM at *
      rcases hτ' with rfl | ⟨a, rfl⟩ | ⟨a, b, rfl⟩ <;> simp [m_filled_levels, run]
end
end La

namespace La
open PySem PySem.Spec PyProof.Rows L2 Tl
section
variable {n : Nat} {Tb : Nat → Nat → Nat}
theorem least49_ok (h1 : 1 ≤ n) (hn : n ≤ 12) (hT : ∀ x, x < n → ∀ c, c < n → Tb x c < n) {b : List Nat} (hb : bestL n Tb none (allL n) = some b) (hm : mxL b ≤ n) (hm1 : 1 ≤ mxL b) : m_least_levels [.leaf (tabN n Tb)] = some (.fl (b.map natD), [.leaf (tabN n Tb)]) := by
  obtain ⟨t1, t2⟩ := least_best hb
  have ff := fun m (h : m ≤ 100) => fill_ok (m := m) hn h hT n 60 [] (by omega) (by simp)
  have eT : ∀ m, fillF n Tb m n [] = tryF n Tb m := fun m => rfl
  have f1 : s_least_levels_1 ⟨[some (tabN n Tb), none, none], []⟩ = some (.nx ⟨[some (tabN n Tb), none, none], [(1, .leaf .none)]⟩) := by
    generalize tabN n Tb = tab at *
    simp [s_least_levels_1]
  have f2 : s_least_levels_2 ⟨[some (tabN n Tb), none, none], [(1, .leaf .none)]⟩ = some (.nx ⟨[some (tabN n Tb), none, some (natD 0)], [(1, .leaf .none)]⟩) := by
    generalize tabN n Tb = tab at *
    simp [s_least_levels_2, natD]
  have turn : ∀ (i : Nat) (u : T), i + 1 ≤ 100 → s_least_levels_3b ⟨[some (tabN n Tb), none, some (natD i)], [(1, u)]⟩ = some (.nx ⟨[some (tabN n Tb), none, some (natD (i + 1))], [(1, optF (tryF n Tb (i + 1)))]⟩) := fun i u hi => by
    obtain ⟨b', e⟩ := ff (i + 1) hi
    rw [eT] at e
    have e : m_filled_levels 60 [.leaf (tabN n Tb), .fl [], .leaf (natD (i + 1))] = some (optF (tryF n Tb (i + 1)), [.leaf (tabN n Tb), b', .leaf (natD (i + 1))]) := e
    have g1 : s_least_levels_3b_1 ⟨[some (tabN n Tb), none, some (natD i)], [(1, u)]⟩ = some (.nx ⟨[some (tabN n Tb), none, some (natD (i + 1))], [(1, u)]⟩) := by
      generalize tabN n Tb = tab at *
      have : natD (i + 1) = .int ((i : Int) + 1) := by show PyData.int _ = _; congr 1
      rw [this]
      simp [s_least_levels_3b_1]
    unfold s_least_levels_3b
    rw [seq_nx g1]
    generalize tabN n Tb = tab at *
    generalize natD (i + 1) = N at *
    simp [s_least_levels_3b_2, e]
  have f3 : s_least_levels_3 ⟨[some (tabN n Tb), none, some (natD 0)], [(1, .leaf .none)]⟩ = some (.nx ⟨[some (tabN n Tb), none, some (natD (mxL b))], [(1, .fl (b.map natD))]⟩) := by
    generalize hF : s_least_levels_3 _ = y
    generalize hB : s_least_levels_3b = B at *
    have hF : whL (mXB (mBrB 1 (mBinB (gp pIsN) (mSee 1) (mC .none)))) B whF ⟨[some (tabN n Tb), none, some (natD 0)], [(1, .leaf .none)]⟩ = y := by
      rw [← hF]
      unfold s_least_levels_3
      rw [hB]
      rfl
    obtain ⟨s', rfl, h⟩ := whL_of hF (fun k s => ∃ i, i + k = mxL b + 1 ∧ i ≤ mxL b ∧ s = ⟨[some (tabN n Tb), none, some (natD i)], [(1, optF (if i = 0 then none else tryF n Tb i))]⟩) (fun s => s = ⟨[some (tabN n Tb), none, some (natD (mxL b))], [(1, .fl (b.map natD))]⟩) (mxL b + 1) ⟨0, by omega, by omega, rfl⟩ (by
        have : mxL b + 1 < 100 := by omega
        unfold whF
        omega) (by
      rintro k s ⟨i, hk, hi, rfl⟩
      by_cases q : i = mxL b
      · subst q
        refine .inl ⟨_, ?_, rfl⟩
        have : (if mxL b = 0 then none else tryF n Tb (mxL b)) = some b := by
          rw [if_neg (by omega), t1]
        rw [this]
        show mXB _ ⟨[some (tabN n Tb), none, some (natD (mxL b))], [(1, .fl (b.map natD))]⟩ = _
        generalize tabN n Tb = tab at *
        generalize b.map natD = BD at *
        simp
      · have hu : optF (if i = 0 then none else tryF n Tb i) = .leaf .none := by
          by_cases z : i = 0
          · rw [if_pos z]
            rfl
          · rw [if_neg z, t2 i (by omega)]
            rfl
        rw [hu]
        refine .inr ⟨⟨[some (tabN n Tb), none, some (natD i)], [(1, .leaf .none)]⟩, _, k - 1, ?_, .inl (turn i _ (by omega)), by omega, i + 1, by omega, by omega, by rw [if_neg (by omega)]⟩
        generalize tabN n Tb = tab at *
        simp)
    rw [h]
  have f4 : s_least_levels_4 ⟨[some (tabN n Tb), none, some (natD (mxL b))], [(1, .fl (b.map natD))]⟩ = some (.rt (.fl (b.map natD)) ⟨[some (tabN n Tb), none, some (natD (mxL b))], [(1, .hole)]⟩) := by
    generalize tabN n Tb = tab at *
    generalize b.map natD = BD at *
    simp [s_least_levels_4]
  generalize tabN n Tb = tab at *
  generalize b.map natD = BD at *
  simp [m_least_levels, pieces_least_levels, f1, f2, f3, f4]
end
end La

namespace La
open PySem PySem.Spec PyProof.Rows L2 Tl
theorem extL_mx {k : Nat} : ∀ {s t : List Nat}, t ∈ extL k s → mxL t ≤ mxL s + k := by
  induction k with
  | zero =>
    intro s t m
    rw [List.mem_singleton.mp m]
    exact Nat.le_refl _
  | succ k ih =>
    intro s t m
    obtain ⟨r, mr, mt⟩ := List.mem_flatMap.mp (show t ∈ (stepL s).flatMap (extL k) from m)
    obtain ⟨l, ml, rfl⟩ := List.mem_map.mp mr
    have h := ih mt
    have hl := List.mem_range.mp ml
    rw [mxL_snoc] at h
    omega
theorem allL_succ (k : Nat) : allL (k + 1) = (allL k).flatMap stepL := (extL_step k []).symm
theorem flat_len {α β : Type} (f : α → List β) (c : Nat) : ∀ l : List α, (∀ a ∈ l, (f a).length ≤ c) → (l.flatMap f).length ≤ c * l.length
  | [], _ => Nat.zero_le _
  | a :: l, h => by
    have h1 := h a List.mem_cons_self
    have h2 := flat_len f c l fun b m => h b (List.mem_cons_of_mem _ m)
    rw [List.flatMap_cons, List.length_append, List.length_cons, Nat.mul_add]
    omega
theorem allL_mem {k : Nat} {s : List Nat} (m : s ∈ allL k) : s.length = k ∧ mxL s ≤ k := by
  have h1 := (extL_mem m).1
  have h2 := extL_mx m
  have : mxL ([] : List Nat) = 0 := rfl
  simp at h1
  omega
theorem allL_len : ∀ {k : Nat}, k ≤ 7 → (allL k).length ≤ 7 ^ k
  | 0, _ => by simp [allL, extL]
  | k + 1, h => by
    rw [allL_succ]
    have ih := allL_len (k := k) (by omega)
    have := flat_len stepL 7 (allL k) fun s m => by
      have := (allL_mem m).2
      unfold stepL
      rw [List.length_map, List.length_range]
      omega
    rw [Nat.pow_succ]
    omega
abbrev lD (s : List Nat) : D := .list (s.map natD)
theorem gmaxL49 (s : List Nat) : gMax [.val (.fl (s.map natD ++ [.int (-1)]))] = some (rInt ((mxL s : Int) - 1)) := by
  have e : s.map natD ++ [PyData.int (-1)] = ((s.map fun i : Nat => (i : Int)) ++ [-1]).map PyData.int := by
    rw [List.map_append, List.map_map]
    rfl
  have ei : intsD (s.map natD ++ [PyData.int (-1)]) = some ((s.map fun i : Nat => (i : Int)) ++ [-1]) := by
    rw [e]
    exact intsD_of _
  show (intsD (s.map natD ++ [PyData.int (-1)])).bind (fun ns => ns.max?.map rInt) = _
  rw [ei]
  show (((s.map fun i : Nat => (i : Int)) ++ [-1]).max?).map rInt = _
  have em : ((s.map fun i : Nat => (i : Int)) ++ [-1]).max? = some ((mxL s : Int) - 1) := by
    cases s with
    | nil => rfl
    | cons x s =>
      rw [List.map_cons, List.cons_append, List.max?_cons', List.foldl_append, foldmax49]
      have : mxL (x :: s) = s.foldl (fun m x => max m (x + 1)) (x + 1) := by
        show (x :: s).foldl _ 0 = _
        rw [List.foldl_cons, Nat.zero_max]
      rw [this]
      show some (max _ (-1)) = _
      congr 1
      omega
  rw [em]
  rfl
abbrev alS (n : Nat) (ls : List (List Nat)) (x2 x4 : Option D) (τ : Tau) : SS := ⟨[some (natD n), some (.list (ls.map lD)), x2, none, x4, none], τ⟩
abbrev alR (n : Nat) (ls : List (List Nat)) (x2 x3 x4 : Option D) : SS := ⟨[some (natD n), some (.list (ls.map lD)), x2, x3, x4, none], []⟩
theorem al_turn {n : Nat} {ls : List (List Nat)} {x2 : Option D} {s : List Nat} {acc : List D} (hm : mxL s ≤ 100) (hs : s.length ≤ 100) (ha : acc.length ≤ 10000000) :
    s_law_all_lists_2b_2b (alS n ls x2 (some (lD s)) [(3, .fl acc)]) = some (.nx (alS n ls x2 (some (lD s)) [(3, .fl (acc ++ (stepL s).map lD))])) := by
  have gm := gmaxL49 s
  have l1 : (s.map natD).length = s.length := List.length_map _
  obtain ⟨w, hw⟩ : ∃ w : Int, (mxL s : Int) - 1 = w := ⟨_, rfl⟩
  rw [hw] at gm
  have e8 : -8000000 ≤ w + 2 ∧ w + 2 ≤ 8000000 := by omega
  have eN : (w + 2).toNat = mxL s + 1 := by omega
  have es : (stepL s).map lD = (List.range (mxL s + 1)).map fun l => .list (s.map natD ++ [natD l]) := by
    unfold stepL
    rw [List.map_map]
    refine List.map_congr_left fun l _ => ?_
    show PyData.list ((s ++ [l]).map natD) = _
    rw [List.map_append]
    rfl
  have l2 : ((stepL s).map lD).length = mxL s + 1 := by rw [List.length_map]; unfold stepL; rw [List.length_map, List.length_range]
  rw [es] at l2 ⊢
  unfold s_law_all_lists_2b_2b
  generalize hG : mSeq s_law_all_lists_2b_2b_1 mNx _ = y
  unfold alS lD at *
  generalize s.map natD = S at *
  generalize ls.map (fun s => PyData.list (s.map natD)) = LL at *
  have z1 : S.length + 1 ≤ 16000000 := by omega
  clear hw
  simp [s_law_all_lists_2b_2b_1, z1, gm, e8, eN] at hG
  generalize hC : lcLoop _ _ _ _ _ _ _ _ _ = z at hG
  rw [rangeD_nat] at hC
  obtain rfl := lc_typM hC (fun l => .list (S ++ [natD l])) rfl fun l m => ⟨_, rfl, .val (.fl (S ++ [natD l])), by simp [z1], rfl⟩
  have l3 : acc.length + ((List.range (mxL s + 1)).map fun l => PyData.list (S ++ [natD l])).length ≤ 16000000 := by omega
  rw [List.nil_append] at hG
  generalize (List.range (mxL s + 1)).map (fun l => PyData.list (S ++ [natD l])) = Z at *
  rw [← hG]
  simp [l3]
theorem al_inner {n : Nat} {ls : List (List Nat)} {x2 : Option D} (hm : ∀ s ∈ ls, mxL s ≤ 6 ∧ s.length ≤ 100) (hl : ls.length ≤ 1000000) : ∀ (x4 : Option D), ∃ y4, forL [4] (gtN 4) s_law_all_lists_2b_2b (ls.map lD) (alS n ls x2 x4 [(3, .fl [])]) = some (.nx (alS n ls x2 y4 [(3, .fl ((ls.flatMap stepL).map lD))])) := by
  intro x4
  have key : ∀ (q : List (List Nat)) (acc : List D) (x4 : Option D), (∀ s ∈ q, s ∈ ls) → acc.length + 7 * q.length ≤ 7000000 → ∃ y4, forL [4] (gtN 4) s_law_all_lists_2b_2b (q.map lD) (alS n ls x2 x4 [(3, .fl acc)]) = some (.nx (alS n ls x2 y4 [(3, .fl (acc ++ (q.flatMap stepL).map lD))])) := by
    intro q
    induction q with
    | nil => exact fun acc x4 _ _ => ⟨x4, by show some (Out.nx _) = _; simp⟩
    | cons s q ih =>
      intro acc x4 hq ha
      simp only [List.length_cons] at ha
      have hs := hm s (hq s List.mem_cons_self)
      have t := al_turn (n := n) (ls := ls) (x2 := x2) (s := s) (acc := acc) (by omega) hs.2 (by omega)
      have ll : ((stepL s).map lD).length ≤ 7 := by rw [List.length_map]; unfold stepL; rw [List.length_map, List.length_range]; omega
      obtain ⟨y4, e⟩ := ih (acc ++ (stepL s).map lD) (some (lD s)) (fun s m => hq s (List.mem_cons_of_mem _ m)) (by rw [List.length_append]; omega)
      refine ⟨y4, ?_⟩
      have eF : forL [4] (gtN 4) s_law_all_lists_2b_2b ((s :: q).map lD) (alS n ls x2 x4 [(3, .fl acc)]) = (s_law_all_lists_2b_2b (alS n ls x2 (some (lD s)) [(3, .fl acc)])).bind fun o => match o with
        | .nx s1 => forL [4] (gtN 4) s_law_all_lists_2b_2b (q.map lD) s1
        | .ct s1 => forL [4] (gtN 4) s_law_all_lists_2b_2b (q.map lD) s1
        | .bk s1 => some (.nx s1)
        | .rt t s1 => some (.rt t s1) := rfl
      rw [eF, t]
      show forL [4] (gtN 4) s_law_all_lists_2b_2b (q.map lD) (alS n ls x2 (some (lD s)) [(3, .fl (acc ++ (stepL s).map lD))]) = _
      rw [e, List.flatMap_cons, List.map_append, List.append_assoc]
  obtain ⟨y4, e⟩ := key ls [] x4 (fun _ m => m) (by simp; omega)
  exact ⟨y4, by rw [e]; rfl⟩
theorem all_lists_ok {n : Nat} (hn : n ≤ 7) : m_law_all_lists [.leaf (natD n)] = some (.leaf (.list ((allL n).map lD)), [.leaf (natD n)]) := by
  have e8 : -8000000 ≤ (n : Int) ∧ (n : Int) ≤ 8000000 := by omega
  have f1 : s_law_all_lists_1 ⟨[some (natD n), none, none, none, none, none], []⟩ = some (.nx (alR n (allL 0) none none none)) := by
    show _ = some (Out.nx ⟨[some (natD n), some (.list [.list []]), none, none, none, none], []⟩)
    generalize natD n = N
    simp [s_law_all_lists_1]
  have f2 : ∃ y2 y3 y4, s_law_all_lists_2 (alR n (allL 0) none none none) = some (.nx (alR n (allL n) y2 y3 y4)) := by
    generalize hF : s_law_all_lists_2 _ = y
    generalize hB : s_law_all_lists_2b = B at *
    have hF : forL [2] (gtN 2) B (rangeD 0 1 n) (alR n (allL 0) none none none) = y := by
      rw [← hF]
      unfold alR
      generalize ((allL 0).map lD) = LL
      simp [s_law_all_lists_2, e8, hB]
    obtain ⟨s', rfl, y2, y3, y4, rfl⟩ := for_rng hF (fun k s => ∃ y2 y3 y4, s = alR n (allL k) y2 y3 y4) ⟨none, none, none, rfl⟩ (by
      rintro k s hk ⟨y2, y3, y4, rfl⟩
      have h3 := allL_len (k := k) (by omega)
      have h4 : 7 ^ k ≤ 7 ^ 6 := Nat.pow_le_pow_right (by decide) (by omega)
      have h5 : (7 : Nat) ^ 6 = 117649 := by decide
      obtain ⟨z4, e⟩ := al_inner (n := n) (ls := allL k) (x2 := some (.int k)) (fun s m => by have := allL_mem m; omega) (by omega) y4
      rw [← allL_succ] at e
      refine ⟨_, rfl, alR n (allL (k + 1)) (some (.int k)) (some (.list ((allL (k + 1)).map lD))) z4, .inl ?_, _, _, _, rfl⟩
      subst hB
      show s_law_all_lists_2b ⟨[some (natD n), some (.list ((allL k).map lD)), some (.int k), y3, y4, none], []⟩ = _
      have g1 : s_law_all_lists_2b_1 ⟨[some (natD n), some (.list ((allL k).map lD)), some (.int k), y3, y4, none], []⟩ = some (.nx (alS n (allL k) (some (.int k)) y4 [(3, .fl [])])) := by
        unfold alS
        generalize ((allL k).map lD) = LL
        simp [s_law_all_lists_2b_1]
      have g2 : s_law_all_lists_2b_2 (alS n (allL k) (some (.int k)) y4 [(3, .fl [])]) = some (.nx (alS n (allL k) (some (.int k)) z4 [(3, .fl ((allL (k + 1)).map lD))])) := by
        rw [← e]
        unfold alS
        generalize hL : ((allL k).map lD) = LL at *
        generalize hB : s_law_all_lists_2b_2b = B at *
        simp [s_law_all_lists_2b_2, hB]
      have g3 : s_law_all_lists_2b_3 (alS n (allL k) (some (.int k)) z4 [(3, .fl ((allL (k + 1)).map lD))]) = some (.nx (alR n (allL (k + 1)) (some (.int k)) (some (.list ((allL (k + 1)).map lD))) z4)) := by
        unfold alS alR
        generalize ((allL (k + 1)).map lD) = L2
        generalize ((allL k).map lD) = LL
        simp [s_law_all_lists_2b_3]
      unfold s_law_all_lists_2b
      rw [seq_nx g1, seq_nx g2, seq_nx g3]
      rfl)
    exact ⟨y2, y3, y4, rfl⟩
  obtain ⟨y2, y3, y4, f2⟩ := f2
  have f3 : s_law_all_lists_3 (alR n (allL n) y2 y3 y4) = some (.rt (.leaf (.list ((allL n).map lD))) (alR n (allL n) y2 y3 y4)) := by
    unfold alR
    generalize ((allL n).map lD) = L2
    simp [s_law_all_lists_3]
  unfold alR at *
  generalize ((allL n).map lD) = L2 at *
  generalize ((allL 0).map lD) = L0 at *
  generalize natD n = N at *
  simp [m_law_all_lists, pieces_law_all_lists, f1, f2, f3]
end La

namespace La
open PySem PySem.Spec PyProof.Rows L2 Tl
section
variable {n : Nat} {Tb : Nat → Nat → Nat}
def gkN (G : List Nat) : NK := .tup (G.map fun g : Nat => .num (g : Int))
theorem gk_free (G : List Nat) : tfree (gkN G) = true := by
  show tfreeL (G.map fun g : Nat => NestedKey.num (g : Int)) = true
  induction G with
  | nil => rfl
  | cons g G ih =>
    show (tfree (.num (g : Int)) && tfreeL _) = true
    rw [ih]
    rfl
theorem gk_ok (G : List Nat) : okN (gkN G) = true := by
  have h : tfreeL (G.map fun g : Nat => NestedKey.num (g : Int)) = true := gk_free G
  show (tfreeL (G.map fun g : Nat => NestedKey.num (g : Int)) && decide ((NestedKey.tup (G.map fun g : Nat => NestedKey.num (g : Int))).depth ≤ 8)) = true
  rw [h, Bool.true_and, decide_eq_true_iff]
  have d : NestedKey.depthAll (G.map fun g : Nat => NestedKey.num (g : Int)) ≤ 0 := by
    induction G with
    | nil => simp
    | cons g G ih =>
      have := ih (gk_free G)
      simp [NestedKey.depth] at this ⊢
      exact this
  simp
  omega
theorem gk_key (G : List Nat) : keyN (.tuple (G.map natD)) = some (gkN G) := by
  have e : (gkN G).data = .tuple (G.map natD) := by
    show PyData.tuple (NestedKey.datas (G.map fun g : Nat => NestedKey.num (g : Int))) = _
    congr 1
    induction G with
    | nil => rfl
    | cons g G ih =>
      show natD g :: NestedKey.datas (G.map fun g : Nat => NestedKey.num (g : Int)) = natD g :: G.map natD
      rw [ih]
  rw [← e]
  exact keyN_data (gk_ok G)
theorem num_inj49 : ∀ {G G' : List Nat}, (G.map fun g : Nat => NestedKey.num (g : Int)) = (G'.map fun g : Nat => NestedKey.num (g : Int)) → G = G'
  | [], [], _ => rfl
  | [], _ :: _, h => by cases h
  | _ :: _, [], h => by cases h
  | a :: G, b :: G', h => by
    rw [List.map_cons, List.map_cons] at h
    obtain ⟨h1, h2⟩ := List.cons.inj h
    have := NestedKey.num.inj h1
    rw [num_inj49 h2]
    congr 1
    omega
theorem gk_inj {G G' : List Nat} (h : gkN G = gkN G') : G = G' := num_inj49 (NestedKey.tup.inj h)
/-- the goals of a level -/
def goalsL (t : List Nat) (l : Nat) : List Nat := (List.range t.length).filter fun g => decide (t[g]? = some l)
/-- what the law notes of goals -/
structure Memo (n : Nat) (Tb : Nat → Nat → Nat) (es : List (NK × D)) : Prop where
  val : ∀ k v, valK es k = some v → ∃ G : List Nat, k = gkN G ∧ v = .bool (!riB (G.flatMap (folE n Tb)))
theorem lvE_goals (t : List Nat) (l : Nat) : lvE n Tb t l = (goalsL t l).flatMap (folE n Tb) := rfl
theorem enum49 (t : List Nat) : enumFrom 0 (t.map natD) = (List.range t.length).map fun g => .tuple [.int (g : Nat), natD (t.getD g 0)] := by
  refine List.ext_getElem? fun i => ?_
  rw [enum_get, List.getElem?_map, List.getElem?_map]
  by_cases h : i < t.length
  · rw [List.getElem?_eq_getElem h, List.getElem?_range h]
    simp [List.getD_eq_getElem?_getD, h]
  · rw [List.getElem?_eq_none (by omega), List.getElem?_eq_none (by rw [List.length_range]; omega)]
    rfl
abbrev d49S (tab : D) (best : Option (List Nat)) (t : List Nat) (rg : Bool) (x6 x7 : Option D) (es : List (NK × D)) : SS := ⟨[some tab, none, some (match best with | none => .none | some b => lD b), some (lD t), some (natD (mxL t)), some (.bool rg), x6, x7, none, none], [(1, .dn es)]⟩
theorem du_turn {best : Option (List Nat)} {t : List Nat} {rg : Bool} {l : Nat} {x7 : Option D} {es : List (NK × D)} (hn : n ≤ 12) (hT : ∀ x, x < n → ∀ c, c < n → Tb x c < n) (ht : t.length = n) (me : Memo n Tb es) (he : es.length ≤ 10000000) :
    ∃ x7' es', s_law_due_k49_3b_2t_2b (d49S (tabN n Tb) best t rg (some (natD l)) x7 es) = some (.nx (d49S (tabN n Tb) best t (rg || riB (lvE n Tb t l)) (some (natD l)) x7' es')) ∧ Memo n Tb es' ∧ es'.length ≤ es.length + 1 := by
  have lr := lawLevelRings_ok (l := l) hn hT ht
  have hk := gk_key (goalsL t l)
  have hf := gk_free (goalsL t l)
  have f1 : s_law_due_k49_3b_2t_2b_1 (d49S (tabN n Tb) best t rg (some (natD l)) x7 es) = some (.nx (d49S (tabN n Tb) best t rg (some (natD l)) (some (.tuple ((goalsL t l).map natD))) es)) := by
    generalize hG : s_law_due_k49_3b_2t_2b_1 _ = y
    unfold d49S lD at *
    generalize tabN n Tb = tab at *
    generalize hS : t.map natD = S at *
    generalize (match best with | none => PyData.none | some b => PyData.list (b.map natD)) = BB at *
    simp [s_law_due_k49_3b_2t_2b_1] at hG
    generalize hC : lcLoop _ _ _ _ _ _ _ _ _ = z at hG
    rw [← hS, enum49] at hC
    obtain rfl := lc_typ hC (fun g => decide (t.getD g 0 = l)) natD rfl fun g mg => by
      generalize t.getD g 0 = w
      refine ⟨_, rfl, ?_, fun _ => ⟨rd (natD g), by simp, rfl⟩⟩
      by_cases q : w = l
      · have qi := eq_true (show ((w : Nat) : Int) = l by omega)
        simp [q]
      · have qi := eq_false (show ¬ ((w : Nat) : Int) = l by omega)
        simp [qi, q]
    have eg : (List.range t.length).filter (fun g => decide (t.getD g 0 = l)) = goalsL t l := List.filter_congr fun g mg => by
      have hg := List.mem_range.mp mg
      rw [List.getD_eq_getElem?_getD, List.getElem?_eq_getElem hg]
      simp
    rw [eg, List.nil_append] at hG
    have lg : (goalsL t l).length ≤ 12 := by
      unfold goalsL
      have := List.length_filter_le (fun g => decide (t[g]? = some l)) (List.range t.length)
      rw [List.length_range] at this
      omega
    have lg2 : ((goalsL t l).map natD).length ≤ 16000000 := by rw [List.length_map]; omega
    generalize (goalsL t l).map natD = GG at *
    rw [← hG]
    simp [lg2]
  have hv : ∀ v, valK es (gkN (goalsL t l)) = some v → v = .bool (!riB (lvE n Tb t l)) := fun v e => by
    obtain ⟨G, e1, e2⟩ := me.val _ v e
    rw [lvE_goals, gk_inj e1]
    exact e2
  generalize hgk : gkN (goalsL t l) = key at *
  have f2 : ∃ es', s_law_due_k49_3b_2t_2b_2 (d49S (tabN n Tb) best t rg (some (natD l)) (some (.tuple ((goalsL t l).map natD))) es) = some (.nx (d49S (tabN n Tb) best t rg (some (natD l)) (some (.tuple ((goalsL t l).map natD))) es')) ∧ Memo n Tb es' ∧ es'.length ≤ es.length + 1 ∧ valK es' key = some (.bool (!riB (lvE n Tb t l))) := by
    cases q : valK es key with
    | some v =>
      have ev := hv v q
      refine ⟨es, ?_, me, by omega, by rw [q, ev]⟩
      unfold d49S lD
      generalize (goalsL t l).map natD = GG at *
      generalize tabN n Tb = tab at *
      generalize t.map natD = S at *
      generalize (match best with | none => PyData.none | some b => PyData.list (b.map natD)) = BB at *
      simp [s_law_due_k49_3b_2t_2b_2, hk, hf, q]
    | none =>
      refine ⟨putE es key (.bool (!riB (lvE n Tb t l))), ?_, ⟨fun k v e => ?_⟩, ?_, by rw [valK_put, if_pos rfl]⟩
      · unfold d49S lD
        have he2 : es.length < 16000000 := by omega
        generalize riB (lvE n Tb t l) = rr at *
        generalize (goalsL t l).map natD = GG at *
        generalize tabN n Tb = tab at *
        generalize t.map natD = S at *
        generalize (match best with | none => PyData.none | some b => PyData.list (b.map natD)) = BB at *
        generalize natD l = LL at *
        simp [s_law_due_k49_3b_2t_2b_2, hk, hf, q, lr, he2]
      · rw [valK_put] at e
        by_cases z : k = key
        · rw [if_pos z] at e
          cases e
          exact ⟨goalsL t l, by rw [z, hgk], by rw [lvE_goals]⟩
        · rw [if_neg z] at e
          exact me.val k v e
      · have := putE_keys es key (PyData.bool (!riB (lvE n Tb t l)))
        have h2 := congrArg List.length this
        rw [List.length_map] at h2
        rw [h2]
        split
        · rw [List.length_map]
          omega
        · rw [List.length_append, List.length_map]
          simp
  obtain ⟨es', f2, me', le', hv'⟩ := f2
  have f3 : s_law_due_k49_3b_2t_2b_3 (d49S (tabN n Tb) best t rg (some (natD l)) (some (.tuple ((goalsL t l).map natD))) es') = some (.nx (d49S (tabN n Tb) best t (rg || riB (lvE n Tb t l)) (some (natD l)) (some (.tuple ((goalsL t l).map natD))) es')) := by
    unfold d49S lD
    generalize riB (lvE n Tb t l) = rr at *
    generalize (goalsL t l).map natD = GG at *
    generalize tabN n Tb = tab at *
    generalize t.map natD = S at *
    generalize (match best with | none => PyData.none | some b => PyData.list (b.map natD)) = BB at *
    cases rg <;> simp [s_law_due_k49_3b_2t_2b_3, hk, hf, hv']
  refine ⟨some (.tuple ((goalsL t l).map natD)), es', ?_, me', le'⟩
  unfold s_law_due_k49_3b_2t_2b
  rw [seq_nx f1, seq_nx f2, seq_nx f3]
  rfl
/-- whether one of the first levels has a ring -/
noncomputable def anyR (n : Nat) (Tb : Nat → Nat → Nat) (t : List Nat) : Nat → Bool
  | 0 => false
  | j + 1 => anyR n Tb t j || riB (lvE n Tb t j)
theorem anyR_iff {t : List Nat} : ∀ {j : Nat}, anyR n Tb t j = true ↔ ∃ l, l < j ∧ riB (lvE n Tb t l) = true
  | 0 => ⟨fun h => (by cases h), fun h => (by
    obtain ⟨l, h, _⟩ := h
    exact absurd h (Nat.not_lt_zero _))⟩
  | j + 1 => by
    show (anyR n Tb t j || riB (lvE n Tb t j)) = true ↔ _
    rw [Bool.or_eq_true, anyR_iff (j := j)]
    constructor
    · rintro (⟨l, h, e⟩ | e)
      · exact ⟨l, by omega, e⟩
      · exact ⟨j, by omega, e⟩
    · rintro ⟨l, h, e⟩
      by_cases q : l = j
      · subst q
        exact .inr e
      · exact .inl ⟨l, by omega, e⟩
theorem anyR_noR {t : List Nat} (f : FullL t) : anyR n Tb t (mxL t) = false ↔ NoR n Tb t := by
  constructor
  · intro h l
    cases q : riB (lvE n Tb t l) with
    | false => rfl
    | true =>
      by_cases z : l < mxL t
      · have := anyR_iff.mpr ⟨l, z, q⟩
        rw [h] at this
        cases this
      · have e : lvE n Tb t l = [] := by
          have : goalsL t l = [] := List.filter_eq_nil_iff.mpr fun g mg => by
            have hg := List.mem_range.mp mg
            rw [List.getElem?_eq_getElem hg]
            have := f.1 _ (List.getElem_mem hg)
            simp
            omega
          rw [lvE_goals, this]
          rfl
        obtain ⟨F, ne, hF⟩ := riB_iff.mp q
        cases F with
        | nil => exact absurd rfl ne
        | cons e' F =>
          have := (hF e' List.mem_cons_self).1
          rw [e] at this
          cases this
  · intro h
    cases q : anyR n Tb t (mxL t) with
    | false => rfl
    | true =>
      obtain ⟨l, _, e⟩ := anyR_iff.mp q
      rw [h l] at e
      cases e
theorem du_inner {best : Option (List Nat)} {t : List Nat} {x6 x7 : Option D} {es : List (NK × D)} (hn : n ≤ 12) (hT : ∀ x, x < n → ∀ c, c < n → Tb x c < n) (ht : t.length = n) (hm : mxL t ≤ 12) (me : Memo n Tb es) (he : es.length ≤ 9000000) :
    ∃ x6' x7' es', s_law_due_k49_3b_2t_2 (d49S (tabN n Tb) best t false x6 x7 es) = some (.nx (d49S (tabN n Tb) best t (anyR n Tb t (mxL t)) x6' x7' es')) ∧ Memo n Tb es' ∧ es'.length ≤ es.length + mxL t := by
  generalize hF : s_law_due_k49_3b_2t_2 _ = y
  have e8 : -8000000 ≤ ((mxL t : Nat) : Int) ∧ ((mxL t : Nat) : Int) ≤ 8000000 := by omega
  generalize hB : s_law_due_k49_3b_2t_2b = B at *
  have hF : forL [6] (gtN 6) B (rangeD 0 1 (mxL t)) (d49S (tabN n Tb) best t false x6 x7 es) = y := by
    rw [← hF]
    unfold d49S lD
    generalize tabN n Tb = tab at *
    generalize t.map natD = S at *
    generalize (match best with | none => PyData.none | some b => PyData.list (b.map natD)) = BB at *
    generalize mxL t = M at *
    simp [s_law_due_k49_3b_2t_2, e8, hB]
  obtain ⟨s', rfl, x6', x7', es', rfl, me', le'⟩ := for_rng hF (fun k s => ∃ x6' x7' es', s = d49S (tabN n Tb) best t (anyR n Tb t k) x6' x7' es' ∧ Memo n Tb es' ∧ es'.length ≤ es.length + k) ⟨x6, x7, es, rfl, me, by omega⟩ (by
    rintro k s hk ⟨x6', x7', es', rfl, me', le'⟩
    obtain ⟨x7'', es'', e, me'', le''⟩ := du_turn (best := best) (t := t) (rg := anyR n Tb t k) (l := k) (x7 := x7') hn hT ht me' (by omega)
    subst hB
    refine ⟨_, rfl, _, .inl e, some (natD k), x7'', es'', rfl, me'', by omega⟩)
  exact ⟨x6', x7', es', rfl, me', le'⟩
theorem gmaxA49 {s : List Nat} (hs : s ≠ []) : gMax [rd (lD s)] = some (rInt ((mxL s : Int) - 1)) := by
  have e : lD s = .list ((s.map fun i : Nat => (i : Int)).map PyData.int) := by
    unfold lD
    rw [List.map_map]
    rfl
  rw [e]
  show (intsD ((s.map fun i : Nat => (i : Int)).map PyData.int)).bind (fun ns => ns.max?.map rInt) = _
  rw [intsD_of]
  show ((s.map fun i : Nat => (i : Int)).max?).map rInt = _
  have em : ((s.map fun i : Nat => (i : Int))).max? = some ((mxL s : Int) - 1) := by
    cases s with
    | nil => exact absurd rfl hs
    | cons x s =>
      rw [List.map_cons, List.max?_cons', foldmax49]
      have : mxL (x :: s) = s.foldl (fun m x => max m (x + 1)) (x + 1) := by
        show (x :: s).foldl _ 0 = _
        rw [List.foldl_cons, Nat.zero_max]
      rw [this]
  rw [em]
  rfl
def bD : Option (List Nat) → D
  | none => .none
  | some b => lD b
abbrev d49O (tab : D) (best : Option (List Nat)) (x3 x4 x5 x6 x7 : Option D) (es : List (NK × D)) : SS := ⟨[some tab, none, some (bD best), x3, x4, x5, x6, x7, none, none], [(1, .dn es)]⟩
open Classical in
/-- a step of bestL -/
noncomputable def stepB (n : Nat) (Tb : Nat → Nat → Nat) (b : Option (List Nat)) (t : List Nat) : Option (List Nat) := if (b = none ∨ ∃ c, b = some c ∧ mxL t < mxL c) ∧ NoR n Tb t then some t else b
theorem du_outer {best : Option (List Nat)} {t : List Nat} {x4 x5 x6 x7 : Option D} {es : List (NK × D)} (hn : n ≤ 12) (h1 : 1 ≤ n) (hT : ∀ x, x < n → ∀ c, c < n → Tb x c < n) (ht : t.length = n) (hm : mxL t ≤ 12) (f : FullL t) (hb : ∀ b, best = some b → b ≠ []) (me : Memo n Tb es) (he : es.length ≤ 9000000) :
    ∃ y4 y5 y6 y7 es', s_law_due_k49_3b (d49O (tabN n Tb) best (some (lD t)) x4 x5 x6 x7 es) = some (.nx (d49O (tabN n Tb) (stepB n Tb best t) (some (lD t)) y4 y5 y6 y7 es')) ∧ Memo n Tb es' ∧ es'.length ≤ es.length + mxL t := by
  have ne : t ≠ [] := fun z => by rw [z] at ht; simp at ht; omega
  have g1 := gmaxA49 ne
  have f1 : s_law_due_k49_3b_1 (d49O (tabN n Tb) best (some (lD t)) x4 x5 x6 x7 es) = some (.nx (d49O (tabN n Tb) best (some (lD t)) (some (natD (mxL t))) x5 x6 x7 es)) := by
    unfold d49O
    generalize tabN n Tb = tab at *
    generalize lD t = LT at *
    generalize bD best = BB at *
    have : ((mxL t : Int) - 1 + 1) = (mxL t : Int) := by omega
    simp [s_law_due_k49_3b_1, g1, this]
  have cond : s_law_due_k49_3b_2 (d49O (tabN n Tb) best (some (lD t)) (some (natD (mxL t))) x5 x6 x7 es) = if (best = none ∨ ∃ c, best = some c ∧ mxL t < mxL c) then s_law_due_k49_3b_2t (d49O (tabN n Tb) best (some (lD t)) (some (natD (mxL t))) x5 x6 x7 es) else some (.nx (d49O (tabN n Tb) best (some (lD t)) (some (natD (mxL t))) x5 x6 x7 es)) := by
    unfold d49O
    generalize tabN n Tb = tab at *
    generalize lD t = LT at *
    generalize hB : s_law_due_k49_3b_2t = B at *
    cases best with
    | none =>
      rw [if_pos (.inl rfl)]
      have : bD none = .none := rfl
      rw [this]
      simp [s_law_due_k49_3b_2, hB]
    | some b =>
      have g2 := gmaxA49 (hb b rfl)
      have e1 : ((mxL b : Int) - 1 + 1) = (mxL b : Int) := by omega
      have hl : ∃ ds, lD b = .list ds := ⟨_, rfl⟩
      show s_law_due_k49_3b_2 ⟨[some tab, none, some (lD b), some LT, some (natD (mxL t)), x5, x6, x7, none, none], [(1, .dn es)]⟩ = _
      by_cases q : mxL t < mxL b
      · rw [if_pos (.inr ⟨b, rfl, q⟩)]
        have qi : (mxL t : Int) < (mxL b : Int) := by omega
        show _ = B ⟨[some tab, none, some (lD b), some LT, some (natD (mxL t)), x5, x6, x7, none, none], [(1, .dn es)]⟩
        obtain ⟨ds, hl⟩ := hl
        generalize lD b = LB at *
        subst hl
        simp [s_law_due_k49_3b_2, hB, g2, qi]
      · rw [if_neg (by rintro (z | ⟨c, z, h⟩)
                       · cases z
                       · cases z
                         exact q h)]
        have qi : ¬ (mxL t : Int) < (mxL b : Int) := by omega
        show _ = some (Out.nx ⟨[some tab, none, some (lD b), some LT, some (natD (mxL t)), x5, x6, x7, none, none], [(1, .dn es)]⟩)
        obtain ⟨ds, hl⟩ := hl
        generalize lD b = LB at *
        subst hl
        simp [s_law_due_k49_3b_2, hB, g2, qi]
  by_cases q : (best = none ∨ ∃ c, best = some c ∧ mxL t < mxL c)
  · rw [if_pos q] at cond
    have h1 : s_law_due_k49_3b_2t_1 (d49O (tabN n Tb) best (some (lD t)) (some (natD (mxL t))) x5 x6 x7 es) = some (.nx (d49O (tabN n Tb) best (some (lD t)) (some (natD (mxL t))) (some (.bool false)) x6 x7 es)) := by
      unfold d49O
      generalize tabN n Tb = tab at *
      generalize lD t = LT at *
      generalize bD best = BB at *
      simp [s_law_due_k49_3b_2t_1]
    obtain ⟨x6', x7', es', h2, me', le'⟩ := du_inner (best := best) (t := t) (x6 := x6) (x7 := x7) hn hT ht hm me he
    have eS : ∀ rg x6 x7 es, d49S (tabN n Tb) best t rg x6 x7 es = d49O (tabN n Tb) best (some (lD t)) (some (natD (mxL t))) (some (.bool rg)) x6 x7 es := fun rg x6 x7 es => by
      unfold d49S d49O
      cases best <;> rfl
    rw [eS, eS] at h2
    have h3 : s_law_due_k49_3b_2t_3 (d49O (tabN n Tb) best (some (lD t)) (some (natD (mxL t))) (some (.bool (anyR n Tb t (mxL t)))) x6' x7' es') = some (.nx (d49O (tabN n Tb) (stepB n Tb best t) (some (lD t)) (some (natD (mxL t))) (some (.bool (anyR n Tb t (mxL t)))) x6' x7' es')) := by
      have nr := anyR_noR (n := n) (Tb := Tb) f
      cases z : anyR n Tb t (mxL t) with
      | true =>
        have : stepB n Tb best t = best := by
          unfold stepB
          rw [if_neg fun w => by rw [nr.mpr w.2] at z; cases z]
        rw [this]
        unfold d49O
        generalize tabN n Tb = tab at *
        generalize lD t = LT at *
        generalize bD best = BB at *
        simp [s_law_due_k49_3b_2t_3]
      | false =>
        have : stepB n Tb best t = some t := by
          unfold stepB
          rw [if_pos ⟨q, nr.mp z⟩]
        rw [this]
        have e : bD (some t) = lD t := rfl
        unfold d49O
        rw [e]
        generalize tabN n Tb = tab at *
        generalize lD t = LT at *
        generalize bD best = BB at *
        simp [s_law_due_k49_3b_2t_3]
    refine ⟨some (natD (mxL t)), some (.bool (anyR n Tb t (mxL t))), x6', x7', es', ?_, me', le'⟩
    unfold s_law_due_k49_3b
    rw [seq_nx f1]
    show (s_law_due_k49_3b_2 _).bind _ = _
    rw [cond]
    unfold s_law_due_k49_3b_2t
    rw [seq_nx h1, seq_nx h2, seq_nx h3]
    rfl
  · rw [if_neg q] at cond
    have : stepB n Tb best t = best := by
      unfold stepB
      rw [if_neg fun w => q w.1]
    rw [this]
    refine ⟨some (natD (mxL t)), x5, x6, x7, es, ?_, me, by omega⟩
    unfold s_law_due_k49_3b
    rw [seq_nx f1, seq_nx cond]
    rfl
theorem due49_ok (hn : n ≤ 7) (h1 : 1 ≤ n) (hT : ∀ x, x < n → ∀ c, c < n → Tb x c < n) {b : List Nat} (hb : bestL n Tb none (allL n) = some b) : m_law_due_k49 [.leaf (tabN n Tb)] = some (.leaf (lD b), [.leaf (tabN n Tb)]) := by
  have el := len_tabN (n := n) (Tb := Tb)
  have al := all_lists_ok hn
  have f1 : s_law_due_k49_1 ⟨[some (tabN n Tb), none, none, none, none, none, none, none, none, none], []⟩ = some (.nx ⟨[some (tabN n Tb), none, none, none, none, none, none, none, none, none], [(1, .dn [])]⟩) := by
    generalize tabN n Tb = tab at *
    simp [s_law_due_k49_1]
  have f2 : s_law_due_k49_2 ⟨[some (tabN n Tb), none, none, none, none, none, none, none, none, none], [(1, .dn [])]⟩ = some (.nx (d49O (tabN n Tb) none none none none none none [])) := by
    generalize tabN n Tb = tab at *
    simp [s_law_due_k49_2, bD]
  have f3 : ∃ x3 x4 x5 x6 x7 es, s_law_due_k49_3 (d49O (tabN n Tb) none none none none none none []) = some (.nx (d49O (tabN n Tb) (some b) x3 x4 x5 x6 x7 es)) := by
    generalize hF : s_law_due_k49_3 _ = y
    generalize hB : s_law_due_k49_3b = B at *
    have hF : forL [3] (gtN 3) B ((allL n).map lD) (d49O (tabN n Tb) none none none none none none []) = y := by
      rw [← hF]
      unfold d49O
      generalize ((allL n).map lD) = LL at *
      generalize tabN n Tb = tab at *
      simp [s_law_due_k49_3, el, al, hB]
    have len := allL_len (k := n) (by omega)
    have pw : 7 ^ n ≤ 7 ^ 7 := Nat.pow_le_pow_right (by decide) (by omega)
    have p7 : (7 : Nat) ^ 7 = 823543 := by decide
    obtain ⟨s', rfl, P, x3, x4, x5, x6, x7, es, hP, rfl, me, le⟩ := for_inv hF (fun rem s => ∃ (P : List (List Nat)) (x3 x4 x5 x6 x7 : Option D) (es : List (NK × D)), P ++ rem = allL n ∧ s = d49O (tabN n Tb) (P.foldl (stepB n Tb) none) x3 x4 x5 x6 x7 es ∧ Memo n Tb es ∧ es.length ≤ 7 * P.length) ⟨[], none, none, none, none, none, [], rfl, rfl, ⟨fun k v e => by simp at e⟩, by simp⟩ (by
      rintro t rem s ⟨P, x3, x4, x5, x6, x7, es, hP, rfl, me, le⟩
      have mt : t ∈ allL n := by rw [← hP]; simp
      have h3 := allL_mem mt
      have hb' : ∀ c, P.foldl (stepB n Tb) none = some c → c ≠ [] := fun c e z => by
        have inP : ∀ (Q : List (List Nat)) (o : Option (List Nat)), (∀ c, o = some c → c ∈ allL n) → (∀ t ∈ Q, t ∈ allL n) → ∀ c, Q.foldl (stepB n Tb) o = some c → c ∈ allL n := fun Q => by
          induction Q with
          | nil => exact fun o ho _ c e => ho c e
          | cons q Q ih =>
            intro o ho hQ c e
            rw [List.foldl_cons] at e
            refine ih _ ?_ (fun t m => hQ t (List.mem_cons_of_mem _ m)) c e
            intro c e
            unfold stepB at e
            split at e
            · cases e
              exact hQ _ List.mem_cons_self
            · exact ho c e
        have := inP P none (fun c e => by cases e) (fun t m => by rw [← hP]; exact List.mem_append_left _ m) c e
        have := (allL_mem this).1
        rw [z] at this
        simp at this
        omega
      have lP : P.length + 1 ≤ 823543 := by
        have := congrArg List.length hP
        rw [List.length_append, List.length_cons] at this
        omega
      obtain ⟨y4, y5, y6, y7, es', e, me', le'⟩ := du_outer (best := P.foldl (stepB n Tb) none) (t := t) (x4 := x4) (x5 := x5) (x6 := x6) (x7 := x7) (by omega) h1 hT h3.1 (by omega) (extL_full full_nil mt) hb' me (by omega)
      subst hB
      refine ⟨_, rfl, _, .inl e, P ++ [t], some (lD t), y4, y5, y6, y7, es', by rw [← hP]; simp, ?_, me', ?_⟩
      · rw [List.foldl_append]
        rfl
      · rw [List.length_append]
        simp
        omega)
    rw [List.append_nil] at hP
    subst hP
    have e : (allL n).foldl (stepB n Tb) none = some b := hb
    rw [e]
    exact ⟨x3, x4, x5, x6, x7, es, rfl⟩
  obtain ⟨x3, x4, x5, x6, x7, es, f3⟩ := f3
  have f4 : s_law_due_k49_4 (d49O (tabN n Tb) (some b) x3 x4 x5 x6 x7 es) = some (.rt (.leaf (lD b)) (d49O (tabN n Tb) (some b) x3 x4 x5 x6 x7 es)) := by
    unfold d49O
    have e : bD (some b) = lD b := rfl
    rw [e]
    generalize lD b = LB at *
    generalize tabN n Tb = tab at *
    simp [s_law_due_k49_4]
  unfold d49O at *
  generalize lD b = LB at *
  generalize tabN n Tb = tab at *
  simp [m_law_due_k49, pieces_law_due_k49, f1, f2, f3, f4]
end
end La

namespace La
open PySem PySem.Spec PyProof.Rows L2 Tl
theorem lay_nat49 (l : List Nat) : PyData.canLayAll0 (l.map natD) = true ∧ PyData.depthAll (l.map natD) = 0 := by
  induction l with
  | nil => exact ⟨rfl, rfl⟩
  | cons a l ih =>
    have e1 : PyData.canLayAll0 ((a :: l).map natD) = (PyData.canLay0 (natD a) && PyData.canLayAll0 (l.map natD)) := rfl
    have e2 : PyData.depthAll ((a :: l).map natD) = max (PyData.depth (natD a)) (PyData.depthAll (l.map natD)) := rfl
    rw [e1, e2, ih.1, ih.2]
    exact ⟨rfl, rfl⟩
abbrev k49S (x1 x3 x4 x5 : Option D) (τ : Tau) : SS := ⟨[none, x1, none, x3, x4, x5, none], τ⟩
def T49 (ns : List Int) (τ : Tau) : Prop := τ = [(0, .scr (ns.map .int))] ∨ ∃ a b : T, τ = [(0, .scr (ns.map .int)), (2, a), (6, b)]
theorem turn49 {ns : List Int} {k : Nat} {x3 x4 x5 : Option D} {τ : Tau} (hτ : T49 ns τ) :
    ∃ (y3 y4 y5 : Option D) (a b : T), s_law_k49_1b (k49S (some (.int k)) x3 x4 x5 τ) = some (.nx (k49S (some (.int k)) y3 y4 y5 [(0, .scr (ns.map .int)), (2, a), (6, b)])) := by
  obtain ⟨t, e1, h1⟩ := tape_ok ns k
  have f1 : ∃ r, s_law_k49_1b_1 (k49S (some (.int k)) x3 x4 x5 τ) = some (.nx (k49S (some (.int k)) x3 x4 x5 ((0, .scr (ns.map .int)) :: (2, t) :: r))) ∧ (r = [] ∨ ∃ b, r = [(6, b)]) := by
    rcases hτ with rfl | ⟨a, b, rfl⟩
    · exact ⟨[], by simp [s_law_k49_1b_1, e1], .inl rfl⟩
    · exact ⟨[(6, b)], by simp [s_law_k49_1b_1, e1], .inr ⟨b, rfl⟩⟩
  obtain ⟨r, f1, hr⟩ := f1
  obtain ⟨n, t3, e3, b1, b2, h3⟩ := many48 (k := 1999) (t := t) (h1.mono (by decide))
  have bound : 500 + 1 + (1 + 2 * n) * n ≤ 1500 := by
    have : (1 + 2 * n) * n ≤ (1 + 2 * 12) * 12 := Nat.mul_le_mul (by omega) (by omega)
    omega
  obtain ⟨Tb, t4, e4, hT, ok, h4⟩ := table_okG (k := 500) b1 (by omega) (h3.mono (by omega))
  have fzr := fzL_rows n Tb
  obtain ⟨b, hb, lb, fb, nb, mb1, mb2⟩ := best_some b1 hT ok
  have eD := due49_ok b2 b1 hT hb
  have eL := least49_ok b1 (by omega) hT hb mb2 mb1
  have sd := tab_sd48 (Tb := Tb) (n := n) (by omega) hT
  have hd := due_best lb fb nb
  have eS := showsL_ok (n := n) (Tb := Tb) (by omega) hT (.list (b.map natD)) (fun ds e => by cases e; rw [List.length_map]; omega)
  rw [hd] at eS
  have f2 : s_law_k49_1b_2 (k49S (some (.int k)) x3 x4 x5 ((0, .scr (ns.map .int)) :: (2, t) :: r)) = some (.nx (k49S (some (.int k)) (some (tabN n Tb)) x4 x5 ((0, .scr (ns.map .int)) :: (2, t4) :: r))) := by
    generalize rowsT n Tb = A at *
    generalize tabN n Tb = d at *
    rcases hr with rfl | ⟨b, rfl⟩ <;> simp [s_law_k49_1b_2, e3, e4, fzr]
  have ok1 := sd.show_ok (by decide) (by omega) (by omega)
  have ok2 := shaped_str (ok_shown0 _ (sd.lay (by decide)))
  have sm := same_ok 60 (lD b) (lay_nat49 b).1 (by
    show PyData.depthAll (b.map natD) + 1 < 60
    rw [(lay_nat49 b).2]
    decide)
  have lb2 : (b.map natD).length < 16000000 := by rw [List.length_map]; omega
  have sm : m_law_same 60 [.leaf (.list (b.map natD)), .leaf (.list (b.map natD))] = some (.leaf (.bool true), [.leaf (.list (b.map natD)), .leaf (.list (b.map natD))]) := sm
  unfold lD at eD
  generalize tabN n Tb = d at *
  generalize b.map natD = BD at *
  have f3 : s_law_k49_1b_3 (k49S (some (.int k)) (some d) x4 x5 ((0, .scr (ns.map .int)) :: (2, t4) :: r)) = some (.nx (k49S (some (.int k)) (some d) (some (.str d.shown)) x5 ((0, .scr (ns.map .int)) :: (2, t4) :: r))) := by
    rcases hr with rfl | ⟨b, rfl⟩ <;> simp [s_law_k49_1b_3, ok1]
  have f4 : s_law_k49_1b_4 (k49S (some (.int k)) (some d) (some (.str d.shown)) x5 ((0, .scr (ns.map .int)) :: (2, t4) :: r)) = some (.nx (k49S (some (.int k)) (some d) (some (.str d.shown)) (some (.list BD)) ((0, .scr (ns.map .int)) :: (2, t4) :: r))) := by
    rcases hr with rfl | ⟨b, rfl⟩ <;> simp [s_law_k49_1b_4, eD]
  have f5 : s_law_k49_1b_5 (k49S (some (.int k)) (some d) (some (.str d.shown)) (some (.list BD)) ((0, .scr (ns.map .int)) :: (2, t4) :: r)) = some (.nx (k49S (some (.int k)) (some d) (some (.str d.shown)) (some (.list BD)) [(0, .scr (ns.map .int)), (2, t4), (6, .fl BD)])) := by
    rcases hr with rfl | ⟨b, rfl⟩ <;> simp [s_law_k49_1b_5, eL]
  have f6 : s_law_k49_1b_6 (k49S (some (.int k)) (some d) (some (.str d.shown)) (some (.list BD)) [(0, .scr (ns.map .int)), (2, t4), (6, .fl BD)]) = some (.nx (k49S (some (.int k)) (some d) (some (.str d.shown)) (some (.list BD)) [(0, .scr (ns.map .int)), (2, t4), (6, .fl BD)])) := by
    simp [s_law_k49_1b_6, sm, ok1, ok2, eS]
  have f7 : s_law_k49_1b_7 (k49S (some (.int k)) (some d) (some (.str d.shown)) (some (.list BD)) [(0, .scr (ns.map .int)), (2, t4), (6, .fl BD)]) = some (.nx (k49S (some (.int k)) (some d) (some (.str d.shown)) (some (.list BD)) [(0, .scr (ns.map .int)), (2, t4), (6, .fl (BD ++ [.int 0]))])) := by
    simp [s_law_k49_1b_7, lb2]
  have f8 : s_law_k49_1b_8 (k49S (some (.int k)) (some d) (some (.str d.shown)) (some (.list BD)) [(0, .scr (ns.map .int)), (2, t4), (6, .fl (BD ++ [.int 0]))]) = some (.nx (k49S (some (.int k)) (some d) (some (.str d.shown)) (some (.list BD)) [(0, .scr (ns.map .int)), (2, t4), (6, .fl (BD ++ [.int 0]))])) := by
    simp [s_law_k49_1b_8, sm, eL]
  refine ⟨some d, some (.str d.shown), some (.list BD), t4, .fl (BD ++ [.int 0]), ?_⟩
  unfold s_law_k49_1b
  rw [seq_nx f1, seq_nx f2, seq_nx f3, seq_nx f4, seq_nx f5, seq_nx f6, seq_nx f7, seq_nx f8]
  rfl
theorem main (ns : List Int) (hns : ns.length ≤ 63) : ∃ ts', m_law_k49 [.scr (ns.map PyData.int)] = some (.leaf (.bool true), ts') := by
  simp only [m_law_k49]
  have eF : ∃ (a : Fz) (τ : Tau), s_law_k49_1 (k49S none none none none [(0, .scr (ns.map .int))]) = some (.nx ⟨a, τ⟩) ∧ ∃ r, τ = (0, .scr (ns.map .int)) :: r := by
    generalize hF : s_law_k49_1 _ = y
    generalize hm : (1 + (if (ns.length : Int) < 6 then (ns.length : Int) else 6)) = mm
    have hmm : 1 ≤ mm ∧ mm ≤ 7 := by
      subst hm
      split <;> omega
    obtain ⟨M, rfl⟩ : ∃ M : Nat, mm = M := ⟨mm.toNat, by omega⟩
    have e8 : -8000000 ≤ (M : Int) ∧ (M : Int) ≤ 8000000 := by omega
    simp [s_law_k49_1, hm, e8] at hF
    obtain ⟨s', rfl, x1, x3, x4, x5, τ, rfl, hτ⟩ := for_rng hF (fun k s => ∃ (x1 x3 x4 x5 : Option D) (τ : Tau), s = k49S x1 x3 x4 x5 τ ∧ T49 ns τ)
      ⟨none, none, none, none, _, rfl, .inl rfl⟩ (by
      rintro k s hk ⟨x1, x3, x4, x5, τ, rfl, hτ⟩
      obtain ⟨y3, y4, y5, a, b, e⟩ := turn49 (k := k) (x3 := x3) (x4 := x4) (x5 := x5) hτ
      refine ⟨_, rfl, k49S (some (.int k)) y3 y4 y5 [(0, .scr (ns.map .int)), (2, a), (6, b)], .inl ?_, some (.int k), y3, y4, y5, _, rfl, .inr ⟨a, b, rfl⟩⟩
      rcases hτ with rfl | ⟨a', b', rfl⟩ <;> exact e)
    rcases hτ with rfl | ⟨a, b, rfl⟩
    · exact ⟨_, _, rfl, _, rfl⟩
    · exact ⟨_, _, rfl, _, rfl⟩
  obtain ⟨a, τ, e1, r, rfl⟩ := eF
  simp [pieces_law_k49, e1, s_law_k49_2]
end La

namespace La
open PySem PySem.Spec PyProof.Rows L2 Tl
def topS (i : Nat) : Stmt := PySem.Challenge.pw_trainlanes_k49_least_levels.main.body.getD i (.Pass ⟨0, 0, 0, 0⟩)
theorem sc_is_house : FnScope ["thing", "many"] ["thing", "many"] (defScope (topS 1)) := ⟨rfl, rfl, rfl, by decide +kernel, rfl, by decide +kernel, by decide +kernel⟩
theorem sc_follows_of : FnScope ["table", "goal", "told", "house", "middle"] ["table", "goal"] (defScope (topS 2)) := ⟨rfl, rfl, rfl, by decide +kernel, rfl, by decide +kernel, by decide +kernel⟩
theorem sc_has_ring : FnScope ["pairs", "left", "many", "ahead", "one", "other"] ["pairs"] (defScope (topS 3)) := ⟨rfl, rfl, rfl, by decide +kernel, rfl, by decide +kernel, by decide +kernel⟩
theorem sc_level_pairs : FnScope ["table", "levels", "level", "told", "goal", "one"] ["table", "levels", "level"] (defScope (topS 4)) := ⟨rfl, rfl, rfl, by decide +kernel, rfl, by decide +kernel, by decide +kernel⟩
theorem sc_shows_levels : FnScope ["table", "levels", "many", "numbers", "level", "one"] ["table", "levels"] (defScope (topS 5)) := ⟨rfl, rfl, rfl, by decide +kernel, rfl, by decide +kernel, by decide +kernel⟩
theorem sc_filled_levels : FnScope ["table", "begun", "most", "used", "level", "more", "told"] ["table", "begun", "most"] (defScope (topS 6)) := ⟨rfl, rfl, rfl, by decide +kernel, rfl, by decide +kernel, by decide +kernel⟩
theorem sc_least_levels : FnScope ["table", "told", "most"] ["table"] (defScope (topS 7)) := ⟨rfl, rfl, rfl, by decide +kernel, rfl, by decide +kernel, by decide +kernel⟩
theorem sc_law_cell_at : FnScope ["_law_script", "_law_k"] ["_law_script", "_law_k"] (defScope (topS 9)) := ⟨rfl, rfl, rfl, by decide +kernel, rfl, by decide +kernel, by decide +kernel⟩
theorem sc_law_tape : FnScope ["_law_script", "_law_k", "_law_cell"] ["_law_script", "_law_k"] (defScope (topS 10)) := ⟨rfl, rfl, rfl, by decide +kernel, rfl, by decide +kernel, by decide +kernel⟩
theorem sc_law_take : FnScope ["_law_tape_here", "_law_many_here", "_law_found", "_law_once"] ["_law_tape_here", "_law_many_here"] (defScope (topS 11)) := ⟨rfl, rfl, rfl, by decide +kernel, rfl, by decide +kernel, by decide +kernel⟩
theorem sc_law_same : FnScope ["_law_found", "_law_due_here", "_law_one", "_law_other"] ["_law_found", "_law_due_here"] (defScope (topS 12)) := ⟨rfl, rfl, rfl, by decide +kernel, rfl, by decide +kernel, by decide +kernel⟩
theorem sc_law_table : FnScope ["_law_tape_here", "_law_many_here", "_law_way", "_law_table_here", "_law_goal", "_law_inner", "_law_outer", "_law_house"] ["_law_tape_here", "_law_many_here"] (defScope (topS 13)) := ⟨rfl, rfl, rfl, by decide +kernel, rfl, by decide +kernel, by decide +kernel⟩
theorem sc_law_many_k46 : FnScope ["_law_tape_here"] ["_law_tape_here"] (defScope (topS 14)) := ⟨rfl, rfl, rfl, by decide +kernel, rfl, by decide +kernel, by decide +kernel⟩
theorem sc_law_follows : FnScope ["_law_table_here", "_law_goal", "_law_found", "_law_house", "_law_one"] ["_law_table_here", "_law_goal"] (defScope (topS 15)) := ⟨rfl, rfl, rfl, by decide +kernel, rfl, by decide +kernel, by decide +kernel⟩
theorem sc_law_rings : FnScope ["_law_pairs", "_law_after", "_law_one", "_law_other", "_law_first", "_law_met", "_law_waiting", "_law_street"] ["_law_pairs"] (defScope (topS 16)) := ⟨rfl, rfl, rfl, by decide +kernel, rfl, by decide +kernel, by decide +kernel⟩
theorem sc_law_level_rings : FnScope ["_law_table_here", "_law_levels", "_law_level", "_law_pairs", "_law_goal", "_law_one"] ["_law_table_here", "_law_levels", "_law_level"] (defScope (topS 17)) := ⟨rfl, rfl, rfl, by decide +kernel, rfl, by decide +kernel, by decide +kernel⟩
theorem sc_law_all_lists : FnScope ["_law_many_here", "_law_lists", "_law_turn", "_law_longer", "_law_one", "_law_level"] ["_law_many_here"] (defScope (topS 18)) := ⟨rfl, rfl, rfl, by decide +kernel, rfl, by decide +kernel, by decide +kernel⟩
theorem sc_law_due_k49 : FnScope ["_law_table_here", "_law_fine", "_law_best", "_law_one", "_law_numbers", "_law_rings_here", "_law_level", "_law_goals", "_law_goal", "_law_other"] ["_law_table_here"] (defScope (topS 19)) := ⟨rfl, rfl, rfl, by decide +kernel, rfl, by decide +kernel, by decide +kernel⟩
theorem sc_law_k49 : FnScope ["_law_script", "_law_k", "_law_tape_here", "_law_table_here", "_law_kept", "_law_due_here", "_law_found"] ["_law_script"] (defScope (topS 20)) := ⟨rfl, rfl, rfl, by decide +kernel, rfl, by decide +kernel, by decide +kernel⟩
structure Zs (K : PySem.W.Frag) (mg : Str → Option Value) : Prop where
  b : Bt mg
  d_is_house : Dn K mg "is_house" (topS 1) ["thing", "many"]
  d_follows_of : Dn K mg "follows_of" (topS 2) ["table", "goal"]
  d_has_ring : Dn K mg "has_ring" (topS 3) ["pairs"]
  d_level_pairs : Dn K mg "level_pairs" (topS 4) ["table", "levels", "level"]
  d_shows_levels : Dn K mg "shows_levels" (topS 5) ["table", "levels"]
  d_filled_levels : Dn K mg "filled_levels" (topS 6) ["table", "begun", "most"]
  d_least_levels : Dn K mg "least_levels" (topS 7) ["table"]
  d_law_cell_at : Dn K mg "_law_cell_at" (topS 9) ["_law_script", "_law_k"]
  d_law_tape : Dn K mg "_law_tape" (topS 10) ["_law_script", "_law_k"]
  d_law_take : Dn K mg "_law_take" (topS 11) ["_law_tape_here", "_law_many_here"]
  d_law_same : Dn K mg "_law_same" (topS 12) ["_law_found", "_law_due_here"]
  d_law_table : Dn K mg "_law_table" (topS 13) ["_law_tape_here", "_law_many_here"]
  d_law_many_k46 : Dn K mg "_law_many" (topS 14) ["_law_tape_here"]
  d_law_follows : Dn K mg "_law_follows" (topS 15) ["_law_table_here", "_law_goal"]
  d_law_rings : Dn K mg "_law_rings" (topS 16) ["_law_pairs"]
  d_law_level_rings : Dn K mg "_law_level_rings" (topS 17) ["_law_table_here", "_law_levels", "_law_level"]
  d_law_all_lists : Dn K mg "_law_all_lists" (topS 18) ["_law_many_here"]
  d_law_due_k49 : Dn K mg "_law_due" (topS 19) ["_law_table_here"]
  d_law_k49 : Dn K mg "law" (topS 20) ["_law_script"]
section
variable {P : Program} {w : World} {K : PySem.W.Frag} {mg : Str → Option Value} {base : Heap}
theorem c_is_house (Z : Zs K mg) : Fm P w K mg base 1 "is_house" 2 m_is_house := by
  have B := Z.b
  have S := sc_is_house
  exact fm_mk (k := 0) Z.d_is_house sc_is_house [false, false] rfl fun f cdv Ar up s H E hr =>
    (sr_cons (sr_ret (er_and (er_isi isT_int (er_var (pv 0)) (pe_bltn (by rfl) B.int bt_int rfl) (hm := B.isinstance)) (er_and (er_not (er_isi isT_bool (er_var (pv 0)) (pe_bltn (by rfl) B.bool bt_bool rfl) (hm := B.isinstance))) (er_one (er_chain op_le op_lt er_int (er_var (pv 0)) (er_var (pv 1))))))) sr_nil)
theorem c_follows_of (Z : Zs K mg) : Fm P w K mg base 1 "follows_of" 2 m_follows_of := by
  have B := Z.b
  have S := sc_follows_of
  exact fm_mk (k := 0) Z.d_follows_of sc_follows_of [false, false] rfl fun f cdv Ar up s H E hr =>
    (sr_cons (sr_setO (ps_set (i := 2) S.nd rfl (.inl rfl) peW) (er_lst ar_nil)) (sr_cons (sr_for PassesOwn.never rfl (ir_range1 (ar_cons (er_callB call_len vr_len (by rfl) B.len bt_len (ar_cons (er_var (pv 0)) ar_nil)) ar_nil) (by rfl) B.range) (gr_name (pg_name (i := 3) S.nd rfl (.inl rfl))) (sr_cons (sr_set (ps_set (i := 4) S.nd rfl (.inl rfl) peW) (er_ix ix_seq vr_ix (er_ix ix_seq vr_ix (er_var (pv 0)) (er_var (pv 3)) (fun _ _ => rfl)) (er_var (pv 1)) (fun _ _ => rfl))) (sr_cons (sr_if (tr_w (tw_and (tr_cmp (op_neD (hu_eq hr)) vr_ne (er_var (pv 4)) (er_var (pv 1)) (nomark _)) (tw_and1 (tr_cmp (op_neD (hu_eq hr)) vr_ne (er_var (pv 3)) (er_var (pv 1)) (nomark _))))) (sr_cons (sr_do (er_mut mu_append PySem.F.slot_list_append PySem.F.type_list_append mt_append (pv 2) (ar_cons (er_tup (ar_cons (er_tup (ar_cons (er_var (pv 3)) (ar_cons (er_var (pv 4)) ar_nil))) (ar_cons (er_tup (ar_cons (er_var (pv 4)) (ar_cons (er_ix ix_seq vr_ix (er_ix ix_seq vr_ix (er_var (pv 0)) (er_var (pv 4)) (fun _ _ => rfl)) (er_var (pv 1)) (fun _ _ => rfl)) ar_nil))) ar_nil))) ar_nil))) sr_nil) sr_nil) sr_nil))) (sr_cons (sr_ret (er_tk (pv 2))) sr_nil)))
theorem c_has_ring (Z : Zs K mg) : Fm P w K mg base 1 "has_ring" 1 m_has_ring := by
  have B := Z.b
  have S := sc_has_ring
  exact fm_mk (k := 0) Z.d_has_ring sc_has_ring [false] rfl fun f cdv Ar up s H E hr =>
    (sr_cons (sr_set (ps_set (i := 1) S.nd rfl (.inl rfl) peW) (er_callTy call_list_of vr_list (by rfl) B.list bt_list (ar_cons (er_var (pv 0)) ar_nil))) (sr_cons (sr_set (ps_set (i := 2) S.nd rfl (.inl rfl) peW) (er_op op_addAll vr_add (er_callB call_len vr_len (by rfl) B.len bt_len (ar_cons (er_var (pv 1)) ar_nil)) er_int)) (sr_cons (sr_while whF PassesOwn.never (tr_cmp op_lt vr_c2 (er_callB call_len vr_len (by rfl) B.len bt_len (ar_cons (er_var (pv 1)) ar_nil)) (er_var (pv 2)) (nomark _)) (sr_cons (sr_set (ps_set (i := 2) S.nd rfl (.inl rfl) peW) (er_callB call_len vr_len (by rfl) B.len bt_len (ar_cons (er_var (pv 1)) ar_nil))) (sr_cons (sr_set (ps_set (i := 3) S.nd rfl (.inr rfl) peW) (er_callTy (call_dictN rfl (hu11 hr)) vr_dictN (by rfl) B.dict bt_dict (ar_cons (ev_er (pe_lc0 (own := [("one", 4), ("other", 5)]) rfl S.nd (blkOk_by (by kernel_rfl))) (ev_lc0 (own := [("one", 4), ("other", 5)]) (ir_seq (er_var (pv 1))) (fun _ _ _ _ _ => (gr_tup rfl (grs_cons (gr_name (pg_name (i := 4) S.nd rfl (.inl rfl))) (grs_cons (gr_name (pg_name (i := 5) S.nd rfl (.inl rfl))) grs_nil)))) (by decide) (fun _ _ _ _ _ => (er_tup (ar_cons (er_var (pv 4)) (ar_cons er_bl ar_nil)))))) ar_nil))) (sr_cons (sr_set (ps_lc1 (own := [("one", 4), ("other", 5)]) (i := 1) rfl S.nd rfl rfl rfl (blkOk_by (by kernel_rfl))) (ev_lc1 (own := [("one", 4), ("other", 5)]) (ir_seq (er_var (pv 1))) (fun _ _ _ _ _ => (gr_tup rfl (grs_cons (gr_name (pg_name (i := 4) S.nd rfl (.inl rfl))) (grs_cons (gr_name (pg_name (i := 5) S.nd rfl (.inl rfl))) grs_nil)))) (by decide) (fun _ _ _ _ _ => (tr_nin hr (er_var (pv 5)) (er_var (pv 3)) (by with_unfolding_all rfl))) (fun _ _ _ _ _ => (er_tup (ar_cons (er_var (pv 4)) (ar_cons (er_var (pv 5)) ar_nil)))))) sr_nil)))) (sr_cons (sr_ret (er_cmp op_gt vr_c2 (er_callB call_len vr_len (by rfl) B.len bt_len (ar_cons (er_var (pv 1)) ar_nil)) er_int (nomark _))) sr_nil))))
theorem c_level_pairs (Z : Zs K mg) : Fm P w K mg base 2 "level_pairs" 3 m_level_pairs := by
  have B := Z.b
  have S := sc_level_pairs
  have c_follows_of := c_follows_of (P := P) (w := w) (base := base) Z
  exact fm_mk (k := 1) Z.d_level_pairs sc_level_pairs [false, false, false] rfl fun f cdv Ar up s H E hr =>
    (sr_cons (sr_setO (ps_set (i := 3) S.nd rfl (.inl rfl) peW) (er_lst ar_nil)) (sr_cons (sr_for PassesOwn.never rfl (ir_enum (er_var (pv 1)) (by rfl) B.enumerate) (gr_tup rfl (grs_cons (gr_name (pg_name (i := 4) S.nd rfl (.inl rfl))) (grs_cons (gr_name (pg_name (i := 5) S.nd rfl (.inl rfl))) grs_nil))) (sr_cons (sr_if (tr_cmp (op_eqD (hu_eq hr)) vr_eq (er_var (pv 5)) (er_var (pv 2)) (nomark _)) (sr_cons (sr_do (er_mut mu_extendA PySem.F.slot_list_extend PySem.F.type_list_extend mt_extendA (pv 3) (ar_cons (er_call c_follows_of hr (ca_cons (er_var (pv 0)) (ca_cons (er_var (pv 4)) ca_nil))) ar_nil))) sr_nil) sr_nil) sr_nil)) (sr_cons (sr_ret (er_tk (pv 3))) sr_nil)))
theorem c_shows_levels (Z : Zs K mg) : Fm P w K mg base 3 "shows_levels" 2 m_shows_levels := by
  have B := Z.b
  have S := sc_shows_levels
  have c_is_house := c_is_house (P := P) (w := w) (base := base) Z
  have c_has_ring := c_has_ring (P := P) (w := w) (base := base) Z
  have c_level_pairs := c_level_pairs (P := P) (w := w) (base := base) Z
  exact fm_mk (k := 2) Z.d_shows_levels sc_shows_levels [false, false] rfl fun f cdv Ar up s H E hr =>
    (sr_cons (sr_set (ps_set (i := 2) S.nd rfl (.inr rfl) peW) (er_callB call_len vr_len (by rfl) B.len bt_len (ar_cons (er_var (pv 0)) ar_nil))) (sr_cons (sr_if (tr_w (tw_or (tr_not (tr_tru (er_isi isT_list (er_var (pv 1)) (pe_bltn (by rfl) B.list bt_list rfl) (hm := B.isinstance)))) (tw_or (tr_cmp (op_neD (hu_eq hr)) vr_ne (er_callB call_len vr_len (by rfl) B.len bt_len (ar_cons (er_var (pv 1)) ar_nil)) (er_var (pv 2)) (nomark _)) (tw_or1 (tr_not (tr_tru (er_callB (cr_all rfl) vr_all (by rfl) B.all bt_all (ar_cons (ev_er (pe_lc0 (own := [("one", 5)]) rfl S.nd (blkOk_by (by kernel_rfl))) (ev_lc0 (own := [("one", 5)]) (ir_seq (er_var (pv 1))) (fun _ _ _ _ _ => (gr_name (pg_name (i := 5) S.nd rfl (.inl rfl)))) (by decide) (fun _ _ _ _ _ => (er_call c_is_house hr (ca_cons (er_var (pv 5)) (ca_cons (er_var (pv 2)) ca_nil)))))) ar_nil)))))))) (sr_cons (sr_ret er_bl) sr_nil) sr_nil) (sr_cons (sr_set (ps_set (i := 3) S.nd rfl (.inl rfl) peW) (er_sortSet (er_var (pv 1)) (hm := B.sorted) (hm2 := B.set))) (sr_cons (sr_if (tr_cmp (op_neD (hu_eq hr)) vr_ne (er_var (pv 3)) (er_lrng (er_callB call_len vr_len (by rfl) B.len bt_len (ar_cons (er_var (pv 3)) ar_nil)) (hm := B.list) (hm2 := B.range)) (nomark _)) (sr_cons (sr_ret er_bl) sr_nil) sr_nil) (sr_cons (sr_ret (er_not (er_callB (cr_any rfl) vr_any (by rfl) B.any bt_any (ar_cons (ev_er (pe_lc0 (own := [("level", 4)]) rfl S.nd (blkOk_by (by kernel_rfl))) (ev_lc0 (own := [("level", 4)]) (ir_seq (er_var (pv 3))) (fun _ _ _ _ _ => (gr_name (pg_name (i := 4) S.nd rfl (.inl rfl)))) (by decide) (fun _ _ _ _ _ => (er_call c_has_ring hr (ca_cons (er_call c_level_pairs hr (ca_cons (er_var (pv 0)) (ca_cons (er_var (pv 1)) (ca_cons (er_var (pv 4)) ca_nil)))) ca_nil))))) ar_nil)))) sr_nil)))))
theorem c_filled_levels (Z : Zs K mg) : ∀ j, Fm P w K mg base (3 + j) "filled_levels" 3 (m_filled_levels j)
  | 0 => fm_mk (k := 2) Z.d_filled_levels sc_filled_levels [false, true, false] rfl fun f cdv Ar up s H E hr => ⟨fun s o em => nomatch em⟩
  | j + 1 => by
    have B := Z.b
    have S := sc_filled_levels
    have ih := c_filled_levels Z j
    have c_has_ring := c_has_ring (P := P) (w := w) (base := base) Z
    have c_level_pairs := c_level_pairs (P := P) (w := w) (base := base) Z
    exact fm_mk (k := 3 + j) Z.d_filled_levels sc_filled_levels [false, true, false] rfl fun f cdv Ar up s H E hr =>
      (sr_cons (sr_set (ps_set (i := 3) S.nd rfl (.inl rfl) peW) (ev_br (er_op op_addAll vr_add (er_maxDf rfl (hu_eq hr) (by rfl) B.max bt_max (er_see (pv 1)) (er_un un_neg vr_neg er_int)) er_int) 1)) (sr_cons (sr_if (tr_br (tr_cmp (op_eqD (hu_eq hr)) vr_eq (er_callB call_len vr_len (by rfl) B.len bt_len (ar_cons (er_see (pv 1)) ar_nil)) (er_callB call_len vr_len (by rfl) B.len bt_len (ar_cons (er_var (pv 0)) ar_nil)) (nomark _)) 1) (sr_cons (sr_ret (er_if (tr_cmp (op_eqD (hu_eq hr)) vr_eq (er_var (pv 3)) (er_var (pv 2)) (nomark _)) (er_tk (pv 1)) er_non)) sr_nil) sr_nil) (sr_cons (sr_for PassesOwn.never rfl (ir_range1 (ar_cons (er_callB (call_min2 rfl) vr_min2 (by rfl) B.min bt_min (ar_cons (er_op op_addAll vr_add (er_var (pv 3)) er_int) (ar_cons (er_var (pv 2)) ar_nil))) ar_nil) (by rfl) B.range) (gr_name (pg_name (i := 4) S.nd rfl (.inl rfl))) (sr_cons (sr_setO (ps_set (i := 5) S.nd rfl (.inl rfl) peW) (ev_br (er_op op_addAll vr_add (er_see (pv 1)) (er_lst (ar_cons (er_var (pv 4)) ar_nil))) 1)) (sr_cons (sr_if (tr_br (tr_not (tr_tru (er_look c_has_ring hr (ca_seeL c_level_pairs hr (ca_see (er_var (pv 0)) (ca_see (er_see (pv 5)) (ca_see (er_var (pv 4)) ca_nil))) (hkj := by omega)) (hkj := by omega)))) 5) (sr_cons (sr_setO (ps_set (i := 6) S.nd rfl (.inl rfl) peW) (er_call ih hr (ca_cons (er_var (pv 0)) (ca_io (pv 5) (ca_cons (er_var (pv 2)) ca_nil))) (hkj := by omega))) (sr_cons (sr_if (tr_br (tr_cmp op_notN vr_notN (er_see (pv 6)) er_non (nomark _)) 6) (sr_cons (sr_ret (er_tk (pv 6))) sr_nil) sr_nil) sr_nil)) sr_nil) sr_nil))) (sr_cons (sr_ret er_non) sr_nil))))
theorem c_least_levels (Z : Zs K mg) : Fm P w K mg base 64 "least_levels" 1 m_least_levels := by
  have B := Z.b
  have S := sc_least_levels
  have c_filled_levels := fun j => c_filled_levels (P := P) (w := w) (base := base) Z j
  exact fm_mk (k := 63) Z.d_least_levels sc_least_levels [false] rfl fun f cdv Ar up s H E hr =>
    (sr_cons (sr_setO (ps_set (i := 1) S.nd rfl (.inl rfl) peW) er_non) (sr_cons (sr_set (ps_set (i := 2) S.nd rfl (.inl rfl) peW) er_int) (sr_cons (sr_while whF PassesOwn.never (tr_br (tr_cmp op_isN vr_isN (er_see (pv 1)) er_non (nomark _)) 1) (sr_cons (sr_aug (ps_aug (i := 2) S.nd rfl (.inl rfl) peW ip_add) vr_addI er_int) (sr_cons (sr_setO (ps_set (i := 1) S.nd rfl (.inl rfl) peW) (er_call (c_filled_levels 60) hr (ca_cons (er_var (pv 0)) (ca_own (er_lst ar_nil) (ca_cons (er_var (pv 2)) ca_nil))))) sr_nil))) (sr_cons (sr_ret (er_tk (pv 1))) sr_nil))))
theorem c_law_cell_at (Z : Zs K mg) : Fm P w K mg base 1 "_law_cell_at" 2 m_law_cell_at := by
  have B := Z.b
  have S := sc_law_cell_at
  exact fm_mk (k := 0) Z.d_law_cell_at sc_law_cell_at [true, false] rfl fun f cdv Ar up s H E hr =>
    (sr_cons (sr_ret (ev_br (er_if (tr_br (tr_cmp op_lt vr_c2 (er_var (pv 1)) (er_callB call_len vr_len (by rfl) B.len bt_len (ar_cons (er_see (pv 0)) ar_nil)) (nomark _)) 0) (er_ix ix_seq vr_ix (er_see (pv 0)) (er_var (pv 1)) (fun _ _ => rfl)) er_int) 0)) sr_nil)
theorem c_law_tape (Z : Zs K mg) : Fm P w K mg base 2 "_law_tape" 2 m_law_tape := by
  have B := Z.b
  have S := sc_law_tape
  have c_law_cell_at := c_law_cell_at (P := P) (w := w) (base := base) Z
  exact fm_mk (k := 1) Z.d_law_tape sc_law_tape [true, false] rfl fun f cdv Ar up s H E hr =>
    (sr_cons (sr_set (ps_set (i := 2) S.nd rfl (.inl rfl) peW) (er_call c_law_cell_at hr (ca_io (pv 0) (ca_cons (er_var (pv 1)) ca_nil)))) (sr_cons (sr_ret (er_lst (ar_cons (er_op op_mulAll vr_mul (er_callB call_abs vr_abs (by rfl) B.abs bt_abs (ar_cons (er_var (pv 2)) ar_nil)) (er_callTy call_int1 vr_int (by rfl) B.int bt_int (ar_cons (er_cmp op_ge vr_c2 (er_callB call_abs vr_abs (by rfl) B.abs bt_abs (ar_cons (er_var (pv 2)) ar_nil)) (er_op op_pow vr_pow er_int er_int) (nomark _)) ar_nil))) (ar_cons (er_op op_mod vr_mod (er_op op_mulAll vr_mul (er_op op_addAll vr_add (er_op op_addAll vr_add (er_op op_mod vr_mod (er_var (pv 2)) er_int) (er_op op_mulAll vr_mul er_int (er_var (pv 1)))) er_int) er_int) er_int) (ar_cons er_int ar_nil))))) sr_nil))
theorem c_law_take (Z : Zs K mg) : Fm P w K mg base 1 "_law_take" 2 m_law_take := by
  have B := Z.b
  have S := sc_law_take
  exact fm_mk (k := 0) Z.d_law_take sc_law_take [true, false] rfl fun f cdv Ar up s H E hr =>
    (sr_cons (sr_if (tr_br (tr_cmp op_gt vr_c2 (er_ix ix_seq vr_ix (er_see (pv 0)) er_int (fun _ _ => rfl)) er_int (nomark _)) 0) (sr_cons (sr_set (ps_set (i := 2) S.nd rfl (.inl rfl) peW) (ev_br (er_op op_mod vr_mod (er_ix ix_seq vr_ix (er_see (pv 0)) er_int (fun _ _ => rfl)) (er_var (pv 1))) 0)) (sr_cons (sr_setP (ps_asg peW (pg_sub peW peW set_list)) (ev_br (er_op op_fdiv vr_div (er_ix ix_seq vr_ix (er_see (pv 0)) er_int (fun _ _ => rfl)) (er_var (pv 1))) 0) (pv_here (pv 0)) er_int) (sr_cons (sr_ret (er_var (pv 2))) sr_nil))) sr_nil) (sr_cons (sr_setP (ps_asg peW (pg_sub peW peW set_list)) (ev_br (er_op op_addAll vr_add (er_ix ix_seq vr_ix (er_see (pv 0)) er_int (fun _ _ => rfl)) er_int) 0) (pv_here (pv 0)) er_int) (sr_cons (sr_set (ps_set (i := 3) S.nd rfl (.inl rfl) peW) (ev_br (er_op op_mod vr_mod (er_op op_mulAll vr_mul (er_op op_addAll vr_add (er_ix ix_seq vr_ix (er_see (pv 0)) er_int (fun _ _ => rfl)) (er_op op_mulAll vr_mul er_int (er_ix ix_seq vr_ix (er_see (pv 0)) er_int (fun _ _ => rfl)))) (er_op op_addAll vr_add er_int (er_ix ix_seq vr_ix (er_see (pv 0)) er_int (fun _ _ => rfl)))) er_int) 0)) (sr_cons (sr_setP (ps_asg peW (pg_sub peW peW set_list)) (ev_br (er_op op_mod vr_mod (er_op op_addAll vr_add (er_op op_mulAll vr_mul (er_var (pv 3)) (er_op op_addAll vr_add (er_op op_mod vr_mod (er_var (pv 3)) er_int) er_int)) (er_ix ix_seq vr_ix (er_see (pv 0)) er_int (fun _ _ => rfl))) er_int) 0) (pv_here (pv 0)) er_int) (sr_cons (sr_ret (ev_br (er_op op_mod vr_mod (er_op op_fdiv vr_div (er_op op_mod vr_mod (er_op op_mulAll vr_mul (er_ix ix_seq vr_ix (er_see (pv 0)) er_int (fun _ _ => rfl)) (er_op op_addAll vr_add (er_op op_mod vr_mod (er_ix ix_seq vr_ix (er_see (pv 0)) er_int (fun _ _ => rfl)) er_int) er_int)) er_int) er_int) (er_var (pv 1))) 0)) sr_nil)))))
theorem c_law_same (Z : Zs K mg) : ∀ j, Fm P w K mg base (1 + j) "_law_same" 2 (m_law_same j)
  | 0 => fm_mk (k := 0) Z.d_law_same sc_law_same [false, false] rfl fun f cdv Ar up s H E hr => ⟨fun s o em => nomatch em⟩
  | j + 1 => by
    have B := Z.b
    have S := sc_law_same
    have ih := c_law_same Z j
    exact fm_mk (k := 1 + j) Z.d_law_same sc_law_same [false, false] rfl fun f cdv Ar up s H E hr =>
      (sr_cons (sr_if (tr_tru (er_isi2 isT_list isT_tuple (er_var (pv 1)) (pe_bltn (by rfl) B.list bt_list rfl) (pe_bltn (by rfl) B.tuple bt_tuple rfl) (hm := B.isinstance))) (sr_cons (sr_if (tr_w (tw_or (tr_cmp (op_neD (hu_eq hr)) vr_ne (er_isi isT_list (er_var (pv 0)) (pe_bltn (by rfl) B.list bt_list rfl) (hm := B.isinstance)) (er_isi isT_list (er_var (pv 1)) (pe_bltn (by rfl) B.list bt_list rfl) (hm := B.isinstance)) (nomark _)) (tw_or1 (tr_cmp (op_neD (hu_eq hr)) vr_ne (er_isi isT_tuple (er_var (pv 0)) (pe_bltn (by rfl) B.tuple bt_tuple rfl) (hm := B.isinstance)) (er_isi isT_tuple (er_var (pv 1)) (pe_bltn (by rfl) B.tuple bt_tuple rfl) (hm := B.isinstance)) (nomark _))))) (sr_cons (sr_ret er_bl) sr_nil) sr_nil) (sr_cons (sr_if (tr_cmp (op_neD (hu_eq hr)) vr_ne (er_callB call_len vr_len (by rfl) B.len bt_len (ar_cons (er_var (pv 0)) ar_nil)) (er_callB call_len vr_len (by rfl) B.len bt_len (ar_cons (er_var (pv 1)) ar_nil)) (nomark _)) (sr_cons (sr_ret er_bl) sr_nil) sr_nil) (sr_cons (sr_ret (er_callB (cr_all rfl) vr_all (by rfl) B.all bt_all (ar_cons (ev_er (pe_lc0 (own := [("_law_one", 2), ("_law_other", 3)]) rfl S.nd (blkOk_by (by kernel_rfl))) (ev_lc0 (own := [("_law_one", 2), ("_law_other", 3)]) (ir_zip (er_var (pv 0)) (er_var (pv 1)) (by rfl) B.zip) (fun _ _ _ _ _ => (gr_tup rfl (grs_cons (gr_name (pg_name (i := 2) S.nd rfl (.inl rfl))) (grs_cons (gr_name (pg_name (i := 3) S.nd rfl (.inl rfl))) grs_nil)))) (by decide) (fun _ _ _ _ _ => (er_call ih hr (ca_cons (er_var (pv 2)) (ca_cons (er_var (pv 3)) ca_nil)) (hkj := by omega))))) ar_nil))) sr_nil))) sr_nil) (sr_cons (sr_if (tr_w (tw_or (tr_cmp op_isN vr_isN (er_var (pv 1)) er_non (nomark _)) (tw_or1 (tr_tru (er_isi isT_str (er_var (pv 1)) (pe_bltn (by rfl) B.str bt_str rfl) (hm := B.isinstance)))))) (sr_cons (sr_ret (er_and (er_cmp (op_eqD (hu_eq hr)) vr_eq (er_var (pv 0)) (er_var (pv 1)) (nomark _)) (er_one (er_cmp (op_eqD (hu_eq hr)) vr_eq (er_isi isT_str (er_var (pv 0)) (pe_bltn (by rfl) B.str bt_str rfl) (hm := B.isinstance)) (er_isi isT_str (er_var (pv 1)) (pe_bltn (by rfl) B.str bt_str rfl) (hm := B.isinstance)) (nomark _))))) sr_nil) sr_nil) (sr_cons (sr_if (tr_tru (er_isi isT_bool (er_var (pv 1)) (pe_bltn (by rfl) B.bool bt_bool rfl) (hm := B.isinstance))) (sr_cons (sr_ret (er_and (er_isi isT_bool (er_var (pv 0)) (pe_bltn (by rfl) B.bool bt_bool rfl) (hm := B.isinstance)) (er_one (er_cmp (op_eqD (hu_eq hr)) vr_eq (er_var (pv 0)) (er_var (pv 1)) (nomark _))))) sr_nil) sr_nil) (sr_cons (sr_ret (er_and (er_isi isT_int (er_var (pv 0)) (pe_bltn (by rfl) B.int bt_int rfl) (hm := B.isinstance)) (er_and (er_not (er_isi isT_bool (er_var (pv 0)) (pe_bltn (by rfl) B.bool bt_bool rfl) (hm := B.isinstance))) (er_one (er_cmp (op_eqD (hu_eq hr)) vr_eq (er_var (pv 0)) (er_var (pv 1)) (nomark _)))))) sr_nil))))
theorem c_law_table (Z : Zs K mg) : Fm P w K mg base 2 "_law_table" 2 m_law_table := by
  have B := Z.b
  have S := sc_law_table
  have c_law_take := c_law_take (P := P) (w := w) (base := base) Z
  exact fm_mk (k := 1) Z.d_law_table sc_law_table [true, false] rfl fun f cdv Ar up s H E hr =>
    (sr_cons (sr_set (ps_set (i := 2) S.nd rfl (.inl rfl) peW) (er_call c_law_take hr (ca_io (pv 0) (ca_cons er_int ca_nil)))) (sr_cons (sr_setO (ps_lc0 (own := [("_law_house", 7)]) (i := 3) rfl S.nd rfl rfl rfl (blkOk_by (by kernel_rfl))) (ev_lcT0 (own := [("_law_house", 7)]) (ir_range1 (ar_cons (er_var (pv 1)) ar_nil) (by rfl) B.range) (fun _ _ _ _ _ => (gr_name (pg_name (i := 7) S.nd rfl (.inl rfl)))) (by decide) (fun _ _ _ _ _ => (er_op op_mulAll vr_mul (er_lst (ar_cons er_int ar_nil)) (er_var (pv 1)))))) (sr_cons (sr_for PassesOwn.never rfl (ir_range1 (ar_cons (er_var (pv 1)) ar_nil) (by rfl) B.range) (gr_name (pg_name (i := 4) S.nd rfl (.inr rfl))) (sr_cons (sr_setO (ps_set (i := 5) S.nd rfl (.inl rfl) peW) (er_lst (ar_cons (er_var (pv 4)) ar_nil))) (sr_cons (sr_setO (ps_lc1 (own := [("_law_house", 7)]) (i := 6) rfl S.nd rfl rfl rfl (blkOk_by (by kernel_rfl))) (ev_lc1 (own := [("_law_house", 7)]) (ir_range1 (ar_cons (er_var (pv 1)) ar_nil) (by rfl) B.range) (fun _ _ _ _ _ => (gr_name (pg_name (i := 7) S.nd rfl (.inl rfl)))) (by decide) (fun _ _ _ _ _ => (tr_cmp (op_neD (hu_eq hr)) vr_ne (er_var (pv 7)) (er_var (pv 4)) (nomark _))) (fun _ _ _ _ _ => (er_var (pv 7))))) (sr_cons (sr_while whF PassesOwn.never (tr_br (tr_cmp (op_neD (hu_eq hr)) vr_ne (er_see (pv 6)) (er_lst ar_nil) (nomark _)) 6) (sr_cons (sr_set (ps_set (i := 7) S.nd rfl (.inl rfl) peW) (er_mut mu_popAt PySem.F.slot_list_pop PySem.F.type_list_pop mt_popAt (pv 6) (ar_cons (er_call c_law_take hr (ca_io (pv 0) (ca_cons (ev_br (er_callB call_len vr_len (by rfl) B.len bt_len (ar_cons (er_see (pv 6)) ar_nil)) 6) ca_nil))) ar_nil))) (sr_cons (sr_setP (ps_asg peW (pg_sub peW peW set_list)) (ev_br (er_ix ix_seq vr_ix (er_see (pv 5)) (er_call c_law_take hr (ca_io (pv 0) (ca_cons (ev_br (er_callB call_len vr_len (by rfl) B.len bt_len (ar_cons (er_see (pv 5)) ar_nil)) 5) ca_nil))) (fun _ _ => rfl)) 5) (pv_at (pv_here (pv 3)) (er_var (pv 7)) (fun _ _ => rfl)) (er_var (pv 4))) (sr_cons (sr_do (er_mut mu_append PySem.F.slot_list_append PySem.F.type_list_append mt_append (pv 5) (ar_cons (er_var (pv 7)) ar_nil))) sr_nil)))) (sr_cons (sr_setP (ps_asg peW (pg_sub peW peW set_list)) (er_var (pv 4)) (pv_at (pv_here (pv 3)) (er_var (pv 4)) (fun _ _ => rfl)) (er_var (pv 4))) (sr_cons (sr_if (tr_w (tw_or (tr_cmp (op_eqD (hu_eq hr)) vr_eq (er_var (pv 2)) er_int (nomark _)) (tw_or1 (tr_w (tw_and (tr_cmp (op_eqD (hu_eq hr)) vr_eq (er_var (pv 2)) er_int (nomark _)) (tw_and1 (tr_cmp op_gt vr_c2 (er_call c_law_take hr (ca_io (pv 0) (ca_cons er_int ca_nil))) er_int (nomark _)))))))) (sr_cons (sr_for PassesOwn.never rfl (ir_range1 (ar_cons (er_var (pv 1)) ar_nil) (by rfl) B.range) (gr_name (pg_name (i := 7) S.nd rfl (.inl rfl))) (sr_cons (sr_if (tr_cmp (op_neD (hu_eq hr)) vr_ne (er_var (pv 7)) (er_var (pv 4)) (nomark _)) (sr_cons (sr_setP (ps_asg peW (pg_sub peW peW set_list)) (er_op op_mod vr_mod (er_op op_addAll vr_add (er_var (pv 7)) er_int) (er_var (pv 1))) (pv_at (pv_here (pv 3)) (er_var (pv 7)) (fun _ _ => rfl)) (er_var (pv 4))) sr_nil) sr_nil) sr_nil)) sr_nil) (sr_cons (sr_if (tr_cmp (op_eqD (hu_eq hr)) vr_eq (er_var (pv 2)) er_int (nomark _)) (sr_cons (sr_for PassesOwn.never rfl (ir_range1 (ar_cons (er_var (pv 1)) ar_nil) (by rfl) B.range) (gr_name (pg_name (i := 7) S.nd rfl (.inl rfl))) (sr_cons (sr_if (tr_cmp (op_neD (hu_eq hr)) vr_ne (er_var (pv 7)) (er_var (pv 4)) (nomark _)) (sr_cons (sr_setP (ps_asg peW (pg_sub peW peW set_list)) (er_op op_mod vr_mod (er_op op_sub' vr_sub (er_var (pv 7)) er_int) (er_var (pv 1))) (pv_at (pv_here (pv 3)) (er_var (pv 7)) (fun _ _ => rfl)) (er_var (pv 4))) sr_nil) sr_nil) sr_nil)) sr_nil) sr_nil) sr_nil)) sr_nil)))))) (sr_cons (sr_ret (er_tk (pv 3))) sr_nil))))
theorem c_law_many_k46 (Z : Zs K mg) : Fm P w K mg base 2 "_law_many" 1 m_law_many_k46 := by
  have B := Z.b
  have S := sc_law_many_k46
  have c_law_take := c_law_take (P := P) (w := w) (base := base) Z
  exact fm_mk (k := 1) Z.d_law_many_k46 sc_law_many_k46 [true] rfl fun f cdv Ar up s H E hr =>
    (sr_cons (sr_ret (er_ix ix_seq vr_ix (er_lst (ar_cons er_int (ar_cons er_int (ar_cons er_int (ar_cons er_int (ar_cons er_int (ar_cons er_int (ar_cons er_int (ar_cons er_int ar_nil))))))))) (er_call c_law_take hr (ca_io (pv 0) (ca_cons er_int ca_nil))) (fun _ _ => rfl))) sr_nil)
theorem c_law_follows (Z : Zs K mg) : Fm P w K mg base 1 "_law_follows" 2 m_law_follows := by
  have B := Z.b
  have S := sc_law_follows
  exact fm_mk (k := 0) Z.d_law_follows sc_law_follows [false, false] rfl fun f cdv Ar up s H E hr =>
    (sr_cons (sr_setO (ps_set (i := 2) S.nd rfl (.inl rfl) peW) (er_lst ar_nil)) (sr_cons (sr_for PassesOwn.never rfl (ir_range1 (ar_cons (er_callB call_len vr_len (by rfl) B.len bt_len (ar_cons (er_var (pv 0)) ar_nil)) ar_nil) (by rfl) B.range) (gr_name (pg_name (i := 3) S.nd rfl (.inl rfl))) (sr_cons (sr_set (ps_set (i := 4) S.nd rfl (.inl rfl) peW) (er_ix ix_seq vr_ix (er_ix ix_seq vr_ix (er_var (pv 0)) (er_var (pv 3)) (fun _ _ => rfl)) (er_var (pv 1)) (fun _ _ => rfl))) (sr_cons (sr_if (tr_w (tw_and (tr_cmp (op_neD (hu_eq hr)) vr_ne (er_var (pv 3)) (er_var (pv 1)) (nomark _)) (tw_and1 (tr_cmp (op_neD (hu_eq hr)) vr_ne (er_var (pv 4)) (er_var (pv 1)) (nomark _))))) (sr_cons (sr_do (er_mut mu_append PySem.F.slot_list_append PySem.F.type_list_append mt_append (pv 2) (ar_cons (er_tup (ar_cons (er_tup (ar_cons (er_var (pv 3)) (ar_cons (er_var (pv 4)) ar_nil))) (ar_cons (er_tup (ar_cons (er_var (pv 4)) (ar_cons (er_ix ix_seq vr_ix (er_ix ix_seq vr_ix (er_var (pv 0)) (er_var (pv 4)) (fun _ _ => rfl)) (er_var (pv 1)) (fun _ _ => rfl)) ar_nil))) ar_nil))) ar_nil))) sr_nil) sr_nil) sr_nil))) (sr_cons (sr_ret (er_tk (pv 2))) sr_nil)))
theorem c_law_rings (Z : Zs K mg) : Fm P w K mg base 1 "_law_rings" 1 m_law_rings := by
  have B := Z.b
  have S := sc_law_rings
  exact fm_mk (k := 0) Z.d_law_rings sc_law_rings [false] rfl fun f cdv Ar up s H E hr =>
    (sr_cons (sr_setO (ps_set (i := 1) S.nd rfl (.inl rfl) peW) er_dnewN) (sr_cons (sr_for PassesOwn.never rfl (ir_seq (er_var (pv 0))) (gr_tup rfl (grs_cons (gr_name (pg_name (i := 2) S.nd rfl (.inl rfl))) (grs_cons (gr_name (pg_name (i := 3) S.nd rfl (.inl rfl))) grs_nil))) (sr_cons (sr_setN (ps_nput (hu9 hr) (pv 1) peW peW rfl) (er_op op_addAll vr_add (er_nGetOr hr (pv 1) (ar_cons (er_var (pv 2)) (ar_cons (er_lst ar_nil) ar_nil))) (er_lst (ar_cons (er_var (pv 3)) ar_nil))) (er_var (pv 2))) sr_nil)) (sr_cons (sr_fzN (sr_for PassesOwn.never rfl (ir_nk (er_see (pv 1))) (gr_name (pg_name (i := 4) S.nd rfl (.inl rfl))) (sr_cons (sr_setO (ps_set (i := 5) S.nd rfl (.inl rfl) peW) er_dnewN) (sr_cons (sr_setO (ps_set (i := 6) S.nd rfl (.inl rfl) peW) (er_callTy call_list_of vr_list (by rfl) B.list bt_list (ar_cons (er_nGetO hr (pv 1) (er_var (pv 4)) (fun _ _ => rfl)) ar_nil))) (sr_cons (sr_while whF PassesOwn.never (tr_br (tr_cmp (op_neD (hu_eq hr)) vr_ne (er_see (pv 6)) (er_lst ar_nil) (nomark _)) 6) (sr_cons (sr_set (ps_set (i := 7) S.nd rfl (.inl rfl) peW) (er_mut0 mu_pop PySem.F.slot_list_pop PySem.F.type_list_pop mt_pop (pv 6))) (sr_cons (sr_if (tr_br (tr_nnotin hr (er_var (pv 7)) (er_see (pv 5)) (by with_unfolding_all rfl)) 5) (sr_cons (sr_setN (ps_nput (hu9 hr) (pv 5) peW peW rfl) er_bl (er_var (pv 7))) (sr_cons (sr_do (er_mut mu_extendA PySem.F.slot_list_extend PySem.F.type_list_extend mt_extendA (pv 6) (ar_cons (er_nGetOr hr (pv 1) (ar_cons (er_var (pv 7)) (ar_cons (er_lst ar_nil) ar_nil))) ar_nil))) sr_nil)) sr_nil) sr_nil))) (sr_cons (sr_if (tr_br (tr_nin hr (er_var (pv 4)) (er_see (pv 5)) (by with_unfolding_all rfl)) 5) (sr_cons (sr_ret er_bl) sr_nil) sr_nil) sr_nil))))) 1) (sr_cons (sr_ret er_bl) sr_nil))))
theorem c_law_level_rings (Z : Zs K mg) : Fm P w K mg base 2 "_law_level_rings" 3 m_law_level_rings := by
  have B := Z.b
  have S := sc_law_level_rings
  have c_law_follows := c_law_follows (P := P) (w := w) (base := base) Z
  have c_law_rings := c_law_rings (P := P) (w := w) (base := base) Z
  exact fm_mk (k := 1) Z.d_law_level_rings sc_law_level_rings [false, false, false] rfl fun f cdv Ar up s H E hr =>
    (sr_cons (sr_set (ps_set (i := 3) S.nd rfl (.inl rfl) peW) (er_lst ar_nil)) (sr_cons (sr_for PassesOwn.never rfl (ir_enum (er_var (pv 1)) (by rfl) B.enumerate) (gr_tup rfl (grs_cons (gr_name (pg_name (i := 4) S.nd rfl (.inl rfl))) (grs_cons (gr_name (pg_name (i := 5) S.nd rfl (.inl rfl))) grs_nil))) (sr_cons (sr_if (tr_cmp (op_eqD (hu_eq hr)) vr_eq (er_var (pv 5)) (er_var (pv 2)) (nomark _)) (sr_cons (sr_set (ps_set (i := 3) S.nd rfl (.inl rfl) peW) (er_op op_addAll vr_add (er_var (pv 3)) (er_call c_law_follows hr (ca_cons (er_var (pv 0)) (ca_cons (er_var (pv 4)) ca_nil))))) sr_nil) sr_nil) sr_nil)) (sr_cons (sr_ret (er_call c_law_rings hr (ca_cons (er_var (pv 3)) ca_nil))) sr_nil)))
theorem c_law_all_lists (Z : Zs K mg) : Fm P w K mg base 1 "_law_all_lists" 1 m_law_all_lists := by
  have B := Z.b
  have S := sc_law_all_lists
  exact fm_mk (k := 0) Z.d_law_all_lists sc_law_all_lists [false] rfl fun f cdv Ar up s H E hr =>
    (sr_cons (sr_set (ps_set (i := 1) S.nd rfl (.inl rfl) peW) (er_lst (ar_cons (er_lst ar_nil) ar_nil))) (sr_cons (sr_for PassesOwn.never rfl (ir_range1 (ar_cons (er_var (pv 0)) ar_nil) (by rfl) B.range) (gr_name (pg_name (i := 2) S.nd rfl (.inl rfl))) (sr_cons (sr_setO (ps_set (i := 3) S.nd rfl (.inl rfl) peW) (er_lst ar_nil)) (sr_cons (sr_for PassesOwn.never rfl (ir_seq (er_var (pv 1))) (gr_name (pg_name (i := 4) S.nd rfl (.inr rfl))) (sr_cons (sr_do (er_mut mu_extend PySem.F.slot_list_extend PySem.F.type_list_extend mt_extend (pv 3) (ar_cons (ev_er (pe_lc0 (own := [("_law_level", 5)]) rfl S.nd (blkOk_by (by kernel_rfl))) (ev_lc0 (own := [("_law_level", 5)]) (ir_range1 (ar_cons (er_op op_addAll vr_add (er_callB (cr_max rfl) vr_max (by rfl) B.max bt_max (ar_cons (er_op op_addAll vr_add (er_var (pv 4)) (er_lst (ar_cons (er_un un_neg vr_neg er_int) ar_nil))) ar_nil)) er_int) ar_nil) (by rfl) B.range) (fun _ _ _ _ _ => (gr_name (pg_name (i := 5) S.nd rfl (.inl rfl)))) (by decide) (fun _ _ _ _ _ => (er_op op_addAll vr_add (er_var (pv 4)) (er_lst (ar_cons (er_var (pv 5)) ar_nil)))))) ar_nil))) sr_nil)) (sr_cons (sr_fz (sr_set (ps_set (i := 1) S.nd rfl (.inl rfl) peW) (er_var (pv 3))) 3) sr_nil)))) (sr_cons (sr_ret (er_var (pv 1))) sr_nil)))
theorem c_law_due_k49 (Z : Zs K mg) : Fm P w K mg base 3 "_law_due" 1 m_law_due_k49 := by
  have B := Z.b
  have S := sc_law_due_k49
  have c_law_level_rings := c_law_level_rings (P := P) (w := w) (base := base) Z
  have c_law_all_lists := c_law_all_lists (P := P) (w := w) (base := base) Z
  exact fm_mk (k := 2) Z.d_law_due_k49 sc_law_due_k49 [false] rfl fun f cdv Ar up s H E hr =>
    (sr_cons (sr_setO (ps_set (i := 1) S.nd rfl (.inl rfl) peW) er_dnewN) (sr_cons (sr_set (ps_set (i := 2) S.nd rfl (.inl rfl) peW) er_non) (sr_cons (sr_for PassesOwn.never rfl (ir_seq (er_call c_law_all_lists hr (ca_cons (er_callB call_len vr_len (by rfl) B.len bt_len (ar_cons (er_var (pv 0)) ar_nil)) ca_nil))) (gr_name (pg_name (i := 3) S.nd rfl (.inl rfl))) (sr_cons (sr_set (ps_set (i := 4) S.nd rfl (.inl rfl) peW) (er_op op_addAll vr_add (er_callB (cr_max rfl) vr_max (by rfl) B.max bt_max (ar_cons (er_var (pv 3)) ar_nil)) er_int)) (sr_cons (sr_if (tr_w (tw_or (tr_cmp op_isN vr_isN (er_var (pv 2)) er_non (nomark _)) (tw_or1 (tr_cmp op_lt vr_c2 (er_var (pv 4)) (er_op op_addAll vr_add (er_callB (cr_max rfl) vr_max (by rfl) B.max bt_max (ar_cons (er_var (pv 2)) ar_nil)) er_int) (nomark _))))) (sr_cons (sr_set (ps_set (i := 5) S.nd rfl (.inl rfl) peW) er_bl) (sr_cons (sr_for PassesOwn.never rfl (ir_range1 (ar_cons (er_var (pv 4)) ar_nil) (by rfl) B.range) (gr_name (pg_name (i := 6) S.nd rfl (.inr rfl))) (sr_cons (sr_set (ps_set (i := 7) S.nd rfl (.inl rfl) peW) (er_callTy call_tuple_of vr_tuple (by rfl) B.tuple bt_tuple (ar_cons (ev_er (pe_lc1 (own := [("_law_goal", 8), ("_law_other", 9)]) rfl S.nd (blkOk_by (by kernel_rfl))) (ev_lc1 (own := [("_law_goal", 8), ("_law_other", 9)]) (ir_enum (er_var (pv 3)) (by rfl) B.enumerate) (fun _ _ _ _ _ => (gr_tup rfl (grs_cons (gr_name (pg_name (i := 8) S.nd rfl (.inl rfl))) (grs_cons (gr_name (pg_name (i := 9) S.nd rfl (.inl rfl))) grs_nil)))) (by decide) (fun _ _ _ _ _ => (tr_cmp (op_eqD (hu_eq hr)) vr_eq (er_var (pv 9)) (er_var (pv 6)) (nomark _))) (fun _ _ _ _ _ => (er_var (pv 8))))) ar_nil))) (sr_cons (sr_if (tr_br (tr_nnotin hr (er_var (pv 7)) (er_see (pv 1)) (by with_unfolding_all rfl)) 1) (sr_cons (sr_setN (ps_nput (hu9 hr) (pv 1) peW peW rfl) (er_not (er_call c_law_level_rings hr (ca_cons (er_var (pv 0)) (ca_cons (er_var (pv 3)) (ca_cons (er_var (pv 6)) ca_nil))))) (er_var (pv 7))) sr_nil) sr_nil) (sr_cons (sr_set (ps_set (i := 5) S.nd rfl (.inl rfl) peW) (er_or (er_var (pv 5)) (er_one (er_not (er_nGetO hr (pv 1) (er_var (pv 7)) (fun _ _ => rfl)))))) sr_nil)))) (sr_cons (sr_if (tr_not (tr_tru (er_var (pv 5)))) (sr_cons (sr_set (ps_set (i := 2) S.nd rfl (.inl rfl) peW) (er_var (pv 3))) sr_nil) sr_nil) sr_nil))) sr_nil) sr_nil))) (sr_cons (sr_ret (er_var (pv 2))) sr_nil))))
theorem c_law_k49 (Z : Zs K mg) : Fm P w K mg base 65 "law" 1 m_law_k49 := by
  have B := Z.b
  have S := sc_law_k49
  have c_shows_levels := c_shows_levels (P := P) (w := w) (base := base) Z
  have c_least_levels := c_least_levels (P := P) (w := w) (base := base) Z
  have c_law_tape := c_law_tape (P := P) (w := w) (base := base) Z
  have c_law_same := fun j => c_law_same (P := P) (w := w) (base := base) Z j
  have c_law_table := c_law_table (P := P) (w := w) (base := base) Z
  have c_law_many_k46 := c_law_many_k46 (P := P) (w := w) (base := base) Z
  have c_law_due_k49 := c_law_due_k49 (P := P) (w := w) (base := base) Z
  exact fm_mk (k := 64) Z.d_law_k49 sc_law_k49 [true] rfl fun f cdv Ar up s H E hr =>
    (sr_cons (sr_for PassesOwn.never rfl (ir_range1 (ar_cons (ev_br (er_op op_addAll vr_add er_int (er_callB (call_min2 rfl) vr_min2 (by rfl) B.min bt_min (ar_cons er_int (ar_cons (er_callB call_len vr_len (by rfl) B.len bt_len (ar_cons (er_see (pv 0)) ar_nil)) ar_nil)))) 0) ar_nil) (by rfl) B.range) (gr_name (pg_name (i := 1) S.nd rfl (.inl rfl))) (sr_cons (sr_setO (ps_set (i := 2) S.nd rfl (.inl rfl) peW) (er_call c_law_tape hr (ca_io (pv 0) (ca_cons (er_var (pv 1)) ca_nil)))) (sr_cons (sr_set (ps_set (i := 3) S.nd rfl (.inl rfl) peW) (er_call c_law_table hr (ca_io (pv 2) (ca_cons (er_call c_law_many_k46 hr (ca_io (pv 2) ca_nil)) ca_nil)))) (sr_cons (sr_set (ps_set (i := 4) S.nd rfl (.inl rfl) peW) (er_callB (call_repr hr) vr_repr (by rfl) B.repr bt_repr (ar_cons (er_var (pv 3)) ar_nil))) (sr_cons (sr_set (ps_set (i := 5) S.nd rfl (.inl rfl) peW) (er_call c_law_due_k49 hr (ca_cons (er_var (pv 3)) ca_nil))) (sr_cons (sr_setO (ps_set (i := 6) S.nd rfl (.inl rfl) peW) (er_call c_least_levels hr (ca_cons (er_var (pv 3)) ca_nil))) (sr_cons (sr_if (tr_w (tw_or (tr_br (tr_not (tr_tru (er_look (c_law_same 60) hr (ca_see (er_see (pv 6)) (ca_see (er_var (pv 5)) ca_nil))))) 6) (tw_or (tr_cmp (op_neD (hu_eq hr)) vr_ne (er_callB (call_repr hr) vr_repr (by rfl) B.repr bt_repr (ar_cons (er_var (pv 3)) ar_nil)) (er_var (pv 4)) (nomark _)) (tw_or1 (tr_br (tr_cmp op_notBl vr_notIsB (er_look c_shows_levels hr (ca_see (er_var (pv 3)) (ca_see (er_see (pv 6)) ca_nil))) er_bl (nomark _)) 6))))) (sr_cons (sr_ret er_bl) sr_nil) sr_nil) (sr_cons (sr_do (er_mut mu_append PySem.F.slot_list_append PySem.F.type_list_append mt_append (pv 6) (ar_cons er_int ar_nil))) (sr_cons (sr_if (tr_not (tr_tru (er_call (c_law_same 60) hr (ca_cons (er_call c_least_levels hr (ca_cons (er_var (pv 3)) ca_nil)) (ca_cons (er_var (pv 5)) ca_nil))))) (sr_cons (sr_ret er_bl) sr_nil) sr_nil) sr_nil))))))))) (sr_cons (sr_ret er_bl) sr_nil))
end
theorem zs_mk {K : PySem.W.Frag} {h : Heap} {mg : Str → Option Value} (X : K.In h) (G : h.Ns mainGlobals mg)
    {f0 : Addr} {od0 an0 : Option Addr} {sl0 : Array (Option Value)} {oc0 kV0 dc0 pm0 cd0 ct0 : Value} (a0 : PySem.W.nsIn K mainGlobals "is_house" = some (some (.ref f0))) (l0 : K.lookup f0 = some ⟨oc0, od0, .func (PySem.W.fnOf "is_house" "is_house" (defArgs (topS 1)) (defBody (topS 1)) (defScope (topS 1)) .none kV0 dc0 pm0 an0 cd0 ct0), sl0⟩) (c0 : PySem.W.codeIn K cd0 "is_house" = true) (k0 : PySem.W.keepIn K (.ref f0) = true)
    {f1 : Addr} {od1 an1 : Option Addr} {sl1 : Array (Option Value)} {oc1 kV1 dc1 pm1 cd1 ct1 : Value} (a1 : PySem.W.nsIn K mainGlobals "follows_of" = some (some (.ref f1))) (l1 : K.lookup f1 = some ⟨oc1, od1, .func (PySem.W.fnOf "follows_of" "follows_of" (defArgs (topS 2)) (defBody (topS 2)) (defScope (topS 2)) .none kV1 dc1 pm1 an1 cd1 ct1), sl1⟩) (c1 : PySem.W.codeIn K cd1 "follows_of" = true) (k1 : PySem.W.keepIn K (.ref f1) = true)
    {f2 : Addr} {od2 an2 : Option Addr} {sl2 : Array (Option Value)} {oc2 kV2 dc2 pm2 cd2 ct2 : Value} (a2 : PySem.W.nsIn K mainGlobals "has_ring" = some (some (.ref f2))) (l2 : K.lookup f2 = some ⟨oc2, od2, .func (PySem.W.fnOf "has_ring" "has_ring" (defArgs (topS 3)) (defBody (topS 3)) (defScope (topS 3)) .none kV2 dc2 pm2 an2 cd2 ct2), sl2⟩) (c2 : PySem.W.codeIn K cd2 "has_ring" = true) (k2 : PySem.W.keepIn K (.ref f2) = true)
    {f3 : Addr} {od3 an3 : Option Addr} {sl3 : Array (Option Value)} {oc3 kV3 dc3 pm3 cd3 ct3 : Value} (a3 : PySem.W.nsIn K mainGlobals "level_pairs" = some (some (.ref f3))) (l3 : K.lookup f3 = some ⟨oc3, od3, .func (PySem.W.fnOf "level_pairs" "level_pairs" (defArgs (topS 4)) (defBody (topS 4)) (defScope (topS 4)) .none kV3 dc3 pm3 an3 cd3 ct3), sl3⟩) (c3 : PySem.W.codeIn K cd3 "level_pairs" = true) (k3 : PySem.W.keepIn K (.ref f3) = true)
    {f4 : Addr} {od4 an4 : Option Addr} {sl4 : Array (Option Value)} {oc4 kV4 dc4 pm4 cd4 ct4 : Value} (a4 : PySem.W.nsIn K mainGlobals "shows_levels" = some (some (.ref f4))) (l4 : K.lookup f4 = some ⟨oc4, od4, .func (PySem.W.fnOf "shows_levels" "shows_levels" (defArgs (topS 5)) (defBody (topS 5)) (defScope (topS 5)) .none kV4 dc4 pm4 an4 cd4 ct4), sl4⟩) (c4 : PySem.W.codeIn K cd4 "shows_levels" = true) (k4 : PySem.W.keepIn K (.ref f4) = true)
    {f5 : Addr} {od5 an5 : Option Addr} {sl5 : Array (Option Value)} {oc5 kV5 dc5 pm5 cd5 ct5 : Value} (a5 : PySem.W.nsIn K mainGlobals "filled_levels" = some (some (.ref f5))) (l5 : K.lookup f5 = some ⟨oc5, od5, .func (PySem.W.fnOf "filled_levels" "filled_levels" (defArgs (topS 6)) (defBody (topS 6)) (defScope (topS 6)) .none kV5 dc5 pm5 an5 cd5 ct5), sl5⟩) (c5 : PySem.W.codeIn K cd5 "filled_levels" = true) (k5 : PySem.W.keepIn K (.ref f5) = true)
    {f6 : Addr} {od6 an6 : Option Addr} {sl6 : Array (Option Value)} {oc6 kV6 dc6 pm6 cd6 ct6 : Value} (a6 : PySem.W.nsIn K mainGlobals "least_levels" = some (some (.ref f6))) (l6 : K.lookup f6 = some ⟨oc6, od6, .func (PySem.W.fnOf "least_levels" "least_levels" (defArgs (topS 7)) (defBody (topS 7)) (defScope (topS 7)) .none kV6 dc6 pm6 an6 cd6 ct6), sl6⟩) (c6 : PySem.W.codeIn K cd6 "least_levels" = true) (k6 : PySem.W.keepIn K (.ref f6) = true)
    {f7 : Addr} {od7 an7 : Option Addr} {sl7 : Array (Option Value)} {oc7 kV7 dc7 pm7 cd7 ct7 : Value} (a7 : PySem.W.nsIn K mainGlobals "_law_cell_at" = some (some (.ref f7))) (l7 : K.lookup f7 = some ⟨oc7, od7, .func (PySem.W.fnOf "_law_cell_at" "_law_cell_at" (defArgs (topS 9)) (defBody (topS 9)) (defScope (topS 9)) .none kV7 dc7 pm7 an7 cd7 ct7), sl7⟩) (c7 : PySem.W.codeIn K cd7 "_law_cell_at" = true) (k7 : PySem.W.keepIn K (.ref f7) = true)
    {f8 : Addr} {od8 an8 : Option Addr} {sl8 : Array (Option Value)} {oc8 kV8 dc8 pm8 cd8 ct8 : Value} (a8 : PySem.W.nsIn K mainGlobals "_law_tape" = some (some (.ref f8))) (l8 : K.lookup f8 = some ⟨oc8, od8, .func (PySem.W.fnOf "_law_tape" "_law_tape" (defArgs (topS 10)) (defBody (topS 10)) (defScope (topS 10)) .none kV8 dc8 pm8 an8 cd8 ct8), sl8⟩) (c8 : PySem.W.codeIn K cd8 "_law_tape" = true) (k8 : PySem.W.keepIn K (.ref f8) = true)
    {f9 : Addr} {od9 an9 : Option Addr} {sl9 : Array (Option Value)} {oc9 kV9 dc9 pm9 cd9 ct9 : Value} (a9 : PySem.W.nsIn K mainGlobals "_law_take" = some (some (.ref f9))) (l9 : K.lookup f9 = some ⟨oc9, od9, .func (PySem.W.fnOf "_law_take" "_law_take" (defArgs (topS 11)) (defBody (topS 11)) (defScope (topS 11)) .none kV9 dc9 pm9 an9 cd9 ct9), sl9⟩) (c9 : PySem.W.codeIn K cd9 "_law_take" = true) (k9 : PySem.W.keepIn K (.ref f9) = true)
    {f10 : Addr} {od10 an10 : Option Addr} {sl10 : Array (Option Value)} {oc10 kV10 dc10 pm10 cd10 ct10 : Value} (a10 : PySem.W.nsIn K mainGlobals "_law_same" = some (some (.ref f10))) (l10 : K.lookup f10 = some ⟨oc10, od10, .func (PySem.W.fnOf "_law_same" "_law_same" (defArgs (topS 12)) (defBody (topS 12)) (defScope (topS 12)) .none kV10 dc10 pm10 an10 cd10 ct10), sl10⟩) (c10 : PySem.W.codeIn K cd10 "_law_same" = true) (k10 : PySem.W.keepIn K (.ref f10) = true)
    {f11 : Addr} {od11 an11 : Option Addr} {sl11 : Array (Option Value)} {oc11 kV11 dc11 pm11 cd11 ct11 : Value} (a11 : PySem.W.nsIn K mainGlobals "_law_table" = some (some (.ref f11))) (l11 : K.lookup f11 = some ⟨oc11, od11, .func (PySem.W.fnOf "_law_table" "_law_table" (defArgs (topS 13)) (defBody (topS 13)) (defScope (topS 13)) .none kV11 dc11 pm11 an11 cd11 ct11), sl11⟩) (c11 : PySem.W.codeIn K cd11 "_law_table" = true) (k11 : PySem.W.keepIn K (.ref f11) = true)
    {f12 : Addr} {od12 an12 : Option Addr} {sl12 : Array (Option Value)} {oc12 kV12 dc12 pm12 cd12 ct12 : Value} (a12 : PySem.W.nsIn K mainGlobals "_law_many" = some (some (.ref f12))) (l12 : K.lookup f12 = some ⟨oc12, od12, .func (PySem.W.fnOf "_law_many" "_law_many" (defArgs (topS 14)) (defBody (topS 14)) (defScope (topS 14)) .none kV12 dc12 pm12 an12 cd12 ct12), sl12⟩) (c12 : PySem.W.codeIn K cd12 "_law_many" = true) (k12 : PySem.W.keepIn K (.ref f12) = true)
    {f13 : Addr} {od13 an13 : Option Addr} {sl13 : Array (Option Value)} {oc13 kV13 dc13 pm13 cd13 ct13 : Value} (a13 : PySem.W.nsIn K mainGlobals "_law_follows" = some (some (.ref f13))) (l13 : K.lookup f13 = some ⟨oc13, od13, .func (PySem.W.fnOf "_law_follows" "_law_follows" (defArgs (topS 15)) (defBody (topS 15)) (defScope (topS 15)) .none kV13 dc13 pm13 an13 cd13 ct13), sl13⟩) (c13 : PySem.W.codeIn K cd13 "_law_follows" = true) (k13 : PySem.W.keepIn K (.ref f13) = true)
    {f14 : Addr} {od14 an14 : Option Addr} {sl14 : Array (Option Value)} {oc14 kV14 dc14 pm14 cd14 ct14 : Value} (a14 : PySem.W.nsIn K mainGlobals "_law_rings" = some (some (.ref f14))) (l14 : K.lookup f14 = some ⟨oc14, od14, .func (PySem.W.fnOf "_law_rings" "_law_rings" (defArgs (topS 16)) (defBody (topS 16)) (defScope (topS 16)) .none kV14 dc14 pm14 an14 cd14 ct14), sl14⟩) (c14 : PySem.W.codeIn K cd14 "_law_rings" = true) (k14 : PySem.W.keepIn K (.ref f14) = true)
    {f15 : Addr} {od15 an15 : Option Addr} {sl15 : Array (Option Value)} {oc15 kV15 dc15 pm15 cd15 ct15 : Value} (a15 : PySem.W.nsIn K mainGlobals "_law_level_rings" = some (some (.ref f15))) (l15 : K.lookup f15 = some ⟨oc15, od15, .func (PySem.W.fnOf "_law_level_rings" "_law_level_rings" (defArgs (topS 17)) (defBody (topS 17)) (defScope (topS 17)) .none kV15 dc15 pm15 an15 cd15 ct15), sl15⟩) (c15 : PySem.W.codeIn K cd15 "_law_level_rings" = true) (k15 : PySem.W.keepIn K (.ref f15) = true)
    {f16 : Addr} {od16 an16 : Option Addr} {sl16 : Array (Option Value)} {oc16 kV16 dc16 pm16 cd16 ct16 : Value} (a16 : PySem.W.nsIn K mainGlobals "_law_all_lists" = some (some (.ref f16))) (l16 : K.lookup f16 = some ⟨oc16, od16, .func (PySem.W.fnOf "_law_all_lists" "_law_all_lists" (defArgs (topS 18)) (defBody (topS 18)) (defScope (topS 18)) .none kV16 dc16 pm16 an16 cd16 ct16), sl16⟩) (c16 : PySem.W.codeIn K cd16 "_law_all_lists" = true) (k16 : PySem.W.keepIn K (.ref f16) = true)
    {f17 : Addr} {od17 an17 : Option Addr} {sl17 : Array (Option Value)} {oc17 kV17 dc17 pm17 cd17 ct17 : Value} (a17 : PySem.W.nsIn K mainGlobals "_law_due" = some (some (.ref f17))) (l17 : K.lookup f17 = some ⟨oc17, od17, .func (PySem.W.fnOf "_law_due" "_law_due" (defArgs (topS 19)) (defBody (topS 19)) (defScope (topS 19)) .none kV17 dc17 pm17 an17 cd17 ct17), sl17⟩) (c17 : PySem.W.codeIn K cd17 "_law_due" = true) (k17 : PySem.W.keepIn K (.ref f17) = true)
    {f18 : Addr} {od18 an18 : Option Addr} {sl18 : Array (Option Value)} {oc18 kV18 dc18 pm18 cd18 ct18 : Value} (a18 : PySem.W.nsIn K mainGlobals "law" = some (some (.ref f18))) (l18 : K.lookup f18 = some ⟨oc18, od18, .func (PySem.W.fnOf "law" "law" (defArgs (topS 20)) (defBody (topS 20)) (defScope (topS 20)) .none kV18 dc18 pm18 an18 cd18 ct18), sl18⟩) (c18 : PySem.W.codeIn K cd18 "law" = true) (k18 : PySem.W.keepIn K (.ref f18) = true)
    (z_len : PySem.W.nsIn K mainGlobals "len" = some none)
    (z_range : PySem.W.nsIn K mainGlobals "range" = some none)
    (z_enumerate : PySem.W.nsIn K mainGlobals "enumerate" = some none)
    (z_zip : PySem.W.nsIn K mainGlobals "zip" = some none)
    (z_reversed : PySem.W.nsIn K mainGlobals "reversed" = some none)
    (z_abs : PySem.W.nsIn K mainGlobals "abs" = some none)
    (z_min : PySem.W.nsIn K mainGlobals "min" = some none)
    (z_max : PySem.W.nsIn K mainGlobals "max" = some none)
    (z_int : PySem.W.nsIn K mainGlobals "int" = some none)
    (z_bool : PySem.W.nsIn K mainGlobals "bool" = some none)
    (z_list : PySem.W.nsIn K mainGlobals "list" = some none)
    (z_tuple : PySem.W.nsIn K mainGlobals "tuple" = some none)
    (z_set : PySem.W.nsIn K mainGlobals "set" = some none)
    (z_dict : PySem.W.nsIn K mainGlobals "dict" = some none)
    (z_sorted : PySem.W.nsIn K mainGlobals "sorted" = some none)
    (z_sum : PySem.W.nsIn K mainGlobals "sum" = some none)
    (z_all : PySem.W.nsIn K mainGlobals "all" = some none)
    (z_any : PySem.W.nsIn K mainGlobals "any" = some none)
    (z_str : PySem.W.nsIn K mainGlobals "str" = some none)
    (z_repr : PySem.W.nsIn K mainGlobals "repr" = some none)
    (z_isinstance : PySem.W.nsIn K mainGlobals "isinstance" = some none)
    : Zs K mg where
  b := ⟨PySem.W.mg_none_of X G z_len, PySem.W.mg_none_of X G z_range, PySem.W.mg_none_of X G z_enumerate, PySem.W.mg_none_of X G z_zip, PySem.W.mg_none_of X G z_reversed, PySem.W.mg_none_of X G z_abs, PySem.W.mg_none_of X G z_min, PySem.W.mg_none_of X G z_max, PySem.W.mg_none_of X G z_int, PySem.W.mg_none_of X G z_bool, PySem.W.mg_none_of X G z_list, PySem.W.mg_none_of X G z_tuple, PySem.W.mg_none_of X G z_set, PySem.W.mg_none_of X G z_dict, PySem.W.mg_none_of X G z_sorted, PySem.W.mg_none_of X G z_sum, PySem.W.mg_none_of X G z_all, PySem.W.mg_none_of X G z_any, PySem.W.mg_none_of X G z_str, PySem.W.mg_none_of X G z_repr, PySem.W.mg_none_of X G z_isinstance⟩
  d_is_house := dn_mk X G a0 l0 c0 k0 fun _ _ _ _ _ _ us hl => match us, hl with | [_, _], _ => rfl
  d_follows_of := dn_mk X G a1 l1 c1 k1 fun _ _ _ _ _ _ us hl => match us, hl with | [_, _], _ => rfl
  d_has_ring := dn_mk X G a2 l2 c2 k2 fun _ _ _ _ _ _ us hl => match us, hl with | [_], _ => rfl
  d_level_pairs := dn_mk X G a3 l3 c3 k3 fun _ _ _ _ _ _ us hl => match us, hl with | [_, _, _], _ => rfl
  d_shows_levels := dn_mk X G a4 l4 c4 k4 fun _ _ _ _ _ _ us hl => match us, hl with | [_, _], _ => rfl
  d_filled_levels := dn_mk X G a5 l5 c5 k5 fun _ _ _ _ _ _ us hl => match us, hl with | [_, _, _], _ => rfl
  d_least_levels := dn_mk X G a6 l6 c6 k6 fun _ _ _ _ _ _ us hl => match us, hl with | [_], _ => rfl
  d_law_cell_at := dn_mk X G a7 l7 c7 k7 fun _ _ _ _ _ _ us hl => match us, hl with | [_, _], _ => rfl
  d_law_tape := dn_mk X G a8 l8 c8 k8 fun _ _ _ _ _ _ us hl => match us, hl with | [_, _], _ => rfl
  d_law_take := dn_mk X G a9 l9 c9 k9 fun _ _ _ _ _ _ us hl => match us, hl with | [_, _], _ => rfl
  d_law_same := dn_mk X G a10 l10 c10 k10 fun _ _ _ _ _ _ us hl => match us, hl with | [_, _], _ => rfl
  d_law_table := dn_mk X G a11 l11 c11 k11 fun _ _ _ _ _ _ us hl => match us, hl with | [_, _], _ => rfl
  d_law_many_k46 := dn_mk X G a12 l12 c12 k12 fun _ _ _ _ _ _ us hl => match us, hl with | [_], _ => rfl
  d_law_follows := dn_mk X G a13 l13 c13 k13 fun _ _ _ _ _ _ us hl => match us, hl with | [_, _], _ => rfl
  d_law_rings := dn_mk X G a14 l14 c14 k14 fun _ _ _ _ _ _ us hl => match us, hl with | [_], _ => rfl
  d_law_level_rings := dn_mk X G a15 l15 c15 k15 fun _ _ _ _ _ _ us hl => match us, hl with | [_, _, _], _ => rfl
  d_law_all_lists := dn_mk X G a16 l16 c16 k16 fun _ _ _ _ _ _ us hl => match us, hl with | [_], _ => rfl
  d_law_due_k49 := dn_mk X G a17 l17 c17 k17 fun _ _ _ _ _ _ us hl => match us, hl with | [_], _ => rfl
  d_law_k49 := dn_mk X G a18 l18 c18 k18 fun _ _ _ _ _ _ us hl => match us, hl with | [_], _ => rfl

end La
open PySem PySem.W PyProof.Rows
set_option maxHeartbeats 0 in
theorem PySem.Challenge.cw_trainlanes_k49_least_levels_holds : PySem.Challenge.rw_trainlanes_k49_least_levels.Holds := by
  w_on; o_law; k_head; (case hw => w_witness2)
  k_fill
  refine Tl.law_end (k := 65) rfl rfl Tl.rm_caller (fun w h Y => PySem.W.kIn_of Y) ?F La.main
  case F =>
    intro w mg h KX G base _ _
    refine La.c_law_k49 ?Z
    refine' La.zs_mk KX G ?a0 ?l0 ?c0 ?k0 ?a1 ?l1 ?c1 ?k1 ?a2 ?l2 ?c2 ?k2 ?a3 ?l3 ?c3 ?k3 ?a4 ?l4 ?c4 ?k4 ?a5 ?l5 ?c5 ?k5 ?a6 ?l6 ?c6 ?k6 ?a7 ?l7 ?c7 ?k7 ?a8 ?l8 ?c8 ?k8 ?a9 ?l9 ?c9 ?k9 ?a10 ?l10 ?c10 ?k10 ?a11 ?l11 ?c11 ?k11 ?a12 ?l12 ?c12 ?k12 ?a13 ?l13 ?c13 ?k13 ?a14 ?l14 ?c14 ?k14 ?a15 ?l15 ?c15 ?k15 ?a16 ?l16 ?c16 ?k16 ?a17 ?l17 ?c17 ?k17 ?a18 ?l18 ?c18 ?k18 ?z_len ?z_range ?z_enumerate ?z_zip ?z_reversed ?z_abs ?z_min ?z_max ?z_int ?z_bool ?z_list ?z_tuple ?z_set ?z_dict ?z_sorted ?z_sum ?z_all ?z_any ?z_str ?z_repr ?z_isinstance
    (case a0 => k_is); (case l0 => k_is); (case c0 => k_is); (case k0 => k_is); (case a1 => k_is); (case l1 => k_is); (case c1 => k_is); (case k1 => k_is); (case a2 => k_is); (case l2 => k_is); (case c2 => k_is); (case k2 => k_is); (case a3 => k_is); (case l3 => k_is); (case c3 => k_is); (case k3 => k_is); (case a4 => k_is); (case l4 => k_is); (case c4 => k_is); (case k4 => k_is); (case a5 => k_is); (case l5 => k_is); (case c5 => k_is); (case k5 => k_is); (case a6 => k_is); (case l6 => k_is); (case c6 => k_is); (case k6 => k_is); (case a7 => k_is); (case l7 => k_is); (case c7 => k_is); (case k7 => k_is); (case a8 => k_is); (case l8 => k_is); (case c8 => k_is); (case k8 => k_is); (case a9 => k_is); (case l9 => k_is); (case c9 => k_is); (case k9 => k_is); (case a10 => k_is); (case l10 => k_is); (case c10 => k_is); (case k10 => k_is); (case a11 => k_is); (case l11 => k_is); (case c11 => k_is); (case k11 => k_is); (case a12 => k_is); (case l12 => k_is); (case c12 => k_is); (case k12 => k_is); (case a13 => k_is); (case l13 => k_is); (case c13 => k_is); (case k13 => k_is); (case a14 => k_is); (case l14 => k_is); (case c14 => k_is); (case k14 => k_is); (case a15 => k_is); (case l15 => k_is); (case c15 => k_is); (case k15 => k_is); (case a16 => k_is); (case l16 => k_is); (case c16 => k_is); (case k16 => k_is); (case a17 => k_is); (case l17 => k_is); (case c17 => k_is); (case k17 => k_is); (case a18 => k_is); (case l18 => k_is); (case c18 => k_is); (case k18 => k_is); (case z_len => k_is); (case z_range => k_is); (case z_enumerate => k_is); (case z_zip => k_is); (case z_reversed => k_is); (case z_abs => k_is); (case z_min => k_is); (case z_max => k_is); (case z_int => k_is); (case z_bool => k_is); (case z_list => k_is); (case z_tuple => k_is); (case z_set => k_is); (case z_dict => k_is); (case z_sorted => k_is); (case z_sum => k_is); (case z_all => k_is); (case z_any => k_is); (case z_str => k_is); (case z_repr => k_is); (case z_isinstance => k_is)
