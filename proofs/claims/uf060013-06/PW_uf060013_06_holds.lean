import PyProof.Rows.All
import Wide.All
import OpenK.AllK
import Wide.FinOn
import PyProof.Rows.CompDC
import PyProof.Rows.RowHeap
import PyProof.Rows.IntRules
import PyProof.PureInt
import PyProof.PureStr
import PyProof.WalksMore
import PyProof.Rows.RuleB_floordiv
import PyProof.Rows.RuleB_mod
import PyProof.Rows.RuleB_mul
import PyProof.Rows.Nodes
import PyProof.Rows.Exc
import PyProof.StrBlock
import PyProof.IsRules
import PyProof.NeData
import PyProof.Rows.TupSub
import PyProof.Rows.StrSub
import PyProof.Rows.SeqSlice
import PyProof.SliceList
import PyProof.StrBlockL
import PyProof.Rows.StrTemp
import OpenK.KLine
import PyProof.ForRange
import PyProof.DictWalks
import PyProof.CompFree
import PyProof.StrCalls
import PyProof.StrCalls2
import PyProof.Rows.StrJoin2
import PyProof.StrLawsFirst
import PyProof.StrLawsIn
import PyProof.IsiPairs
import PyProof.IsiHeapPairs
import PyProof.CallStr
import PyProof.Conv_int_bool
import KE.KIntText
import PyProof.P3Eq
import PyProof.ListCopy
import PyProof.WalkInts
import PyProof.StrLawsChain
import PyProof.StrLawsTight
import PyProof.Rows.StrFacts2
import PyProof.CallRoads3
import PyProof.MeetsStr2
import PyProof.StrOps2
import PyProof.ForAppend
import PyProof.Rows.ListMulArg
import PyProof.StrLawsReplace
import PyProof.StrCalls6
import KE.KListMore
import PyProof.Rows.RuleU_int
import PyProof.AutoSeq1
import PyProof.ConsumeWalk
import PyProof.StationsW
import PyProof.PassesOwn
import PyProof.RulesTry
import PyProof.RulesAs
import PyProof.ExcClass3
import PyProof.Rows.Own
import PyProof.ExcBaseAll.ValueError
import OpenK.KOwn
import PyProof.DictRoads
import PyProof.DictStraight
import PyProof.Raises
import OpenK.KMore
import PyProof.Draws
import PyProof.EnumMake
import KE.KDictList
import KE.KEqDict
import PyProof.DictDisplay
import PyProof.P3In
import PyProof.DictCalls
import KE.KIsNot
import KE.KIsAll
import PyProof.ExcArgs
import KE.KTryMore
import KE.KDictOf
import PyProof.AttrMissHeap
import PyProof.DictTruth
import PySem.Challenge.RW_uf060013_06
set_option Elab.async false
set_option tactic.hygienic false
set_option linter.all false
set_option compiler.extract_closed false
set_option maxRecDepth 100000
set_option maxHeartbeats 8000000
local macro_rules | `(tactic| omega) => `(tactic| first | decide | (with_reducible assumption) | omega +splitDisjunctions)
namespace Mine
theorem get_map {α β : Type} {f : α → β} {l : List α} {i : Nat} {d : β} (hd : (l.map f)[i]? = some d) : ∃ q, l[i]? = some q ∧ d = f q := by
  rw [List.getElem?_map] at hd
  obtain ⟨q, h1, h2⟩ := Option.map_eq_some_iff.mp hd
  exact ⟨q, h1, h2.symm⟩
end Mine
section
open PySem PySem.Calls PyProof.Rows
set_option linter.all false
namespace Mine
variable {N : Nat}

inductive Fl where
  | c | b | o
  | s (x : Addr × Option Str)

noncomputable def KpH (N : Nat) (h h' : Heap) : Prop := ∀ b o, h.get? b = some o → ∃ sl, h'.get? b = some { o with slots := sl } ∧ ((o.cls ≠ .type "frame" ∨ b < N ∨ ∃ vs, o.data = .fields vs) → sl = o.slots)
theorem KpH.of {h h' : Heap} (hk : ∀ b o, h.get? b = some o → h'.get? b = some o) : KpH N h h' := fun b o e => ⟨o.slots, hk b o e, fun _ => rfl⟩
theorem KpH.refl (h : Heap) : KpH N h h := .of fun _ _ e => e
theorem KpH.trans {h₁ h₂ h₃ : Heap} (x : KpH N h₁ h₂) (y : KpH N h₂ h₃) : KpH N h₁ h₃ := fun b o e => by
  obtain ⟨sl, e1, f1⟩ := x b o e
  obtain ⟨sl', e2, f2⟩ := y b _ e1
  exact ⟨sl', e2, fun hc => (f2 hc).trans (f1 hc)⟩
theorem KpH.get {h h' : Heap} (x : KpH N h h') {b : Addr} {o : Obj} (e : h.get? b = some o) (hc : o.cls ≠ .type "frame") : h'.get? b = some o := by
  obtain ⟨sl, e1, f1⟩ := x b o e
  rw [e1, f1 (.inl hc)]
theorem KpH.none {h h' : Heap} (x : KpH N h h') {b : Addr} (e : h'.get? b = none) : h.get? b = none := by
  cases q : h.get? b with
  | none => rfl
  | some o => obtain ⟨sl, e1, _⟩ := x b o q; rw [e] at e1; cases e1
theorem KpH.push {h h' : Heap} (x : KpH N h h') (o : Obj) : KpH N h (h'.push o) := x.trans (.of fun _ _ e => Heap.get?_push_of_some o e)
theorem KpH.ns {h h' : Heap} (x : KpH N h h') {a : Addr} {m : Str → Option Value} (hn : h.Ns a m) : h'.Ns a m := by
  obtain ⟨o, es, ep, e, r⟩ := hn
  obtain ⟨sl, e1, _⟩ := x a o e
  exact ⟨_, es, ep, e1, r⟩
theorem KpH.cell {h h' : Heap} (x : KpH N h h') {c : Addr} {v : Option Value} (hn : h.IsCell c v) : h'.IsCell c v := by
  obtain ⟨o, e, r⟩ := hn
  obtain ⟨sl, e1, _⟩ := x c o e
  exact ⟨_, e1, r⟩
theorem KpH.list {h h' : Heap} (x : KpH N h h') {a : Addr} {vs : Array Value} (hl : h.IsList a vs) : h'.IsList a vs := by
  obtain ⟨o, e, r⟩ := hl
  obtain ⟨sl, e1, _⟩ := x a o e
  exact ⟨_, e1, r⟩
theorem KpH.noLimit {h h' : Heap} (x : KpH N h h') (hl : h.NoLimit) : h'.NoLimit := let ⟨mc, a, b⟩ := hl; ⟨mc, x.ns a, b⟩
theorem reads_ind {h : Heap} {P : Value → PyData → List Addr → Prop} {PA : List Value → List PyData → List Addr → Prop}
    (h0 : P .none .none []) (h1 : ∀ b, P (.bool b) (.bool b) []) (h2 : ∀ i t, P (.int i t) (.int i) []) (h3 : ∀ x t, P (.str x t) (.str x) [])
    (h4 : ∀ {a o vs n xs as}, h.get? a = some o → o.cls = .type "list" → o.data = .seq vs n → ReadsAll h vs.toList xs as → PA vs.toList xs as → P (.ref a) (.list xs) (a :: as))
    (h5 : ∀ {a o vs n xs as}, h.get? a = some o → o.cls = .type "tuple" → o.data = .seq vs n → ReadsAll h vs.toList xs as → PA vs.toList xs as → P (.ref a) (.tuple xs) as)
    (h6 : ∀ {a o es n kvs as bs}, h.get? a = some o → o.cls = .type "dict" → o.data = .dict es n → ReadsAll h (es.toList.map (·.key)) (kvs.map (·.1)) as → ReadsAll h (es.toList.map (·.val)) (kvs.map (·.2)) bs →
      PA (es.toList.map (·.key)) (kvs.map (·.1)) as → PA (es.toList.map (·.val)) (kvs.map (·.2)) bs → P (.ref a) (.dict kvs) (a :: as ++ bs))
    (h7 : PA [] [] []) (h8 : ∀ {v vs d ds as bs}, Reads h v d as → ReadsAll h vs ds bs → P v d as → PA vs ds bs → PA (v :: vs) (d :: ds) (as ++ bs)) :
    (∀ {v d as}, Reads h v d as → P v d as) ∧ ∀ {vs ds as}, ReadsAll h vs ds as → PA vs ds as :=
  ⟨fun r => Reads.rec (motive_1 := fun v d as _ => P v d as) (motive_2 := fun vs ds as _ => PA vs ds as) h0 h1 h2 h3 h4 h5 h6 h7 h8 r, fun r => ReadsAll.rec (motive_1 := fun v d as _ => P v d as) (motive_2 := fun vs ds as _ => PA vs ds as) h0 h1 h2 h3 h4 h5 h6 h7 h8 r⟩
theorem reads_kp2 {h h' : Heap} (hk : KpH N h h') : (∀ {v : Value} {d : PyData} {as : List Addr}, Reads h v d as → Reads h' v d as) ∧ ∀ {vs : List Value} {ds : List PyData} {as : List Addr}, ReadsAll h vs ds as → ReadsAll h' vs ds as :=
  reads_ind .none .bool .int .str (fun ho hc hd _ ha => let ⟨_, e, _⟩ := hk _ _ ho; .list e hc hd ha) (fun ho hc hd _ ha => let ⟨_, e, _⟩ := hk _ _ ho; .tuple e hc hd ha)
    (fun ho hc hd _ _ ha hb => let ⟨_, e, _⟩ := hk _ _ ho; .dict e hc hd ha hb) .nil (fun _ _ ha hb => .cons ha hb)
theorem reads_kp {h h' : Heap} (hk : KpH N h h') {v : Value} {d : PyData} {as : List Addr} (r : Reads h v d as) : Reads h' v d as := (reads_kp2 hk).1 r
theorem readsAll_kp {h h' : Heap} (hk : KpH N h h') {vs : List Value} {ds : List PyData} {as : List Addr} (r : ReadsAll h vs ds as) : ReadsAll h' vs ds as := (reads_kp2 hk).2 r

inductive Vl where
  | d (x : PyData)
  | i (C : Addr) (fs : List (Str × PyData))

noncomputable def Dok (w : World) (h : Heap) (as : List Addr) : Prop :=
  ∀ a ∈ as, ∃ o, h.get? a = some o ∧ ∀ es n, o.data = .dict es n → a ≠ sysModules ∧ (o.cls = .type "dict" ∧ o.dict = none ∧ o.slots = #[]) ∧ ∀ e ∈ es.toList, ∃ x t, e.key = .str x t ∧ e.hash = PyData.keyHash w.params x

noncomputable def Rep (w : World) (R : Addr → Prop) (h : Heap) (v : Value) (d : PyData) : Prop := ∃ as, Reads h v d as ∧ (∀ a ∈ as, R a) ∧ Dok w h as

noncomputable def FieldsRep (w : World) (R : Addr → Prop) (h : Heap) : List DictEntry → List (Str × PyData) → Prop
  | [], [] => True
  | e :: es, (x, d) :: fs => (∃ t, e.key = .str x t) ∧ e.hash = PyData.keyHash w.params x ∧ Rep w R h e.val d ∧ FieldsRep w R h es fs
  | _, _ => False

noncomputable def InstRep (w : World) (R : Addr → Prop) (h : Heap) (v : Value) (C : Addr) (fs : List (Str × PyData)) : Prop :=
  ∃ x dx es n, v = .ref x ∧ R x ∧ R dx ∧ h.get? x = some { cls := .ref C, dict := some dx } ∧
    h.get? dx = some { cls := .type "dict", data := .dict (List.toArray es) n } ∧ FieldsRep w R h es fs

noncomputable def RepV (w : World) (R : Addr → Prop) (h : Heap) (v : Value) : Vl → Prop
  | .d d => Rep w R h v d
  | .i C fs => InstRep w R h v C fs

section
variable {w : World} {R R' : Addr → Prop} {h h' : Heap} {v : Value}

theorem Dok.keeps {as : List Addr} (x : Dok w h as) (hk : KpH N h h') : Dok w h' as :=
  fun a ha => by
    obtain ⟨o, ho, r⟩ := x a ha
    obtain ⟨sl, e, f⟩ := hk a o ho
    refine ⟨_, e, fun es n q => ?_⟩
    obtain ⟨r1, r2, r3⟩ := r es n q
    exact ⟨r1, ⟨r2.1, r2.2.1, (f (.inl (by rw [r2.1]; simp))).trans r2.2.2⟩, r3⟩
theorem Dok.append {as bs : List Addr} (x : Dok w h as) (y : Dok w h bs) : Dok w h (as ++ bs) :=
  fun a ha => (List.mem_append.mp ha).elim (x a) (y a)
theorem Dok.nil : Dok w h [] := fun _ ha => (nomatch ha)
theorem Rep.keeps {d : PyData} (x : Rep w R h v d) (hk : KpH N h h') : Rep w R h' v d :=
  let ⟨as, r, hr, hd⟩ := x; ⟨as, reads_kp hk r, hr, hd.keeps hk⟩
theorem Rep.mono {d : PyData} (x : Rep w R h v d) (hR : ∀ a, R a → R' a) : Rep w R' h v d :=
  let ⟨as, r, hr, hd⟩ := x; ⟨as, r, fun a ha => hR a (hr a ha), hd⟩
theorem FieldsRep.keeps (hk : KpH N h h') : ∀ {es : List DictEntry} {fs : List (Str × PyData)}, FieldsRep w R h es fs → FieldsRep w R h' es fs
  | [], [], _ => trivial
  | _ :: _, (_, _) :: _, ⟨a, b, c, r⟩ => ⟨a, b, c.keeps hk, FieldsRep.keeps hk r⟩
theorem FieldsRep.mono (hR : ∀ a, R a → R' a) : ∀ {es : List DictEntry} {fs : List (Str × PyData)}, FieldsRep w R h es fs → FieldsRep w R' h es fs
  | [], [], _ => trivial
  | _ :: _, (_, _) :: _, ⟨a, b, c, r⟩ => ⟨a, b, c.mono hR, FieldsRep.mono hR r⟩
theorem RepV.keeps {x : Vl} (r : RepV w R h v x) (hk : KpH N h h') : RepV w R h' v x := by
  cases x with
  | d x => exact Rep.keeps r hk
  | i C fs =>
    obtain ⟨x, dx, es, n, a1, a2, a3, a4, a5, a6⟩ := r
    exact ⟨x, dx, es, n, a1, a2, a3, hk.get a4 (by simp), hk.get a5 (by simp), a6.keeps hk⟩
theorem RepV.mono {x : Vl} (r : RepV w R h v x) (hR : ∀ a, R a → R' a) : RepV w R' h v x := by
  cases x with
  | d x => exact Rep.mono r hR
  | i C fs =>
    obtain ⟨x, dx, es, n, a1, a2, a3, a4, a5, a6⟩ := r
    exact ⟨x, dx, es, n, a1, hR _ a2, hR _ a3, a4, a5, a6.mono hR⟩
theorem rep_none : Rep w R h .none .none := ⟨[], .none, fun _ ha => (nomatch ha), .nil⟩
theorem rep_bool (b : Bool) : Rep w R h (.bool b) (.bool b) := ⟨[], .bool b, fun _ ha => (nomatch ha), .nil⟩
theorem rep_int (i : Int) (t : Tok) : Rep w R h (.int i t) (.int i) := ⟨[], .int i t, fun _ ha => (nomatch ha), .nil⟩
theorem rep_str (x : Str) (t : Tok) : Rep w R h (.str x t) (.str x) := ⟨[], .str x t, fun _ ha => (nomatch ha), .nil⟩
theorem Rep.int_inv {i : Int} (x : Rep w R h v (.int i)) : ∃ t, v = .int i t := by
  obtain ⟨as, r, _⟩ := x; cases r; exact ⟨_, rfl⟩
theorem Rep.bool_inv {b : Bool} (x : Rep w R h v (.bool b)) : v = .bool b := by
  obtain ⟨as, r, _⟩ := x; cases r; rfl
theorem Rep.str_inv {y : Str} (x : Rep w R h v (.str y)) : ∃ t, v = .str y t := by
  obtain ⟨as, r, _⟩ := x; cases r; exact ⟨_, rfl⟩
end

noncomputable def RepAll (w : World) (R : Addr → Prop) (h : Heap) (vs : List Value) (ds : List PyData) : Prop := ∃ as, ReadsAll h vs ds as ∧ (∀ a ∈ as, R a) ∧ Dok w h as
section
variable {w : World} {R R' : Addr → Prop} {h h' : Heap} {v : Value} {vs ws : List Value} {ds es : List PyData} {d : PyData}
theorem RepAll.nil : RepAll w R h [] [] := ⟨[], .nil, fun _ ha => (nomatch ha), .nil⟩
theorem RepAll.cons (x : Rep w R h v d) (y : RepAll w R h vs ds) : RepAll w R h (v :: vs) (d :: ds) := by
  obtain ⟨as, r, hr, hd⟩ := x
  obtain ⟨bs, q, hq, he⟩ := y
  exact ⟨as ++ bs, .cons r q, fun a ha => (List.mem_append.mp ha).elim (hr a) (hq a), hd.append he⟩
theorem RepAll.cons_inv (x : RepAll w R h (v :: vs) (d :: ds)) : Rep w R h v d ∧ RepAll w R h vs ds := by
  obtain ⟨as, r, hr, hd⟩ := x
  cases r with
  | cons r1 r2 => exact ⟨⟨_, r1, fun a ha => hr a (List.mem_append_left _ ha), fun a ha => hd a (List.mem_append_left _ ha)⟩, ⟨_, r2, fun a ha => hr a (List.mem_append_right _ ha), fun a ha => hd a (List.mem_append_right _ ha)⟩⟩
theorem RepAll.length : ∀ {vs : List Value} {ds : List PyData}, RepAll w R h vs ds → vs.length = ds.length
  | [], [], _ => rfl
  | [], _ :: _, ⟨_, r, _⟩ => nomatch r
  | _ :: _, [], ⟨_, r, _⟩ => nomatch r
  | _ :: _, _ :: _, x => by simp [x.cons_inv.2.length]
theorem RepAll.keeps (x : RepAll w R h vs ds) (hk : KpH N h h') : RepAll w R h' vs ds :=
  let ⟨as, r, hr, hd⟩ := x; ⟨as, readsAll_kp hk r, hr, hd.keeps hk⟩
theorem RepAll.mono (x : RepAll w R h vs ds) (hR : ∀ a, R a → R' a) : RepAll w R' h vs ds :=
  let ⟨as, r, hr, hd⟩ := x; ⟨as, r, fun a ha => hR a (hr a ha), hd⟩
theorem RepAll.append : ∀ {vs : List Value} {ds : List PyData}, RepAll w R h vs ds → RepAll w R h ws es → RepAll w R h (vs ++ ws) (ds ++ es)
  | [], [], _, y => y
  | [], _ :: _, ⟨_, r, _⟩, _ => nomatch r
  | _ :: _, [], ⟨_, r, _⟩, _ => nomatch r
  | _ :: _, _ :: _, x, y => .cons x.cons_inv.1 (x.cons_inv.2.append y)
theorem RepAll.get : ∀ {vs : List Value} {ds : List PyData} (i : Nat), RepAll w R h vs ds → ∀ d, ds[i]? = some d → ∃ v, vs[i]? = some v ∧ Rep w R h v d
  | [], [], _, _, _, e => by simp at e
  | [], _ :: _, _, ⟨_, r, _⟩, _, _ => nomatch r
  | _ :: _, [], _, ⟨_, r, _⟩, _, _ => nomatch r
  | v :: _, _ :: _, 0, x, _, e => by simp at e; subst e; exact ⟨v, rfl, x.cons_inv.1⟩
  | _ :: _, _ :: _, i + 1, x, d, e => by simpa using x.cons_inv.2.get i d (by simpa using e)
theorem RepAll.drop : ∀ (k : Nat) {vs : List Value} {ds : List PyData}, RepAll w R h vs ds → RepAll w R h (vs.drop k) (ds.drop k)
  | 0, _, _, x => x
  | _ + 1, [], [], x => x
  | _ + 1, [], _ :: _, ⟨_, r, _⟩ => nomatch r
  | _ + 1, _ :: _, [], ⟨_, r, _⟩ => nomatch r
  | k + 1, _ :: _, _ :: _, x => x.cons_inv.2.drop k
theorem RepAll.take : ∀ (k : Nat) {vs : List Value} {ds : List PyData}, RepAll w R h vs ds → RepAll w R h (vs.take k) (ds.take k)
  | 0, _, _, _ => by simpa using RepAll.nil
  | _ + 1, [], [], x => x
  | _ + 1, [], _ :: _, ⟨_, r, _⟩ => nomatch r
  | _ + 1, _ :: _, [], ⟨_, r, _⟩ => nomatch r
  | k + 1, _ :: _, _ :: _, x => .cons x.cons_inv.1 (x.cons_inv.2.take k)
theorem Rep.list_inv {xs : List PyData} (x : Rep w R h v (.list xs)) : ∃ a vs, v = .ref a ∧ R a ∧ h.IsList a (List.toArray vs) ∧ RepAll w R h vs xs := by
  obtain ⟨as, r, hr, hd⟩ := x
  cases r with
  | @list a o vs n _ as ho hc hdat hall =>
    exact ⟨a, vs.toList, rfl, hr a (.head _), ⟨o, ho, hc, n, by simpa using hdat⟩, ⟨as, hall, fun b hb => hr b (.tail _ hb), fun b hb => hd b (.tail _ hb)⟩⟩
theorem Rep.tuple_inv {xs : List PyData} (x : Rep w R h v (.tuple xs)) : ∃ a o vs n, v = .ref a ∧ h.get? a = some o ∧ o.cls = .type "tuple" ∧ o.data = .seq (List.toArray vs) n ∧ RepAll w R h vs xs := by
  obtain ⟨as, r, hr, hd⟩ := x
  cases r with
  | @tuple a o vs n _ as ho hc hdat hall => exact ⟨a, o, vs.toList, n, rfl, ho, hc, by simpa using hdat, ⟨as, hall, hr, hd⟩⟩
theorem rep_tuple {a : Addr} {o : Obj} {vs : List Value} {n : Nat} {xs : List PyData} (ho : h.get? a = some o) (hc : o.cls = .type "tuple") (hdat : o.data = .seq (List.toArray vs) n) (x : RepAll w R h vs xs) : Rep w R h (.ref a) (.tuple xs) := by
  obtain ⟨as, r, hr, hd⟩ := x
  exact ⟨as, .tuple ho hc hdat (by simpa using r), hr, hd⟩
end

mutual
def still : PyData → Bool
  | .none | .bool _ | .int _ | .str _ => true
  | .tuple xs => stillAll xs
  | .list _ | .dict _ => false
def stillAll : List PyData → Bool
  | [] => true
  | x :: xs => still x && stillAll xs
end
theorem still_reads2 {h : Heap} : (∀ {v : Value} {d : PyData} {as : List Addr}, Reads h v d as → still d = true → as = []) ∧ ∀ {vs : List Value} {ds : List PyData} {as : List Addr}, ReadsAll h vs ds as → stillAll ds = true → as = [] :=
  reads_ind (P := fun _ d as => still d = true → as = []) (PA := fun _ ds as => stillAll ds = true → as = []) (fun _ => rfl) (fun _ _ => rfl) (fun _ _ _ => rfl) (fun _ _ _ => rfl) (fun _ _ _ _ _ hs => by simp [still] at hs) (fun _ _ _ _ ha hs => ha (by simpa [still] using hs))
    (fun _ _ _ _ _ _ _ hs => by simp [still] at hs) (fun _ => rfl) (fun _ _ ha hb hs => by
      simp [stillAll] at hs
      rw [ha hs.1, hb hs.2]; rfl)
theorem still_reads {h : Heap} {v : Value} {d : PyData} {as : List Addr} (hs : still d = true) (r : Reads h v d as) : as = [] := still_reads2.1 r hs
theorem still_readsAll {h : Heap} {ds : List PyData} {vs : List Value} {as : List Addr} (hs : stillAll ds = true) (r : ReadsAll h vs ds as) : as = [] := still_reads2.2 r hs
theorem Rep.still {w : World} {R R' : Addr → Prop} {h : Heap} {v : Value} {d : PyData} (x : Rep w R h v d) (hs : still d = true) : Rep w R' h v d := by
  obtain ⟨as, r, _, hd⟩ := x
  have := still_reads hs r
  subst this
  exact ⟨[], r, fun _ ha => (nomatch ha), hd⟩
theorem RepAll.still {w : World} {R R' : Addr → Prop} {h : Heap} {vs : List Value} {ds : List PyData} (x : RepAll w R h vs ds) (hs : stillAll ds = true) : RepAll w R' h vs ds := by
  obtain ⟨as, r, _, hd⟩ := x
  have := still_readsAll hs r
  subst this
  exact ⟨[], r, fun _ ha => (nomatch ha), hd⟩

end Mine
end
section
open PySem PySem.Calls PyProof.Rows
set_option linter.all false
namespace Mine
variable {N : Nat}

structure St where
  prog : Program
  w : World
  mg : Str → Option Value
  mb : Str → Option Value
  K : List (Addr × Obj)
  N : Nat
noncomputable abbrev St.M (T : St) : Model := model T.prog T.w

structure Wd (T : St) (h : Heap) : Prop where
  g : h.Ns mainGlobals T.mg
  b : h.Ns builtinsNs T.mb
  lim : h.NoLimit
  k : ∀ a o, T.K.lookup a = some o → h.get? a = some o
  kn : ∀ a o, T.K.lookup a = some o → a < T.N
theorem Wd.kp {T : St} {h h' : Heap} (x : Wd T h) (hk : KpH T.N h h') : Wd T h' := ⟨hk.ns x.g, hk.ns x.b, hk.noLimit x.lim, fun a o e => by
  obtain ⟨sl, e1, f1⟩ := hk a o (x.k a o e)
  rw [e1, f1 (.inr (.inl (x.kn a o e)))], x.kn⟩

noncomputable def Kp (N : Nat) (s s' : Shared) : Prop := ∃ h' tk, s' = { s with heap := h', toks := tk } ∧ KpH N s.heap h'
theorem Kp.refl (s : Shared) : Kp N s s := ⟨s.heap, s.toks, rfl, .refl _⟩
theorem Kp.h {s s' : Shared} (x : Kp N s s') : KpH N s.heap s'.heap := by obtain ⟨h', tk, rfl, hk⟩ := x; exact hk
theorem Kp.trans {s₁ s₂ s₃ : Shared} (x : Kp N s₁ s₂) (y : Kp N s₂ s₃) : Kp N s₁ s₃ := by
  obtain ⟨h', tk, rfl, hk⟩ := x
  obtain ⟨h'', tk', rfl, hk'⟩ := y
  exact ⟨h'', tk', rfl, hk.trans hk'⟩
theorem Kp.of {s s' : Shared} (x : Keeps s s') : Kp N s s' := by obtain ⟨h', tk, rfl, hk⟩ := x; exact ⟨h', tk, rfl, .of hk⟩
theorem Kp.tok (s : Shared) (t : Nat) : Kp N s { s with toks := t } := ⟨s.heap, t, rfl, .refl _⟩
theorem Kp.push (s : Shared) (o : Obj) : Kp N s { s with heap := s.heap.push o } := ⟨_, s.toks, rfl, (KpH.refl _).push o⟩
theorem Kp.mk {s : Shared} {h' : Heap} {tk : Nat} (hk : KpH N s.heap h') : Kp N s { s with heap := h', toks := tk } := ⟨h', tk, rfl, hk⟩

structure Amb (n : Nat) (A : Around) : Prop where
  handled : A.handled = none
  depth : A.depth + n < recursionLimit
  units : A.units + 10 * n + 100 < cLine
theorem Amb.le {n m : Nat} {A : Around} (x : Amb n A) (h : m ≤ n) : Amb m A := ⟨x.handled, by have := x.depth; omega, by have := x.units; omega⟩
theorem Amb.deeper {n : Nat} {A : Around} (x : Amb (n + 1) A) (env : Env) : Amb n (A.deeper env) :=
  ⟨x.handled, by have := x.depth; show A.depth + 1 + n < _; omega, by have := x.units; simp only [Around.deeper_units]; omega⟩

noncomputable abbrev Slot := Option (Vl × Fl)
noncomputable abbrev Gm := List (Str × Slot)
structure GmOk (ns : List Str) : Prop where
  nodup : ns.Nodup
  nodebug : ∀ x ∈ ns, (x == ("__debug__" : Str)) = false

structure EnvOk (env : Env) : Prop where
  kind : env.scope.kind = .function
  g : env.globals = mainGlobals
  b : env.builtins = builtinsNs
  cells : ∀ x, env.kindOf x = some .cell → ∃ c, env.cells.lookup x = some c

noncomputable def NameIs (env : Env) (h : Heap) (x : Str) (v : Value) : Prop :=
  (env.kindOf x = some .local ∧ ∃ m, h.Ns env.locals m ∧ m x = some v) ∨ (env.kindOf x = some .cell ∧ ∃ c, env.cells.lookup x = some c ∧ h.IsCell c (some v))
theorem NameIs.kp {env : Env} {h h' : Heap} {x : Str} {v : Value} (r : NameIs env h x v) (hk : KpH N h h') : NameIs env h' x v := by
  rcases r with ⟨k, m, hn, hv⟩ | ⟨k, c, hc, hv⟩
  · exact .inl ⟨k, m, hk.ns hn, hv⟩
  · exact .inr ⟨k, c, hc, hk.cell hv⟩

structure Regs (reg : Fl → Addr → Prop) (h : Heap) : Prop where
  fresh : ∀ fl a, h.get? a = none → reg fl a
  cb : ∀ a, reg .c a → reg .b a
  bo : ∀ a, reg .b a → reg .o a
  os : ∀ x a, reg .o a → reg (.s x) a
theorem Regs.kp {reg : Fl → Addr → Prop} {h h' : Heap} (x : Regs reg h) (hk : KpH N h h') : Regs reg h' := ⟨fun fl a e => x.fresh fl a (hk.none e), x.cb, x.bo, x.os⟩
structure Rd (T : St) (env : Env) (reg : Fl → Addr → Prop) (Γ : Gm) (s : Shared) : Prop where
  eok : EnvOk env
  ok : GmOk (Γ.map (·.1))
  names : ∀ x v fl, (x, some (v, fl)) ∈ Γ → ∃ val, NameIs env s.heap x val ∧ RepV T.w (reg fl) s.heap val v
  regs : Regs reg s.heap
  wd : Wd T s.heap
theorem Rd.kp {T : St} {env : Env} {reg : Fl → Addr → Prop} {Γ : Gm} {s s' : Shared} (x : Rd T env reg Γ s) (hk : Kp T.N s s') : Rd T env reg Γ s' :=
  ⟨x.eok, x.ok, fun n v fl hm => let ⟨val, a, b⟩ := x.names n v fl hm; ⟨val, a.kp hk.h, b.keeps hk.h⟩, x.regs.kp hk.h, x.wd.kp hk.h⟩

noncomputable def FreshTop (h h' : Heap) (v : Value) (d : PyData) (as : List Addr) : Prop := match d with
  | .list _ | .dict _ => ∃ a as', v = .ref a ∧ as = a :: as' ∧ h.get? a = none ∧ a ∉ as' ∧ ∃ o, h'.get? a = some o ∧ o.dict = none
  | _ => True
noncomputable def RepF (w : World) (R : Addr → Prop) (h h' : Heap) (v : Value) (d : PyData) : Prop := ∃ as, Reads h' v d as ∧ (∀ a ∈ as, R a) ∧ Dok w h' as ∧ FreshTop h h' v d as
theorem RepF.rep {w : World} {R : Addr → Prop} {h h' : Heap} {v : Value} {d : PyData} (x : RepF w R h h' v d) : Rep w R h' v d := let ⟨as, a, b, c, _⟩ := x; ⟨as, a, b, c⟩
theorem FreshTop.older {h h₀ h' : Heap} {v : Value} {d : PyData} {as : List Addr} (x : FreshTop h h' v d as) (hk : KpH N h₀ h) : FreshTop h₀ h' v d as := by
  cases d <;> first | trivial | (obtain ⟨a, as', e1, e2, e3, e4, e5⟩ := x; exact ⟨a, as', e1, e2, hk.none e3, e4, e5⟩)
theorem RepF.older {w : World} {R : Addr → Prop} {h₀ h h' : Heap} {v : Value} {d : PyData} (x : RepF w R h h' v d) (hk : KpH N h₀ h) : RepF w R h₀ h' v d :=
  let ⟨as, a, b, c, f⟩ := x; ⟨as, a, b, c, f.older hk⟩
theorem RepF.mono {w : World} {R R' : Addr → Prop} {h h' : Heap} {v : Value} {d : PyData} (x : RepF w R h h' v d) (hR : ∀ a, R a → R' a) : RepF w R' h h' v d :=
  let ⟨as, a, b, c, f⟩ := x; ⟨as, a, fun y hy => hR y (b y hy), c, f⟩
theorem RepF.of_still {w : World} {R : Addr → Prop} {h h' : Heap} {v : Value} {d : PyData} (x : Rep w R h' v d) (hs : still d = true) : RepF w R h h' v d := by
  obtain ⟨as, a, b, c⟩ := x
  refine ⟨as, a, b, c, ?_⟩
  cases d <;> first | trivial | simp [still] at hs
theorem RepF.tuple {w : World} {R : Addr → Prop} {h h' : Heap} {v : Value} {xs : List PyData} (x : Rep w R h' v (.tuple xs)) : RepF w R h h' v (.tuple xs) := by
  obtain ⟨as, a, b, c⟩ := x
  exact ⟨as, a, b, c, trivial⟩
section
variable {w : World} {R : Addr → Prop} {h h' : Heap}
theorem repF_none : RepF w R h h' .none .none := .of_still rep_none rfl
theorem repF_bool (b : Bool) : RepF w R h h' (.bool b) (.bool b) := .of_still (rep_bool b) rfl
theorem repF_int (i : Int) (t : Tok) : RepF w R h h' (.int i t) (.int i) := .of_still (rep_int i t) rfl
theorem repF_str (x : Str) (t : Tok) : RepF w R h h' (.str x t) (.str x) := .of_still (rep_str x t) rfl
theorem repF_list {a : Addr} {vs : List Value} {xs : List PyData} {n : Nat} {o : Obj} (hR : ∀ b, h.get? b = none → R b) (hn : h.get? a = none) (ho : h'.get? a = some o) (hc : o.cls = .type "list") (hdat : o.data = .seq (List.toArray vs) n) (hdi : o.dict = none)
    (x : RepAll w R h vs xs) (hk : KpH N h h') : RepF w R h h' (.ref a) (.list xs) := by
  obtain ⟨as, r, hr, hd⟩ := x
  refine ⟨a :: as, .list ho hc hdat (by simpa using readsAll_kp hk r), fun b hb => (List.mem_cons.mp hb).elim (fun e => e ▸ hR a hn) (hr b), fun b hb => (List.mem_cons.mp hb).elim (fun e => ⟨o, e ▸ ho, fun es n' q => ?_⟩) ((hd.keeps hk) b), a, as, rfl, rfl, hn, fun ha => ?_, o, ho, hdi⟩
  · rw [hdat] at q; cases q
  · obtain ⟨o', e, _⟩ := hd a ha
    rw [hn] at e; cases e
theorem repF_listP {s : Shared} {vs : List Value} {xs : List PyData} {n : Nat} (hR : ∀ b, s.heap.get? b = none → R b) (x : RepAll w R s.heap vs xs) :
    RepF w R s.heap (s.heap.push { cls := .type "list", data := .seq (List.toArray vs) n }) (.ref s.heap.objs.size) (.list xs) :=
  repF_list (N := 0) hR (Heap.get?_none_of_le (Nat.le_refl _)) (Heap.get?_push_size _ rfl) rfl rfl rfl x ((KpH.refl _).push _)
end

structure Ev (T : St) (n : Nat) (env : Env) (Γ : Gm) (e : PySem.Expr) (v : Vl) (fl : Fl) : Prop where
  run : ∀ {A : Around} {reg : Fl → Addr → Prop} {s : Shared} {E : Value → Shared → Prop} {Q : Value → Shared → Prop}, Amb n A → Rd T env reg Γ s →
    (∀ val s', Kp T.N s s' → RepV T.w (reg fl) s'.heap val v → Q val s') → wpAny T.M A (eval e env) Q E s
structure EvF (T : St) (n : Nat) (env : Env) (Γ : Gm) (e : PySem.Expr) (d : PyData) : Prop where
  run : ∀ {A : Around} {reg : Fl → Addr → Prop} {s : Shared} {E : Value → Shared → Prop} {Q : Value → Shared → Prop}, Amb n A → Rd T env reg Γ s →
    (∀ val s', Kp T.N s s' → RepF T.w (reg .c) s.heap s'.heap val d → Q val s') → wpAny T.M A (eval e env) Q E s
structure IsT (T : St) (n : Nat) (env : Env) (Γ : Gm) (e : PySem.Expr) (b : Bool) : Prop where
  run : ∀ {A : Around} {reg : Fl → Addr → Prop} {s : Shared} {E : Value → Shared → Prop} {Q : Bool → Shared → Prop}, Amb n A → Rd T env reg Γ s →
    (∀ s', Kp T.N s s' → Q b s') → wpAny T.M A (isTrue e env (eval e env)) Q E s

section
variable {T : St} {n : Nat} {env : Env} {Γ : Gm}

theorem Ev.ofF {e : PySem.Expr} {d : PyData} (x : EvF T n env Γ e d) : Ev T n env Γ e (.d d) .c := ⟨fun hA R h => x.run hA R fun val s' k r => h val s' k r.rep⟩
theorem Ev.still {e : PySem.Expr} {d : PyData} {fl : Fl} (x : Ev T n env Γ e (.d d) fl) (hs : still d = true) : EvF T n env Γ e d :=
  ⟨fun hA R h => x.run hA R fun val s' k r => h val s' k (.of_still (Rep.still r hs) hs)⟩

theorem Ev.name {x : Str} {pos : Pos} {v : Vl} {fl : Fl} (hm : (x, some (v, fl)) ∈ Γ) : Ev T n env Γ (.Name x pos) v fl := ⟨fun hA R h => by
  obtain ⟨val, hv, hr⟩ := R.names x v fl hm
  have hd := R.ok.nodebug x (List.mem_map.mpr ⟨_, hm, rfl⟩)
  rcases hv with ⟨k, m, hn, hv⟩ | ⟨k, c, hc, hv⟩
  · exact wpAny_Name (wpAny_loadName_local R.eok.kind k hn hv (h val _ (.refl _) hr)) hd
  · exact wpAny_Name (wpAny_loadName_cell R.eok.kind k hc hv (h val _ (.refl _) hr)) hd⟩
theorem EvF.glob {x : Str} {pos : Pos} {y : Str} {t : Tok} (hx : env.kindOf x = some .globalImplicit) (hg : T.mg x = some (.str y t)) (hd : (x == ("__debug__" : Str)) = false) : EvF T n env Γ (.Name x pos) (.str y) := ⟨fun hA R h =>
  Name_function_global R.eok.kind hx (loadGlobal_global (by rw [R.eok.g]; exact R.wd.g) hg (h _ _ (.refl _) (repF_str ..))) hd⟩

theorem EvF.kBool {b : Bool} {k : Nat} {pos : Pos} : EvF T n env Γ (.Constant (.bool b) k pos) (.bool b) := ⟨fun _ _ h => wpAny_pure (h _ _ (.refl _) (repF_bool b))⟩
theorem EvF.kInt {i : Int} {k : Nat} {pos : Pos} : EvF T n env Γ (.Constant (.int i) k pos) (.int i) := ⟨fun _ _ h => wpAny_mkInt (h _ _ (.tok _ _) (repF_int ..))⟩
theorem EvF.kStr {x : Str} {k : Nat} {pos : Pos} : EvF T n env Γ (.Constant (.str x) k pos) (.str x) := ⟨fun _ _ h => wpAny_mkText (h _ _ (.tok _ _) (repF_str ..))⟩

structure Bin (T : St) (n : Nat) (op : Operator) (v₁ : Vl) (f₁ : Fl) (v₂ : Vl) (f₂ : Fl) (d : PyData) : Prop where
  run : ∀ {A : Around} {reg : Fl → Addr → Prop} {s : Shared} {E : Value → Shared → Prop} {Q : Value → Shared → Prop} {a b : Value}, Amb n A → Regs reg s.heap → Wd T s.heap → RepV T.w (reg f₁) s.heap a v₁ → RepV T.w (reg f₂) s.heap b v₂ →
    (∀ val s', Kp T.N s s' → RepF T.w (reg .c) s.heap s'.heap val d → Q val s') → wpAny T.M A (binaryOp op a b) Q E s
theorem EvF.bin {l r : PySem.Expr} {op : Operator} {pos : Pos} {v₁ v₂ : Vl} {f₁ f₂ : Fl} {d : PyData} (h₁ : Ev T n env Γ l v₁ f₁) (h₂ : Ev T n env Γ r v₂ f₂) (hb : Bin T n op v₁ f₁ v₂ f₂ d) : EvF T n env Γ (.BinOp l op r pos) d := ⟨fun hA R h =>
  wpAny_BinOp (h₁.run hA R fun a s₁ k₁ r₁ => h₂.run hA (R.kp k₁) fun b s₂ k₂ r₂ => hb.run hA ((R.regs.kp k₁.h).kp k₂.h) ((R.wd.kp k₁.h).kp k₂.h) (r₁.keeps k₂.h) r₂ fun val s₃ k₃ r₃ =>
    h val s₃ ((k₁.trans k₂).trans k₃) (r₃.older (k₁.trans k₂).h))⟩

section
variable {f₁ f₂ : Fl}
theorem Bin.addI {a b : Int} : Bin T n .Add (.d (.int a)) f₁ (.d (.int b)) f₂ (.int (a + b)) := ⟨fun _ _ _ r₁ r₂ h => by
  obtain ⟨t, rfl⟩ := Rep.int_inv r₁; obtain ⟨u, rfl⟩ := Rep.int_inv r₂
  exact PyProof.Rows.add_int (h _ _ (.tok _ _) (repF_int ..))⟩
theorem Bin.subI {a b : Int} : Bin T n .Sub (.d (.int a)) f₁ (.d (.int b)) f₂ (.int (a - b)) := ⟨fun _ _ _ r₁ r₂ h => by
  obtain ⟨t, rfl⟩ := Rep.int_inv r₁; obtain ⟨u, rfl⟩ := Rep.int_inv r₂
  exact PyProof.Rows.sub_int (h _ _ (.tok _ _) (repF_int ..))⟩
theorem Bin.mulI {a b : Int} (hm : IntMulOk a b) : Bin T n .Mult (.d (.int a)) f₁ (.d (.int b)) f₂ (.int (a * b)) := ⟨fun _ _ _ r₁ r₂ h => by
  obtain ⟨t, rfl⟩ := Rep.int_inv r₁; obtain ⟨u, rfl⟩ := Rep.int_inv r₂
  exact PyProof.Rows.mul_int (h _ _ (.tok _ _) (repF_int ..)) hm⟩
theorem Bin.modI {a b : Int} (hb : b ≠ 0) : Bin T n .Mod (.d (.int a)) f₁ (.d (.int b)) f₂ (.int (a.fmod b)) := ⟨fun _ _ _ r₁ r₂ h => by
  obtain ⟨t, rfl⟩ := Rep.int_inv r₁; obtain ⟨u, rfl⟩ := Rep.int_inv r₂
  exact PyProof.Rows.mod_int' hb (h _ _ (.tok _ _) (repF_int ..))⟩
theorem Bin.divI {a b : Int} (hb : b ≠ 0) (hp : Builtin.divisionGoesByPylong a b = false) : Bin T n .FloorDiv (.d (.int a)) f₁ (.d (.int b)) f₂ (.int (a.fdiv b)) := ⟨fun _ _ _ r₁ r₂ h => by
  obtain ⟨t, rfl⟩ := Rep.int_inv r₁; obtain ⟨u, rfl⟩ := Rep.int_inv r₂
  exact PyProof.Rows.floordiv_int hb (h _ _ (.tok _ _) (repF_int ..)) (.inl hp)⟩
end
end
end Mine
end
section
open PySem PySem.Calls PyProof.Rows
set_option linter.all false
namespace Mine
variable {N : Nat}

section
variable {T : St} {n : Nat} {env : Env} {Γ : Gm}

theorem Bin.addS {f₁ f₂ : Fl} {x y : Str} (hz : x.length + y.length ≤ sizeLine) : Bin T n .Add (.d (.str x)) f₁ (.d (.str y)) f₂ (.str (x ++ y)) := ⟨fun _ _ _ r₁ r₂ h => by
  obtain ⟨t, rfl⟩ := Rep.str_inv r₁; obtain ⟨u, rfl⟩ := Rep.str_inv r₂
  exact SB.add (fun t' k => h _ _ (.tok _ _) (repF_str ..)) hz⟩

structure Cmp (T : St) (n : Nat) (op : CmpOp) (v₁ v₂ : Vl) (b : Bool) : Prop where
  run : ∀ {A : Around} {R₁ R₂ : Addr → Prop} {s : Shared} {E : Value → Shared → Prop} {Q : Value → Shared → Prop} {x y : Value}, Amb n A → Wd T s.heap → RepV T.w R₁ s.heap x v₁ → RepV T.w R₂ s.heap y v₂ →
    (∀ s', Kp T.N s s' → Q (.bool b) s') → wpAny T.M A (compareOp op x y) Q E s
theorem EvF.cmp {l r : PySem.Expr} {op : CmpOp} {pos : Pos} {v₁ v₂ : Vl} {f₁ f₂ : Fl} {b : Bool} (h₁ : Ev T n env Γ l v₁ f₁) (h₂ : Ev T n env Γ r v₂ f₂) (hb : Cmp T n op v₁ v₂ b) (hm : behindInMarks op r = false) :
    EvF T n env Γ (.Compare l [op] [r] pos) (.bool b) := ⟨fun hA R h =>
  wpAny_Compare1 (h₁.run hA R fun x s₁ k₁ r₁ => h₂.run hA (R.kp k₁) fun y s₂ k₂ r₂ => hb.run hA ((R.wd.kp k₁.h).kp k₂.h) (r₁.keeps k₂.h) r₂ fun s₃ k₃ => h _ s₃ ((k₁.trans k₂).trans k₃) (repF_bool b)) hm⟩
theorem truthy_b {M : Model} {A : Around} {E : Value → Shared → Prop} {s : Shared} {b : Bool} {Q : Bool → Shared → Prop} (h : Q b s) : wpAny M A (truthy (.bool b)) Q E s := fun _ _ _ => h
theorem IsT.cmp {l r : PySem.Expr} {op : CmpOp} {pos : Pos} {v₁ v₂ : Vl} {f₁ f₂ : Fl} {b : Bool} (h₁ : Ev T n env Γ l v₁ f₁) (h₂ : Ev T n env Γ r v₂ f₂) (hb : Cmp T n op v₁ v₂ b) (hm : behindInMarks op r = false) :
    IsT T n env Γ (.Compare l [op] [r] pos) b := ⟨fun hA R h =>
  wpAny_isTrue_Compare1 (h₁.run hA R fun x s₁ k₁ r₁ => h₂.run hA (R.kp k₁) fun y s₂ k₂ r₂ => hb.run hA ((R.wd.kp k₁.h).kp k₂.h) (r₁.keeps k₂.h) r₂ fun s₃ k₃ => truthy_b (h s₃ ((k₁.trans k₂).trans k₃))) hm⟩
theorem IsT.bool {e : PySem.Expr} {b : Bool} {fl : Fl} (x : Ev T n env Γ e (.d (.bool b)) fl) (he : ∀ whole, isTrue e env whole = (do let v ← whole; standAt e.pos; holding [v] (truthy v))) : IsT T n env Γ e b := ⟨fun hA R h =>
  isTrue_plain (x.run hA R fun val s₁ k₁ r₁ => by rw [Rep.bool_inv r₁]; exact truthy_b (h _ k₁)) (he _)⟩
theorem IsT.not {e : PySem.Expr} {b : Bool} {pos : Pos} (x : IsT T n env Γ e b) : IsT T n env Γ (.UnaryOp .Not e pos) (!b) := ⟨fun hA R h => isTrue_not (x.run hA R h)⟩
theorem IsT.andNil {pos : Pos} : IsT T n env Γ (.BoolOp .And [] pos) true := ⟨fun hA R h => isTrue_and_nil (h _ (.refl _))⟩
theorem IsT.orNil {pos : Pos} : IsT T n env Γ (.BoolOp .Or [] pos) false := ⟨fun hA R h => isTrue_or_nil (h _ (.refl _))⟩
theorem IsT.and {e : PySem.Expr} {es : List PySem.Expr} {pos : Pos} {p q : Bool} (x : IsT T n env Γ e p) (y : p = true → IsT T n env Γ (.BoolOp .And es pos) q) : IsT T n env Γ (.BoolOp .And (e :: es) pos) (p && q) := ⟨fun hA R h => by
  refine isTrue_and (x.run hA R fun s₁ k₁ => ?_)
  cases p with
  | false => exact h _ k₁
  | true => exact (y rfl).run hA (R.kp k₁) fun s₂ k₂ => by simpa using h _ (k₁.trans k₂)⟩
theorem IsT.or {e : PySem.Expr} {es : List PySem.Expr} {pos : Pos} {p q : Bool} (x : IsT T n env Γ e p) (y : p = false → IsT T n env Γ (.BoolOp .Or es pos) q) : IsT T n env Γ (.BoolOp .Or (e :: es) pos) (p || q) := ⟨fun hA R h => by
  refine isTrue_or (x.run hA R fun s₁ k₁ => ?_)
  cases p with
  | true => exact h _ k₁
  | false => exact (y rfl).run hA (R.kp k₁) fun s₂ k₂ => by simpa using h _ (k₁.trans k₂)⟩
theorem EvF.bo1 {op : BoolOp} {e : PySem.Expr} {pos : Pos} {d : PyData} (x : EvF T n env Γ e d) : EvF T n env Γ (.BoolOp op [e] pos) d := ⟨fun hA R h => BoolOp_one (x.run hA R h)⟩
theorem EvF.or {e₁ e₂ : PySem.Expr} {es : List PySem.Expr} {pos : Pos} {p q : Bool} (x : EvF T n env Γ e₁ (.bool p)) (y : p = false → EvF T n env Γ (.BoolOp .Or (e₂ :: es) pos) (.bool q)) : EvF T n env Γ (.BoolOp .Or (e₁ :: e₂ :: es) pos) (.bool (p || q)) := ⟨fun hA R h => by
  refine BoolOp_or (x.run hA R fun val s₁ k₁ r₁ => ?_)
  rw [Rep.bool_inv r₁.rep]
  refine truthy_b ?_
  cases p with
  | true => exact h _ _ k₁ (repF_bool _)
  | false => exact (y rfl).run hA (R.kp k₁) fun v₂ s₂ k₂ r₂ => by simpa using h v₂ _ (k₁.trans k₂) (by simpa using r₂.older k₁.h)⟩

theorem Cmp.eqI {a b : Int} : Cmp T n .Eq (.d (.int a)) (.d (.int b)) (a == b) := ⟨fun _ _ r₁ r₂ h => by
  obtain ⟨t, rfl⟩ := Rep.int_inv r₁; obtain ⟨u, rfl⟩ := Rep.int_inv r₂; exact PyProof.Rows.eq_int (h _ (.refl _))⟩
theorem Cmp.neI {a b : Int} : Cmp T n .NotEq (.d (.int a)) (.d (.int b)) (a != b) := ⟨fun _ _ r₁ r₂ h => by
  obtain ⟨t, rfl⟩ := Rep.int_inv r₁; obtain ⟨u, rfl⟩ := Rep.int_inv r₂; exact PyProof.Rows.ne_int (h _ (.refl _))⟩
theorem Cmp.ltI {a b : Int} : Cmp T n .Lt (.d (.int a)) (.d (.int b)) (decide (a < b)) := ⟨fun _ _ r₁ r₂ h => by
  obtain ⟨t, rfl⟩ := Rep.int_inv r₁; obtain ⟨u, rfl⟩ := Rep.int_inv r₂; exact PyProof.Rows.lt_int (h _ (.refl _))⟩
theorem Cmp.gtI {a b : Int} : Cmp T n .Gt (.d (.int a)) (.d (.int b)) (decide (a > b)) := ⟨fun _ _ r₁ r₂ h => by
  obtain ⟨t, rfl⟩ := Rep.int_inv r₁; obtain ⟨u, rfl⟩ := Rep.int_inv r₂; exact PyProof.Rows.gt_int (h _ (.refl _))⟩
theorem Cmp.geI {a b : Int} : Cmp T n .GtE (.d (.int a)) (.d (.int b)) (decide (a ≥ b)) := ⟨fun _ _ r₁ r₂ h => by
  obtain ⟨t, rfl⟩ := Rep.int_inv r₁; obtain ⟨u, rfl⟩ := Rep.int_inv r₂; exact P.ge_int (h _ (.refl _))⟩
theorem str_beq (x y : Str) : (x.cps.toList == y.cps.toList) = decide (x = y) := by
  obtain ⟨⟨a⟩⟩ := x; obtain ⟨⟨b⟩⟩ := y
  rw [Bool.eq_iff_iff]; simp
theorem Cmp.eqS {a b : Str} : Cmp T n .Eq (.d (.str a)) (.d (.str b)) (decide (a = b)) := ⟨fun _ _ r₁ r₂ h => by
  obtain ⟨t, rfl⟩ := Rep.str_inv r₁; obtain ⟨u, rfl⟩ := Rep.str_inv r₂; exact P.eq_str (by rw [str_beq]; exact h _ (.refl _))⟩
theorem Cmp.neS {a b : Str} : Cmp T n .NotEq (.d (.str a)) (.d (.str b)) (decide (a ≠ b)) := ⟨fun _ _ r₁ r₂ h => by
  obtain ⟨t, rfl⟩ := Rep.str_inv r₁; obtain ⟨u, rfl⟩ := Rep.str_inv r₂
  refine P.ne_str ?_
  have e : (a.cps.toList != b.cps.toList) = decide (a ≠ b) := by show (!(a.cps.toList == b.cps.toList)) = _; rw [str_beq]; simp
  rw [e]; exact h _ (.refl _)⟩
theorem Cmp.inS {a b : Str} : Cmp T n .In (.d (.str a)) (.d (.str b)) (Txt.contains b a) := ⟨fun _ _ r₁ r₂ h => by
  obtain ⟨t, rfl⟩ := Rep.str_inv r₁; obtain ⟨u, rfl⟩ := Rep.str_inv r₂; exact SB.contains (h _ (.refl _))⟩
theorem Cmp.ninS {a b : Str} : Cmp T n .NotIn (.d (.str a)) (.d (.str b)) (!Txt.contains b a) := ⟨fun _ _ r₁ r₂ h => by
  obtain ⟨t, rfl⟩ := Rep.str_inv r₁; obtain ⟨u, rfl⟩ := Rep.str_inv r₂; exact SB.notContains (h _ (.refl _))⟩

inductive RepVs (w : World) (h : Heap) (reg : Fl → Addr → Prop) : List Value → List (Vl × Fl) → Prop where
  | nil : RepVs w h reg [] []
  | cons {v : Value} {vs : List Value} {x : Vl} {fl : Fl} {xs : List (Vl × Fl)} : RepV w (reg fl) h v x → RepVs w h reg vs xs → RepVs w h reg (v :: vs) ((x, fl) :: xs)
structure EvA (T : St) (n : Nat) (env : Env) (Γ : Gm) (es : List PySem.Expr) (xs : List (Vl × Fl)) : Prop where
  run : ∀ {A : Around} {reg : Fl → Addr → Prop} {s : Shared} {E : Value → Shared → Prop} {Q : List Value → Shared → Prop} {pos : Pos}, Amb n A → Rd T env reg Γ s →
    (∀ vals s', Kp T.N s s' → RepVs T.w s'.heap reg vals xs → Q vals s') → wpAny T.M A (spliced (backTo pos (starEach es env))) Q E s
  plain : ∀ pos, (backTo pos (starEach es env)).any (·.1) = false
theorem EvA.nil : EvA T n env Γ [] [] := ⟨fun hA R h => spliced_nil (h _ _ (.refl _) .nil), fun _ => rfl⟩
theorem EvA.cons {e : PySem.Expr} {es : List PySem.Expr} {v : Vl} {fl : Fl} {xs : List (Vl × Fl)} (x : Ev T n env Γ e v fl) (y : EvA T n env Γ es xs) (hs : starEach (e :: es) env = (false, eval e env) :: starEach es env) :
    EvA T n env Γ (e :: es) ((v, fl) :: xs) := by
  refine ⟨fun {A reg s E Q pos} hA R h => ?_, fun pos => ?_⟩
  · rw [hs]
    show wpAny T.M A (spliced ((false, eval e env) :: backTo pos (starEach es env))) Q E s
    exact spliced_cons (x.run hA R fun val s₁ k₁ r₁ => y.run hA (R.kp k₁) fun vals s₂ k₂ r₂ => h _ _ (k₁.trans k₂) (.cons (r₁.keeps k₂.h) r₂))
  · rw [hs]
    show (false || (backTo pos (starEach es env)).any (·.1)) = false
    rw [y.plain]; rfl
theorem evalArgs_any {M : Model} {A : Around} {E : Value → Shared → Prop} {s : Shared} {f : Value} {trees : List (Bool × Sem Value)} {Q : Args → Shared → Prop} (hp : trees.any (·.1) = false)
    (h : wpAny M A (spliced trees) (fun vs s' => Q ⟨vs, []⟩ s') E s) : wpAny M A (evalArgs f true trees []) Q E s := by
  cases trees with
  | nil =>
    unfold evalArgs
    show wpAny M A (spliced [] >>= _) Q E s
    refine wpAny_bind (wpAny_mono h (fun vs s' h' => ?_) fun _ _ x => x)
    refine wpAny_holding ?_
    exact wpAny_bind (wpAny_pure (wpAny_bind (wpAny_pure (wpAny_pure h'))))
  | cons t r =>
    obtain ⟨b, t⟩ := t
    cases b with
    | true => simp at hp
    | false => exact evalArgs_plain h
end
end Mine
end
section
open PySem PySem.Calls PyProof.Rows
set_option linter.all false
namespace Mine
variable {N : Nat}

noncomputable def clampTo (n : Nat) (dflt : Nat) : Option Int → Nat
  | none => dflt
  | some i => if i < 0 then (i + n).toNat else min i.toNat n
noncomputable def pyCut {α : Type} (lo hi : Option Int) (l : List α) : List α := (l.drop (clampTo l.length 0 lo)).take (clampTo l.length l.length hi - clampTo l.length 0 lo)

theorem clip_eq (i : Int) (n : Nat) : max 0 (min (if i < 0 then i + (n : Int) else i) (n : Int)) = ((clampTo n 0 (some i) : Nat) : Int) := by
  show _ = (((if i < 0 then (i + n).toNat else min i.toNat n) : Nat) : Int)
  by_cases h : i < 0
  · rw [if_pos h, if_pos h, Int.toNat_eq_max, Int.min_eq_left (by omega), Int.max_comm]
  · rw [if_neg h, if_neg h, show ((min i.toNat n : Nat) : Int) = min (i.toNat : Int) (n : Int) from by omega, Int.toNat_of_nonneg (by omega), Int.max_eq_right (by omega)]
theorem sliceBounds_eq (lo hi : Option Int) (n : Nat) : sliceBounds lo hi none n = (((clampTo n 0 lo : Nat) : Int), ((clampTo n n hi : Nat) : Int), (1 : Int)) := by
  have h := fun i => clip_eq i n
  cases lo with
  | none => cases hi with
    | none => rfl
    | some j => exact congrArg (fun x => ((0 : Int), x, (1 : Int))) (h j)
  | some i => cases hi with
    | none => exact congrArg (fun x => (x, (n : Int), (1 : Int))) (h i)
    | some j => exact congr (congrArg (fun x y => (x, y, (1 : Int))) (h i)) (h j)
end Mine
namespace Mine
variable {N : Nat}
theorem slicePick_cut (vs : List Value) (lo hi : Option Int) : slicePick (List.toArray vs) lo hi none = (pyCut lo hi vs).toArray := by
  unfold slicePick
  rw [sliceBounds_eq]
  simp only [sliceRange_one, pick_run, List.size_toArray]
  rfl
theorem strIdx_eq (lo hi : Option Int) (n : Nat) : Builtin.Str.strSliceIndices lo hi 1 n = (List.range (clampTo n n hi - clampTo n 0 lo)).map (clampTo n 0 lo + ·) := by
  have e := sliceBounds_eq lo hi n
  rw [← sliceRange_one]
  unfold sliceBounds at e
  unfold Builtin.Str.strSliceIndices
  simp only [Option.getD_none, show (1 : Int) > 0 by decide, if_true, Prod.mk.injEq, and_true] at e ⊢
  obtain ⟨e1, e2⟩ := e
  rw [← e1, ← e2]
  cases lo <;> cases hi <;> rfl
theorem pyCut_whole {α : Type} (lo hi : Option Int) (l : List α) (h : (pyCut lo hi l).length = l.length) : pyCut lo hi l = l := by
  unfold pyCut at h ⊢
  generalize clampTo l.length 0 lo = a at h ⊢
  generalize clampTo l.length l.length hi = b at h ⊢
  simp only [List.length_take, List.length_drop] at h
  by_cases hl : l.length = 0
  · have : l = [] := List.eq_nil_of_length_eq_zero hl
    subst this; simp
  · have ha : a = 0 := by omega
    subst ha
    simp only [List.drop_zero, Nat.sub_zero] at h ⊢
    exact List.take_of_length_le (by omega)
theorem slice_cut (x : Str) (lo hi : Option Int) : Txt.slice x lo hi = ⟨(pyCut lo hi x.cps.toList).toArray⟩ := by
  unfold Txt.slice
  rw [strIdx_eq]
  have hp : (((List.range (clampTo x.length x.length hi - clampTo x.length 0 lo)).map (clampTo x.length 0 lo + ·)).filterMap (x.cps[·]?)) = pyCut lo hi x.cps.toList := by
    rw [pick_run]; rfl
  rw [hp]
  split
  · rename_i h
    simp only [beq_self_eq_true, Bool.true_and, beq_iff_eq, List.length_map, List.length_range] at h
    have hw : pyCut lo hi x.cps.toList = x.cps.toList := by
      refine pyCut_whole _ _ _ ?_
      unfold pyCut
      simp only [List.length_take, List.length_drop, Array.length_toList]
      have : x.length = x.cps.size := rfl
      rw [← this]
      have h3 : clampTo x.length 0 lo ≤ x.length := by unfold clampTo; split <;> (try split) <;> omega
      have h4 : clampTo x.length x.length hi ≤ x.length := by unfold clampTo; split <;> (try split) <;> omega
      omega
    rw [hw]
  · rfl

theorem seqIndex_nat {i : Int} {k : Nat} (h0 : 0 ≤ i) (hk : i.toNat < k) : seqIndex? i k = some i.toNat := by
  unfold seqIndex?
  have h1 : ¬ i < 0 := by omega
  have h2 : i < (k : Int) := by omega
  simp [h1, h0, h2]

section
variable {T : St} {n : Nat} {env : Env} {Γ : Gm}

structure CallB (T : St) (n : Nat) (fv : Value) (xs : List (Vl × Fl)) (d : PyData) : Prop where
  run : ∀ {A : Around} {reg : Fl → Addr → Prop} {s : Shared} {E : Value → Shared → Prop} {Q : Value → Shared → Prop} {vals : List Value}, Amb n A → Regs reg s.heap → Wd T s.heap → RepVs T.w s.heap reg vals xs →
    (∀ val s', Kp T.N s s' → RepF T.w (reg .c) s.heap s'.heap val d → Q val s') → wpAny T.M A (call fv vals) Q E s
noncomputable def Machine (fv : Value) : Prop := (∃ id, fv = .builtin id) ∨ ∃ t, fv = .type t
theorem callWith_machine {M : Model} {A : Around} {E : Value → Shared → Prop} {s : Shared} {pos : Pos} {fv : Value} {first : List Value} {args : List (Bool × Sem Value)} {Q : Value → Shared → Prop} (hf : Machine fv) (hplain : args.any (·.1) = false)
    (h : wpAny M A (evalArgs fv true args []) (fun a s₁ => wpAny M A (call fv (first ++ a.pos) a.kw) Q E s₁) E s) : wpAny M A (callWith pos fv first args []) Q E s := by
  rcases hf with ⟨id, rfl⟩ | ⟨t, rfl⟩
  · exact callWith_builtin hplain h
  · exact PyProof.Rows.callWith_type hplain h
theorem ld_builtin {A : Around} {E : Value → Shared → Prop} {reg : Fl → Addr → Prop} {s : Shared} {x : Str} {pos : Pos} {v : Value} {Q : Value → Shared → Prop} (R : Rd T env reg Γ s) (hx : env.kindOf x = some .globalImplicit) (hd : (x == ("__debug__" : Str)) = false) (hg : T.mg x = none) (hb : T.mb x = some v)
    (h : Q v s) : wpAny T.M A (eval (.Name x pos) env) Q E s :=
  Name_function_global R.eok.kind hx (loadGlobal_builtin (by rw [R.eok.g]; exact R.wd.g) hg (by rw [R.eok.b]; exact R.wd.b) hb h) hd
theorem ld_global {A : Around} {E : Value → Shared → Prop} {reg : Fl → Addr → Prop} {s : Shared} {x : Str} {pos : Pos} {v : Value} {Q : Value → Shared → Prop} (R : Rd T env reg Γ s) (hx : env.kindOf x = some .globalImplicit) (hd : (x == ("__debug__" : Str)) = false) (hg : T.mg x = some v)
    (h : Q v s) : wpAny T.M A (eval (.Name x pos) env) Q E s :=
  Name_function_global R.eok.kind hx (loadGlobal_global (by rw [R.eok.g]; exact R.wd.g) hg h) hd
theorem EvF.callB {f : Str} {p pos : Pos} {args : List PySem.Expr} {xs : List (Vl × Fl)} {fv : Value} {d : PyData} (hx : env.kindOf f = some .globalImplicit) (hd : (f == ("__debug__" : Str)) = false) (hg : T.mg f = none) (hb : T.mb f = some fv) (hf : Machine fv)
    (ha : EvA T n env Γ args xs) (hc : CallB T n fv xs d) : EvF T n env Γ (.Call (.Name f p) args [] pos) d := ⟨fun {A reg s E Q} hA R h =>
  Call_Name rfl (ld_builtin R hx hd hg hb (callWith_machine hf (ha.plain pos) (evalArgs_any (ha.plain pos) (ha.run hA R fun vals s₁ k₁ r₁ => hc.run hA (R.regs.kp k₁.h) (R.wd.kp k₁.h) r₁ fun val s₂ k₂ r₂ => h val s₂ (k₁.trans k₂) (r₂.older k₁.h)))))⟩

inductive RepAs (w : World) (h : Heap) : List Value → List Vl → Prop where
  | nil : RepAs w h [] []
  | cons {v : Value} {vs : List Value} {x : Vl} {xs : List Vl} : RepV w (fun _ => True) h v x → RepAs w h vs xs → RepAs w h (v :: vs) (x :: xs)
theorem RepVs.any {w : World} {h : Heap} {reg : Fl → Addr → Prop} {vs : List Value} {xs : List (Vl × Fl)} (r : RepVs w h reg vs xs) : RepAs w h vs (xs.map (·.1)) := by
  induction r with
  | nil => exact .nil
  | cons a _ ih => exact .cons (a.mono fun _ _ => trivial) ih
structure Calls (T : St) (n : Nat) (f : Addr) (xs : List Vl) (d : PyData) : Prop where
  run : ∀ {A : Around} {s : Shared} {E : Value → Shared → Prop} {Q : Value → Shared → Prop} {vals : List Value} (D : Addr → Prop), Amb n A → Wd T s.heap → (∀ a, D a → s.heap.get? a ≠ none) → RepAs T.w s.heap vals xs →
    (∀ val s', Kp T.N s s' → RepF T.w (fun a => ¬ D a) s.heap s'.heap val d → Q val s') → wpAny T.M A (call (.ref f) vals) Q E s
theorem Calls.le {f : Addr} {xs : List Vl} {d : PyData} {m : Nat} (x : Calls T m f xs d) (h : m ≤ n) : Calls T n f xs d := ⟨fun D hA => x.run D (hA.le h)⟩
noncomputable def FnAt (T : St) (a : Addr) (fd : FuncData) : Prop := ∃ o, T.K.lookup a = some o ∧ o.data = .func fd
theorem EvF.call {f : Str} {p pos : Pos} {args : List PySem.Expr} {xs : List (Vl × Fl)} {a : Addr} {fd : FuncData} {d : PyData} (hx : env.kindOf f = some .globalImplicit) (hd : (f == ("__debug__" : Str)) = false) (hg : T.mg f = some (.ref a)) (hf : FnAt T a fd)
    (ha : EvA T n env Γ args xs) (hc : Calls T n a (xs.map (·.1)) d) : EvF T n env Γ (.Call (.Name f p) args [] pos) d := ⟨fun {A reg s E Q} hA R h => by
  obtain ⟨o, ho, hdat⟩ := hf
  refine Call_Name rfl (ld_global R hx hd hg (callWith_function (o := o) (fd := fd) (evalArgs_any (ha.plain pos) (ha.run hA R fun vals s₁ k₁ r₁ => ⟨⟨(R.wd.kp k₁.h).k a o ho, hdat⟩, ?_⟩))))
  refine hc.run (fun b => ¬ reg .c b) hA (R.wd.kp k₁.h) (fun b hb e => hb ((R.regs.kp k₁.h).fresh .c b e)) r₁.any fun val s₂ k₂ r₂ => h val s₂ (k₁.trans k₂) ((r₂.older k₁.h).mono fun b hb => Classical.byContradiction hb)⟩

structure Meth (T : St) (n : Nat) (name : Str) (v : Vl) (fl : Fl) (xs : List (Vl × Fl)) (d : PyData) : Prop where
  run : ∀ {A : Around} {reg : Fl → Addr → Prop} {s : Shared} {E : Value → Shared → Prop} {Q : Value → Shared → Prop} {ov : Value}, Amb n A → RepV T.w (reg fl) s.heap ov v →
    ∃ Ty id, PlainAttrs Ty ∧ PySem.Slot Ty name id ∧ typeOf (.builtin id) = pure (.type "method_descriptor") ∧ s.TypeIs ov Ty ∧ (∀ a, ov = .ref a → ∃ ob, s.heap.get? a = some ob ∧ ob.dict = none) ∧
      ∀ s₁ vals, Kp T.N s s₁ → Regs reg s₁.heap → Wd T s₁.heap → RepVs T.w s₁.heap reg vals xs → (∀ val s', Kp T.N s₁ s' → RepF T.w (reg .c) s₁.heap s'.heap val d → Q val s') → wpAny T.M A (call (.builtin id) (ov :: vals)) Q E s₁
theorem EvF.meth {o : PySem.Expr} {name : Str} {apos pos : Pos} {args : List PySem.Expr} {v : Vl} {fl : Fl} {xs : List (Vl × Fl)} {d : PyData} (ho : Ev T n env Γ o v fl) (ha : EvA T n env Γ args xs) (hm : Meth T n name v fl xs d)
    (hbase : attributeBase o name env (eval o env) = eval o env) (hfew : decide (args.length < 30) = true) (hline : (apos.endLine == pos.line) = true) : EvF T n env Γ (.Call (.Attribute o name apos) args [] pos) d := ⟨fun {A reg s E Q} hA R h => by
  refine wpAny_Call_method_lateS hbase ?_ hline (ho.run hA R fun ov s₁ k₁ r₁ => ?_)
  · have h1 : (backTo pos (starEach args env)).all (fun x => !x.1) = true := by
      have := ha.plain pos
      rw [List.any_eq_false] at this
      rw [List.all_eq_true]
      intro x hx
      have := this x hx
      simpa using this
    rw [h1]
    show (true && true && decide (args.length + 0 + 0 < 30)) = true
    simpa using hfew
  · obtain ⟨Ty, id, h1, h2, h3, h4, h5, h6⟩ := hm.run (E := E) (Q := Q) hA r₁
    refine ⟨Ty, id, h1, h2, h3, h4, h5, callWith_machine (.inl ⟨id, rfl⟩) (ha.plain pos) (evalArgs_any (ha.plain pos) (ha.run hA (R.kp k₁) fun vals s₂ k₂ r₂ => ?_))⟩
    exact h6 s₂ vals k₂ ((R.regs.kp k₁.h).kp k₂.h) ((R.wd.kp k₁.h).kp k₂.h) r₂ fun val s₃ k₃ r₃ => h val s₃ ((k₁.trans k₂).trans k₃) (r₃.older (k₁.trans k₂).h)⟩

structure Sub (T : St) (n : Nat) (v : Vl) (fl : Fl) (iv : Vl) (d : PyData) (fl' : Fl) : Prop where
  run : ∀ {A : Around} {reg : Fl → Addr → Prop} {R₂ : Addr → Prop} {s : Shared} {E : Value → Shared → Prop} {Q : Value → Shared → Prop} {ov ival : Value}, Amb n A → Regs reg s.heap → RepV T.w (reg fl) s.heap ov v → RepV T.w R₂ s.heap ival iv →
    (∀ val s', Kp T.N s s' → Rep T.w (reg fl') s'.heap val d → Q val s') → ∃ Ty id, typeLookup (.type Ty) "__getitem__" = pure (some (.builtin id)) ∧ s.TypeIs ov Ty ∧ wpAny T.M A (getItem ov ival) Q E s
theorem Ev.sub {e i : PySem.Expr} {pos : Pos} {v iv : Vl} {fl f₂ fl' : Fl} {d : PyData} (h₁ : Ev T n env Γ e v fl) (h₂ : Ev T n env Γ i iv f₂) (hs : Sub T n v fl iv d fl') (hp : ∀ o i', subscripted i false o i' = operate [o, i'] (getItem o i')) :
    Ev T n env Γ (.Subscript e i pos) (.d d) fl' := ⟨fun {A reg s E Q} hA R h =>
  Subscript_ (h₁.run hA R fun ov s₁ k₁ r₁ => h₂.run hA (R.kp k₁) fun ival s₂ k₂ r₂ => by
    obtain ⟨Ty, id, hl, hT, hg⟩ := hs.run (E := E) (Q := Q) hA ((R.regs.kp k₁.h).kp k₂.h) (r₁.keeps k₂.h) r₂ fun val s₃ k₃ r₃ => h val s₃ ((k₁.trans k₂).trans k₃) r₃
    exact tail_any hT hl hg (hp _ _))⟩
theorem Sub.str {fl : Fl} {x : Str} {i : Int} {c : Nat} (h0 : 0 ≤ i) (hc : x.cps.toList[i.toNat]? = some c) (hz : x.length ≤ sizeLine) : Sub T n (.d (.str x)) fl (.d (.int i)) (.str ⟨#[c]⟩) .c := ⟨fun {A reg R₂ s E Q ov ival} hA _ r₁ r₂ h => by
  obtain ⟨t, rfl⟩ := Rep.str_inv r₁; obtain ⟨u, rfl⟩ := Rep.int_inv r₂
  have hlt : i.toNat < x.cps.size := by have := (List.getElem?_eq_some_iff.mp hc).1; simpa using this
  have hx : x.cps.size ≤ 2 ^ 24 := hz
  have hch : Txt.charAt x i = some c := by
    unfold Txt.charAt
    have : seqIndex? i x.length = some i.toNat := seqIndex_nat h0 hlt
    rw [this]; simpa using hc
  refine ⟨"str", _, F.slot_str_getitem.lookup, typeIs_str _ _ _, SB.getItem ?_ (by rw [hch]; rfl) (h _ _ (.tok _ _) ?_)⟩
  · unfold fitsSsize
    simp only [Bool.not_eq_true', Bool.or_eq_false_iff, decide_eq_false_iff_not]
    omega
  · have : Txt.item x i = ⟨#[c]⟩ := by unfold Txt.item; rw [hch]; rfl
    rw [this]; exact rep_str ..⟩
theorem Sub.list {fl : Fl} {xs : List PyData} {i : Int} {d : PyData} (h0 : 0 ≤ i) (hi : i < 2 ^ 63) (hd : xs[i.toNat]? = some d) : Sub T n (.d (.list xs)) fl (.d (.int i)) d fl := ⟨fun {A reg R₂ s E Q ov ival} hA _ r₁ r₂ h => by
  obtain ⟨a, vs, rfl, hR, hl, hall⟩ := Rep.list_inv r₁; obtain ⟨u, rfl⟩ := Rep.int_inv r₂
  obtain ⟨v, hv, hr⟩ := hall.get _ d hd
  exact ⟨"list", _, slot_list_getitem.lookup, hl.typeIs, wpAny_getItem_list hl h0 hi (by simpa using hv) (h _ _ (.refl _) hr)⟩⟩
theorem Sub.tuple {fl : Fl} {xs : List PyData} {i : Int} {d : PyData} (h0 : 0 ≤ i) (hi : i < 2 ^ 63) (hd : xs[i.toNat]? = some d) : Sub T n (.d (.tuple xs)) fl (.d (.int i)) d fl := ⟨fun {A reg R₂ s E Q ov ival} hA _ r₁ r₂ h => by
  obtain ⟨a, o, vs, k, rfl, ho, hc, hdat, hall⟩ := Rep.tuple_inv r₁; obtain ⟨u, rfl⟩ := Rep.int_inv r₂
  obtain ⟨v, hv, hr⟩ := hall.get _ d hd
  have ht : IsTup s.heap a vs.toArray := ⟨o, ho, hc, k, hdat⟩
  have hlt : i.toNat < vs.length := (List.getElem?_eq_some_iff.mp hv).1
  have : seqIndex? i vs.toArray.size = some i.toNat := seqIndex_nat h0 (by simpa using hlt)
  exact ⟨"tuple", _, slot_tuple_getitem.lookup, ht.typeIs, getItem_tuple ht (by omega) hi this (by simpa using hv) (h _ _ (.refl _) hr)⟩⟩

theorem RepVs.all_c {w : World} {h : Heap} {reg : Fl → Addr → Prop} : ∀ {vs : List Value} {ds : List PyData}, RepVs w h reg vs (ds.map fun d => (Vl.d d, Fl.c)) → RepAll w (reg .c) h vs ds
  | _, [], .nil => RepAll.nil
  | _, _ :: _, .cons a r => RepAll.cons a r.all_c
theorem EvF.list {es : List PySem.Expr} {pos : Pos} {ds : List PyData} (ha : EvA T n env Γ es (ds.map fun d => (.d d, .c))) (hz : ds.length ≤ sizeLine) : EvF T n env Γ (.List es pos) (.list ds) := ⟨fun {A reg s E Q} hA R h =>
  List_ (ha.run hA R fun vals s₁ k₁ r₁ => by
    have hall := r₁.all_c
    refine wpAny_newObj_type (h _ _ (k₁.trans (.push _ _)) ((repF_listP (fun b => (R.regs.kp k₁.h).fresh .c b) hall).older k₁.h)) (by show vals.toArray.size ≤ sizeLine; rw [List.size_toArray, hall.length]; exact hz))⟩
theorem EvF.tuple {es : List PySem.Expr} {k : Nat} {pos : Pos} {ds : List PyData} (ha : EvA T n env Γ es (ds.map fun d => (.d d, .c))) (hz : ds.length ≤ sizeLine) : EvF T n env Γ (.Tuple es k pos) (.tuple ds) := ⟨fun {A reg s E Q} hA R h =>
  Tuple_ (ha.run hA R fun vals s₁ k₁ r₁ => by
    have hall := r₁.all_c
    refine wpAny_newObj_type (h _ _ (k₁.trans (.push _ _)) (.tuple (rep_tuple (n := 0) (Heap.get?_push_size _ rfl) rfl rfl (hall.keeps (N := 0) ((KpH.refl _).push _))))) (by show vals.toArray.size ≤ sizeLine; rw [List.size_toArray, hall.length]; exact hz))⟩
end
end Mine
end
section
open PySem PySem.Calls PyProof.Rows
set_option linter.all false
namespace Mine
variable {N : Nat}

noncomputable def ChgH (N : Nat) (X : Addr → Prop) (h h' : Heap) : Prop := ∀ b o, h.get? b = some o → ¬ X b → ∃ sl, h'.get? b = some { o with slots := sl } ∧ ((o.cls ≠ .type "frame" ∨ b < N ∨ ∃ vs, o.data = .fields vs) → sl = o.slots)
theorem ChgH.of_kp {X : Addr → Prop} {h h' : Heap} (k : KpH N h h') : ChgH N X h h' := fun b o e _ => k b o e
theorem ChgH.trans {X Y : Addr → Prop} {h₁ h₂ h₃ : Heap} (x : ChgH N X h₁ h₂) (y : ChgH N Y h₂ h₃) (hxy : ∀ b o, h₁.get? b = some o → Y b → X b) : ChgH N X h₁ h₃ := fun b o e hb => by
  obtain ⟨sl, e1, f1⟩ := x b o e hb
  obtain ⟨sl', e2, f2⟩ := y b _ e1 fun hy => hb (hxy b o e hy)
  exact ⟨sl', e2, fun hc => (f2 hc).trans (f1 hc)⟩
theorem ChgH.of_but {z : Addr} {h h' : Heap} (k : Heap.SameBut z h h') : ChgH N (· = z) h h' := fun b o e hb => ⟨o.slots, (k.2 b hb).trans e, fun _ => rfl⟩
theorem ChgH.mono {X Y : Addr → Prop} {h h' : Heap} (x : ChgH N X h h') (hXY : ∀ b, X b → Y b) : ChgH N Y h h' := fun b o e hb => x b o e fun hx => hb (hXY b hx)
theorem ChgH.gets {X : Addr → Prop} {h h' : Heap} (x : ChgH N X h h') {b : Addr} {o : Obj} (e : h.get? b = some o) (hb : ¬ X b) : ∃ o', h'.get? b = some o' ∧ o'.cls = o.cls ∧ o'.dict = o.dict ∧ o'.data = o.data := by
  obtain ⟨sl, e1, _⟩ := x b o e hb
  exact ⟨_, e1, rfl, rfl, rfl⟩

noncomputable def NotTup (h : Heap) (z : Addr) : Prop := ∀ o vs n, h.get? z = some o → o.cls = .type "tuple" → o.data ≠ .seq vs n
theorem reads_chg2 {X : Addr → Prop} {h h' : Heap} (hk : ChgH N X h h') (hX : ∀ z, X z → NotTup h z) : (∀ {v : Value} {d : PyData} {as : List Addr}, Reads h v d as → (∀ a ∈ as, ¬ X a) → Reads h' v d as) ∧ ∀ {vs : List Value} {ds : List PyData} {as : List Addr}, ReadsAll h vs ds as → (∀ a ∈ as, ¬ X a) → ReadsAll h' vs ds as :=
  reads_ind (P := fun v d as => (∀ a ∈ as, ¬ X a) → Reads h' v d as) (PA := fun vs ds as => (∀ a ∈ as, ¬ X a) → ReadsAll h' vs ds as) (fun _ => .none) (fun b _ => .bool b) (fun i t _ => .int i t) (fun x t _ => .str x t)
    (fun ho hc hd _ ha hn => let ⟨_, e, _⟩ := hk _ _ ho (hn _ (.head _)); .list e hc hd (ha fun a ha' => hn a (.tail _ ha')))
    (fun ho hc hd _ ha hn => let ⟨_, e, _⟩ := hk _ _ ho (fun hx => hX _ hx _ _ _ ho hc hd); .tuple e hc hd (ha hn))
    (fun ho hc hd _ _ ha hb hn => let ⟨_, e, _⟩ := hk _ _ ho (hn _ (.head _)); .dict e hc hd (ha fun a h' => hn a (.tail _ (List.mem_append_left _ h'))) (hb fun a h' => hn a (.tail _ (List.mem_append_right _ h'))))
    (fun _ => .nil) (fun _ _ ha hb hn => .cons (ha fun a h => hn a (List.mem_append_left _ h)) (hb fun a h => hn a (List.mem_append_right _ h)))
theorem reads_chg {X : Addr → Prop} {h h' : Heap} (hk : ChgH N X h h') (hX : ∀ z, X z → NotTup h z) {v : Value} {d : PyData} {as : List Addr} (r : Reads h v d as) (hn : ∀ a ∈ as, ¬ X a) : Reads h' v d as := (reads_chg2 hk hX).1 r hn
theorem readsAll_chg {X : Addr → Prop} {h h' : Heap} (hk : ChgH N X h h') (hX : ∀ z, X z → NotTup h z) {vs : List Value} {ds : List PyData} {as : List Addr} (r : ReadsAll h vs ds as) (hn : ∀ a ∈ as, ¬ X a) : ReadsAll h' vs ds as := (reads_chg2 hk hX).2 r hn
section
variable {w : World} {R : Addr → Prop} {X : Addr → Prop} {h h' : Heap} {v : Value}
theorem Dok.chg {as : List Addr} (x : Dok w h as) (hk : ChgH N X h h') (hn : ∀ a ∈ as, ¬ X a) : Dok w h' as := fun a ha => by
  obtain ⟨o, ho, r⟩ := x a ha
  obtain ⟨sl, e, f⟩ := hk a o ho (hn a ha)
  refine ⟨_, e, fun es n q => ?_⟩
  obtain ⟨r1, r2, r3⟩ := r es n q
  exact ⟨r1, ⟨r2.1, r2.2.1, (f (.inl (by rw [r2.1]; simp))).trans r2.2.2⟩, r3⟩
theorem Rep.chg {d : PyData} (x : Rep w R h v d) (hk : ChgH N X h h') (hX : ∀ z, X z → NotTup h z) (hR : ∀ a, R a → ¬ X a) : Rep w R h' v d :=
  let ⟨as, r, hr, hd⟩ := x; ⟨as, reads_chg hk hX r fun a ha => hR a (hr a ha), hr, hd.chg hk fun a ha => hR a (hr a ha)⟩
theorem FieldsRep.chg (hk : ChgH N X h h') (hX : ∀ z, X z → NotTup h z) (hR : ∀ a, R a → ¬ X a) : ∀ {es : List DictEntry} {fs : List (Str × PyData)}, FieldsRep w R h es fs → FieldsRep w R h' es fs
  | [], [], _ => trivial
  | _ :: _, (_, _) :: _, ⟨a, b, c, r⟩ => ⟨a, b, c.chg hk hX hR, FieldsRep.chg hk hX hR r⟩
theorem ChgH.plain (hk : ChgH N X h h') {b : Addr} {o : Obj} (e : h.get? b = some o) (hb : ¬ X b) (hc : o.cls ≠ .type "frame") : h'.get? b = some o := by
  obtain ⟨sl, e1, f1⟩ := hk b o e hb
  rw [e1, f1 (.inl hc)]
theorem RepV.chg {x : Vl} (r : RepV w R h v x) (hk : ChgH N X h h') (hX : ∀ z, X z → NotTup h z) (hR : ∀ a, R a → ¬ X a) : RepV w R h' v x := by
  cases x with
  | d x => exact Rep.chg r hk hX hR
  | i C fs =>
    obtain ⟨x, dx, es, n, a1, a2, a3, a4, a5, a6⟩ := r
    exact ⟨x, dx, es, n, a1, a2, a3, hk.plain a4 (hR _ a2) (by simp), hk.plain a5 (hR _ a3) (by simp), a6.chg hk hX hR⟩
theorem Rep.there {d : PyData} (x : Rep w R h v d) : Rep w (fun a => R a ∧ h.get? a ≠ none) h v d :=
  let ⟨as, r, hr, hd⟩ := x; ⟨as, r, fun a ha => ⟨hr a ha, by obtain ⟨o, e, _⟩ := hd a ha; rw [e]; simp⟩, hd⟩
theorem FieldsRep.there : ∀ {es : List DictEntry} {fs : List (Str × PyData)}, FieldsRep w R h es fs → FieldsRep w (fun a => R a ∧ h.get? a ≠ none) h es fs
  | [], [], _ => trivial
  | _ :: _, (_, _) :: _, ⟨a, b, c, r⟩ => ⟨a, b, c.there, r.there⟩
theorem RepV.there {x : Vl} (r : RepV w R h v x) : RepV w (fun a => R a ∧ h.get? a ≠ none) h v x := by
  cases x with
  | d x => exact Rep.there r
  | i C fs =>
    obtain ⟨x, dx, es, n, a1, a2, a3, a4, a5, a6⟩ := r
    exact ⟨x, dx, es, n, a1, ⟨a2, by rw [a4]; simp⟩, ⟨a3, by rw [a5]; simp⟩, a4, a5, a6.there⟩
end

structure Frm (N : Nat) (s₀ : Shared) (env : Env) (m cm : Str → Option Value) (s : Shared) : Prop where
  same : ∃ h tk, s = { s₀ with heap := h, toks := tk }
  keep : KpH N s₀.heap s.heap
  ns : s.heap.Ns env.locals m
  cell : ∀ x c, env.cells.lookup x = some c → s.heap.IsCell c (cm x)
  newL : s₀.heap.get? env.locals = none
  newC : ∀ x c, env.cells.lookup x = some c → s₀.heap.get? c = none ∧ c ≠ env.locals
  apart : env.cells.Pairwise fun x y => x.2 ≠ y.2
theorem Frm.kp {s₀ s s' : Shared} {env : Env} {m cm : Str → Option Value} (x : Frm N s₀ env m cm s) (k : Kp N s s') : Frm N s₀ env m cm s' := by
  refine ⟨?_, x.keep.trans k.h, k.h.ns x.ns, fun y c hc => k.h.cell (x.cell y c hc), x.newL, x.newC, x.apart⟩
  obtain ⟨h, tk, rfl⟩ := x.same
  obtain ⟨h', tk', rfl, _⟩ := k
  exact ⟨h', tk', rfl⟩

noncomputable def Look (env : Env) (m cm : Str → Option Value) (x : Str) (v : Value) : Prop :=
  (env.kindOf x = some .local ∧ m x = some v) ∨ (env.kindOf x = some .cell ∧ (∃ c, env.cells.lookup x = some c) ∧ cm x = some v)
theorem Look.is {s₀ s : Shared} {env : Env} {m cm : Str → Option Value} {x : Str} {v : Value} (l : Look env m cm x v) (F : Frm N s₀ env m cm s) : NameIs env s.heap x v := by
  rcases l with ⟨k, e⟩ | ⟨k, ⟨c, hc⟩, e⟩
  · exact .inl ⟨k, m, F.ns, e⟩
  · exact .inr ⟨k, c, hc, e ▸ F.cell x c hc⟩

noncomputable abbrev Own := Str → Option Addr
noncomputable def regOf (d₀ : Addr → Prop) (env : Env) (own : Own) : Fl → Addr → Prop
  | .o, _ => True
  | .s _, _ => True
  | .b, a => a ≠ env.locals ∧ (∀ y c, env.cells.lookup y = some c → a ≠ c) ∧ ∀ y, own y ≠ some a
  | .c, a => ¬ d₀ a ∧ a ≠ env.locals ∧ (∀ y c, env.cells.lookup y = some c → a ≠ c) ∧ ∀ y, own y ≠ some a

noncomputable def gN : Str := "."
noncomputable def FldO (T : St) (d₀ : Addr → Prop) (env : Env) (own : Own) (h : Heap) (o : Option Str) : List DictEntry → List (Str × PyData) → Prop
  | [], [] => True
  | e :: es, (x, d) :: fs => ((∃ t, e.key = .str x t) ∧ e.hash = PyData.keyHash T.w.params x) ∧ ((o ≠ some x ∧ Rep T.w (regOf d₀ env own .c) h e.val d) ∨ (o = some x ∧ env.kindOf gN = none ∧ ∃ pd as, e.val = .ref pd ∧ own gN = some pd ∧ Reads h e.val d (pd :: as) ∧ (∀ b ∈ as, regOf d₀ env own .c b) ∧ Dok T.w h (pd :: as))) ∧ FldO T d₀ env own h o es fs
  | _, _ => False
section
variable {T : St} {d₀ : Addr → Prop} {env : Env} {own own' : Own} {X : Addr → Prop} {h h' : Heap} {o : Option Str}
theorem FldO.chg (hk : ChgH N X h h') (hX : ∀ z, X z → NotTup h z) (hF : ∀ v d as, Reads h v d as → Dok T.w h as → (∀ b ∈ as, regOf d₀ env own .c b ∨ (env.kindOf gN = none ∧ own gN = some b)) → ∀ b ∈ as, ¬ X b)
    (hR : ∀ b, regOf d₀ env own .c b → h.get? b ≠ none → regOf d₀ env own' .c b) (hG : ∀ b, env.kindOf gN = none → own gN = some b → own' gN = some b) :
    ∀ {es : List DictEntry} {fs : List (Str × PyData)}, FldO T d₀ env own h o es fs → FldO T d₀ env own' h' o es fs
  | [], [], _ => trivial
  | e :: es, (x, d) :: fs, ⟨h1, h2, h3⟩ => by
    refine ⟨h1, ?_, FldO.chg hk hX hF hR hG h3⟩
    rcases h2 with ⟨q, as, r, hr, hd⟩ | ⟨q, q', pd, as, e1, e2, r, hr, hd⟩
    · have hn := hF _ _ _ r hd fun b hb => .inl (hr b hb)
      exact .inl ⟨q, as, reads_chg hk hX r hn, fun b hb => hR b (hr b hb) (by obtain ⟨o, e, _⟩ := hd b hb; rw [e]; simp), hd.chg hk hn⟩
    · have hn := hF _ _ _ r hd fun b hb => (List.mem_cons.mp hb).elim (fun e => .inr ⟨q', e ▸ e2⟩) fun hb => .inl (hr b hb)
      exact .inr ⟨q, q', pd, as, e1, hG pd q' e2, reads_chg hk hX r hn, fun b hb => hR b (hr b hb) (by obtain ⟨o, e, _⟩ := hd b (.tail _ hb); rw [e]; simp), hd.chg hk hn⟩
theorem FldO.rep {R : Addr → Prop} (hR : ∀ b, regOf d₀ env own .c b → R b) (hG : ∀ b, own gN = some b → R b) : ∀ {es : List DictEntry} {fs : List (Str × PyData)}, FldO T d₀ env own h o es fs → FieldsRep T.w R h es fs
  | [], [], _ => trivial
  | e :: es, (x, d) :: fs, ⟨h1, h2, h3⟩ => by
    refine ⟨h1.1, h1.2, ?_, FldO.rep hR hG h3⟩
    rcases h2 with ⟨q, r⟩ | ⟨q, q', pd, as, e1, e2, r, hr, hd⟩
    · exact r.mono hR
    · exact ⟨_, r, fun b hb => (List.mem_cons.mp hb).elim (fun e => hG b (e ▸ e2)) fun hb => hR b (hr b hb), hd⟩
end
noncomputable def InstOwn0 (T : St) (d₀ : Addr → Prop) (env : Env) (own : Own) (h : Heap) (x : Str) (val : Value) (v : Vl) (p : Addr × Option Str) : Prop :=
  ∃ C fs dx es n, v = .i C fs ∧ val = .ref p.1 ∧ own x = some dx ∧ regOf d₀ env own .c p.1 ∧ h.get? p.1 = some { cls := .ref C, dict := some dx } ∧
    h.get? dx = some { cls := .type "dict", data := .dict (List.toArray es) n } ∧ FldO T d₀ env own h p.2 es fs
noncomputable def gI (i : Nat) : Str := ⟨(46 :: 46 :: List.replicate i 46).toArray⟩
noncomputable def DeepOwn (T : St) (d₀ : Addr → Prop) (env : Env) (own : Own) (h : Heap) (x : Str) (val : Value) (v : Vl) : Prop :=
  ∃ d a as, v = .d d ∧ val = .ref a ∧ own x = some a ∧ Reads h val d (a :: as) ∧ (∀ i b, as[i]? = some b → own (gI i) = some b ∧ env.kindOf (gI i) = none) ∧ Dok T.w h (a :: as)
noncomputable def InstOwn (T : St) (d₀ : Addr → Prop) (env : Env) (own : Own) (h : Heap) (x : Str) (val : Value) (v : Vl) (p : Addr × Option Str) : Prop := InstOwn0 T d₀ env own h x val v p ∨ DeepOwn T d₀ env own h x val v
theorem InstOwn.inst {T : St} {d₀ : Addr → Prop} {env : Env} {own : Own} {h : Heap} {x : Str} {val : Value} {C : Addr} {fs : List (Str × PyData)} {p : Addr × Option Str} (r : InstOwn T d₀ env own h x val (.i C fs) p) : InstOwn0 T d₀ env own h x val (.i C fs) p := r.elim id fun ⟨_, _, _, e, _⟩ => (nomatch e)
theorem InstOwn.deep {T : St} {d₀ : Addr → Prop} {env : Env} {own : Own} {h : Heap} {x : Str} {val : Value} {d : PyData} {p : Addr × Option Str} (r : InstOwn T d₀ env own h x val (.d d) p) : DeepOwn T d₀ env own h x val (.d d) := r.elim (fun ⟨_, _, _, _, _, e, _⟩ => (nomatch e)) id
theorem InstOwn.chg {T : St} {d₀ : Addr → Prop} {env : Env} {own own' : Own} {X : Addr → Prop} {h h' : Heap} {x : Str} {val : Value} {v : Vl} {p : Addr × Option Str} (r : InstOwn T d₀ env own h x val v p) (hk : ChgH N X h h') (hX : ∀ z, X z → NotTup h z)
    (hR : ∀ b, regOf d₀ env own .c b → h.get? b ≠ none → regOf d₀ env own' .c b ∧ ¬ X b) (hO : ∀ y b, own y = some b → (y = x ∨ env.kindOf y = none) → own' y = some b ∧ ¬ X b) : InstOwn T d₀ env own' h' x val v p := by
  rcases r with ⟨C, fs, dx, es, n, e1, e2, e3, e4, e5, e6, e7⟩ | ⟨d, a, as, e1, e2, e3, e4, e5, e6⟩
  case inr =>
    have hn : ∀ b ∈ a :: as, ¬ X b := fun b hb => by
      rcases List.mem_cons.mp hb with rfl | hb
      · exact (hO x _ e3 (.inl rfl)).2
      · obtain ⟨i, hi⟩ := List.getElem?_of_mem hb
        obtain ⟨q1, q2⟩ := e5 i b hi
        exact (hO (gI i) b q1 (.inr q2)).2
    exact .inr ⟨d, a, as, e1, e2, (hO x a e3 (.inl rfl)).1, reads_chg hk hX e4 hn, fun i b hi => by obtain ⟨q1, q2⟩ := e5 i b hi; exact ⟨(hO (gI i) b q1 (.inr q2)).1, q2⟩, e6.chg hk hn⟩
  have h1 := hR p.1 e4 (by rw [e5]; simp)
  have h2 := hO x dx e3 (.inl rfl)
  refine .inl ⟨C, fs, dx, es, n, e1, e2, h2.1, h1.1, hk.plain e5 h1.2 (by simp), hk.plain e6 h2.2 (by simp), ?_⟩
  refine e7.chg hk hX (fun v d as _ hd hr b hb => ?_) (fun b hb hn => (hR b hb hn).1) fun b hg hb => (hO gN b hb (.inr hg)).1
  rcases hr b hb with q | ⟨hg, q⟩
  · exact (hR b q (by obtain ⟨o, e, _⟩ := hd b hb; rw [e]; simp)).2
  · exact (hO gN b q (.inr hg)).2
theorem InstOwn.rep {T : St} {d₀ : Addr → Prop} {env : Env} {own : Own} {h : Heap} {x : Str} {val : Value} {v : Vl} {p : Addr × Option Str} (r : InstOwn T d₀ env own h x val v p) : RepV T.w (fun _ => True) h val v := by
  rcases r with ⟨C, fs, dx, es, n, e1, e2, e3, e4, e5, e6, e7⟩ | ⟨d, a, as, e1, e2, e3, e4, e5, e6⟩
  · subst e1
    exact ⟨p.1, dx, es, n, e2, trivial, trivial, e5, e6, e7.rep (fun _ _ => trivial) fun _ _ => trivial⟩
  · subst e1
    exact ⟨a :: as, e4, fun _ _ => trivial, e6⟩
noncomputable def SlotRep (T : St) (d₀ : Addr → Prop) (env : Env) (own : Own) (h : Heap) (x : Str) (val : Value) (v : Vl) : Fl → Prop
  | .o => ∃ d a as, v = .d d ∧ val = .ref a ∧ own x = some a ∧ Reads h val d (a :: as) ∧ (∀ b ∈ as, regOf d₀ env own .c b) ∧ Dok T.w h (a :: as)
  | .s a => InstOwn T d₀ env own h x val v a
  | .b => RepV T.w (regOf d₀ env own .b) h val v
  | .c => RepV T.w (regOf d₀ env own .c) h val v

structure CellsOk' (env : Env) : Prop where
  has : ∀ x, env.kindOf x = some .cell → ∃ c, env.cells.lookup x = some c

structure SI (T : St) (s₀ : Shared) (d₀ : Addr → Prop) (env : Env) (own : Own) (Γ : Gm) (s : Shared) : Prop where
  eok : EnvOk env
  cok : CellsOk' env
  ok : GmOk (Γ.map (·.1))
  wd0 : Wd T s₀.heap
  d0 : ∀ a, d₀ a → s₀.heap.get? a ≠ none
  ownNew : ∀ x a, own x = some a → s₀.heap.get? a = none ∧ a ≠ env.locals ∧ (∀ y c, env.cells.lookup y = some c → a ≠ c) ∧ ∃ o, s.heap.get? a = some o ∧ (o.dict = none ∧ ∀ vs, o.data ≠ .fields vs) ∧ o.cls ≠ .type "tuple" ∧ o.cls ≠ .type "frame"
  ownInj : ∀ x y a, own x = some a → own y = some a → x = y
  frm : ∃ m cm, Frm T.N s₀ env m cm s ∧ ∀ x v fl, (x, some (v, fl)) ∈ Γ → ∃ val, Look env m cm x val ∧ SlotRep T d₀ env own s.heap x val v fl

section
variable {T : St} {s₀ s s' : Shared} {d₀ : Addr → Prop} {env : Env} {own : Own} {Γ : Gm}
theorem SlotRep.kp {h h' : Heap} {x : Str} {val : Value} {v : Vl} : ∀ {fl : Fl}, SlotRep T d₀ env own h x val v fl → KpH N h h' → SlotRep T d₀ env own h' x val v fl
  | .o, ⟨d, a, as, e1, e2, e3, e4, e5, e6⟩, k => ⟨d, a, as, e1, e2, e3, reads_kp k e4, e5, e6.keeps k⟩
  | .s _, r, k => InstOwn.chg (X := fun _ => False) r (.of_kp k) (fun _ q => q.elim) (fun b hb _ => ⟨hb, id⟩) (fun y b hb _ => ⟨hb, id⟩)
  | .b, r, k => RepV.keeps r k
  | .c, r, k => RepV.keeps r k
theorem SI.kp (S : SI T s₀ d₀ env own Γ s) (k : Kp T.N s s') : SI T s₀ d₀ env own Γ s' := by
  refine ⟨S.eok, S.cok, S.ok, S.wd0, S.d0, fun x a e => ?_, S.ownInj, ?_⟩
  · obtain ⟨h1, h2, h3, o, h4, h5, h6, h7⟩ := S.ownNew x a e
    exact ⟨h1, h2, h3, o, k.h.get h4 h7, h5, h6, h7⟩
  · obtain ⟨m, cm, F, hn⟩ := S.frm
    exact ⟨m, cm, F.kp k, fun x v fl hm => let ⟨val, l, r⟩ := hn x v fl hm; ⟨val, l, r.kp k.h⟩⟩
theorem SI.wd (S : SI T s₀ d₀ env own Γ s) : Wd T s.heap := by obtain ⟨m, cm, F, _⟩ := S.frm; exact S.wd0.kp F.keep
theorem SI.fresh (S : SI T s₀ d₀ env own Γ s) {a : Addr} (e : s.heap.get? a = none) : regOf d₀ env own .c a := by
  obtain ⟨m, cm, F, _⟩ := S.frm
  refine ⟨fun hd => S.d0 a hd (F.keep.none e), fun q => ?_, fun y c hc q => ?_, fun y q => ?_⟩
  · obtain ⟨o, _, _, ho, _⟩ := F.ns; rw [← q, e] at ho; cases ho
  · obtain ⟨o, ho, _⟩ := F.cell y c hc; rw [← q, e] at ho; cases ho
  · obtain ⟨_, _, _, o, ho, _⟩ := S.ownNew y a q; rw [e] at ho; cases ho
theorem regOf_cb {a : Addr} (h : regOf d₀ env own .c a) : regOf d₀ env own .b a := h.2
theorem SI.rd (S : SI T s₀ d₀ env own Γ s) : Rd T env (regOf d₀ env own) Γ s := by
  refine ⟨S.eok, S.ok, fun x v fl hm => ?_, ⟨fun fl a e => ?_, fun a h => regOf_cb h, fun a _ => trivial, fun _ a _ => trivial⟩, S.wd⟩
  · obtain ⟨m, cm, F, hn⟩ := S.frm
    obtain ⟨val, l, r⟩ := hn x v fl hm
    refine ⟨val, l.is F, ?_⟩
    cases fl with
    | c => exact r
    | b => exact r
    | o =>
      obtain ⟨d, a, as, rfl, rfl, _, e4, _, e6⟩ := r
      exact ⟨_, e4, fun _ _ => trivial, e6⟩
    | s _ => exact InstOwn.rep r
  · have := S.fresh e
    cases fl
    · exact this
    · exact regOf_cb this
    · trivial
    · trivial

noncomputable def May (env : Env) (own : Own) (b : Addr) : Prop := b = env.locals ∨ (∃ y, env.cells.lookup y = some b) ∨ ∃ y, own y = some b
noncomputable def Pres (N : Nat) (env : Env) (own : Own) (s s' : Shared) : Prop := (∃ h tk, s' = { s with heap := h, toks := tk }) ∧ ChgH N (May env own) s.heap s'.heap ∧ ∀ b, s'.heap.get? b = none → s.heap.get? b = none
noncomputable def OwnLe (own own' : Own) (s : Shared) : Prop := ∀ y a, own' y = some a → (∃ x, own x = some a) ∨ s.heap.get? a = none
theorem OwnLe.refl (own : Own) (s : Shared) : OwnLe own own s := fun y _ e => .inl ⟨y, e⟩
theorem Pres.of_kp (k : Kp N s s') : Pres N env own s s' := by
  have hn := k.h
  obtain ⟨h', tk, rfl, hk⟩ := k
  exact ⟨⟨h', tk, rfl⟩, .of_kp hk, fun b e => hk.none e⟩
theorem Pres.trans {own' : Own} {s'' : Shared} (x : Pres N env own s s') (o : OwnLe own own' s) (y : Pres N env own' s' s'') : Pres N env own s s'' := by
  refine ⟨?_, x.2.1.trans y.2.1 fun b ob e hb => ?_, fun b e => x.2.2 b (y.2.2 b e)⟩
  · obtain ⟨⟨h, tk, rfl⟩, _⟩ := x
    obtain ⟨⟨h', tk', rfl⟩, _⟩ := y
    exact ⟨h', tk', rfl⟩
  · rcases hb with q | q | ⟨y, q⟩
    · exact .inl q
    · exact .inr (.inl q)
    · rcases o y b q with ⟨z, hz⟩ | hz
      · exact .inr (.inr ⟨z, hz⟩)
      · rw [e] at hz; cases hz
theorem OwnLe.trans {own' own'' : Own} (x : OwnLe own own' s) (y : OwnLe own' own'' s') (p : Pres N env own s s') : OwnLe own own'' s := fun z a e => by
  rcases y z a e with ⟨q, hq⟩ | hq
  · exact x q a hq
  · exact .inr (p.2.2 a hq)
theorem May.notTup (S : SI T s₀ d₀ env own Γ s) : ∀ z, May env own z → NotTup s.heap z := fun z hz o vs n e hc hd => by
  obtain ⟨m, cm, F, _⟩ := S.frm
  rcases hz with rfl | ⟨y, q⟩ | ⟨y, q⟩
  · obtain ⟨o', _, _, ho, hd', _⟩ := F.ns
    rw [ho] at e; cases e; rw [hd'] at hd; cases hd
  · obtain ⟨o', ho, hd'⟩ := F.cell y z q
    rw [ho] at e; cases e; rw [hd'] at hd; cases hd
  · obtain ⟨_, _, _, o', ho, _, h6, _⟩ := S.ownNew y z q
    rw [ho] at e; cases e; exact h6 hc
theorem regOf_not_may {a : Addr} (h : regOf d₀ env own .b a) : ¬ May env own a := by
  rintro (q | ⟨y, q⟩ | ⟨y, q⟩)
  · exact h.1 q
  · exact h.2.1 y a q rfl
  · exact h.2.2 y q
end

theorem store_wp {T : St} {A : Around} {E : Value → Shared → Prop} {Q : Unit → Shared → Prop} {s₀ s : Shared} {env : Env} {m cm : Str → Option Value} {x : Str} {val : Value} (F : Frm N s₀ env m cm s) (eok : EnvOk env) (cok : CellsOk' env) (hk : env.kindOf x = some .local ∨ env.kindOf x = some .cell)
    (h : ∀ s' m' cm', Frm N s₀ env m' cm' s' → Look env m' cm' x val → (∀ y v, y ≠ x → Look env m cm y v → Look env m' cm' y v) → (∃ h tk, s' = { s with heap := h, toks := tk }) →
      ChgH N (fun b => b = env.locals ∨ ∃ y, env.cells.lookup y = some b) s.heap s'.heap → (∀ b, s'.heap.get? b = none → s.heap.get? b = none) → Q () s') : wpAny T.M A (storeName env x val) Q E s := by
  rcases hk with hl | hl
  · refine wpAny_storeName_local hl F.ns (fun h' hn hs => h _ _ cm ⟨?_, fun b o e => ?_, hn, fun y c hc => ?_, F.newL, F.newC, F.apart⟩ (.inl ⟨hl, by simp⟩) (fun y v hy hv => ?_) ⟨_, _, rfl⟩ ?_ fun b e => ?_) (by rw [eok.kind]; rfl)
    · obtain ⟨h₁, tk, rfl⟩ := F.same; exact ⟨_, _, rfl⟩
    · obtain ⟨sl, e1, f1⟩ := F.keep b o e
      exact ⟨sl, (hs.2 b fun q => by rw [q, F.newL] at e; cases e).trans e1, f1⟩
    · exact (F.cell y c hc).sameBut hs (F.newC y c hc).2
    · rcases hv with ⟨a, b⟩ | r
      · exact .inl ⟨a, by simp [hy, b]⟩
      · exact .inr r
    · exact (ChgH.of_but hs).mono fun b hb => .inl hb
    · by_cases hb : b = env.locals
      · obtain ⟨o, _, _, ho, _⟩ := hn; subst hb; rw [ho] at e; cases e
      · exact (hs.2 b hb).symm.trans e
  · obtain ⟨c, hc⟩ := cok.has x hl
    refine wpAny_storeName_cell eok.kind hl hc (F.cell x c hc) fun h' hc' hs => h _ m (fun y => if y = x then some val else cm y) ⟨?_, fun b o e => ?_, F.ns.sameBut hs (Ne.symm (F.newC x c hc).2), fun y c' hy => ?_, F.newL, F.newC, F.apart⟩ (.inr ⟨hl, ⟨c, hc⟩, by simp⟩) (fun y v hy hv => ?_) ⟨_, _, rfl⟩ ?_ fun b e => ?_
    · obtain ⟨h₁, tk, rfl⟩ := F.same; exact ⟨_, _, rfl⟩
    · obtain ⟨sl, e1, f1⟩ := F.keep b o e
      exact ⟨sl, (hs.2 b fun q => by rw [q, (F.newC x c hc).1] at e; cases e).trans e1, f1⟩
    · by_cases hyx : y = x
      · subst hyx
        rw [hc] at hy; cases hy
        simpa using hc'
      · simp only [hyx, if_false]
        exact (F.cell y c' hy).sameBut hs fun e => hyx (name_of_addr F.apart (mem_of_lookup hy) (e ▸ mem_of_lookup hc))
    · rcases hv with r | ⟨a, b, d⟩
      · exact .inl r
      · exact .inr ⟨a, b, by simp [hy, d]⟩
    · exact (ChgH.of_but hs).mono fun b hb => .inr ⟨x, hb ▸ hc⟩
    · by_cases hb : b = c
      · obtain ⟨o, ho, _⟩ := hc'; subst hb; rw [ho] at e; cases e
      · exact (hs.2 b hb).symm.trans e

inductive Put : Gm → Str → Slot → Gm → Prop where
  | here {x : Str} {u sl : Slot} {Γ : Gm} : Put ((x, u) :: Γ) x sl ((x, sl) :: Γ)
  | there {x y : Str} {u sl : Slot} {Γ Γ' : Gm} : Put Γ x sl Γ' → Put ((y, u) :: Γ) x sl ((y, u) :: Γ')
theorem Put.names {Γ Γ' : Gm} {x : Str} {sl : Slot} (p : Put Γ x sl Γ') : Γ'.map (·.1) = Γ.map (·.1) := by
  induction p with
  | here => rfl
  | there _ ih => simp [ih]
theorem Put.mem {Γ Γ' : Gm} {x : Str} {sl : Slot} (p : Put Γ x sl Γ') : x ∈ Γ.map (·.1) := by
  induction p with
  | here => simp
  | there _ ih => simp [ih]
theorem Put.cases {Γ Γ' : Gm} {x : Str} {sl : Slot} (p : Put Γ x sl Γ') (hn : (Γ.map (·.1)).Nodup) : ∀ y t, (y, t) ∈ Γ' → (y = x ∧ t = sl) ∨ (y ≠ x ∧ (y, t) ∈ Γ) := by
  induction p with
  | @here x u sl Γ =>
    intro y t hm
    rcases List.mem_cons.mp hm with e | hm'
    · cases e; exact .inl ⟨rfl, rfl⟩
    · refine .inr ⟨fun e => ?_, .tail _ hm'⟩
      simp only [List.map_cons, List.nodup_cons] at hn
      exact hn.1 (e ▸ List.mem_map_of_mem (f := fun p : Str × Slot => p.1) hm')
  | @there x z u sl Γ Γ' p ih =>
    intro y t hm
    simp only [List.map_cons, List.nodup_cons] at hn
    rcases List.mem_cons.mp hm with e | hm
    · cases e
      exact .inr ⟨fun e => hn.1 (e ▸ p.mem), .head _⟩
    · rcases ih hn.2 y t hm with r | ⟨r, q⟩
      · exact .inl r
      · exact .inr ⟨r, .tail _ q⟩

section
variable {T : St} {s₀ s s₁ : Shared} {d₀ : Addr → Prop} {env : Env} {own own' : Own} {Γ Γ' : Gm}
theorem regOf_le (hle : ∀ a, (∀ y, own y ≠ some a) → ∀ y, own' y ≠ some a) : ∀ (fl : Fl) (a : Addr), regOf d₀ env own fl a → regOf d₀ env own' fl a
  | .o, _, _ => trivial
  | .s _, _, _ => trivial
  | .b, a, h => ⟨h.1, h.2.1, hle a h.2.2⟩
  | .c, a, h => ⟨h.1, h.2.1, h.2.2.1, hle a h.2.2.2⟩
theorem SI.storeG {A : Around} {E : Value → Shared → Prop} {Q : Unit → Shared → Prop} {x : Str} {val : Value} {sl : Slot} (S : SI T s₀ d₀ env own Γ s) (k : Kp T.N s s₁) (hp : Put Γ x sl Γ') (hk : env.kindOf x = some .local ∨ env.kindOf x = some .cell)
    (ho : ∀ y, y ≠ x → own' y = own y) (hnew : ∀ a, own' x = some a → s.heap.get? a = none ∧ ∃ o, s₁.heap.get? a = some o ∧ (o.dict = none ∧ ∀ vs, o.data ≠ .fields vs) ∧ o.cls ≠ .type "tuple" ∧ o.cls ≠ .type "frame")
    (hsl : ∀ v fl, sl = some (v, fl) → SlotRep T d₀ env own' s₁.heap x val v fl)
    (h : ∀ s', SI T s₀ d₀ env own' Γ' s' → Pres T.N env own s s' → OwnLe own own' s → ChgH T.N (fun b => b = env.locals ∨ ∃ y, env.cells.lookup y = some b) s.heap s'.heap → Q () s') : wpAny T.M A (storeName env x val) Q E s₁ := by
  have S₁ := S.kp k
  obtain ⟨m, cm, F, hnm⟩ := S.frm
  refine store_wp (F.kp k) S.eok S.cok hk fun s' m' cm' F' hlx hly hsame hchg halive => ?_
  have hle : ∀ a, s.heap.get? a ≠ none → (∀ y, own y ≠ some a) → ∀ y, own' y ≠ some a := fun a ha hy y q => by
    by_cases hyx : y = x
    · subst hyx; exact ha (hnew a q).1
    · rw [ho y hyx] at q; exact hy y q
  have chg : ChgH T.N (fun b => b = env.locals ∨ ∃ y, env.cells.lookup y = some b) s.heap s'.heap := (ChgH.of_kp k.h).trans hchg fun _ _ _ hb => hb
  have ntup : ∀ z, (z = env.locals ∨ ∃ y, env.cells.lookup y = some z) → NotTup s₁.heap z := fun z hz => May.notTup S₁ z (hz.elim .inl fun q => .inr (.inl q))
  have regUp : ∀ (fl : Fl) (a : Addr), (regOf d₀ env own fl a ∧ s.heap.get? a ≠ none) → regOf d₀ env own' fl a
    | .o, _, _ => trivial
    | .s _, _, _ => trivial
    | .b, a, r => ⟨r.1.1, r.1.2.1, hle a r.2 r.1.2.2⟩
    | .c, a, r => ⟨r.1.1, r.1.2.1, r.1.2.2.1, hle a r.2 r.1.2.2.2⟩
  have notX : ∀ (fl : Fl), fl ≠ .o → (∀ x, fl ≠ .s x) → ∀ a, regOf d₀ env own' fl a → ¬ (a = env.locals ∨ ∃ y, env.cells.lookup y = some a) := fun fl hfl hfs a hr => by
    cases fl with
    | o => exact absurd rfl hfl
    | s x => exact absurd rfl (hfs x)
    | b => rintro (q | ⟨y, q⟩); exact hr.1 q; exact hr.2.1 y a q rfl
    | c => rintro (q | ⟨y, q⟩); exact hr.2.1 q; exact hr.2.2.1 y a q rfl
  have owned : ∀ z a, own' z = some a → a ≠ env.locals ∧ (∀ y c, env.cells.lookup y = some c → a ≠ c) ∧ s₀.heap.get? a = none ∧ ∃ o, s₁.heap.get? a = some o ∧ (o.dict = none ∧ ∀ vs, o.data ≠ .fields vs) ∧ o.cls ≠ .type "tuple" ∧ o.cls ≠ .type "frame" := fun z a q => by
    by_cases hz : z = x
    · subst hz
      obtain ⟨e1, e2⟩ := hnew a q
      have := S.fresh e1
      exact ⟨this.2.1, this.2.2.1, F.keep.none e1, e2⟩
    · rw [ho z hz] at q
      obtain ⟨h1, h2, h3, h4⟩ := S₁.ownNew z a q
      exact ⟨h2, h3, h1, h4⟩
  refine h s' ⟨S.eok, S.cok, by rw [hp.names]; exact S.ok, S.wd0, S.d0, fun z a q => ?_, fun z y a q r => ?_, m', cm', F', fun y v fl hm => ?_⟩ ⟨?_, ?_, fun b e => k.h.none (halive b e)⟩ (fun y a q => ?_) chg
  · obtain ⟨h1, h2, h3, o, h4, h5, h6, h7⟩ := owned z a q
    exact ⟨h3, h1, h2, o, hchg.plain h4 (fun hx => hx.elim (fun e => h1 e) fun ⟨y, e⟩ => h2 y a e rfl) h7, h5, h6, h7⟩
  · by_cases hz : z = x <;> by_cases hy : y = x
    · rw [hz, hy]
    · subst hz
      rw [ho y hy] at r
      obtain ⟨_, _, _, o, h4, _⟩ := S.ownNew y a r
      rw [(hnew a q).1] at h4; cases h4
    · subst hy
      rw [ho z hz] at q
      obtain ⟨_, _, _, o, h4, _⟩ := S.ownNew z a q
      rw [(hnew a r).1] at h4; cases h4
    · rw [ho z hz] at q; rw [ho y hy] at r; exact S.ownInj z y a q r
  · rcases hp.cases S.ok.nodup y _ hm with ⟨rfl, e⟩ | ⟨hyx, hm⟩
    · refine ⟨val, hlx, ?_⟩
      have r := hsl v fl e.symm
      cases fl with
      | c => exact RepV.chg r hchg ntup (notX .c (by simp) (by simp))
      | b => exact RepV.chg r hchg ntup (notX .b (by simp) (by simp))
      | o =>
        obtain ⟨d, a, as, e1, e2, e3, e4, e5, e6⟩ := r
        have hna : ∀ b ∈ a :: as, ¬ (b = env.locals ∨ ∃ y, env.cells.lookup y = some b) := fun b hb => by
          rcases List.mem_cons.mp hb with rfl | hb
          · have := owned _ b e3
            rintro (q | ⟨y, q⟩); exact this.1 q; exact this.2.1 y b q rfl
          · exact notX .c (by simp) (by simp) b (e5 b hb)
        exact ⟨d, a, as, e1, e2, e3, reads_chg hchg ntup e4 hna, e5, e6.chg hchg hna⟩
      | s _ => exact InstOwn.chg r hchg ntup (fun b hb _ => ⟨hb, notX .c (by simp) (by simp) b hb⟩) (fun y b q _ => ⟨q, by have := owned y b q; rintro (e | ⟨z, e⟩); exact this.1 e; exact this.2.1 z b e rfl⟩)
    · obtain ⟨val', l, r⟩ := hnm y v fl hm
      refine ⟨val', hly y val' hyx l, ?_⟩
      cases fl with
      | c => exact RepV.chg (((RepV.there r).mono (regUp .c)).keeps k.h) hchg ntup (notX .c (by simp) (by simp))
      | b => exact RepV.chg (((RepV.there r).mono (regUp .b)).keeps k.h) hchg ntup (notX .b (by simp) (by simp))
      | o =>
        obtain ⟨d, a, as, e1, e2, e3, e4, e5, e6⟩ := r
        have e5' : ∀ b ∈ as, regOf d₀ env own' .c b := fun b hb => regUp .c b ⟨e5 b hb, by obtain ⟨o, e, _⟩ := e6 b (.tail _ hb); rw [e]; simp⟩
        have hna : ∀ b ∈ a :: as, ¬ (b = env.locals ∨ ∃ y, env.cells.lookup y = some b) := fun b hb => by
          rcases List.mem_cons.mp hb with rfl | hb
          · have := owned y b (by rw [ho y hyx]; exact e3)
            rintro (q | ⟨y, q⟩); exact this.1 q; exact this.2.1 y b q rfl
          · exact notX .c (by simp) (by simp) b (e5' b hb)
        exact ⟨d, a, as, e1, e2, by rw [ho y hyx]; exact e3, reads_chg hchg ntup (reads_kp k.h e4) hna, e5', (e6.keeps k.h).chg hchg hna⟩
      | s _ =>
        refine InstOwn.chg (own := own') (InstOwn.chg (own := own) (own' := own') (X := fun _ => False) r (.of_kp k.h) (fun _ q => q.elim) (fun b hb hn => ⟨regUp .c b ⟨hb, hn⟩, id⟩) (fun z b q hz => ⟨?_, id⟩)) hchg ntup (fun b hb _ => ⟨hb, notX .c (by simp) (by simp) b hb⟩) (fun z b q _ => ⟨q, by have := owned z b q; rintro (e | ⟨y, e⟩); exact this.1 e; exact this.2.1 y b e rfl⟩)
        rw [ho z ?_]; exact q
        rcases hz with rfl | hz
        · exact hyx
        · rintro rfl; rcases hk with hk | hk <;> rw [hk] at hz <;> cases hz
  · obtain ⟨h₁, tk, rfl⟩ := hsame
    obtain ⟨h₂, tk₂, rfl, _⟩ := k
    exact ⟨_, _, rfl⟩
  · exact chg.mono fun b hb => hb.elim .inl fun q => .inr (.inl q)
  · by_cases hyx : y = x
    · subst hyx; exact .inr (hnew a q).1
    · rw [ho y hyx] at q; exact .inl ⟨y, q⟩
theorem SI.store {A : Around} {E : Value → Shared → Prop} {Q : Unit → Shared → Prop} {x : Str} {val : Value} {sl : Slot} (S : SI T s₀ d₀ env own Γ s) (k : Kp T.N s s₁) (hp : Put Γ x sl Γ') (hk : env.kindOf x = some .local ∨ env.kindOf x = some .cell)
    (ho : ∀ y, y ≠ x → own' y = own y) (hnew : ∀ a, own' x = some a → s.heap.get? a = none ∧ ∃ o, s₁.heap.get? a = some o ∧ (o.dict = none ∧ ∀ vs, o.data ≠ .fields vs) ∧ o.cls ≠ .type "tuple" ∧ o.cls ≠ .type "frame")
    (hsl : ∀ v fl, sl = some (v, fl) → SlotRep T d₀ env own' s₁.heap x val v fl)
    (h : ∀ s', SI T s₀ d₀ env own' Γ' s' → Pres T.N env own s s' → OwnLe own own' s → Q () s') : wpAny T.M A (storeName env x val) Q E s₁ :=
  S.storeG k hp hk ho hnew hsl fun s' S' p o _ => h s' S' p o
end
end Mine
end
section
open PySem PySem.Calls PyProof.Rows
set_option linter.all false
namespace Mine
variable {N : Nat}

noncomputable abbrev ExcK := Addr
inductive Fw where
  | next | brk | cont
  | ret (d : PyData)
  | exc (k : ExcK)

noncomputable def ExcRep (T : St) (A : Around) (env : Env) (s₀ : Shared) (d₀ : Addr → Prop) (k : ExcK) (e : Value) (s : Shared) : Prop := False

noncomputable def FlowRep (T : St) (s₀ : Shared) (d₀ : Addr → Prop) (s : Shared) : Flow → Fw → Prop
  | .next, .next => True
  | .brk, .brk => True
  | .cont, .cont => True
  | .ret v, .ret d => RepF T.w (fun a => ¬ d₀ a) s₀.heap s.heap v d
  | _, _ => False

structure Ex (T : St) (n : Nat) (env : Env) (Γ : Gm) (ss : List Stmt) (Q : Fw → Gm → Prop) : Prop where
  run : ∀ {A : Around} {s₀ : Shared} {d₀ : Addr → Prop} {own : Own} {s : Shared} {E : Value → Shared → Prop} {QQ : Flow → Shared → Prop}, Amb n A → SI T s₀ d₀ env own Γ s →
    (∀ f f' s' Γ' own', SI T s₀ d₀ env own' Γ' s' → Pres T.N env own s s' → OwnLe own own' s → FlowRep T s₀ d₀ s' f f' → Q f' Γ' → QQ f s') →
    (∀ k e s' Γ' own', SI T s₀ d₀ env own' Γ' s' → Pres T.N env own s s' → OwnLe own own' s → ExcRep T A env s₀ d₀ k e s' → Q (.exc k) Γ' → E e s') → wpAny T.M A (execs ss env) QQ E s
structure Ex1 (T : St) (n : Nat) (env : Env) (Γ : Gm) (st : Stmt) (Q : Fw → Gm → Prop) : Prop where
  run : ∀ {A : Around} {s₀ : Shared} {d₀ : Addr → Prop} {own : Own} {s : Shared} {E : Value → Shared → Prop} {QQ : Flow → Shared → Prop}, Amb n A → SI T s₀ d₀ env own Γ s →
    (∀ f f' s' Γ' own', SI T s₀ d₀ env own' Γ' s' → Pres T.N env own s s' → OwnLe own own' s → FlowRep T s₀ d₀ s' f f' → Q f' Γ' → QQ f s') →
    (∀ k e s' Γ' own', SI T s₀ d₀ env own' Γ' s' → Pres T.N env own s s' → OwnLe own own' s → ExcRep T A env s₀ d₀ k e s' → Q (.exc k) Γ' → E e s') → wpAny T.M A (exec st env) QQ E s

noncomputable def Thn (T : St) (n : Nat) (env : Env) (rest : List Stmt) (Q : Fw → Gm → Prop) : Fw → Gm → Prop
  | .next, Γ => Ex T n env Γ rest Q
  | .brk, Γ => Q .brk Γ
  | .cont, Γ => Q .cont Γ
  | .ret d, Γ => Q (.ret d) Γ
  | .exc k, Γ => Q (.exc k) Γ

section
variable {T : St} {n : Nat} {env : Env} {Γ Γ' : Gm} {Q Q' : Fw → Gm → Prop}
theorem Ex.nil (h : Q .next Γ) : Ex T n env Γ [] Q := ⟨fun hA S hq _ => wpAny_execs_nil (hq _ .next _ _ _ S (.of_kp (.refl _)) (.refl _ _) trivial h)⟩
theorem Ex.cons {st : Stmt} {rest : List Stmt} (h : Ex1 T n env Γ st (Thn T n env rest Q)) : Ex T n env Γ (st :: rest) Q := ⟨fun {A s₀ d₀ own s E QQ} hA S hq hx => by
  refine wpAny_execs_cons (h.run hA S (fun f f' s' Γ' own' S' p o fr q => ?_) fun k e s' Γ' own' S' p o er q => hx k e s' Γ' own' S' p o er q)
  cases f' with
  | next =>
    cases f <;> first | exact fr.elim | skip
    exact Ex.run q hA S' (fun g g' s'' Γ'' own'' S'' p' o' fr' q' => hq g g' s'' Γ'' own'' S'' (p.trans o p') (o.trans o' p) fr' q') fun k e s'' Γ'' own'' S'' p' o' er q' => hx k e s'' Γ'' own'' S'' (p.trans o p') (o.trans o' p) er q'
  | brk => cases f <;> first | exact fr.elim | exact hq _ .brk s' Γ' own' S' p o fr q
  | cont => cases f <;> first | exact fr.elim | exact hq _ .cont s' Γ' own' S' p o fr q
  | ret d => cases f <;> first | exact fr.elim | exact hq _ (.ret d) s' Γ' own' S' p o fr q
  | exc k => cases f <;> exact fr.elim⟩
theorem Ex1.mono {st : Stmt} (h : Ex1 T n env Γ st Q) (hm : ∀ f Γ, Q f Γ → Q' f Γ) : Ex1 T n env Γ st Q' := ⟨fun hA S hq hx =>
  h.run hA S (fun f f' s' Γ' own' S' p o fr q => hq f f' s' Γ' own' S' p o fr (hm _ _ q)) fun k e s' Γ' own' S' p o er q => hx k e s' Γ' own' S' p o er (hm _ _ q)⟩

theorem Ex1.assign {x : Str} {p₁ p₂ : Pos} {e : PySem.Expr} {d : PyData} (he : EvF T n env Γ e d) (hp : Put Γ x (some (.d d, .c)) Γ') (hk : env.kindOf x = some .local ∨ env.kindOf x = some .cell)
    (hs : swapsWith e (some (.Name x p₁)) p₂.line env = pure false) (hq : Q .next Γ') : Ex1 T n env Γ (.Assign [.Name x p₁] e p₂) Q := ⟨fun {A s₀ d₀ own s E QQ} hA S h hx => by
  refine wpAny_Assign_Name (he.run hA S.rd fun val s₁ k₁ r₁ => ?_) hs
  refine S.store (own' := fun y => if y = x then none else own y) k₁ hp hk (fun y hy => by simp [hy]) (fun a e => by simp at e) (fun v fl e => ?_) fun s' S' p o => h _ .next s' Γ' _ S' p o trivial hq
  cases e
  refine RepV.mono (x := .d d) r₁.rep (regOf_le (fun a ha y => ?_) .c)
  by_cases hy : y = x
  · simp [hy]
  · simp [hy, ha y]⟩
theorem Ex1.assignV {x : Str} {p₁ p₂ : Pos} {e : PySem.Expr} {v : Vl} {fl : Fl} (he : Ev T n env Γ e v fl) (hfl : fl ≠ .o ∧ ∀ x, fl ≠ .s x) (hp : Put Γ x (some (v, fl)) Γ') (hk : env.kindOf x = some .local ∨ env.kindOf x = some .cell)
    (hs : swapsWith e (some (.Name x p₁)) p₂.line env = pure false) (hq : Q .next Γ') : Ex1 T n env Γ (.Assign [.Name x p₁] e p₂) Q := ⟨fun {A s₀ d₀ own s E QQ} hA S h hx => by
  refine wpAny_Assign_Name (he.run hA S.rd fun val s₁ k₁ r₁ => ?_) hs
  refine S.store (own' := fun y => if y = x then none else own y) k₁ hp hk (fun y hy => by simp [hy]) (fun a e => by simp at e) (fun v fl e => ?_) fun s' S' p o => h _ .next s' Γ' _ S' p o trivial hq
  cases e
  have := RepV.mono r₁ (regOf_le (d₀ := d₀) (env := env) (own := own) (own' := fun y => if y = x then none else own y) (fun a ha y => by by_cases hy : y = x <;> simp [hy, ha y]) fl)
  cases fl with
  | c => exact this
  | b => exact this
  | o => exact absurd rfl hfl.1
  | s x => exact absurd rfl (hfl.2 x)⟩
noncomputable def isMut : PyData → Bool
  | .list _ | .dict _ => true
  | _ => false
theorem RepF.top {w : World} {R : Addr → Prop} {h h' : Heap} {v : Value} {d : PyData} (r : RepF w R h h' v d) (hm : isMut d = true) :
    ∃ a as, v = .ref a ∧ Reads h' v d (a :: as) ∧ (∀ b ∈ as, R b) ∧ Dok w h' (a :: as) ∧ h.get? a = none ∧ a ∉ as ∧ ∃ o, h'.get? a = some o ∧ (o.dict = none ∧ ∀ vs, o.data ≠ .fields vs) ∧ o.cls ≠ .type "tuple" ∧ o.cls ≠ .type "frame" := by
  obtain ⟨as, r1, r2, r3, r4⟩ := r
  cases d with
  | list xs =>
    obtain ⟨a, as', e1, e2, e3, e4, o, e5, e6⟩ := r4
    subst e1; subst e2
    refine ⟨a, as', rfl, r1, fun b hb => r2 b (.tail _ hb), r3, e3, e4, o, e5, ⟨e6, ?_⟩, ?_⟩ <;>
    cases r1 with
    | list ho hc hdat _ => rw [ho] at e5; cases e5; first | (rw [hc]; simp; done) | (rw [hdat]; simp)
  | dict kvs =>
    obtain ⟨a, as', e1, e2, e3, e4, o, e5, e6⟩ := r4
    subst e1; subst e2
    refine ⟨a, as', rfl, r1, fun b hb => r2 b (.tail _ hb), r3, e3, e4, o, e5, ⟨e6, ?_⟩, ?_⟩ <;>
    (generalize hc : a :: as' = cs at r1
     cases r1 with
     | dict ho hc' hdat _ _ => rw [ho] at e5; cases e5; first | (rw [hc']; simp; done) | (rw [hdat]; simp))
  | _ => simp [isMut] at hm
theorem Ex1.assignO {x : Str} {p₁ p₂ : Pos} {e : PySem.Expr} {d : PyData} (he : EvF T n env Γ e d) (hm : isMut d = true) (hp : Put Γ x (some (.d d, .o)) Γ') (hk : env.kindOf x = some .local ∨ env.kindOf x = some .cell)
    (hs : swapsWith e (some (.Name x p₁)) p₂.line env = pure false) (hq : Q .next Γ') : Ex1 T n env Γ (.Assign [.Name x p₁] e p₂) Q := ⟨fun {A s₀ d₀ own s E QQ} hA S h hx => by
  refine wpAny_Assign_Name (he.run hA S.rd fun val s₁ k₁ r₁ => ?_) hs
  obtain ⟨a, as, e1, e2, e3, e4, e5, e6, e7⟩ := r₁.top hm
  refine S.store (own' := fun y => if y = x then some a else own y) k₁ hp hk (fun y hy => by simp [hy]) (fun b e => by simp at e; subst e; exact ⟨e5, e7⟩) (fun v fl e => ?_) fun s' S' p o => h _ .next s' Γ' _ S' p o trivial hq
  cases e
  refine ⟨d, a, as, rfl, e1, by simp, e2, fun b hb => ?_, e4⟩
  have r := e3 b hb
  refine ⟨r.1, r.2.1, r.2.2.1, fun y q => ?_⟩
  by_cases hy : y = x
  · simp [hy] at q; subst q; exact e6 hb
  · simp [hy] at q; exact r.2.2.2 y q⟩

theorem Ex1.ret {p : Pos} {e : PySem.Expr} {d : PyData} (he : EvF T n env Γ e d) (hq : Q (.ret d) Γ) : Ex1 T n env Γ (.Return (some e) p) Q := ⟨fun {A s₀ d₀ own s E QQ} hA S h hx => by
  refine wpAny_Return_some (he.run hA S.rd fun val s₁ k₁ r₁ => h _ (.ret d) s₁ Γ own (S.kp k₁) (.of_kp k₁) (.refl _ _) ?_ hq)
  obtain ⟨m, cm, F, _⟩ := S.frm
  exact (r₁.older F.keep).mono fun a ha => ha.1⟩
theorem Ex1.retO {p p' : Pos} {x : Str} {d : PyData} (hm : (x, some (.d d, .o)) ∈ Γ) (hq : Q (.ret d) Γ) : Ex1 T n env Γ (.Return (some (.Name x p')) p) Q := ⟨fun {A s₀ d₀ own s E QQ} hA S h hx => by
  obtain ⟨m, cm, F, hn⟩ := S.frm
  obtain ⟨val, l, d', a, as, e1, e2, e3, e4, e5, e6⟩ := hn x _ _ hm
  cases e1
  have hd := S.ok.nodebug x (List.mem_map_of_mem (f := fun p : Str × Slot => p.1) hm)
  obtain ⟨h1, h2, h3, o, h4, h5, h6, h7⟩ := S.ownNew x a e3
  have fin : QQ (.ret val) s := h _ (.ret d) s Γ own S (.of_kp (.refl _)) (.refl _ _) (by
    refine ⟨a :: as, e4, fun b hb => ?_, e6, ?_⟩
    · rcases List.mem_cons.mp hb with rfl | hb
      · exact fun hd => S.d0 _ hd h1
      · exact (e5 b hb).1
    · have hna : a ∉ as := fun ha => (e5 a ha).2.2.2 x e3
      cases d <;> first | trivial | exact ⟨a, as, e2, rfl, h1, hna, o, h4, h5.1⟩) hq
  rcases (l.is F) with ⟨k, m', hn', hv⟩ | ⟨k, c, hc, hv⟩
  · exact wpAny_Return_some (wpAny_Name (wpAny_loadName_local S.eok.kind k hn' hv fin) hd)
  · exact wpAny_Return_some (wpAny_Name (wpAny_loadName_cell S.eok.kind k hc hv fin) hd)⟩
theorem Ex1.ite {test : PySem.Expr} {body orelse : List Stmt} {p : Pos} {b : Bool} (ht : IsT T n env Γ test b) (h₁ : b = true → Ex T n env Γ body Q) (h₂ : b = false → Ex T n env Γ orelse Q) : Ex1 T n env Γ (.If test body orelse p) Q := ⟨fun {A s₀ d₀ own s E QQ} hA S h hx => by
  refine wpAny_If (ht.run hA S.rd fun s₁ k₁ => ?_)
  have h' : ∀ f f' s' Γ' own', SI T s₀ d₀ env own' Γ' s' → Pres T.N env own s₁ s' → OwnLe own own' s₁ → FlowRep T s₀ d₀ s' f f' → Q f' Γ' → QQ f s' := fun f f' s' Γ' own' S' p o fr q =>
    h f f' s' Γ' own' S' ((Pres.of_kp k₁).trans (.refl _ _) p) ((OwnLe.refl own s).trans o (Pres.of_kp (env := env) k₁)) fr q
  have hx' : ∀ k e s' Γ' own', SI T s₀ d₀ env own' Γ' s' → Pres T.N env own s₁ s' → OwnLe own own' s₁ → ExcRep T A env s₀ d₀ k e s' → Q (.exc k) Γ' → E e s' := fun k e s' Γ' own' S' p o er q =>
    hx k e s' Γ' own' S' ((Pres.of_kp k₁).trans (.refl _ _) p) ((OwnLe.refl own s).trans o (Pres.of_kp (env := env) k₁)) er q
  cases b with
  | true => exact (h₁ rfl).run hA (S.kp k₁) h' hx'
  | false => exact (h₂ rfl).run hA (S.kp k₁) h' hx'⟩
theorem Ex1.cont {p : Pos} (hq : Q .cont Γ) : Ex1 T n env Γ (.Continue p) Q := ⟨fun hA S h hx => wpAny_bind (wpAny_standAt (wpAny_pure (h _ .cont _ _ _ S (.of_kp (.refl _)) (.refl _ _) trivial hq)))⟩
noncomputable def Turn (I : Nat → Gm → Prop) (k : Nat) (Q : Fw → Gm → Prop) : Fw → Gm → Prop
  | .next, Γ => ∃ m, m < k ∧ I m Γ
  | .cont, Γ => ∃ m, m < k ∧ I m Γ
  | .brk, Γ => Q .next Γ
  | .ret d, Γ => Q (.ret d) Γ
  | .exc e, Γ => Q (.exc e) Γ
theorem Ex1.whil {test : PySem.Expr} {body : List Stmt} {p : Pos} (I : Nat → Gm → Prop) (k : Nat) (h0 : I k Γ)
    (hturn : ∀ k Γ, I k Γ → ∃ b, IsT T n env Γ test b ∧ (b = true → Ex T n env Γ body (Turn I k Q)) ∧ (b = false → Q .next Γ)) : Ex1 T n env Γ (.While test body [] p) Q := ⟨fun {A s₀ d₀ own s E QQ} hA S h hx => by
  refine wpAny_While (codeAny_whileLoop (fun k s' => ∃ Γ' own', SI T s₀ d₀ env own' Γ' s' ∧ Pres T.N env own s s' ∧ OwnLe own own' s ∧ I k Γ') (fun k s' ⟨Γ', own', S', p', o', hI⟩ => ?_) k ⟨Γ, own, S, .of_kp (.refl _), .refl _ _, h0⟩)
  obtain ⟨b, ht, hb1, hb2⟩ := hturn k Γ' hI
  refine ht.run hA S'.rd fun s₂ k₂ => ?_
  have S₂ := S'.kp k₂
  have p₂ : Pres T.N env own s s₂ := p'.trans o' (.of_kp k₂)
  have o₂ : OwnLe own own' s := o'
  cases b with
  | true =>
    refine (hb1 rfl).run hA S₂ (fun f f' s₃ Γ₃ own₃ S₃ p₃ o₃ fr q => ?_) fun k e s₃ Γ₃ own₃ S₃ p₃ o₃ er q => er.elim
    have p₄ := p₂.trans o₂ p₃
    have o₄ := o₂.trans o₃ p₂
    cases f' with
    | next => cases f <;> first | exact fr.elim | (obtain ⟨m, hm, hI'⟩ := q; exact ⟨m, hm, Γ₃, own₃, S₃, p₄, o₄, hI'⟩)
    | cont => cases f <;> first | exact fr.elim | (obtain ⟨m, hm, hI'⟩ := q; exact ⟨m, hm, Γ₃, own₃, S₃, p₄, o₄, hI'⟩)
    | brk => cases f <;> first | exact fr.elim | exact h _ .next s₃ Γ₃ own₃ S₃ p₄ o₄ trivial q
    | ret d => cases f <;> first | exact fr.elim | exact h _ (.ret d) s₃ Γ₃ own₃ S₃ p₄ o₄ fr q
    | exc e => cases f <;> exact fr.elim
  | false => exact wpAny_execs_nil (h _ .next s₂ Γ' own' S₂ p₂ o₂ trivial (hb2 rfl))⟩
end
end Mine
end
section
open PySem PySem.Calls PyProof.Rows PySem.W
set_option linter.all false
namespace Mine

structure Gd (T : St) : Prop where
  g : ∀ x r, nsIn T.K mainGlobals x = some r → T.mg x = r
  b : ∀ x : Str, x ≠ "__name__" → T.mb x = bootBuiltins x

noncomputable def Fun (T : St) (n : Nat) (f : Str) (xs : List Vl) (d : PyData) : Prop := ∃ a fd, T.mg f = some (.ref a) ∧ FnAt T a fd ∧ Calls T n a xs d
theorem EvF.fn {T : St} {n m : Nat} {env : Env} {Γ : Gm} {f : Str} {p pos : Pos} {args : List PySem.Expr} {xs : List (Vl × Fl)} {d : PyData} (hx : env.kindOf f = some .globalImplicit) (hd : (f == ("__debug__" : Str)) = false)
    (ha : EvA T n env Γ args xs) (hc : Fun T m f (xs.map (·.1)) d) (hm : m ≤ n) : EvF T n env Γ (.Call (.Name f p) args [] pos) d :=
  let ⟨_, _, e1, e2, e3⟩ := hc; .call hx hd e1 e2 ha (e3.le hm)

noncomputable def Binds (fd : FuncData) (ps : List Str) : Prop := ∀ vals : List Value, vals.length = ps.length → bindArgs fd ⟨vals, []⟩ = pure (ps.zip vals)
theorem Binds.of0 {fd : FuncData} (h : bindArgs fd ⟨[], []⟩ = pure []) : Binds fd [] := fun vals hv => by
  have : vals = [] := List.eq_nil_of_length_eq_zero hv
  subst this; exact h
theorem Binds.of1 {fd : FuncData} {p : Str} (h : ∀ v, bindArgs fd ⟨[v], []⟩ = pure [(p, v)]) : Binds fd [p] := fun vals hv => by
  match vals, hv with
  | [v], _ => exact h v
theorem Binds.of2 {fd : FuncData} {p q : Str} (h : ∀ v u, bindArgs fd ⟨[v, u], []⟩ = pure [(p, v), (q, u)]) : Binds fd [p, q] := fun vals hv => by
  match vals, hv with
  | [v, u], _ => exact h v u
theorem Binds.of3 {fd : FuncData} {p q r : Str} (h : ∀ v u t, bindArgs fd ⟨[v, u, t], []⟩ = pure [(p, v), (q, u), (r, t)]) : Binds fd [p, q, r] := fun vals hv => by
  match vals, hv with
  | [v, u, t], _ => exact h v u t
inductive Prm : List Str → List Vl → Gm → Prop where
  | nil : Prm [] [] []
  | c {p : Str} {ps : List Str} {d : PyData} {xs : List Vl} {Γ : Gm} : still d = true → Prm ps xs Γ → Prm (p :: ps) (.d d :: xs) ((p, some (.d d, .c)) :: Γ)
  | b {p : Str} {ps : List Str} {x : Vl} {xs : List Vl} {Γ : Gm} : Prm ps xs Γ → Prm (p :: ps) (x :: xs) ((p, some (x, .b)) :: Γ)
theorem Prm.length {ps : List Str} {xs : List Vl} {Γ : Gm} (h : Prm ps xs Γ) : xs.length = ps.length := by
  induction h with
  | nil => rfl
  | c _ _ ih => simp [ih]
  | b _ ih => simp [ih]
theorem RepAs.length {w : World} {h : Heap} {vs : List Value} {xs : List Vl} (r : RepAs w h vs xs) : vs.length = xs.length := by
  induction r with
  | nil => rfl
  | cons _ _ ih => simp [ih]
theorem Prm.names {ps : List Str} {xs : List Vl} {Γ : Gm} (h : Prm ps xs Γ) : Γ.map (·.1) = ps := by
  induction h with
  | nil => rfl
  | c _ _ ih => simp [ih]
  | b _ ih => simp [ih]
theorem Prm.get {ps : List Str} {xs : List Vl} {Γ : Gm} (h : Prm ps xs Γ) {w : World} {hp : Heap} : ∀ {vs : List Value}, RepAs w hp vs xs → ∀ x v fl, (x, some (v, fl)) ∈ Γ → ∃ val, (x, val) ∈ ps.zip vs ∧ RepV w (fun _ => True) hp val v ∧ (fl ≠ .o ∧ ∀ x, fl ≠ .s x) ∧ (fl = .c → ∃ d, v = .d d ∧ still d = true) := by
  induction h with
  | nil => intro vs _ x v fl hm; cases hm
  | c hs _ ih =>
    intro vs r x v fl hm
    cases r with
    | cons a r =>
      rcases List.mem_cons.mp hm with e | hm
      · cases e
        exact ⟨_, .head _, a, by simp, fun _ => ⟨_, rfl, hs⟩⟩
      · obtain ⟨val, h1, h2⟩ := ih r x v fl hm
        exact ⟨val, .tail _ h1, h2⟩
  | b _ ih =>
    intro vs r x v fl hm
    cases r with
    | cons a r =>
      rcases List.mem_cons.mp hm with e | hm
      · cases e
        exact ⟨_, .head _, a, by simp, fun q => by cases q⟩
      · obtain ⟨val, h1, h2⟩ := ih r x v fl hm
        exact ⟨val, .tail _ h1, h2⟩

theorem bindL_get {kd : Str → Option NameKind} : ∀ (binds : List (Str × Value)) (m : Str → Option Value) (x : Str) (v : Value), (binds.map (·.1)).Nodup → (x, v) ∈ binds → kd x = some .local → bindL kd binds m x = some v
  | (y, u) :: r, m, x, v, hn, hm, hk => by
    unfold bindL
    simp only [List.map_cons, List.nodup_cons] at hn
    rcases List.mem_cons.mp hm with e | hm
    · cases e
      rw [bindL_other r _ _ hn.1]
      simp [hk]
    · exact bindL_get r _ x v hn.2 hm hk
where
  bindL_other {kd : Str → Option NameKind} : ∀ (binds : List (Str × Value)) (m : Str → Option Value) (x : Str), x ∉ binds.map (·.1) → bindL kd binds m x = m x
    | [], _, _, _ => rfl
    | (y, u) :: r, m, x, hn => by
      unfold bindL
      simp only [List.map_cons, List.mem_cons, not_or] at hn
      rw [bindL_other r _ x hn.2]
      split <;> simp [hn.1]
theorem bindC_get {kd : Str → Option NameKind} : ∀ (binds : List (Str × Value)) (m : Str → Option Value) (x : Str) (v : Value), (binds.map (·.1)).Nodup → (x, v) ∈ binds → kd x ≠ some .local → bindC kd binds m x = some v
  | (y, u) :: r, m, x, v, hn, hm, hk => by
    unfold bindC
    simp only [List.map_cons, List.nodup_cons] at hn
    rcases List.mem_cons.mp hm with e | hm
    · cases e
      rw [bindC_other r _ _ hn.1]
      simp [hk]
    · exact bindC_get r _ x v hn.2 hm hk
where
  bindC_other {kd : Str → Option NameKind} : ∀ (binds : List (Str × Value)) (m : Str → Option Value) (x : Str), x ∉ binds.map (·.1) → bindC kd binds m x = m x
    | [], _, _, _ => rfl
    | (y, u) :: r, m, x, hn => by
      unfold bindC
      simp only [List.map_cons, List.mem_cons, not_or] at hn
      rw [bindC_other r _ x hn.2]
      split <;> simp [hn.1]
theorem zip_names : ∀ (ps : List Str) (vs : List Value), vs.length = ps.length → (ps.zip vs).map (·.1) = ps
  | [], [], _ => rfl
  | [], _ :: _, h => by simp at h
  | _ :: _, [], h => by simp at h
  | _ :: ps, _ :: vs, h => by simp [zip_names ps vs (by simpa using h)]

noncomputable def Ends (d : PyData) : Fw → Gm → Prop
  | .ret d', _ => d' = d
  | .next, _ => d = .none
  | _, _ => False

theorem call_enterC {T : St} {a : Addr} {name qual : Str} {params : Arguments} {body : List Stmt} {scope : Scope} {dV kV doc pm cdv ct oc : Value} {an od : Option Addr} {osl : Array (Option Value)} {ps ls : List Str} {Γp : Gm} {own : Own}
    (ho : T.K.lookup a = some ⟨oc, od, .func (fnOf name qual params body scope dV kV doc pm an cdv ct), osl⟩) (hcd : codeIn T.K cdv qual = true)
    (hb : Binds (fnOf name qual params body scope dV kV doc pm an cdv ct) ps) (hp : Γp.map (·.1) = ps) (hok : GmOk (ps ++ ls)) (hk : ∀ x ∈ ps, scope.names.lookup x = some .local ∨ scope.names.lookup x = some .cell)
    (hsc : scope.kind = .function ∧ scope.isCoroutine = false ∧ scope.isGenerator = false) {A : Around} {s : Shared} {E : Value → Shared → Prop} {Q : Value → Shared → Prop} {vals : List Value} {D : Addr → Prop} {g : Heap} (hroom : A.depth < recursionLimit) (hw : Wd T s.heap) (hg : ∀ b o, g.get? b = some o → s.heap.get? b = some o) (hwg : Wd T g) (hD : ∀ a, D a → g.get? a ≠ none) (hlen : vals.length = ps.length)
    (hown : ∀ x a, own x = some a → g.get? a = none ∧ ∃ o, s.heap.get? a = some o ∧ (o.dict = none ∧ ∀ vs, o.data ≠ .fields vs) ∧ o.cls ≠ .type "tuple" ∧ o.cls ≠ .type "frame") (hinj : ∀ x y a, own x = some a → own y = some a → x = y)
    (hsl : ∀ env : Env, s.heap.get? env.locals = none → (∀ y c, env.cells.lookup y = some c → s.heap.get? c = none) → (∀ y, env.kindOf y = scope.names.lookup y) → ∀ x v fl, (x, some (v, fl)) ∈ Γp → ∃ val, (x, val) ∈ ps.zip vals ∧ SlotRep T D env own s.heap x val v fl)
    (h : ∀ env s₁, env.scope = scope → env.frame = some env.locals → s.heap.get? env.locals = none → SI T { s with heap := g } D env own (Γp ++ ls.map fun x => (x, none)) s₁ → (∀ b o, s.heap.get? b = some o → s₁.heap.get? b = some o) →
      wpAny T.M (A.deeper env) (execs body env) (fun f s' => Q (match f with | .ret v => v | _ => .none) s') (fun e s' => wpAny T.M (A.deeper env) (leaving env e) (fun _ s'' => E e s'') (fun e' s'' => E e' s'') s') s₁) :
    codeAny T.M A (.call (.ref a) ⟨vals, []⟩) (fun r s' => match r with | .ok (.ret v) => Q v s' | .ok _ => False | .error e => E e s') s := by
  have hnd : ((ps.zip vals).map (·.1)).Nodup := by rw [zip_names ps vals hlen]; exact (List.nodup_append.mp hok.nodup).1
  have hcs : ∀ k x, scope.names.lookup x = some .cell → ∃ c, (cellsFrom k scope.names []).lookup x = some c := fun k x e => Option.isSome_iff_exists.mp (cellsFrom_some scope.names k [] (.inl e))
  have hxp : ∀ {x : Str} {v : Value}, (x, v) ∈ ps.zip vals → x ∈ ps := fun hx => by have := List.mem_map_of_mem (f := fun p : Str × Value => p.1) hx; rwa [zip_names ps vals hlen] at this
  have gnone : ∀ b, s.heap.get? b = none → g.get? b = none := fun b e => by
    cases q : g.get? b with
    | none => rfl
    | some o => have := hg b o q; rw [e] at this; cases this
  refine codeAny_call_cells (fd := fnOf name qual params body scope dV kV doc pm an cdv ct) (body := body) (binds := ps.zip vals) hroom (hw.k a _ ho) rfl hw.lim (codeRec_of (fun b o e => hw.k b o e) hcd) rfl (hb vals hlen) rfl (fun x hx => ?_) (fun s₁ I => ?_) hsc.2.1 hsc.2.2 hsc.1
  · rcases hk x.1 (hxp hx) with e | e
    · exact .inl e
    · exact .inr ⟨e, by obtain ⟨c, hc⟩ := hcs (s.heap.objs.size + 1) x.1 e; show ((cellsFrom _ scope.names []).lookup x.1).isSome = true; rw [hc]; rfl⟩
  · have hkd : ∀ x, (callEnvC (fnOf name qual params body scope dV kV doc pm an cdv ct) s.heap.objs.size a).kindOf x = scope.names.lookup x := fun _ => rfl
    have hL : (callEnvC (fnOf name qual params body scope dV kV doc pm an cdv ct) s.heap.objs.size a).locals = s.heap.objs.size := rfl
    have hfr : (callEnvC (fnOf name qual params body scope dV kV doc pm an cdv ct) s.heap.objs.size a).frame = some s.heap.objs.size := rfl
    have hsn : (callEnvC (fnOf name qual params body scope dV kV doc pm an cdv ct) s.heap.objs.size a).scope = scope := rfl
    have heg : (callEnvC (fnOf name qual params body scope dV kV doc pm an cdv ct) s.heap.objs.size a).globals = mainGlobals := rfl
    have heb : (callEnvC (fnOf name qual params body scope dV kV doc pm an cdv ct) s.heap.objs.size a).builtins = builtinsNs := rfl
    have hcl : ∀ x, scope.names.lookup x = some .cell → ∃ c, (callEnvC (fnOf name qual params body scope dV kV doc pm an cdv ct) s.heap.objs.size a).cells.lookup x = some c := fun x e => hcs _ x e
    have key := h (callEnvC (fnOf name qual params body scope dV kV doc pm an cdv ct) s.heap.objs.size a) s₁ hsn (by rw [hL]; exact hfr) (by rw [hL]; exact Heap.get?_none_of_le (Nat.le_refl _)) ?_ I.toInCall.keep
    · exact key
    generalize callEnvC (fnOf name qual params body scope dV kV doc pm an cdv ct) s.heap.objs.size a = env at hkd hL hfr hsn heg heb hcl I
    have hLn : s.heap.get? env.locals = none := Heap.get?_none_of_le (by rw [hL]; exact Nat.le_refl _)
    have hCn : ∀ x c, env.cells.lookup x = some c → s.heap.get? c = none := fun x c hc => by
      have this : env.locals < c := I.above x c (mem_of_lookup hc)
      exact Heap.get?_none_of_le (by rw [← hL]; exact Nat.le_of_lt this)
    have hF : Frm T.N { s with heap := g } env (bindL env.kindOf (ps.zip vals) fun _ => none) (bindC env.kindOf (ps.zip vals) fun _ => none) s₁ :=
      ⟨by obtain ⟨h', tk, e⟩ := I.toInCall.same; exact ⟨h', tk, e⟩, .of fun b o e => I.toInCall.keep b o (hg b o e), I.toInCall.ns, I.cell, gnone _ hLn, fun x c hc => ⟨gnone _ (hCn x c hc), Nat.ne_of_gt (I.above x c (mem_of_lookup hc))⟩, I.apart⟩
    have kp : KpH T.N s.heap s₁.heap := .of I.toInCall.keep
    refine ⟨⟨by rw [hsn]; exact hsc.1, heg, heb, fun x hx => hcl x (by rw [← hkd]; exact hx)⟩, ⟨fun x hx => hcl x (by rw [← hkd]; exact hx)⟩, ?_, hwg, hD, fun x a e => ?_, hinj, _, _, hF, fun x v fl hm => ?_⟩
    · rw [List.map_append, hp]
      have : (ls.map fun x => ((x, none) : Str × Slot)).map (·.1) = ls := by rw [List.map_map]; exact List.map_id' ls
      rw [this]; exact hok
    · obtain ⟨h1, o, h2, h3, h4, h5⟩ := hown x a e
      exact ⟨h1, fun q => (by rw [q, hLn] at h2; cases h2), fun y c hc q => (by rw [q, hCn y c hc] at h2; cases h2), o, I.toInCall.keep a o h2, h3, h4, h5⟩
    · rcases List.mem_append.mp hm with hm | hm
      · obtain ⟨val, h1, h2⟩ := hsl env hLn hCn hkd x v fl hm
        refine ⟨val, ?_, h2.kp kp⟩
        rcases hk x (hxp h1) with e | e
        · exact .inl ⟨by rw [hkd]; exact e, bindL_get _ _ x val hnd h1 (by rw [hkd]; exact e)⟩
        · exact .inr ⟨by rw [hkd]; exact e, hcl x e, bindC_get _ _ x val hnd h1 (by rw [hkd, e]; simp)⟩
      · obtain ⟨y, _, e⟩ := List.mem_map.mp hm
        cases e
theorem call_enter {T : St} {a : Addr} {xs : List Vl} {name qual : Str} {params : Arguments} {body : List Stmt} {scope : Scope} {dV kV doc pm cdv ct oc : Value} {an od : Option Addr} {osl : Array (Option Value)} {ps ls : List Str} {Γp : Gm}
    (ho : T.K.lookup a = some ⟨oc, od, .func (fnOf name qual params body scope dV kV doc pm an cdv ct), osl⟩) (hcd : codeIn T.K cdv qual = true)
    (hb : Binds (fnOf name qual params body scope dV kV doc pm an cdv ct) ps) (hp : Prm ps xs Γp) (hok : GmOk (ps ++ ls)) (hk : ∀ x ∈ ps, scope.names.lookup x = some .local ∨ scope.names.lookup x = some .cell)
    (hsc : scope.kind = .function ∧ scope.isCoroutine = false ∧ scope.isGenerator = false) {A : Around} {s : Shared} {E : Value → Shared → Prop} {Q : Value → Shared → Prop} {vals : List Value} {D : Addr → Prop} {g : Heap} (hroom : A.depth < recursionLimit) (hw : Wd T s.heap) (hg : ∀ b o, g.get? b = some o → s.heap.get? b = some o) (hwg : Wd T g) (hD : ∀ a, D a → g.get? a ≠ none) (hr : RepAs T.w s.heap vals xs)
    (h : ∀ env s₁, env.scope = scope → env.frame = some env.locals → s.heap.get? env.locals = none → SI T { s with heap := g } D env (fun _ => none) (Γp ++ ls.map fun x => (x, none)) s₁ → (∀ b o, s.heap.get? b = some o → s₁.heap.get? b = some o) →
      wpAny T.M (A.deeper env) (execs body env) (fun f s' => Q (match f with | .ret v => v | _ => .none) s') (fun e s' => wpAny T.M (A.deeper env) (leaving env e) (fun _ s'' => E e s'') (fun e' s'' => E e' s'') s') s₁) :
    wpAny T.M A (call (.ref a) vals) Q E s :=
  wpAny_call <| call_enterC ho hcd hb hp.names hok hk hsc hroom hw hg hwg hD (hr.length.trans hp.length) (fun x a e => (by cases e)) (fun x y a e => (by cases e)) (fun env hL hC _ x v fl hm => by
    obtain ⟨val, h1, h2, h3, h4⟩ := hp.get hr x v fl hm
    refine ⟨val, h1, ?_⟩
    cases fl with
    | o => exact absurd rfl h3.1
    | s x => exact absurd rfl (h3.2 x)
    | c =>
      obtain ⟨d', rfl, hs⟩ := h4 rfl
      exact Rep.still h2 hs
    | b => exact RepV.mono (RepV.there h2) fun b hb => ⟨fun q => hb.2 (q ▸ hL), fun y c hc q => hb.2 (q ▸ hC y c hc), fun y => by simp⟩) h
theorem Calls.def {T : St} {n : Nat} {a : Addr} {xs : List Vl} {d : PyData} {name qual : Str} {params : Arguments} {body : List Stmt} {scope : Scope} {dV kV doc pm cdv ct oc : Value} {an od : Option Addr} {osl : Array (Option Value)} {ps ls : List Str} {Γp : Gm}
    (ho : T.K.lookup a = some ⟨oc, od, .func (fnOf name qual params body scope dV kV doc pm an cdv ct), osl⟩) (hcd : codeIn T.K cdv qual = true)
    (hb : Binds (fnOf name qual params body scope dV kV doc pm an cdv ct) ps) (hp : Prm ps xs Γp) (hok : GmOk (ps ++ ls)) (hk : ∀ x ∈ ps, scope.names.lookup x = some .local ∨ scope.names.lookup x = some .cell)
    (hsc : scope.kind = .function ∧ scope.isCoroutine = false ∧ scope.isGenerator = false)
    (h : ∀ env : Env, env.scope = scope → Ex T n env (Γp ++ ls.map fun x => (x, none)) body (Ends d)) : Calls T (n + 1) a xs d :=
  ⟨fun {A s E Q vals} D hA hw hD hr hq => call_enter (g := s.heap) ho hcd hb hp hok hk hsc (by have := hA.depth; omega) hw (fun _ _ e => e) hw hD hr fun env s₁ he _ _ S _ => by
    refine (h env he).run (hA.deeper _) S (fun g g' s' Γ' own' S' p o fr q => ?_) fun k e s' Γ' own' S' p o er q => er.elim
    obtain ⟨m, cm, F', _⟩ := S'.frm
    have hkp : Kp T.N s s' := by obtain ⟨h', tk, e⟩ := F'.same; subst e; exact ⟨h', tk, rfl, F'.keep⟩
    cases g' with
    | ret d' =>
      cases g <;> first | exact fr.elim | skip
      have : d' = d := q
      subst this
      exact hq _ s' hkp fr
    | next =>
      cases g <;> first | exact fr.elim | skip
      have : d = .none := q
      subst this
      exact hq _ s' hkp repF_none
    | brk => exact q.elim
    | cont => exact q.elim
    | exc k => exact q.elim⟩
theorem Fun.def {T : St} {n : Nat} {f : Str} {a : Addr} {xs : List Vl} {d : PyData} {name qual : Str} {params : Arguments} {body : List Stmt} {scope : Scope} {dV kV doc pm cdv ct oc : Value} {an od : Option Addr} {osl : Array (Option Value)} {ps ls : List Str} {Γp : Gm}
    (G : Gd T) (hn : nsIn T.K mainGlobals f = some (some (.ref a))) (ho : T.K.lookup a = some ⟨oc, od, .func (fnOf name qual params body scope dV kV doc pm an cdv ct), osl⟩) (hcd : codeIn T.K cdv qual = true)
    (hb : Binds (fnOf name qual params body scope dV kV doc pm an cdv ct) ps) (hp : Prm ps xs Γp) (hok : GmOk (ps ++ ls)) (hk : ∀ x ∈ ps, scope.names.lookup x = some .local ∨ scope.names.lookup x = some .cell)
    (hsc : scope.kind = .function ∧ scope.isCoroutine = false ∧ scope.isGenerator = false)
    (h : ∀ env : Env, env.scope = scope → Ex T n env (Γp ++ ls.map fun x => (x, none)) body (Ends d)) : Fun T (n + 1) f xs d :=
  ⟨a, _, G.g f _ hn, ⟨_, ho, rfl⟩, Calls.def ho hcd hb hp hok hk hsc h⟩
end Mine
end
section
open PySem PySem.Calls PyProof.Rows PySem.W
set_option linter.all false
namespace Mine

theorem reads_notRec2 {h : Heap} : (∀ {v : Value} {d : PyData} {as : List Addr}, Reads h v d as → ∀ a ∈ as, ∃ o, h.get? a = some o ∧ ∀ vs, o.data ≠ .fields vs) ∧ ∀ {vs : List Value} {ds : List PyData} {as : List Addr}, ReadsAll h vs ds as → ∀ a ∈ as, ∃ o, h.get? a = some o ∧ ∀ vs, o.data ≠ .fields vs :=
  reads_ind (P := fun _ _ as => ∀ a ∈ as, ∃ o, h.get? a = some o ∧ ∀ vs, o.data ≠ .fields vs) (PA := fun _ _ as => ∀ a ∈ as, ∃ o, h.get? a = some o ∧ ∀ vs, o.data ≠ .fields vs) (fun _ ha => nomatch ha) (fun _ _ ha => nomatch ha) (fun _ _ _ ha => nomatch ha) (fun _ _ _ ha => nomatch ha)
    (fun ho _ hd _ ih a ha => (List.mem_cons.mp ha).elim (fun e => by subst e; exact ⟨_, ho, by rw [hd]; simp⟩) (ih a))
    (fun _ _ _ _ ih => ih)
    (fun ho _ hd _ _ i1 i2 a ha => (List.mem_cons.mp ha).elim (fun e => by subst e; exact ⟨_, ho, by rw [hd]; simp⟩) fun ha => (List.mem_append.mp ha).elim (i1 a) (i2 a))
    (fun _ ha => nomatch ha) (fun _ _ i1 i2 a ha => (List.mem_append.mp ha).elim (i1 a) (i2 a))
theorem reads_notRec {h : Heap} {v : Value} {d : PyData} {as : List Addr} (r : Reads h v d as) : ∀ a ∈ as, ∃ o, h.get? a = some o ∧ ∀ vs, o.data ≠ .fields vs := reads_notRec2.1 r
theorem readsAll_notRec {h : Heap} {vs : List Value} {ds : List PyData} {as : List Addr} (r : ReadsAll h vs ds as) : ∀ a ∈ as, ∃ o, h.get? a = some o ∧ ∀ vs, o.data ≠ .fields vs := reads_notRec2.2 r
noncomputable def IsRec (h : Heap) (b : Addr) : Prop := ∃ o vs, h.get? b = some o ∧ o.data = .fields vs
theorem Rep.notRec {w : World} {R : Addr → Prop} {h : Heap} {v : Value} {d : PyData} (x : Rep w R h v d) : Rep w (fun a => R a ∧ ¬ IsRec h a) h v d :=
  let ⟨as, r, hr, hd⟩ := x; ⟨as, r, fun a ha => ⟨hr a ha, fun ⟨o, vs, e, q⟩ => by obtain ⟨o', e', hn⟩ := reads_notRec r a ha; rw [e] at e'; cases e'; exact hn vs q⟩, hd⟩
theorem FieldsRep.notRec {w : World} {R : Addr → Prop} {h : Heap} : ∀ {es : List DictEntry} {fs : List (Str × PyData)}, FieldsRep w R h es fs → FieldsRep w (fun a => R a ∧ ¬ IsRec h a) h es fs
  | [], [], _ => trivial
  | _ :: _, (_, _) :: _, ⟨a, b, c, r⟩ => ⟨a, b, c.notRec, r.notRec⟩
theorem RepV.notRec {w : World} {R : Addr → Prop} {h : Heap} {v : Value} {x : Vl} (r : RepV w R h v x) : RepV w (fun a => R a ∧ ¬ IsRec h a) h v x := by
  cases x with
  | d x => exact Rep.notRec r
  | i C fs =>
    obtain ⟨x, dx, es, n, a1, a2, a3, a4, a5, a6⟩ := r
    exact ⟨x, dx, es, n, a1, ⟨a2, fun ⟨o, vs, e, q⟩ => by rw [a4] at e; cases e; cases q⟩, ⟨a3, fun ⟨o, vs, e, q⟩ => by rw [a5] at e; cases e; cases q⟩, a4, a5, a6.notRec⟩
theorem isRec_notTup {h : Heap} {z : Addr} (hz : IsRec h z) : NotTup h z := fun o vs n e _ hd => by
  obtain ⟨o', vs', e', hd'⟩ := hz
  rw [e] at e'; cases e'; rw [hd] at hd'; cases hd'

section
variable {T : St} {s₀ s s' : Shared} {d₀ : Addr → Prop} {env : Env} {own : Own} {Γ : Gm}
theorem SI.recs {X : Addr → Prop} (S : SI T s₀ d₀ env own Γ s) (hs : ∃ h tk, s' = { s with heap := h, toks := tk }) (hX : ∀ b, X b → IsRec s.heap b) (hnew : ∀ b, X b → s₀.heap.get? b = none) (hc : ChgH T.N X s.heap s'.heap) : SI T s₀ d₀ env own Γ s' := by
  obtain ⟨m, cm, F, hn⟩ := S.frm
  have ntup : ∀ z, X z → NotTup s.heap z := fun z hz => isRec_notTup (hX z hz)
  refine ⟨S.eok, S.cok, S.ok, S.wd0, S.d0, fun x a e => ?_, S.ownInj, m, cm, ⟨?_, fun b o e => ?_, ?_, fun x c hcx => ?_, F.newL, F.newC, F.apart⟩, fun x v fl hm => ?_⟩
  · obtain ⟨h1, h2, h3, o, h4, h5, h6, h7⟩ := S.ownNew x a e
    exact ⟨h1, h2, h3, o, hc.plain h4 (fun hx => by obtain ⟨o', vs, e', q⟩ := hX a hx; rw [h4] at e'; cases e'; exact h5.2 vs q) h7, h5, h6, h7⟩
  · obtain ⟨h, tk, rfl⟩ := F.same
    obtain ⟨h', tk', rfl⟩ := hs
    exact ⟨h', tk', rfl⟩
  · obtain ⟨sl, e1, f1⟩ := F.keep b o e
    obtain ⟨sl', e2, f2⟩ := hc b _ e1 fun hx => by rw [hnew b hx] at e; cases e
    exact ⟨sl', e2, fun q => (f2 q).trans (f1 q)⟩
  · obtain ⟨o, es, ep, ho, hd, r⟩ := F.ns
    obtain ⟨o', e, _, _, ed⟩ := hc.gets ho fun hx => by obtain ⟨o', vs, e', q⟩ := hX _ hx; rw [ho] at e'; cases e'; rw [hd] at q; cases q
    exact ⟨o', es, ep, e, ed.trans hd, r⟩
  · obtain ⟨o, ho, hd⟩ := F.cell x c hcx
    obtain ⟨o', e, _, _, ed⟩ := hc.gets ho fun hx => by obtain ⟨o', vs, e', q⟩ := hX _ hx; rw [ho] at e'; cases e'; rw [hd] at q; cases q
    exact ⟨o', e, ed.trans hd⟩
  · obtain ⟨val, l, r⟩ := hn x v fl hm
    refine ⟨val, l, ?_⟩
    cases fl with
    | c => exact (RepV.chg (RepV.notRec r) hc ntup fun a ha hx => ha.2 (hX a hx)).mono fun a ha => ha.1
    | b => exact (RepV.chg (RepV.notRec r) hc ntup fun a ha hx => ha.2 (hX a hx)).mono fun a ha => ha.1
    | o =>
      obtain ⟨d, a, as, e1, e2, e3, e4, e5, e6⟩ := r
      have hna : ∀ b ∈ a :: as, ¬ X b := fun b hb hx => by
        obtain ⟨o, vs, e, q⟩ := hX b hx
        obtain ⟨o', e', hn⟩ := reads_notRec e4 b hb
        rw [e] at e'; cases e'; exact hn vs q
      exact ⟨d, a, as, e1, e2, e3, reads_chg hc ntup e4 hna, e5, e6.chg hc hna⟩
    | s a =>
      rcases r with ⟨C, fs, dx, es, n, e1, e2, e3, e4, e5, e6, e7⟩ | ⟨d, a, as, e1, e2, e3, e4, e5, e6⟩
      case inr =>
        have hna : ∀ b ∈ a :: as, ¬ X b := fun b hb hx => by
          obtain ⟨o, vs, e, q⟩ := hX b hx
          obtain ⟨o', e', hn⟩ := reads_notRec e4 b hb
          rw [e] at e'; cases e'; exact hn vs q
        exact .inr ⟨d, a, as, e1, e2, e3, reads_chg hc ntup e4 hna, e5, e6.chg hc hna⟩
      have h1 : ¬ X a.1 := fun hx => by obtain ⟨o, vs, e, q⟩ := hX a.1 hx; rw [e5] at e; cases e; cases q
      have h2 : ¬ X dx := fun hx => by obtain ⟨o, vs, e, q⟩ := hX dx hx; rw [e6] at e; cases e; cases q
      refine .inl ⟨C, fs, dx, es, n, e1, e2, e3, e4, hc.plain e5 h1 (by simp), hc.plain e6 h2 (by simp), ?_⟩
      exact e7.chg hc ntup (fun v d as r _ _ b hb hx => by
        obtain ⟨o, vs, e, q⟩ := hX b hx
        obtain ⟨o', e', hn⟩ := reads_notRec r b hb
        rw [e] at e'; cases e'; exact hn vs q) (fun b hb _ => hb) fun b _ hb => hb
end

structure Wk (T : St) (A : Around) (I : Addr) (fp wr : List Addr) (n : Nat) (P : Nat → Value → Prop) (St : Nat → Heap → Prop) : Prop where
  walks : Walks T.prog T.w A I fp wr n P St
  rcd : ∀ i h, St i h → ∀ b ∈ wr, IsRec h b
  nf : ∀ i h, St i h → ∀ b ∈ fp, ∃ o, h.get? b = some o ∧ o.cls ≠ .type "frame"
noncomputable def TupObj (h : Heap) (b : Addr) : Prop := ∃ o vs k, h.get? b = some o ∧ o.cls = .type "tuple" ∧ o.data = .seq vs k
structure Itr (T : St) (n : Nat) (env : Env) (Γ : Gm) (e : PySem.Expr) (items : List PyData) (fl : Fl) : Prop where
  run : ∀ {A : Around} {reg : Fl → Addr → Prop} {s : Shared} {E : Value → Shared → Prop} {Q : Value → Shared → Prop}, Amb n A → Rd T env reg Γ s →
    (∀ I s₂ fp wr P St, Kp T.N s s₂ → Wk T A I fp wr items.length P St → St 0 s₂.heap → (∀ b ∈ wr, s.heap.get? b = none) → (∀ b ∈ fp, b ∈ wr ∨ reg fl b ∨ TupObj s₂.heap b) →
      (∀ i v, i < items.length → P i v → ∃ d, items[i]? = some d ∧ Rep T.w (reg fl) s₂.heap v d) → Q (.ref I) s₂) → wpAny T.M A (eval e env) (fun x s₁ => wpAny T.M A (pyIter x) Q E s₁) E s
  hs : ∀ x, foldedSetIterable e env x = pure x

noncomputable def TurnF (I : Nat → Gm → Prop) (i : Nat) (Q : Fw → Gm → Prop) : Fw → Gm → Prop
  | .next, Γ => I (i + 1) Γ
  | .cont, Γ => I (i + 1) Γ
  | .brk, Γ => Q .next Γ
  | .ret d, Γ => Q (.ret d) Γ
  | .exc e, Γ => Q (.exc e) Γ

section
variable {T : St} {n : Nat} {env : Env} {Γ Γ' : Gm} {Q Q' : Fw → Gm → Prop}
theorem forI_core {A : Around} {s₀ : Shared} {d₀ : Addr → Prop} {own : Own} {s : Shared} {E : Value → Shared → Prop} {QQ : Flow → Shared → Prop} {x : Str} {p₁ p : Pos} {iter : PySem.Expr} {body : List Stmt} {items : List PyData} {fl : Fl} {Bd : Nat → Gm → Prop} (hA : Amb n A) (S : SI T s₀ d₀ env own Γ s)
    (h : ∀ f f' s' Γ' own', SI T s₀ d₀ env own' Γ' s' → Pres T.N env own s s' → OwnLe own own' s → FlowRep T s₀ d₀ s' f f' → Q f' Γ' → QQ f s')
    (hi : Itr T n env Γ iter items fl) (hfl : fl ≠ .o ∧ ∀ x, fl ≠ .s x) (hk : env.kindOf x = some .local ∨ env.kindOf x = some .cell) (I : Nat → Gm → Prop) (h0 : I 0 Γ)
    (hturn : ∀ i d Γ₁, items[i]? = some d → I i Γ₁ → ∃ fl' Γ₂, (fl' = fl ∨ (fl' = .c ∧ still d = true)) ∧ Put Γ₁ x (some (.d d, fl')) Γ₂ ∧ Bd i Γ₂)
    (hrun : ∀ i Γ₂ own s QQ', Bd i Γ₂ → SI T s₀ d₀ env own Γ₂ s → (∀ f f' s' Γ' own', SI T s₀ d₀ env own' Γ' s' → Pres T.N env own s s' → OwnLe own own' s → FlowRep T s₀ d₀ s' f f' → TurnF I i Q f' Γ' → QQ' f s') → wpAny T.M A (execs body env) QQ' (notedBy T.M A env (cameBackBy T.M A env E)) s)
    (hend : ∀ Γ₁, I items.length Γ₁ → Q .next Γ₁) : wpAny T.M A (exec (.For (.Name x p₁) iter body [] p) env) QQ E s := by
  refine wpAny_For (hi.run hA S.rd fun It s₂ fp wr P St k₂ W hst hwr hfp hP => ?_) hi.hs
  have hS0 := S
  obtain ⟨m0, cm0, F0, _⟩ := hS0.frm
  have hwr0 : ∀ b ∈ wr, s₀.heap.get? b = none := fun b hb => F0.keep.none (hwr b hb)
  have notMay : ∀ b, (regOf d₀ env own fl b) → ¬ May env own b := fun b hb => by
    cases fl with
    | o => exact absurd rfl hfl.1
    | s x => exact absurd rfl (hfl.2 x)
    | b => exact regOf_not_may hb
    | c => exact regOf_not_may (regOf_cb hb)
  have wrNotMay : ∀ b ∈ wr, ¬ May env own b := fun b hb hm => by
    rcases hm with q | ⟨y, q⟩ | ⟨y, q⟩
    · obtain ⟨o, _, _, ho, _⟩ := F0.ns; rw [← q, hwr b hb] at ho; cases ho
    · obtain ⟨o, ho, _⟩ := F0.cell y b q; rw [hwr b hb] at ho; cases ho
    · obtain ⟨_, _, _, o, ho, _⟩ := S.ownNew y b q; rw [hwr b hb] at ho; cases ho
  have S₂ := S.kp k₂
  have ntup2 : ∀ z, (May env own z ∨ z ∈ wr) → NotTup s₂.heap z := fun z hz => hz.elim (fun q => May.notTup S₂ z q) fun q => isRec_notTup (W.rcd 0 _ hst z q)
  refine codeAny_forLoop (fun k s' => ∃ i Γ₁ own₁, k = items.length + 1 - i ∧ i ≤ items.length ∧ SI T s₀ d₀ env own₁ Γ₁ s' ∧ St i s'.heap ∧ Pres T.N env own s s' ∧ OwnLe own own₁ s ∧ OwnLe own own₁ s₂ ∧ ChgH T.N (fun b => May env own b ∨ b ∈ wr) s₂.heap s'.heap ∧ (∀ b, s'.heap.get? b = none → s₂.heap.get? b = none) ∧ I i Γ₁)
    (fun k s' hI => ?_) (items.length + 1) ⟨0, Γ, own, by omega, Nat.zero_le _, S₂, hst, .of_kp k₂, .refl _ _, .refl _ _, .of_kp (.refl _), fun _ e => e, h0⟩
  obtain ⟨i, Γ₁, own₁, rfl, hile, S₁, hst₁, p₁', o₁, o₁', chg₁, alive₁, hInv⟩ := hI
  have fpFix : ∀ (own₂ : Own), (∀ y a, own₂ y = some a → own₁ y = some a) → ∀ b ∈ fp, ¬ May env own₂ b := fun own₂ ho b hb hm => by
    have hb' : ¬ May env own b := (hfp b hb).elim (wrNotMay b) fun h => h.elim (notMay b) fun ⟨o, vs, k, e, hc, hd⟩ hm => May.notTup S₂ b hm o vs k e hc hd
    rcases hm with q | q | ⟨y, q⟩
    · exact hb' (.inl q)
    · exact hb' (.inr (.inl q))
    · rcases o₁' y b (ho y b q) with ⟨z, hz⟩ | hz
      · exact hb' (.inr (.inr ⟨z, hz⟩))
      · obtain ⟨o, e, _⟩ := W.nf 0 _ hst b hb
        rw [hz] at e; cases e
  by_cases hlt : i < items.length
  · refine W.walks.item i s' _ _ hlt hst₁ fun v h' tk hPv hst' hk' => ?_
    have chgW : ChgH T.N (· ∈ wr) s'.heap h' := fun b o e hb => ⟨o.slots, hk' b o hb e, fun _ => rfl⟩
    have aliveW : ∀ b, h'.get? b = none → s'.heap.get? b = none := fun b e => by
      cases q : s'.heap.get? b with
      | none => rfl
      | some o =>
        by_cases hb : b ∈ wr
        · obtain ⟨o', vs, e', _⟩ := W.rcd _ _ hst' b hb; rw [e] at e'; cases e'
        · have := hk' b o hb q; rw [e] at this; cases this
    have S₃ : SI T s₀ d₀ env own₁ Γ₁ { s' with heap := h', toks := tk } := S₁.recs ⟨_, _, rfl⟩ (fun b hb => W.rcd _ _ hst₁ b hb) hwr0 chgW
    have chg₃ : ChgH T.N (fun b => May env own b ∨ b ∈ wr) s₂.heap h' := chg₁.trans chgW fun b o _ hb => .inr hb
    have p₃ : Pres T.N env own s { s' with heap := h', toks := tk } := ⟨by obtain ⟨⟨h1, tk1, rfl⟩, _⟩ := p₁'; exact ⟨_, _, rfl⟩, p₁'.2.1.trans chgW fun b o e hb => absurd e (by rw [hwr b hb]; simp), fun b e => p₁'.2.2 b (aliveW b e)⟩
    obtain ⟨d, hd, hrep⟩ := hP i v hlt hPv
    obtain ⟨fl', Γ₂, hfl', hput, hbody⟩ := hturn i d Γ₁ hd hInv
    have hrep' : Rep T.w (regOf d₀ env own₁ fl) h' v d := by
      have h1 := Rep.chg (Rep.notRec (Rep.there hrep)) chg₃ ntup2 fun a ha hm => hm.elim (notMay a ha.1.1) fun hw => ha.2 (W.rcd 0 _ hst a hw)
      refine h1.mono fun a ha => ?_
      have hown : ∀ y, own₁ y ≠ some a := fun y q => by
        rcases o₁' y a q with ⟨z, hz⟩ | hz
        · exact notMay a ha.1.1 (.inr (.inr ⟨z, hz⟩))
        · exact ha.1.2 hz
      have := ha.1.1
      cases fl with
      | o => trivial
      | s _ => trivial
      | b => exact ⟨this.1, this.2.1, hown⟩
      | c => exact ⟨this.1, this.2.1, this.2.2.1, hown⟩
    refine wpAny_assign_Name (S₃.store (own' := fun y => if y = x then none else own₁ y) (.refl _) hput hk (fun y hy => by simp [hy]) (fun a e => by simp at e) (fun v' fl'' e => ?_) fun s₄ S₄ p₄ o₄ => ?_)
    · cases e
      have up : ∀ fl a, regOf d₀ env own₁ fl a → regOf d₀ env (fun y => if y = x then none else own₁ y) fl a := regOf_le (fun a ha y => by by_cases hy : y = x <;> simp [hy, ha y])
      rcases hfl' with rfl | ⟨rfl, hst'⟩
      · cases fl' with
        | o => exact absurd rfl hfl.1
        | s x => exact absurd rfl (hfl.2 x)
        | b => exact hrep'.mono (up .b)
        | c => exact hrep'.mono (up .c)
      · exact Rep.still hrep' hst'
    · have p₅ := p₃.trans o₁ p₄
      have o₅ := o₁.trans o₄ p₃
      have o₅' : OwnLe own (fun y => if y = x then none else own₁ y) s₂ := fun y a q => o₁' y a (by by_cases hy : y = x <;> simp [hy] at q; exact q)
      have chg₄ : ChgH T.N (fun b => May env own b ∨ b ∈ wr) s₂.heap s₄.heap := chg₃.trans p₄.2.1 fun b o e hb => .inl (by
        rcases hb with q | q | ⟨y, q⟩
        · exact .inl q
        · exact .inr (.inl q)
        · rcases o₁' y b q with ⟨z, hz⟩ | hz
          · exact .inr (.inr ⟨z, hz⟩)
          · rw [hz] at e; cases e)
      have hst₄ : St (i + 1) s₄.heap := W.walks.frame (i + 1) h' s₄.heap hst' fun b hb o e => by
        obtain ⟨o', e', hnf⟩ := W.nf _ _ hst' b hb
        rw [e] at e'; cases e'
        exact p₄.2.1.plain e (fpFix own₁ (fun _ _ q => q) b hb) hnf
      refine hrun i Γ₂ _ _ _ hbody S₄ (fun f f' s₅ Γ₅ own₅ S₅ p₆ o₆ fr q => ?_)
      have p₇ := p₅.trans o₅ p₆
      have o₇ := o₅.trans o₆ p₅
      have alive₄ : ∀ b, s₄.heap.get? b = none → s₂.heap.get? b = none := fun b e => alive₁ b (aliveW b (p₄.2.2 b e))
      have o₇' : OwnLe own own₅ s₂ := fun y a q' => by
        rcases o₆ y a q' with ⟨z, hz⟩ | hz
        · exact o₅' z a hz
        · exact .inr (alive₄ a hz)
      have chg₅ : ChgH T.N (fun b => May env own b ∨ b ∈ wr) s₂.heap s₅.heap := chg₄.trans p₆.2.1 fun b o e hb => .inl (by
        rcases hb with q | q | ⟨y, q⟩
        · exact .inl q
        · exact .inr (.inl q)
        · rcases o₅' y b q with ⟨z, hz⟩ | hz
          · exact .inr (.inr ⟨z, hz⟩)
          · rw [hz] at e; cases e)
      have hst₅ : St (i + 1) s₅.heap := W.walks.frame (i + 1) s₄.heap s₅.heap hst₄ fun b hb o e => by
        obtain ⟨o', e', hnf⟩ := W.nf _ _ hst₄ b hb
        rw [e] at e'; cases e'
        exact p₆.2.1.plain e (fpFix _ (fun y a q => by by_cases hy : y = x <;> simp [hy] at q; exact q) b hb) hnf
      have again : I (i + 1) Γ₅ → ∃ m, m < items.length + 1 - i ∧ ∃ i Γ₁ own₁, m = items.length + 1 - i ∧ i ≤ items.length ∧ SI T s₀ d₀ env own₁ Γ₁ s₅ ∧ St i s₅.heap ∧ Pres T.N env own s s₅ ∧ OwnLe own own₁ s ∧ OwnLe own own₁ s₂ ∧ ChgH T.N (fun b => May env own b ∨ b ∈ wr) s₂.heap s₅.heap ∧ (∀ b, s₅.heap.get? b = none → s₂.heap.get? b = none) ∧ I i Γ₁ := fun hI' =>
        ⟨items.length + 1 - (i + 1), by omega, i + 1, Γ₅, own₅, rfl, hlt, S₅, hst₅, p₇, o₇, o₇', chg₅, fun b e => alive₄ b (p₆.2.2 b e), hI'⟩
      cases f' with
      | next => cases f <;> first | exact fr.elim | exact again q
      | cont => cases f <;> first | exact fr.elim | exact again q
      | brk => cases f <;> first | exact fr.elim | exact h _ .next s₅ Γ₅ own₅ S₅ p₇ o₇ trivial q
      | ret d => cases f <;> first | exact fr.elim | exact h _ (.ret d) s₅ Γ₅ own₅ S₅ p₇ o₇ fr q
      | exc e => cases f <;> exact fr.elim
  · have hi' : i = items.length := by omega
    subst hi'
    refine W.walks.done s' _ _ hst₁ fun h' tk hk' => ?_
    have chgW : ChgH T.N (· ∈ wr) s'.heap h' := fun b o e hb => ⟨o.slots, hk' b o hb e, fun _ => rfl⟩
    have S₃ : SI T s₀ d₀ env own₁ Γ₁ { s' with heap := h', toks := tk } := S₁.recs ⟨_, _, rfl⟩ (fun b hb => W.rcd _ _ hst₁ b hb) hwr0 chgW
    have p₃ : Pres T.N env own s { s' with heap := h', toks := tk } := by
      refine ⟨?_, p₁'.2.1.trans chgW fun b o e hb => absurd e (by rw [hwr b hb]; simp), fun b e => ?_⟩
      · obtain ⟨⟨h1, tk1, rfl⟩, _⟩ := p₁'; exact ⟨_, _, rfl⟩
      · by_cases hb : b ∈ wr
        · exact hwr b hb
        · refine p₁'.2.2 b ?_
          cases q : s'.heap.get? b with
          | none => rfl
          | some o => have := hk' b o hb q; rw [show h'.get? b = none from e] at this; cases this
    exact wpAny_execs_nil (h _ .next _ Γ₁ own₁ S₃ p₃ o₁ trivial (hend Γ₁ hInv))
theorem Ex1.forI {x : Str} {p₁ p : Pos} {iter : PySem.Expr} {body : List Stmt} {items : List PyData} {fl : Fl} (hi : Itr T n env Γ iter items fl) (hfl : fl ≠ .o ∧ ∀ x, fl ≠ .s x) (hk : env.kindOf x = some .local ∨ env.kindOf x = some .cell) (I : Nat → Gm → Prop) (h0 : I 0 Γ)
    (hturn : ∀ i d Γ₁, items[i]? = some d → I i Γ₁ → ∃ fl' Γ₂, (fl' = fl ∨ (fl' = .c ∧ still d = true)) ∧ Put Γ₁ x (some (.d d, fl')) Γ₂ ∧ Ex T n env Γ₂ body (TurnF I i Q))
    (hend : ∀ Γ₁, I items.length Γ₁ → Q .next Γ₁) : Ex1 T n env Γ (.For (.Name x p₁) iter body [] p) Q := ⟨fun hA S h hx => forI_core (Bd := fun i Γ₂ => Ex T n env Γ₂ body (TurnF I i Q)) hA S h hi hfl hk I h0 hturn (fun i Γ₂ own s QQ' hb S h => hb.run hA S h fun k e s' Γ' own' S' p o er q => er.elim) hend⟩
end
end Mine
end
section
open PySem PySem.Calls PyProof.Rows PySem.W
set_option linter.all false
namespace Mine

section
variable {T : St} {n : Nat} {env : Env} {Γ Γ' : Gm}
theorem Itr.list {e : PySem.Expr} {items : List PyData} {fl : Fl} (he : Ev T n env Γ e (.d (.list items)) fl) (hs : ∀ x, foldedSetIterable e env x = pure x) : Itr T n env Γ e items fl := ⟨fun {A reg s E Q} hA R h => by
  refine he.run hA R fun val s₁ k₁ r₁ => ?_
  obtain ⟨a, vs, rfl, hR, hl, hall⟩ := Rep.list_inv r₁
  have hlt : a < s₁.heap.objs.size := by obtain ⟨_, e, _⟩ := hl; exact Heap.lt_size e
  have hkp : KpH T.N s₁.heap (s₁.heap.push { cls := .type "list_iterator", data := .fields #[.ref a, .int 0 0] }) := (KpH.refl _).push _
  have hlen : vs.toArray.size = items.length := by rw [List.size_toArray]; exact hall.length
  refine wpAny_pyIter_list hl (h s₁.heap.objs.size _ [s₁.heap.objs.size, a] [s₁.heap.objs.size] (fun i v => vs.toArray[i]? = some v) (fun i h => h.IsListIter s₁.heap.objs.size a i ∧ h.IsList a vs.toArray) (k₁.trans (.push _ _))
    ⟨hlen ▸ Walks.list hA.handled _ _ (Nat.ne_of_lt hlt) vs.toArray, fun i h st b hb => ?_, fun i h st b hb => ?_⟩ ⟨⟨_, Heap.get?_push_size _ rfl, rfl, rfl⟩, hl.push _⟩ (fun b hb => ?_) (fun b hb => ?_) fun i v _ hv => ?_)
  · simp only [List.mem_singleton] at hb; subst hb
    obtain ⟨o, ho, _, hd⟩ := st.1
    exact ⟨o, _, ho, hd⟩
  · simp only [List.mem_cons, List.not_mem_nil, or_false] at hb
    rcases hb with rfl | rfl
    · obtain ⟨o, ho, hc, _⟩ := st.1; exact ⟨o, ho, by rw [hc]; simp⟩
    · obtain ⟨o, ho, hc, _⟩ := st.2; exact ⟨o, ho, by rw [hc]; simp⟩
  · simp only [List.mem_singleton] at hb; subst hb
    exact k₁.h.none (Heap.get?_none_of_le (Nat.le_refl _))
  · simp only [List.mem_cons, List.not_mem_nil, or_false] at hb
    rcases hb with rfl | rfl
    · exact .inl (by simp)
    · exact .inr (.inl hR)
  · have hv' : vs[i]? = some v := by simpa using hv
    have hi : i < items.length := by rw [← hall.length]; exact (List.getElem?_eq_some_iff.mp hv').1
    obtain ⟨v', hv2, hr⟩ := hall.get i items[i] (List.getElem?_eq_getElem hi)
    rw [hv'] at hv2; cases hv2
    exact ⟨_, List.getElem?_eq_getElem hi, hr.keeps hkp⟩, hs⟩

noncomputable def rangeD (k : Nat) : List PyData := (List.range k).map fun (i : Nat) => PyData.int (i : Int)
theorem rangeD_length (k : Nat) : (rangeD k).length = k := by simp [rangeD]
theorem rangeD_get {k i : Nat} {d : PyData} (h : (rangeD k)[i]? = some d) : i < k ∧ d = .int (i : Int) := by
  have hi : i < k := by have := (List.getElem?_eq_some_iff.mp h).1; rwa [rangeD_length] at this
  refine ⟨hi, ?_⟩
  have : (rangeD k)[i]? = some (.int (i : Int)) := by simp [rangeD, hi]
  rw [this] at h; cases h; rfl
theorem rangeD_at {k i : Nat} (hi : i < k) : (rangeD k)[i]? = some (.int (i : Int)) := by simp [rangeD, hi]
theorem Itr.range {e : PySem.Expr} {p pos : Pos} {N : Int} {fl : Fl} (hx : env.kindOf "range" = some .globalImplicit) (hg : T.mg "range" = none) (hb : T.mb "range" = some (.type "range")) (he : Ev T n env Γ e (.d (.int N)) fl) (hlo : -(2 ^ 62) ≤ N) (hhi : N < 2 ^ 62)
    (hse : starEach [e] env = [(false, eval e env)]) : Itr T n env Γ (.Call (.Name "range" p) [e] [] pos) (rangeD N.toNat) .c := ⟨fun {A reg s E Q} hA R h => by
  refine wpAny_Call_NameR (ld_builtin R hx (by decide +kernel) hg hb ?_)
  have hb1 : backTo pos (starEach [e] env) = [(false, eval e env)] := by rw [hse]; rfl
  rw [hb1]
  refine PyProof.Rows.callWith_type rfl (evalArgs_plain (spliced_cons (he.run hA R fun val s₁ k₁ r₁ => spliced_nil ?_)))
  obtain ⟨t, rfl⟩ := Rep.int_inv r₁
  refine call_range_1 ?_
  refine wpAny_pyIter_range (IsRange.new ..) (small_one (by decide) (by decide) hlo hhi) ?_
  have hsz : Builtin.Range.rangeSize 0 N 1 = (N.toNat : Int) := by rw [rangeSize_one]; split <;> omega
  refine h _ _ [_] [_] (fun i v => ∃ t, v = .int (0 + (i : Nat) * 1) t) (fun i h => IsRangeIter h _ (0 + (i : Nat) * 1) ((N.toNat : Int) - (i : Nat)) 1) (k₁.trans (.mk (((KpH.refl _).push _).push _))) ⟨by rw [rangeD_length]; exact Walks.range hA.handled _ 0 1 N.toNat, fun i h st b hb => ?_, fun i h st b hb => ?_⟩ ?_ (fun b hb => ?_) (fun b hb => .inl hb) fun i v hi hv => ?_
  · simp only [List.mem_singleton] at hb; subst hb; exact ⟨_, _, st, rfl⟩
  · simp only [List.mem_singleton] at hb; subst hb; exact ⟨_, st, by simp⟩
  · have e1 : (0 + ((0 : Nat) : Int) * 1) = 0 := by simp
    have e2 : ((N.toNat : Int) - ((0 : Nat) : Int)) = Builtin.Range.rangeSize 0 N 1 := by rw [hsz]; simp
    rw [e1, e2]
    exact Heap.get?_push_size _ rfl
  · simp only [List.mem_singleton] at hb; subst hb
    refine k₁.h.none (Heap.get?_none_of_le ?_)
    simp [Heap.size_push]
  · obtain ⟨t, rfl⟩ := hv
    rw [rangeD_length] at hi
    exact ⟨_, rangeD_at hi, by simpa using rep_int ..⟩, fun x => rfl⟩
end

theorem forIn_closure {env : Env} (f : Str × NameKind → List (Str × Addr) → Sem (ForInStep (List (Str × Addr))))
    (hf : ∀ name kind cs, f (name, kind) cs = if kind == .free then (do let c ← cellOf env name; pure (.yield ((name, c) :: cs))) else pure (.yield cs)) :
    ∀ (names : List (Str × NameKind)) (acc : List (Str × Addr)), (∀ x, (x, NameKind.free) ∈ names → ∃ c, env.cells.lookup x = some c) → (∀ y c, acc.lookup y = some c → env.cells.lookup y = some c) →
      ∃ cl, forIn names acc f = pure cl ∧ (∀ y c, cl.lookup y = some c → env.cells.lookup y = some c) ∧ (∀ y, ((y, NameKind.free) ∈ names ∨ (acc.lookup y).isSome = true) → ∃ c, cl.lookup y = some c)
  | [], acc, _, hacc => ⟨acc, by rw [List.forIn_nil], hacc, fun y hy => by
      rcases hy with hy | hy
      · cases hy
      · exact Option.isSome_iff_exists.mp hy⟩
  | (name, kind) :: r, acc, hn, hacc => by
    rw [List.forIn_cons, hf]
    by_cases hk : (kind == .free) = true
    · have hk' : kind = .free := by simpa using hk
      subst hk'
      obtain ⟨c, hc⟩ := hn name (.head _)
      have e : cellOf env name = pure c := by unfold cellOf; rw [hc]
      rw [if_pos hk, e]
      obtain ⟨cl, h1, h2, h3⟩ := forIn_closure f hf r ((name, c) :: acc) (fun x hx => hn x (.tail _ hx)) (fun y c' hy => by
        rw [List.lookup_cons] at hy
        by_cases hb : (y == name) = true
        · rw [hb] at hy; cases hy; rw [beq_iff_eq.mp hb]; exact hc
        · simp only [Bool.not_eq_true] at hb; rw [hb] at hy; exact hacc y c' hy)
      refine ⟨cl, h1, h2, fun y hy => h3 y ?_⟩
      rcases hy with hy | hy
      · rcases List.mem_cons.mp hy with e | hy
        · cases e; exact .inr (by rw [List.lookup_cons]; simp)
        · exact .inl hy
      · refine .inr ?_
        rw [List.lookup_cons]
        by_cases hb : (y == name) = true
        · rw [hb]; rfl
        · simp only [Bool.not_eq_true] at hb; rw [hb]; exact hy
    · rw [if_neg hk]
      obtain ⟨cl, h1, h2, h3⟩ := forIn_closure f hf r acc (fun x hx => hn x (.tail _ hx)) hacc
      refine ⟨cl, h1, h2, fun y hy => h3 y ?_⟩
      rcases hy with hy | hy
      · rcases List.mem_cons.mp hy with e | hy
        · cases e; simp at hk
        · exact .inl hy
      · exact .inr hy
theorem closure_ok {env : Env} {scope : Scope} (h : ∀ x, (x, NameKind.free) ∈ scope.names → ∃ c, env.cells.lookup x = some c) :
    ∃ cl, closureFor scope env = pure cl ∧ (∀ y c, cl.lookup y = some c → env.cells.lookup y = some c) ∧ ∀ y, (y, NameKind.free) ∈ scope.names → ∃ c, cl.lookup y = some c := by
  have key : ∀ f : Str × NameKind → List (Str × Addr) → Sem (ForInStep (List (Str × Addr))), (∀ name kind cs, f (name, kind) cs = if kind == .free then (do let c ← cellOf env name; pure (.yield ((name, c) :: cs))) else pure (.yield cs)) →
      ∃ cl, ((forIn scope.names [] f : Sem (List (Str × Addr))) >>= fun r => pure r) = pure cl ∧ (∀ y c, cl.lookup y = some c → env.cells.lookup y = some c) ∧ ∀ y, (y, NameKind.free) ∈ scope.names → ∃ c, cl.lookup y = some c := fun f hf => by
    obtain ⟨cl, h1, h2, h3⟩ := forIn_closure (env := env) f hf scope.names [] h (fun y c hy => by cases hy)
    exact ⟨cl, by rw [h1]; rfl, h2, fun y hy => h3 y (.inl hy)⟩
  unfold closureFor
  refine key _ fun name kind cs => ?_
  cases hk : kind == NameKind.free <;> simp [hk]

theorem relabel_free {env : Env} (hk : env.scope.kind = .function) : ∀ {names : List (Str × NameKind)} {x : Str}, names.lookup x = some .free → env.kindOf x = some .cell →
    (names.map fun (n, k) => if (k == NameKind.free && env.scope.kind == .function && env.kindOf n == some .cell) then (n, NameKind.cell) else (n, k)).lookup x = some .cell
  | [], _, h, _ => by simp at h
  | (n, k) :: r, x, h, hx => by
    have ih := @relabel_free env hk r x
    show List.lookup x ((if (k == NameKind.free && env.scope.kind == .function && env.kindOf n == some .cell) = true then (n, NameKind.cell) else (n, k)) :: _) = _
    cases hn : x == n with
    | true =>
      simp only [List.lookup_cons, hn] at h
      cases h
      have : x = n := beq_iff_eq.mp hn
      subst this
      simp [List.lookup_cons, hk, hx]
    | false =>
      simp only [List.lookup_cons, hn] at h
      by_cases hc : (k == NameKind.free && env.scope.kind == .function && env.kindOf n == some .cell) = true
      · rw [if_pos hc]; simp only [List.lookup_cons, hn]; exact ih h hx
      · rw [if_neg hc]; simp only [List.lookup_cons, hn]; exact ih h hx
theorem relabel_cell {env : Env} : ∀ {names : List (Str × NameKind)} {x : Str}, (∀ y ∈ names, y.2 ≠ .cell) →
    (names.map fun (n, k) => if (k == NameKind.free && env.scope.kind == .function && env.kindOf n == some .cell) then (n, NameKind.cell) else (n, k)).lookup x = some .cell → (x, NameKind.free) ∈ names
  | [], _, _, h => by simp at h
  | (n, k) :: r, x, hc, h => by
    have ih := @relabel_cell env r x fun y hy => hc y (.tail _ hy)
    replace h : List.lookup x ((if (k == NameKind.free && env.scope.kind == .function && env.kindOf n == some .cell) = true then (n, NameKind.cell) else (n, k)) :: _) = some .cell := h
    by_cases hcc : (k == NameKind.free && env.scope.kind == .function && env.kindOf n == some .cell) = true
    · rw [if_pos hcc, List.lookup_cons] at h
      cases hn : x == n with
      | true =>
        simp only [Bool.and_eq_true, beq_iff_eq] at hcc
        rw [beq_iff_eq.mp hn, ← hcc.1.1]; exact .head _
      | false => rw [hn] at h; exact .tail _ (ih h)
    · rw [if_neg hcc, List.lookup_cons] at h
      cases hn : x == n with
      | true => rw [hn] at h; cases h; exact absurd rfl (hc _ (.head _))
      | false => rw [hn] at h; exact .tail _ (ih h)

structure CompScope (scope : Scope) (env : Env) (x : Str) : Prop where
  kind : scope.kind = .function
  ncell : ∀ y ∈ scope.names, y.2 ≠ .cell
  names : ∀ y ∈ scope.names, y.2 = .local → scope.names.lookup y.1 = some .local
  var : scope.names.lookup x = some .local
  free : ∀ y ∈ scope.names, y.2 = .free → env.kindOf y.1 = some .cell
noncomputable def itemFl (fl : Fl) (d : PyData) : Fl := if still d then .c else fl
noncomputable def compG (x : Str) (fl : Fl) (Γv : Gm) (d : PyData) : Gm := (x, some (.d d, itemFl fl d)) :: Γv
noncomputable def CTests (T : St) (n : Nat) (env : Env) (Γ : Gm) (ifs : List PySem.Expr) (b : Bool) : Prop := match ifs with
  | [] => b = true
  | [c] => IsT T n env Γ c b
  | _ => False
theorem CTests.run {T : St} {n : Nat} {env : Env} {Γ : Gm} {ifs : List PySem.Expr} {b : Bool} (h : CTests T n env Γ ifs b) {A : Around} {reg : Fl → Addr → Prop} {s : Shared} {E : Value → Shared → Prop} {Q : Bool → Shared → Prop} (hA : Amb n A) (R : Rd T env reg Γ s)
    (hq : ∀ s', Kp T.N s s' → Q b s') : wpAny T.M A (forIn ifs true fun c r => if r = true then do let ok ← isTrue c env (eval c env); pure (ForInStep.yield ok) else pure (ForInStep.yield r)) Q E s := by
  match ifs, h with
  | [], h => have : b = true := h; subst this; exact wpAny_tests_nil (hq _ (.refl _))
  | [c], h => exact wpAny_tests_one (IsT.run h hA R hq)

theorem RepAll.chg {w : World} {R : Addr → Prop} {X : Addr → Prop} {N : Nat} {h h' : Heap} {vs : List Value} {ds : List PyData} (x : RepAll w R h vs ds) (hk : ChgH N X h h') (hX : ∀ z, X z → NotTup h z) (hR : ∀ a, R a → ¬ X a) : RepAll w R h' vs ds :=
  let ⟨as, r, hr, hd⟩ := x; ⟨as, readsAll_chg hk hX r fun a ha => hR a (hr a ha), hr, hd.chg hk fun a ha => hR a (hr a ha)⟩
theorem RepAll.notRec {w : World} {R : Addr → Prop} {h : Heap} {vs : List Value} {ds : List PyData} (x : RepAll w R h vs ds) : RepAll w (fun a => R a ∧ ¬ IsRec h a) h vs ds :=
  let ⟨as, r, hr, hd⟩ := x; ⟨as, r, fun a ha => ⟨hr a ha, fun ⟨o, vs, e, q⟩ => by obtain ⟨o', e', hn⟩ := readsAll_notRec r a ha; rw [e] at e'; cases e'; exact hn vs q⟩, hd⟩
theorem RepAll.snoc {w : World} {R : Addr → Prop} {h : Heap} {vs : List Value} {ds : List PyData} {v : Value} {d : PyData} (x : RepAll w R h vs ds) (y : Rep w R h v d) : RepAll w R h (vs ++ [v]) (ds ++ [d]) := x.append (.cons y .nil)

theorem comp_core {T : St} {n : Nat} {env : Env} {Γ Γv : Gm} {elt iter : PySem.Expr} {x : Str} {px pos pos' : Pos} {ifs : List PySem.Expr} {scope : Scope} {items : List PyData} {fl : Fl} {f : PyData → PyData} {p : PyData → Bool} (hi : Itr T n env Γ iter items fl) (hc : CompScope scope env x)
    (hv : ∀ q ∈ Γv, q ∈ Γ ∧ scope.names.lookup q.1 = some .free) (hok : GmOk (x :: Γv.map (·.1))) (hz : items.length ≤ sizeLine)
    (htest : ∀ C cl d, d ∈ items → CTests T n (compEnvC scope cl C env) (compG x fl Γv d) ifs (p d)) (helt : ∀ C cl d, d ∈ items → p d = true → Ev T n (compEnvC scope cl C env) (compG x fl Γv d) elt (.d (f d)) .c)
    {use : Option (Value → Sem Unit)} {A : Around} {reg : Fl → Addr → Prop} {s : Shared} {E : Value → Shared → Prop} {Q : Value → Shared → Prop} (hA : Amb n A) (R : Rd T env reg Γ s)
    (h : ∀ D C s', Kp T.N s s' → D ≠ C → s.heap.get? D = none → s.heap.get? C = none → (∃ m, s'.heap.Ns C m) → (∃ ys k, s'.heap.get? D = some { cls := .type "list", data := .seq (List.toArray ys) k } ∧ RepAll T.w (fun a => reg .c a ∧ a ≠ C ∧ a ≠ D) s'.heap ys ((items.filter p).map f)) →
      compPost T.M A E use Q (.ref D) C (.ok .next) s') :
    wpAny T.M A (comprehension (.ListComp elt [⟨.Name x px, iter, ifs, 0⟩] scope pos) scope env pos' (newList []) false (eval iter env) use) Q E s := by
  obtain ⟨cl, hcl, hcl1, hcl2⟩ := closure_ok (env := env) (scope := scope) fun y hy => R.eok.cells y (hc.free (y, .free) hy rfl)
  refine wpAny_comprehension_free rfl hi.hs hcl hc.kind hc.names (hi.run hA R fun I s₂ fp wr P St k₂ W hst hwr hfp hP => ?_)
  refine wpAny_newObj_type (wpAny_newFunctionEnv hc.ncell (by intro y hy; simp at hy) (fun h₁ hns₁ hsb₁ => ?_) hc.kind)
  dsimp only at hns₁ hsb₁ ⊢
  generalize hH2 : s₂.heap.push { cls := .type "list", dict := none, data := .seq ([] : List Value).toArray } = H2 at hns₁ hsb₁ ⊢
  generalize hDe : s₂.heap.objs.size = D at *
  have hC : H2.objs.size = D + 1 := by rw [← hH2, Heap.size_push, hDe]
  generalize hCe : H2.objs.size = C at *
  have hDC : D ≠ C := by omega
  have freshD : s₂.heap.get? D = none := Heap.get?_none_of_le (by omega)
  have freshC : s₂.heap.get? C = none := Heap.get?_none_of_le (by omega)
  have old : ∀ b o, s₂.heap.get? b = some o → h₁.get? b = some o := fun b o e => by
    have hb := Heap.lt_size e
    exact hsb₁.extBut b o (fun q => absurd hb (by rw [show b = C from q, hC, hDe]; exact Nat.not_lt.mpr (Nat.le_succ _))) (Heap.get?_push_of_some _ (hH2 ▸ Heap.get?_push_of_some _ e))
  have hacc : h₁.get? D = some { cls := .type "list", data := .seq (List.toArray ([] : List Value)) 0 } := hsb₁.extBut _ _ hDC (Heap.get?_push_of_some _ (by rw [← hH2, ← hDe]; exact Heap.get?_push_size _ rfl))
  have hst₁ : St 0 h₁ := W.walks.frame _ _ _ hst fun b _ o e => old b o e
  have wrNC : ∀ b ∈ wr, b ≠ C ∧ b ≠ D := fun b hb => by
    obtain ⟨o, vs, e, _⟩ := W.rcd 0 _ hst b hb
    exact ⟨fun q => (by rw [q, freshC] at e; cases e), fun q => (by rw [q, freshD] at e; cases e)⟩
  have fpNC : ∀ b ∈ fp, b ≠ C ∧ b ≠ D := fun b hb => by
    obtain ⟨o, e, _⟩ := W.nf 0 _ hst b hb
    exact ⟨fun q => (by rw [q, freshC] at e; cases e), fun q => (by rw [q, freshD] at e; cases e)⟩
  have hkd0 : ((compEnvC scope cl C env).scope.kind == .class || ((compEnvC scope cl C env).scope.kind == .module && (compEnvC scope cl C env).locals != (compEnvC scope cl C env).globals)) = false := by
    have hkd : (compEnvC scope cl C env).scope.kind = .function := hc.kind
    rw [hkd]; rfl
  have sC : s.heap.get? C = none := k₂.h.none freshC
  have sD : s.heap.get? D = none := k₂.h.none freshD
  have ntW : ∀ i hh, St i hh → ∀ z, z ∈ wr → NotTup hh z := fun i hh st z hz => isRec_notTup (W.rcd i hh st z hz)
  have loop : ∀ s₃ : Shared, s₃ = { s₂ with heap := h₁, toks := s₂.toks + ([] : List (Str × Value)).length } →
      codeAny T.M A (.compLoop (.ListComp elt [⟨.Name x px, iter, ifs, 0⟩] scope pos) 0 (.ref I) (.ref D) (compEnvC scope cl C env)) (compPost T.M A E use Q (.ref D) C) s₃ := by
    rintro s₃ rfl
    refine codeAny_compLoop_tests (fun k s' => ∃ i ys kk m, k = items.length + 1 - i ∧ i ≤ items.length ∧ Kp T.N s s' ∧ ChgH T.N (· ∈ wr) s₂.heap s'.heap ∧ St i s'.heap ∧ s'.heap.Ns C m ∧ s'.heap.get? D = some { cls := .type "list", data := .seq (List.toArray ys) kk } ∧
      RepAll T.w (fun a => reg .c a ∧ a ≠ C ∧ a ≠ D) s'.heap ys (((items.take i).filter p).map f)) (fun k s' hI => ?_) (items.length + 1)
      ⟨0, [], 0, _, by omega, Nat.zero_le _, k₂.trans (.mk (.of old)), .of_kp (.of old), hst₁, hns₁, hacc, by simpa using RepAll.nil⟩
    obtain ⟨i, ys, kk, m, rfl, hile, kp, chg, hsti, hns, hDl, hall⟩ := hI
    by_cases hlt : i < items.length
    · refine W.walks.item i s' _ _ hlt hsti fun v h' tk hPv hst' hk' => ?_
      have hns' : h'.Ns C m := hns.at' fun o e => hk' C o (fun hb => (wrNC C hb).1 rfl) e
      refine wpAny_assign_Name (wpAny_storeName_local (lookup_relabel_local hc.var) hns' (fun h₂ hns₂ hs₂ => ?_) hkd0)
      have hs₂ : Heap.SameBut C h' h₂ := hs₂
      have chgW : ChgH T.N (· ∈ wr) s'.heap h' := fun b o e hb => ⟨o.slots, hk' b o hb e, fun _ => rfl⟩
      have kp₃ : Kp T.N s { s' with heap := h₂, toks := tk + 1 } := by
        obtain ⟨hh, tk', rfl, kph⟩ := kp
        refine ⟨h₂, tk + 1, rfl, fun b o e => ?_⟩
        obtain ⟨sl, e1, f1⟩ := kph b o e
        exact ⟨sl, (hs₂.2 b fun q => by rw [show b = C from q, sC] at e; cases e).trans (hk' b _ (fun hb => by rw [hwr b hb] at e; cases e) e1), f1⟩
      have chg₃ : ChgH T.N (· ∈ wr) s₂.heap h₂ := (chg.trans chgW fun b o _ hb => hb).trans (ChgH.of_but hs₂) fun b o e hb => absurd e (by rw [hb, freshC]; simp)
      have hst₂ : St (i + 1) h₂ := W.walks.frame _ _ _ hst' fun b hb o e => (hs₂.2 b (fpNC b hb).1).trans e
      obtain ⟨d, hd, hrep⟩ := hP i v hlt hPv
      have hmem : d ∈ items := List.mem_of_getElem? hd
      have hDl₂ : h₂.get? D = some { cls := .type "list", data := .seq (List.toArray ys) kk } := (hs₂.2 D hDC).trans (hk' D _ (fun hb => (wrNC D hb).2 rfl) hDl)
      have ntC : NotTup h' C := fun o vs' n' e _ hd' => by obtain ⟨o', _, _, ho, hdd, _⟩ := hns'; rw [ho] at e; cases e; rw [hdd] at hd'; cases hd'
      have hall₂ : RepAll T.w (fun a => reg .c a ∧ a ≠ C ∧ a ≠ D) h₂ ys (((items.take i).filter p).map f) := by
        have h1 := (RepAll.chg (RepAll.notRec hall) chgW (ntW _ _ hsti) fun a ha hx => ha.2 (W.rcd _ _ hsti a hx)).mono fun a ha => ha.1
        exact RepAll.chg h1 (ChgH.of_but (N := T.N) hs₂) (fun z hz => by rw [show z = C from hz]; exact ntC) fun a ha => ha.2.1
      have R₃ : Rd T (compEnvC scope cl C env) (fun fl a => reg fl a ∧ a ≠ C ∧ a ≠ D) (compG x fl Γv d) { s' with heap := h₂, toks := tk + 1 } := by
        refine ⟨⟨hc.kind, R.eok.g, R.eok.b, fun y hy => hcl2 y (relabel_cell hc.ncell hy)⟩, hok, fun y v' fl' hm => ?_, ⟨fun fl' a e => ⟨(R.regs.kp kp₃.h).fresh fl' a e, fun q => ?_, fun q => ?_⟩, fun a ha => ⟨R.regs.cb a ha.1, ha.2⟩, fun a ha => ⟨R.regs.bo a ha.1, ha.2⟩, fun x a ha => ⟨R.regs.os x a ha.1, ha.2⟩⟩, R.wd.kp kp₃.h⟩
        · rcases List.mem_cons.mp hm with e | hm
          · cases e
            refine ⟨v, .inl ⟨lookup_relabel_local hc.var, _, hns₂, by simp⟩, ?_⟩
            have h1 : Rep T.w (fun a => reg fl a ∧ a ≠ C ∧ a ≠ D) h₂ v d := (Rep.chg (Rep.notRec (Rep.there hrep)) chg₃ (ntW _ _ hst) fun a ha hx => ha.2 (W.rcd _ _ hst a hx)).mono fun a ha => ⟨ha.1.1, fun q => ha.1.2 (q ▸ freshC), fun q => ha.1.2 (q ▸ freshD)⟩
            unfold itemFl
            split
            · rename_i hs; exact Rep.still h1 hs
            · exact h1
          · obtain ⟨hg, hfree⟩ := hv _ hm
            obtain ⟨val, hn, hr⟩ := R.names y v' fl' hg
            have hkc : env.kindOf y = some .cell := hc.free (y, .free) (mem_of_lookup hfree) rfl
            refine ⟨val, .inr ⟨relabel_free R.eok.kind hfree hkc, ?_⟩, (RepV.mono (RepV.there hr) fun a ha => ⟨ha.1, fun q => ha.2 (q ▸ sC), fun q => ha.2 (q ▸ sD)⟩).keeps kp₃.h⟩
            rcases hn with ⟨hk1, _⟩ | ⟨_, c, hcc, hcell⟩
            · rw [hkc] at hk1; cases hk1
            · obtain ⟨c', hc'⟩ := hcl2 y (mem_of_lookup hfree)
              have := hcl1 y c' hc'
              rw [hcc] at this; cases this
              exact ⟨c, hc', kp₃.h.cell hcell⟩
        · rw [q] at e; obtain ⟨o, _, _, ho, _⟩ := hns₂; rw [show h₂.get? (compEnvC scope cl C env).locals = none from e] at ho; cases ho
        · rw [q] at e; rw [show h₂.get? D = none from e] at hDl₂; cases hDl₂
      refine (htest C cl d hmem).run hA R₃ fun s₄ k₄ => ?_
      have htk : (items.take (i + 1)).filter p = (items.take i).filter p ++ (if p d then [d] else []) := take_succ_filter p items i d hd
      cases hp : p d with
      | false =>
        simp only [Bool.false_eq_true, if_false]
        refine ⟨items.length + 1 - (i + 1), by omega, i + 1, ys, kk, _, rfl, hlt, kp₃.trans k₄, chg₃.trans (X := (· ∈ wr)) (ChgH.of_kp (X := fun _ => False) k₄.h) (fun _ _ _ hb => hb.elim), W.walks.frame _ _ _ hst₂ fun b hb o e => ?_, k₄.h.ns hns₂, k₄.h.get hDl₂ (by simp), ?_⟩
        · obtain ⟨o', e', hnf⟩ := W.nf _ _ hst₂ b hb
          rw [e] at e'; cases e'
          exact k₄.h.get e hnf
        · rw [htk, hp]; simpa using hall₂.keeps k₄.h
      | true =>
        simp only [if_true]
        refine (helt C cl d hmem hp).run hA (R₃.kp k₄) fun y s₅ k₅ r₅ => ?_
        have k₄₅ := k₄.trans k₅
        have hys : ys.length ≤ sizeLine := by
          have h1 := hall.length
          have h2 : ((items.take i).filter p).length ≤ (items.take i).length := List.length_filter_le _ _
          simp only [List.length_map, List.length_take] at h1 h2
          omega
        have hDl₅ := k₄₅.h.get hDl₂ (by simp)
        refine wpAny_list_append_plain (items := List.toArray ys) (hsz := by simpa using hys) ⟨kk, hDl₅⟩ fun h₆ hl₆ hs₆ => ?_
        obtain ⟨kk', hl₆⟩ := hl₆
        have hk₅ : ∀ b o, b ≠ D → s₅.heap.get? b = some o → h₆.get? b = some o := fun b o hb e => (hs₆.2 b hb).trans e
        have ntD : NotTup s₅.heap D := fun o vs' n' e hcls _ => by rw [hDl₅] at e; cases e; simp at hcls
        refine ⟨items.length + 1 - (i + 1), by omega, i + 1, ys ++ [y], kk', _, rfl, hlt, ?_, ?_, W.walks.frame _ _ _ hst₂ fun b hb o e => ?_, (k₄₅.h.ns hns₂).sameBut hs₆ (Ne.symm hDC), by simpa using hl₆, ?_⟩
        · obtain ⟨hh, tk', rfl, kph⟩ := kp₃.trans k₄₅
          refine ⟨h₆, tk', rfl, fun b o e => ?_⟩
          obtain ⟨sl, e1, f1⟩ := kph b o e
          exact ⟨sl, hk₅ b _ (fun q => by rw [q, sD] at e; cases e) e1, f1⟩
        · exact (chg₃.trans (X := (· ∈ wr)) (ChgH.of_kp (X := fun _ => False) k₄₅.h) (fun _ _ _ hb => hb.elim)).trans (ChgH.of_but hs₆) fun b o e hb => absurd e (by rw [hb, freshD]; simp)
        · obtain ⟨o', e', hnf⟩ := W.nf _ _ hst₂ b hb
          rw [e] at e'; cases e'
          exact hk₅ b o (fpNC b hb).2 (k₄₅.h.get e hnf)
        · rw [htk, hp]
          simp only [if_true, List.map_append, List.map_cons, List.map_nil]
          exact RepAll.chg ((hall₂.keeps k₄₅.h).snoc r₅) (ChgH.of_but (N := T.N) hs₆) (fun z hz => by rw [show z = D from hz]; exact ntD) fun a ha => ha.2.2
    · have hi' : i = items.length := by omega
      subst hi'
      refine W.walks.done s' _ _ hsti fun h' tk hk' => ?_
      have chgW : ChgH T.N (· ∈ wr) s'.heap h' := fun b o e hb => ⟨o.slots, hk' b o hb e, fun _ => rfl⟩
      refine h D C _ ?_ hDC sD sC ⟨m, hns.at' fun o e => hk' C o (fun hb => (wrNC C hb).1 rfl) e⟩ ⟨ys, kk, hk' D _ (fun hb => (wrNC D hb).2 rfl) hDl, ?_⟩
      · obtain ⟨hh, tk', rfl, kph⟩ := kp
        refine ⟨h', tk, rfl, fun b o e => ?_⟩
        obtain ⟨sl, e1, f1⟩ := kph b o e
        exact ⟨sl, hk' b _ (fun hb => by rw [hwr b hb] at e; cases e) e1, f1⟩
      · have h1 := (RepAll.chg (RepAll.notRec hall) chgW (ntW _ _ hsti) fun a ha hx => ha.2 (W.rcd _ _ hsti a hx)).mono fun a ha => ha.1
        simpa using h1
  exact codeAny_compStart_list (loop _ rfl) (W.walks.self 0 _ _ _ hst₁ (loop _ rfl))
end Mine
end
section
open PySem PySem.Calls PyProof.Rows PySem.W
set_option linter.all false
namespace Mine

theorem ns_notTup {h : Heap} {C : Addr} {m : Str → Option Value} (hn : h.Ns C m) : NotTup h C := fun o vs n e _ hd => by
  obtain ⟨o', _, _, ho, hdd, _⟩ := hn
  rw [ho] at e; cases e; rw [hdd] at hd; cases hd

section
variable {T : St} {n : Nat} {env : Env} {Γ Γ' Γv : Gm} {elt iter : PySem.Expr} {x : Str} {px pos : Pos} {ifs : List PySem.Expr} {scope : Scope} {items : List PyData} {fl : Fl} {f : PyData → PyData} {p : PyData → Bool}
theorem EvF.compC (hi : Itr T n env Γ iter items fl) (hc : CompScope scope env x)
    (hv : ∀ q ∈ Γv, q ∈ Γ ∧ scope.names.lookup q.1 = some .free) (hok : GmOk (x :: Γv.map (·.1))) (hz : items.length ≤ sizeLine)
    (htest : ∀ C cl d, d ∈ items → CTests T n (compEnvC scope cl C env) (compG x fl Γv d) ifs (p d)) (helt : ∀ C cl d, d ∈ items → p d = true → Ev T n (compEnvC scope cl C env) (compG x fl Γv d) elt (.d (f d)) .c) :
    EvF T n env Γ (.ListComp elt [⟨.Name x px, iter, ifs, 0⟩] scope pos) (.list ((items.filter p).map f)) := ⟨fun {A reg s E Q} hA R h => by
  rw [eval_ListComp]
  refine comp_core (use := none) hi hc hv hok hz htest helt hA R fun D C s' k hDC sD sC hns hD => ?_
  obtain ⟨m, hns⟩ := hns
  obtain ⟨ys, kk, hDl, hall⟩ := hD
  refine ⟨m, hns, fun h' hs' => ?_⟩
  have hk' : KpH T.N s.heap h' := fun b o e => by
    obtain ⟨sl, e1, f1⟩ := k.h b o e
    exact ⟨sl, (hs'.2 b fun q => by rw [q, sC] at e; cases e).trans e1, f1⟩
  have hall' : RepAll T.w (fun a => reg .c a ∧ a ≠ C ∧ a ≠ D) h' ys ((items.filter p).map f) := RepAll.chg hall (ChgH.of_but (N := T.N) hs') (fun z hz => by rw [show z = C from hz]; exact ns_notTup hns) fun a ha => ha.2.1
  refine h _ _ (by obtain ⟨hh, tk, rfl, _⟩ := k; exact ⟨h', tk, rfl, hk'⟩) ?_
  obtain ⟨as, r, hr, hd⟩ := hall'
  have hD' : h'.get? D = some { cls := .type "list", data := .seq (List.toArray ys) kk } := (hs'.2 D hDC).trans hDl
  refine ⟨D :: as, .list hD' rfl rfl (by simpa using r), fun b hb => ?_, fun b hb => ?_, D, as, rfl, rfl, sD, fun hm => (hr D hm).2.2 rfl, _, hD', rfl⟩
  · rcases List.mem_cons.mp hb with rfl | hb
    · exact R.regs.fresh .c _ sD
    · exact (hr b hb).1
  · rcases List.mem_cons.mp hb with rfl | hb
    · exact ⟨_, hD', fun es n q => by cases q⟩
    · exact hd b hb⟩

theorem EvF.comp (hi : Itr T n env Γ iter items fl) (hc : CompScope scope env x)
    (hv : ∀ q ∈ Γv, q ∈ Γ ∧ scope.names.lookup q.1 = some .free) (hok : GmOk (x :: Γv.map (·.1))) (hz : items.length ≤ sizeLine)
    (htest : ∀ C cl d, d ∈ items → CTests T n (compEnvC scope cl C env) (compG x fl Γv d) ifs (p d)) (helt : ∀ C cl d, d ∈ items → p d = true → EvF T n (compEnvC scope cl C env) (compG x fl Γv d) elt (f d)) :
    EvF T n env Γ (.ListComp elt [⟨.Name x px, iter, ifs, 0⟩] scope pos) (.list ((items.filter p).map f)) :=
  EvF.compC hi hc hv hok hz htest fun C cl d h1 h2 => Ev.ofF (helt C cl d h1 h2)

theorem Frm.but {N : Nat} {s₀ s : Shared} {m cm : Str → Option Value} {C : Addr} {h' : Heap} (F : Frm N s₀ env m cm s) (hs : Heap.SameBut C s.heap h') (h0 : s₀.heap.get? C = none) (hL : env.locals ≠ C) (hc : ∀ y c, env.cells.lookup y = some c → c ≠ C) :
    Frm N s₀ env m cm { s with heap := h' } := by
  refine ⟨?_, fun b o e => ?_, F.ns.sameBut hs hL, fun y c hy => (F.cell y c hy).sameBut hs (hc y c hy), F.newL, F.newC, F.apart⟩
  · obtain ⟨h, tk, rfl⟩ := F.same; exact ⟨h', tk, rfl⟩
  · obtain ⟨sl, e1, f1⟩ := F.keep b o e
    exact ⟨sl, (hs.2 b fun q => by rw [q, h0] at e; cases e).trans e1, f1⟩
end
section
variable {T : St} {s₀ s s₁ : Shared} {d₀ : Addr → Prop} {env : Env} {own own' : Own} {Γ Γ' : Gm}
end

section
variable {T : St} {n : Nat} {env : Env} {Γ Γ' Γv : Gm} {elt iter : PySem.Expr} {x y : Str} {px py pos spos : Pos} {ifs : List PySem.Expr} {scope : Scope} {items : List PyData} {fl : Fl} {f : PyData → PyData} {p : PyData → Bool} {Q : Fw → Gm → Prop}
end
end Mine
end
section
open PySem PySem.Calls PyProof.Rows PySem.W
set_option linter.all false
namespace Mine

noncomputable def mkS (l : List Nat) : Str := ⟨l.toArray⟩
theorem mkS_cps (l : List Nat) : (mkS l).cps.toList = l := rfl
theorem mkS_len (l : List Nat) : (mkS l).length = l.length := by simp [mkS, Str.length]
theorem mkS_app (a b : List Nat) : mkS a ++ mkS b = mkS (a ++ b) := by
  show Str.mk (a.toArray ++ b.toArray) = Str.mk (a ++ b).toArray
  simp
theorem mkS_inj {a b : List Nat} : mkS a = mkS b ↔ a = b := ⟨fun h => by have := congrArg (fun x : Str => x.cps.toList) h; exact this, fun h => by rw [h]⟩

section
variable {T : St} {n : Nat} {env : Env} {Γ : Gm} {f₁ f₂ : Fl}
theorem EvF.kS {x : Str} {k : Nat} {pos : Pos} : EvF T n env Γ (.Constant (.str x) k pos) (.str (mkS x.cps.toList)) := EvF.kStr
theorem EvF.globS {x : Str} {pos : Pos} {y : Str} {t : Tok} (hx : env.kindOf x = some .globalImplicit) (hg : T.mg x = some (.str y t)) (hd : (x == ("__debug__" : Str)) = false) : EvF T n env Γ (.Name x pos) (.str (mkS y.cps.toList)) := EvF.glob hx hg hd
theorem Bin.catS {a b : List Nat} (hz : a.length + b.length ≤ sizeLine) : Bin T n .Add (.d (.str (mkS a))) f₁ (.d (.str (mkS b))) f₂ (.str (mkS (a ++ b))) := by
  rw [← mkS_app]; exact Bin.addS (by rw [mkS_len, mkS_len]; exact hz)
theorem Bin.modP {a b : Int} (hb : 0 < b) : Bin T n .Mod (.d (.int a)) f₁ (.d (.int b)) f₂ (.int (a % b)) := by
  rw [← Int.fmod_eq_emod_of_nonneg a (by omega)]; exact Bin.modI (by omega)
theorem Bin.divP {a b : Int} (hb : 0 < b) (hs : b < 1073741824) : Bin T n .FloorDiv (.d (.int a)) f₁ (.d (.int b)) f₂ (.int (a / b)) := by
  rw [← Int.fdiv_eq_ediv_of_nonneg a (by omega)]; exact Bin.divI (by omega) (PyProof.noPylong_small (by omega))
theorem Bin.mulR {a b : Int} (h1 : -(2 ^ 64) < b) (h2 : b < 2 ^ 64) : Bin T n .Mult (.d (.int a)) f₁ (.d (.int b)) f₂ (.int (a * b)) := Bin.mulI (IntMulOk.of_right (intBits_le_64 h1 h2))
theorem Cmp.eqL {a b : List Nat} : Cmp T n .Eq (.d (.str (mkS a))) (.d (.str (mkS b))) (decide (a = b)) := by
  have : decide (a = b) = decide (mkS a = mkS b) := decide_eq_decide.mpr mkS_inj.symm
  rw [this]; exact Cmp.eqS
theorem Cmp.neL {a b : List Nat} : Cmp T n .NotEq (.d (.str (mkS a))) (.d (.str (mkS b))) (!decide (a = b)) := by
  have : (!decide (a = b)) = decide (mkS a ≠ mkS b) := by
    rw [Bool.eq_iff_iff]
    simp [mkS_inj]
  rw [this]; exact Cmp.neS
theorem contains_one (l : List Nat) (c : Nat) : Txt.contains (mkS l) (mkS [c]) = decide (c ∈ l) := StrLaws.found_one (mkS l) c
theorem Cmp.inL {a b : List Nat} {c : Nat} (h : a = [c]) : Cmp T n .In (.d (.str (mkS a))) (.d (.str (mkS b))) (decide (c ∈ b)) := by
  rw [h, ← contains_one]; exact Cmp.inS
theorem Cmp.ninL {a b : List Nat} {c : Nat} (h : a = [c]) : Cmp T n .NotIn (.d (.str (mkS a))) (.d (.str (mkS b))) (!decide (c ∈ b)) := by
  rw [h, ← contains_one]; exact Cmp.ninS
theorem Sub.strL {fl : Fl} {l : List Nat} {i : Int} {c : Nat} (h0 : 0 ≤ i) (hc : l[i.toNat]? = some c) (hz : l.length ≤ sizeLine) : Sub T n (.d (.str (mkS l))) fl (.d (.int i)) (.str (mkS [c])) .c := Sub.str h0 hc (by rw [mkS_len]; exact hz)

structure Opt (T : St) (n : Nat) (env : Env) (Γ : Gm) (e : Option PySem.Expr) (i : Option Int) : Prop where
  run : ∀ {A : Around} {reg : Fl → Addr → Prop} {s : Shared} {E : Value → Shared → Prop} {Q : Value → Shared → Prop}, Amb n A → Rd T env reg Γ s → (∀ v s', Kp T.N s s' → IsPart v i → Q v s') → wpAny T.M A (valueOrNone (evalOpt e env)) Q E s
theorem Opt.none : Opt T n env Γ none none := ⟨fun hA R h => wpAny_pure (h _ _ (.refl _) .none)⟩
theorem Opt.some {e : PySem.Expr} {i : Int} {fl : Fl} (x : Ev T n env Γ e (.d (.int i)) fl) : Opt T n env Γ (some e) (some i) := ⟨fun hA R h => x.run hA R fun v s' k r => by
  obtain ⟨t, rfl⟩ := Rep.int_inv r
  exact h _ _ k (.int i t)⟩
theorem part_tok {v : Value} {i : Option Int} (h : IsPart v i) : ∃ o : Option (Int × Tok), partValue o = v ∧ o.map (·.1) = i := by
  cases h with
  | none => exact ⟨Option.none, rfl, rfl⟩
  | int i t => exact ⟨Option.some (i, t), rfl, rfl⟩
theorem EvF.cutS {e : PySem.Expr} {l u : Option PySem.Expr} {p pos : Pos} {x : List Nat} {fl : Fl} {lo hi : Option Int} (he : Ev T n env Γ e (.d (.str (mkS x))) fl) (hl : Opt T n env Γ l lo) (hu : Opt T n env Γ u hi) (hz : x.length ≤ sizeLine) :
    EvF T n env Γ (.Subscript e (.Slice l u none p) pos) (.str (mkS (pyCut lo hi x))) := ⟨fun {A reg s E Q} hA R h => by
  refine Subscript_ (he.run hA R fun ov s₁ k₁ r₁ => ?_)
  obtain ⟨t, rfl⟩ := Rep.str_inv r₁
  rw [arm_eval_Slice]
  refine wpAny_bind (hl.run hA (R.kp k₁) fun vl s₂ k₂ pl => wpAny_bind (wpAny_holding (hu.run hA ((R.kp k₁).kp k₂) fun vu s₃ k₃ pu => wpAny_bind (wpAny_holding (wpAny_pure ?_)))))
  refine wpAny_newObj_type ?_
  obtain ⟨ol, e1, e2⟩ := part_tok pl
  obtain ⟨ou, e3, e4⟩ := part_tok pu
  refine tail_any (typeIs_str _ _ _) F.slot_str_getitem.lookup (wpAny_getItem_str_slice (l := ol) (u := ou) (st := Option.none) ⟨_, Heap.get?_push_size _ rfl, rfl, by rw [e1, e3]; rfl⟩ rfl ?_) rfl
  refine post_val_or_str ?_
  have hs := slice_cut (mkS x) lo hi
  rw [← e2, ← e4] at hs
  have hs' : (if ((1 : Int) == 1 && (slicePicked (mkS x) ol ou Option.none).length == (mkS x).length) = true then mkS x else ⟨((slicePicked (mkS x) ol ou Option.none).filterMap ((mkS x).cps[·]?)).toArray⟩) = mkS (pyCut lo hi x) := by rw [← e2, ← e4]; exact hs
  rw [show ((Option.map (fun x : Int × Tok => x.1) (Option.none : Option (Int × Tok))).getD 1 == 1) = ((1 : Int) == 1) from rfl, hs']
  refine ⟨?_, fun t' k => h _ _ ((k₁.trans (k₂.trans k₃)).trans (.mk ((KpH.refl _).push _))) (repF_str ..)⟩
  rw [mkS_len]
  unfold pyCut
  simp only [List.length_take, List.length_drop]
  omega⟩

theorem pyCut_le {α : Type} (lo hi : Option Int) (l : List α) : (pyCut lo hi l).length ≤ l.length := by
  unfold pyCut; simp only [List.length_take, List.length_drop]; omega
theorem RepAll.cut {w : World} {R : Addr → Prop} {h : Heap} {vs : List Value} {ds : List PyData} (x : RepAll w R h vs ds) (lo hi : Option Int) : RepAll w R h (pyCut lo hi vs) (pyCut lo hi ds) := by
  unfold pyCut
  rw [x.length]
  exact (x.drop _).take _
theorem EvF.cutL {e : PySem.Expr} {l u : Option PySem.Expr} {p pos : Pos} {xs : List PyData} {fl : Fl} {lo hi : Option Int} (he : Ev T n env Γ e (.d (.list xs)) fl) (hl : Opt T n env Γ l lo) (hu : Opt T n env Γ u hi) (hz : xs.length ≤ sizeLine) (hc : fl = .c ∨ stillAll xs = true) :
    EvF T n env Γ (.Subscript e (.Slice l u none p) pos) (.list (pyCut lo hi xs)) := ⟨fun {A reg s E Q} hA R h => by
  refine Subscript_ (he.run hA R fun ov s₁ k₁ r₁ => ?_)
  obtain ⟨a, vs, rfl, hR, hlist, hall⟩ := Rep.list_inv r₁
  have hall : RepAll T.w (reg .c) s₁.heap vs xs := by
    rcases hc with rfl | hc
    · exact hall
    · exact hall.still hc
  rw [arm_eval_Slice]
  refine wpAny_bind (hl.run hA (R.kp k₁) fun vl s₂ k₂ pl => wpAny_bind (wpAny_holding (hu.run hA ((R.kp k₁).kp k₂) fun vu s₃ k₃ pu => wpAny_bind (wpAny_holding (wpAny_pure ?_)))))
  have k₁₃ := k₁.trans (k₂.trans k₃)
  have hlist₃ := (k₂.trans k₃).h.list hlist
  refine wpAny_newObj_type ?_
  refine tail_any (Heap.IsList.typeIs (s := { s₃ with heap := s₃.heap.push { cls := .type "slice", data := .fields #[vl, vu, .none] } }) (hlist₃.push _)) list_getitem_lookup (wpAny_getItem_list_slice (hlist₃.push _) (Heap.IsSliceOf.new ..) pl pu .none (by simp) ?_ (by rw [List.size_toArray, hall.length]; exact hz)) rfl
  rw [slicePick_cut]
  have kp : KpH T.N s₁.heap (s₃.heap.push { cls := .type "slice", data := .fields #[vl, vu, .none] }) := (k₂.trans k₃).h.push _
  refine h _ _ (k₁₃.trans (.mk (((KpH.refl _).push _).push _))) (((repF_listP (s := { s₃ with heap := s₃.heap.push { cls := .type "slice", data := .fields #[vl, vu, .none] } }) (fun b hb => ((R.regs.kp k₁.h).kp kp).fresh .c b hb) ((hall.keeps kp).cut lo hi)).older kp).older k₁.h)⟩
theorem Bin.catL {xs ys : List PyData} (hz : xs.length + ys.length ≤ sizeLine) (h₁ : f₁ = .c ∨ stillAll xs = true) (h₂ : f₂ = .c ∨ stillAll ys = true) : Bin T n .Add (.d (.list xs)) f₁ (.d (.list ys)) f₂ (.list (xs ++ ys)) := ⟨fun {A reg s E Q a b} hA R W r₁ r₂ h => by
  obtain ⟨a, vs, rfl, _, hl₁, hall₁⟩ := Rep.list_inv r₁
  obtain ⟨b, us, rfl, _, hl₂, hall₂⟩ := Rep.list_inv r₂
  have hall₁ : RepAll T.w (reg .c) s.heap vs xs := by
    rcases h₁ with rfl | hc
    · exact hall₁
    · exact hall₁.still hc
  have hall₂ : RepAll T.w (reg .c) s.heap us ys := by
    rcases h₂ with rfl | hc
    · exact hall₂
    · exact hall₂.still hc
  obtain ⟨⟨c1, d1, dt1, sl1⟩, ho1, hc1, n1, hd1⟩ := id hl₁
  obtain ⟨⟨c2, d2, dt2, sl2⟩, ho2, hc2, n2, hd2⟩ := id hl₂
  simp only at hc1 hd1 hc2 hd2
  subst hc1 hd1 hc2 hd2
  refine concat_meets ⟨_, ho1, rfl⟩ ⟨_, ho2, rfl⟩ noFill_list_add seq_list_add PySem.F.slot_list_add PySem.F.entry_list_add (PySem.F.args_list_add_2 _ _) (list_addW a b vs.toArray us.toArray n1 n2 d1 d2 sl1 sl2 (by simpa [hall₁.length, hall₂.length] using hz)) ⟨ho1, ho2, ?_⟩
  rw [show vs.toArray ++ us.toArray = (vs ++ us).toArray from by simp]
  exact h _ _ (.push _ _) (repF_listP (fun b => R.fresh .c b) (hall₁.append hall₂))⟩

theorem CallB.lenS {l : List Nat} {fl : Fl} (hz : l.length ≤ sizeLine) : CallB T n (.builtin "len") [(.d (.str (mkS l)), fl)] (.int l.length) := ⟨fun {A reg s E Q vals} hA R W r h => by
  cases r with
  | cons r1 r2 =>
    cases r2
    obtain ⟨t, rfl⟩ := Rep.str_inv r1
    refine P.len_str (by rw [mkS_len]; have : sizeLine = 2 ^ 24 := rfl; omega) ?_
    rw [mkS_len]
    exact h _ _ (.tok _ _) (repF_int ..)⟩
theorem CallB.lenL {xs : List PyData} {fl : Fl} (hz : xs.length ≤ sizeLine) : CallB T n (.builtin "len") [(.d (.list xs), fl)] (.int xs.length) := ⟨fun {A reg s E Q vals} hA R W r h => by
  cases r with
  | cons r1 r2 =>
    cases r2
    obtain ⟨a, vs, rfl, _, hl, hall⟩ := Rep.list_inv r1
    have hlen : vs.toArray.size = xs.length := by rw [List.size_toArray]; exact hall.length
    refine call_len_list hl (by rw [hlen]; have : sizeLine = 2 ^ 24 := rfl; omega) ?_
    rw [hlen]
    exact h _ _ (.tok _ _) (repF_int ..)⟩
noncomputable def decS (i : Int) : List Nat := (Str.ofString (toString i)).cps.toList
theorem CallB.strI {i : Int} {fl : Fl} (h0 : 0 ≤ i) (h1 : i < 10000) : CallB T n (.type "str") [(.d (.int i), fl)] (.str (mkS (decS i))) := ⟨fun {A reg s E Q vals} hA R W r h => by
  cases r with
  | cons r1 r2 =>
    cases r2
    obtain ⟨t, rfl⟩ := Rep.int_inv r1
    refine P.str_of_int ?_ (h _ _ (.tok _ _) (repF_str ..))
    by_cases hz : i.natAbs = 0
    · rw [hz]; decide
    · have : i.natAbs < 2 ^ 1920 := Nat.lt_trans (show i.natAbs < 10000 by omega) (by decide +kernel)
      exact (Nat.log2_lt hz).mpr this⟩
theorem CallB.intB {b : Bool} {fl : Fl} : CallB T n (.type "int") [(.d (.bool b), fl)] (.int (if b then 1 else 0)) := ⟨fun {A reg s E Q vals} hA R W r h => by
  cases r with
  | cons r1 r2 =>
    cases r2
    rw [Rep.bool_inv r1]
    exact call_int_bool (h _ _ (.tok _ _) (repF_int ..))⟩
theorem CallB.intS {l : List Nat} {fl : Fl} (hd : NumText.AllDigits l) (hne : l ≠ []) (hz : l.length ≤ 640) : CallB T n (.type "int") [(.d (.str (mkS l)), fl)] (.int (NumText.digitsVal l : Nat)) := ⟨fun {A reg s E Q vals} hA R W r h => by
  cases r with
  | cons r1 r2 =>
    cases r2
    obtain ⟨t, rfl⟩ := Rep.str_inv r1
    exact KIN.call_text (intText_digits (x := mkS l) hd hne (by rw [mkS_len]; omega)) (by rw [mkS_len]; exact hz) (h _ _ (.tok _ _) (repF_int ..))⟩

structure IsA (T : St) (n : Nat) (v : Vl) (ty : String) (b : Bool) : Prop where
  run : ∀ {A : Around} {R : Addr → Prop} {s : Shared} {E : Value → Shared → Prop} {Q : Value → Shared → Prop} {x : Value}, Amb n A → RepV T.w R s.heap x v → (∀ s', Kp T.N s s' → Q (.bool b) s') → wpAny T.M A (call (.builtin "isinstance") [x, .type ty]) Q E s
theorem EvF.isi {e : PySem.Expr} {t : Str} {p p' pos : Pos} {v : Vl} {fl : Fl} {ty : String} {b : Bool} (he : Ev T n env Γ e v fl) (hx : env.kindOf "isinstance" = some .globalImplicit) (hg : T.mg "isinstance" = none) (hb : T.mb "isinstance" = some (.builtin "isinstance"))
    (hx' : env.kindOf t = some .globalImplicit) (hd' : (t == ("__debug__" : Str)) = false) (hg' : T.mg t = none) (hb' : T.mb t = some (.type ty)) (hi : IsA T n v ty b) (hs : starEach [e, .Name t p'] env = [(false, eval e env), (false, eval (.Name t p') env)]) :
    EvF T n env Γ (.Call (.Name "isinstance" p) [e, .Name t p'] [] pos) (.bool b) := ⟨fun {A reg s E Q} hA R h => by
  refine Call_Name rfl (ld_builtin R hx (by decide +kernel) hg hb ?_)
  have hb1 : backTo pos (starEach [e, .Name t p'] env) = [(false, eval e env), (false, eval (.Name t p') env)] := by rw [hs]; rfl
  rw [hb1]
  refine callWith_machine (.inl ⟨_, rfl⟩) rfl (evalArgs_plain (spliced_cons (he.run hA R fun val s₁ k₁ r₁ => spliced_cons (ld_builtin (R.kp k₁) hx' hd' hg' hb' (spliced_nil ?_)))))
  exact hi.run hA r₁ fun s₂ k₂ => h _ _ (k₁.trans k₂) (repF_bool b)⟩

theorem Meth.index {l : List Nat} {c i : Nat} {fl f₂ : Fl} (hi : l[i]? = some c) (hf : ∀ k, k < i → l[k]? ≠ some c) : Meth T n "index" (.d (.str (mkS l))) fl [(.d (.str (mkS [c])), f₂)] (.int i) := ⟨fun {A reg s E Q ov} hA r => by
  obtain ⟨t, rfl⟩ := Rep.str_inv r
  refine ⟨"str", "str.index", F.plainAttrs_str, F.slot_str_index, F.type_str_index, typeIs_str _ _ _, fun _ e => (nomatch e), fun s₁ vals k R W rs h => ?_⟩
  cases rs with
  | cons r1 r2 =>
    cases r2
    obtain ⟨u, rfl⟩ := Rep.str_inv r1
    have key : ∃ rest, Builtin.Str.occurrences (mkS l) (mkS [c]) 0 (mkS l).length 1 = i :: rest := by
      have hat : ∀ k, StrLaws.At (mkS l) (mkS [c]) (mkS l).length k ↔ l[k]? = some c := fun k => by
        unfold StrLaws.At
        rw [StrLaws.subAt_eq, mkS_len, mkS_len, mkS_cps, mkS_cps]
        simp only [List.length_singleton, beq_iff_eq]
        constructor
        · rintro ⟨_, h2⟩
          have h3 : ((l.drop k).take 1)[0]? = some c := by rw [h2]; rfl
          simpa using h3
        · intro h2
          have hlt := (List.getElem?_eq_some_iff.mp h2).1
          refine ⟨by omega, ?_⟩
          rw [List.drop_eq_getElem_cons hlt]
          simp [(List.getElem?_eq_some_iff.mp h2).2]
      rcases StrLaws.occ_head (mkS l) (mkS [c]) 1 (Nat.le_refl _) with ⟨_, hn⟩ | ⟨j, r, e, hj, hn⟩
      · exact absurd ((hat i).mpr hi) (hn i)
      · have h1 := (hat j).mp hj
        have : j = i := by
          rcases Nat.lt_trichotomy j i with q | q | q
          · exact absurd h1 (hf j q)
          · exact q
          · exact absurd ((hat i).mpr hi) (hn i q)
        subst this
        exact ⟨r, e⟩
    obtain ⟨rest, e⟩ := key
    exact SC.index e (h _ _ (.tok _ _) (repF_int ..))⟩
theorem strsAre_of {w : World} {R : Addr → Prop} {h : Heap} : ∀ {vs : List Value} {xs : List (List Nat)}, RepAll w R h vs (xs.map fun x => .str (mkS x)) → StrsAre vs (xs.map mkS)
  | [], [], _ => .nil
  | [], _ :: _, ⟨_, r, _⟩ => nomatch r
  | _ :: _, [], ⟨_, r, _⟩ => nomatch r
  | _ :: _, x :: xs, r => by
    obtain ⟨t, e⟩ := Rep.str_inv r.cons_inv.1
    subst e
    exact .cons _ t (strsAre_of r.cons_inv.2)
theorem join_mkS (sep : List Nat) : ∀ xs : List (List Nat), Str.join (mkS sep) (xs.map mkS) = mkS (List.intercalate sep xs)
  | [] => rfl
  | [x] => by simp [Str.join, List.intercalate]
  | x :: y :: r => by
    show mkS x ++ mkS sep ++ Str.join (mkS sep) ((y :: r).map mkS) = _
    rw [join_mkS sep (y :: r), mkS_app, mkS_app]
    simp [List.intercalate]
theorem Meth.join {sep : List Nat} {xs : List (List Nat)} {fl f₂ : Fl} (hok : (xs.map (·.length)).sum + xs.length * sep.length ≤ 16777216) : Meth T n "join" (.d (.str (mkS sep))) fl [(.d (.list (xs.map fun x => .str (mkS x))), f₂)] (.str (mkS (List.intercalate sep xs))) := ⟨fun {A reg s E Q ov} hA r => by
  obtain ⟨t, rfl⟩ := Rep.str_inv r
  refine ⟨"str", "str.join", F.plainAttrs_str, F.slot_str_join, F.type_str_join, typeIs_str _ _ _, fun _ e => (nomatch e), fun s₁ vals k R W rs h => ?_⟩
  cases rs with
  | cons r1 r2 =>
    cases r2
    obtain ⟨a, vs, rfl, _, hl, hall⟩ := Rep.list_inv r1
    have hst := strsAre_of hall
    refine join_list hl hst ?_ fun t' k' => ?_
    · simpa [Function.comp_def, mkS_len] using hok
    · have e : Txt.join (mkS sep) (xs.map mkS) = mkS (List.intercalate sep xs) := by
        show Builtin.Str.glued _ _ = _
        rw [StrLaws.glued_eq_join]; exact join_mkS sep xs
      rw [e]
      exact h _ _ (.tok _ _) (repF_str ..)⟩
end
end Mine
end
section
open PySem PySem.Calls PyProof.Rows PySem.W
set_option linter.all false
namespace Mine

structure GdK (T : St) (K : Frag) : Prop where
  k : T.K = K
  g : ∀ x r, nsIn K mainGlobals x = some r → T.mg x = r
  b : ∀ x : Str, x ≠ "__name__" → T.mb x = bootBuiltins x
  fr : ∃ (p : Program) (loose : List Str), ∀ x, x ∉ startupNames → x ∉ loose → x ∉ (recsOf p).map (·.name) → x ∉ (litsOf p).map (·.1) → x ∉ (clssOf p loose).map (·.name) → T.mg x = none
theorem GdK.gd {T : St} {K : Frag} (G : GdK T K) : Gd T := ⟨fun x r e => G.g x r (by rw [← G.k]; exact e), G.b⟩
theorem GdK.bi {T : St} {K : Frag} (G : GdK T K) {x : Str} {v : Value} (hv : bootBuiltins x = some v) (hn : (x == ("__name__" : Str)) = false) : T.mb x = some v := (G.b x (by simpa using hn)).trans hv

noncomputable def okNames (ns : List Str) : Bool := (decide ns.Nodup) && ns.all fun x => !(x == ("__debug__" : Str))
theorem okNames_ok {ns : List Str} (h : okNames ns = true) : GmOk ns := by
  simp only [okNames, Bool.and_eq_true, decide_eq_true_eq, List.all_eq_true] at h
  exact ⟨h.1, fun x hx => by have := h.2 x hx; simpa using this⟩
noncomputable def okPrm (scope : Scope) (ps : List Str) : Bool := ps.all fun x => match scope.names.lookup x with
  | some .local => true
  | some .cell => true
  | _ => false
theorem okPrm_ok {scope : Scope} {ps : List Str} (h : okPrm scope ps = true) : ∀ x ∈ ps, scope.names.lookup x = some .local ∨ scope.names.lookup x = some .cell := fun x hx => by
  have := List.all_eq_true.mp h x hx
  revert this
  split <;> simp_all

theorem Fun.defK {T : St} {K : Frag} {n : Nat} {f : Str} {a : Addr} {xs : List Vl} {d : PyData} {name qual : Str} {params : Arguments} {body : List Stmt} {scope : Scope} {dV kV doc pm cdv ct oc : Value} {an od : Option Addr} {osl : Array (Option Value)} {Γp : Gm}
    (G : GdK T K) (ps ls : List Str) (hn : nsIn K mainGlobals f = some (some (.ref a))) (ho : K.lookup a = some ⟨oc, od, .func (fnOf name qual params body scope dV kV doc pm an cdv ct), osl⟩) (hcd : codeIn K cdv qual = true)
    (hb : Binds (fnOf name qual params body scope dV kV doc pm an cdv ct) ps) (hp : Prm ps xs Γp) (hok : okNames (ps ++ ls) = true) (hk : okPrm scope ps = true)
    (hsc : scope.kind = .function ∧ scope.isCoroutine = false ∧ scope.isGenerator = false)
    (h : ∀ env : Env, env.scope = scope → Ex T n env (Γp ++ ls.map fun x => (x, none)) body (Ends d)) : Fun T (n + 1) f xs d :=
  Fun.def G.gd (by rw [G.k]; exact hn) (by rw [G.k]; exact ho) (by rw [G.k]; exact hcd) hb hp (okNames_ok hok) (okPrm_ok hk) hsc h

theorem kd {env : Env} {scope : Scope} (he : env.scope = scope) {x : Str} {k : NameKind} (h : scope.names.lookup x = some k) : env.kindOf x = some k := by
  unfold Env.kindOf; rw [he]; exact h

section
variable {T : St} {n : Nat} {env : Env} {Γ : Gm}
inductive Cut (lo hi : Option Int) : Vl → Fl → PyData → Prop where
  | s {x : List Nat} {fl : Fl} : x.length ≤ sizeLine → Cut lo hi (.d (.str (mkS x))) fl (.str (mkS (pyCut lo hi x)))
  | l {xs : List PyData} {fl : Fl} : xs.length ≤ sizeLine → fl = .c ∨ stillAll xs = true → Cut lo hi (.d (.list xs)) fl (.list (pyCut lo hi xs))
theorem EvF.cut {e : PySem.Expr} {l u : Option PySem.Expr} {p pos : Pos} {v : Vl} {fl : Fl} {lo hi : Option Int} {d : PyData} (he : Ev T n env Γ e v fl) (hl : Opt T n env Γ l lo) (hu : Opt T n env Γ u hi) (hc : Cut lo hi v fl d) :
    EvF T n env Γ (.Subscript e (.Slice l u none p) pos) d := by
  cases hc with
  | s hz => exact .cutS he hl hu hz
  | l hz hs => exact .cutL he hl hu hz hs
end

theorem EvF.cast {T : St} {n : Nat} {env : Env} {Γ : Gm} {e : PySem.Expr} {d d' : PyData} (x : EvF T n env Γ e d) (h : d = d') : EvF T n env Γ e d' := h ▸ x
noncomputable def okComp (scope sc : Scope) (x : Str) : Bool := (match scope.names.lookup x with | some .local => true | _ => false) && scope.names.all fun y => match y.2 with
  | .cell => false
  | .local => (match scope.names.lookup y.1 with | some .local => true | _ => false)
  | .free => (match sc.names.lookup y.1 with | some .cell => true | _ => false)
  | _ => true
theorem okComp_ok {scope sc : Scope} {env : Env} {x : Str} (he : env.scope = sc) (hk : scope.kind = .function) (h : okComp scope sc x = true) : CompScope scope env x := by
  unfold okComp at h
  rw [Bool.and_eq_true, List.all_eq_true] at h
  refine ⟨hk, fun y hy q => ?_, fun y hy q => ?_, ?_, fun y hy q => ?_⟩
  · have := h.2 y hy; rw [q] at this; cases this
  · have := h.2 y hy; rw [q] at this
    revert this; dsimp only; split <;> simp_all
  · have := h.1
    revert this; split <;> simp_all
  · have := h.2 y hy; rw [q] at this
    refine kd he ?_
    revert this; dsimp only; split <;> simp_all
theorem sizeLine_is : sizeLine = 16777216 := rfl
theorem stillAll_ints : ∀ ns : List Int, stillAll (ns.map .int) = true
  | [] => rfl
  | _ :: ns => by simp [stillAll, still, stillAll_ints ns]
theorem Ends.str {l l' : List Nat} {Γ : Gm} (h : l' = l) : Ends (.str (mkS l)) (.ret (.str (mkS l'))) Γ := by subst h; rfl
section
variable {T : St} {n : Nat} {env : Env} {Γ : Gm}
inductive Fst : List (Vl × Fl) → List Vl → Prop where
  | nil : Fst [] []
  | cons {v : Vl} {fl : Fl} {xs : List (Vl × Fl)} {ys : List Vl} : Fst xs ys → Fst ((v, fl) :: xs) (v :: ys)
theorem Fst.eq {xs : List (Vl × Fl)} {ys : List Vl} (h : Fst xs ys) : xs.map (·.1) = ys := by
  induction h with
  | nil => rfl
  | cons _ ih => simp [ih]
theorem EvF.fnL {m : Nat} {f : Str} {p pos : Pos} {args : List PySem.Expr} {xs : List (Vl × Fl)} {ys : List Vl} {d : PyData} (hx : env.kindOf f = some .globalImplicit) (hd : (f == ("__debug__" : Str)) = false)
    (ha : EvA T n env Γ args xs) (hf : Fst xs ys) (hc : Fun T m f ys d) (hm : m ≤ n) : EvF T n env Γ (.Call (.Name f p) args [] pos) d := by
  have e := hf.eq
  subst e; exact EvF.fn hx hd ha hc hm
noncomputable def EvL (T : St) (n : Nat) (env : Env) (Γ : Gm) (es : List PySem.Expr) (ds : List PyData) : Prop := EvA T n env Γ es (ds.map fun d => (.d d, .c))
theorem EvL.nil : EvL T n env Γ [] [] := EvA.nil
theorem EvL.cons {e : PySem.Expr} {es : List PySem.Expr} {d : PyData} {ds : List PyData} (x : Ev T n env Γ e (.d d) .c) (y : EvL T n env Γ es ds) (hs : starEach (e :: es) env = (false, eval e env) :: starEach es env) : EvL T n env Γ (e :: es) (d :: ds) := EvA.cons x y hs
theorem EvF.listL {es : List PySem.Expr} {pos : Pos} {ds : List PyData} (ha : EvL T n env Γ es ds) (hz : ds.length ≤ sizeLine) : EvF T n env Γ (.List es pos) (.list ds) := EvF.list ha hz
theorem EvF.tupleL {es : List PySem.Expr} {k : Nat} {pos : Pos} {ds : List PyData} (ha : EvL T n env Γ es ds) (hz : ds.length ≤ sizeLine) : EvF T n env Γ (.Tuple es k pos) (.tuple ds) := EvF.tuple ha hz
end

end Mine
end
section
open PySem PySem.Calls PyProof.Rows PySem.W
set_option linter.all false
namespace Mine
section
variable {T : St} {n : Nat} {env : Env} {Γ : Gm}
theorem Cmp.neD {a b : PyData} (ha : a.canLay0 = true) (hb : b.canLay0 = true) (hd : a.depth ≤ 50) : Cmp T n .NotEq (.d a) (.d b) (!PyData.eqv a b) := ⟨fun {A R₁ R₂ s E Q x y} hA W r₁ r₂ h => by
  obtain ⟨as, q1, _⟩ := r₁
  obtain ⟨bs, q2, _⟩ := r₂
  exact PySem.SeqAt.compareNe_reads q1 q2 ha hb (by have := hA.units; omega) (h _ (.refl _))⟩
theorem CallB.listL {xs : List PyData} {fl : Fl} (hz : xs.length ≤ sizeLine) (hc : fl = .c ∨ stillAll xs = true) : CallB T n (.type "list") [(.d (.list xs), fl)] (.list xs) := ⟨fun {A reg s E Q vals} hA R W r h => by
  cases r with
  | cons r1 r2 =>
    cases r2
    obtain ⟨a, vs, rfl, _, hl, hall⟩ := Rep.list_inv r1
    have hall : RepAll T.w (reg .c) s.heap vs xs := by
      rcases hc with rfl | hc
      · exact hall
      · exact hall.still hc
    obtain ⟨o, ho, hcl, k, hdat⟩ := hl
    refine call_list_seq a (.inl rfl) ho hcl hdat (fun h' c' hk hnew => ?_) (by rw [List.size_toArray, hall.length]; exact hz)
    exact h _ _ (.of ⟨h', s.toks, rfl, hk⟩) (repF_list (N := T.N) (fun b hb => R.fresh .c b hb) (Heap.get?_none_of_le (Nat.le_refl _)) hnew rfl rfl rfl hall (.of hk))⟩
end
end Mine
end
section
open PySem PySem.W PyProof.Rows
set_option linter.all false
namespace Mine
theorem pyCut_ab {α : Type} (l : List α) (a b : Int) (ha : 0 ≤ a) (hb : 0 ≤ b) : pyCut (some a) (some b) l = (l.drop a.toNat).take (b.toNat - a.toNat) := by
  unfold pyCut clampTo
  simp only [show ¬ a < 0 by omega, show ¬ b < 0 by omega, if_false]
  by_cases hk : a.toNat ≤ l.length
  · rw [show min a.toNat l.length = a.toNat by omega]
    by_cases hb' : b.toNat ≤ l.length
    · rw [show min b.toNat l.length = b.toNat by omega]
    · rw [show min b.toNat l.length = l.length by omega, List.take_of_length_le (by simp), List.take_of_length_le (by simp; omega)]
  · rw [show min a.toNat l.length = l.length by omega, List.drop_eq_nil_of_le (Nat.le_refl _), List.drop_eq_nil_of_le (by omega)]
    simp
theorem pyCut_from {α : Type} (l : List α) (a : Int) (ha : 0 ≤ a) : pyCut (some a) none l = l.drop a.toNat := by
  unfold pyCut clampTo
  simp only [show ¬ a < 0 by omega, if_false]
  by_cases hk : a.toNat ≤ l.length
  · rw [show min a.toNat l.length = a.toNat by omega, List.take_of_length_le (by simp)]
  · rw [show min a.toNat l.length = l.length by omega, List.drop_eq_nil_of_le (Nat.le_refl _), List.drop_eq_nil_of_le (by omega)]
    simp
theorem of_item (ns : List Int) (k : Int) (h : 0 ≤ k) : (pyCut (some k) (some (k + 1)) (ns.map PyData.int) ++ [PyData.int 0])[Int.toNat 0]? = some (.int (ns.getD k.toNat 0)) := by
  rw [pyCut_ab _ _ _ h (by omega), show (k + 1).toNat - k.toNat = 1 by omega]
  rw [show Int.toNat 0 = 0 from rfl]
  by_cases hk : k.toNat < ns.length
  · rw [List.drop_eq_getElem_cons (by simpa using hk)]
    simp [List.getD, hk]
  · rw [List.drop_eq_nil_of_le (by simpa using Nat.le_of_not_lt hk)]
    simp [List.getD, List.getElem?_eq_none (Nat.le_of_not_lt hk)]

noncomputable def sgn (i : Nat) : Nat := if i < 5 then i + 32 else i + 33
noncomputable def signsL : List Nat := (List.range 94).map sgn
theorem signsL_len : signsL.length = 94 := by decide +kernel
theorem signsL_at {i : Nat} (h : i < 94) : signsL[i]? = some (sgn i) := by simp [signsL, h]

noncomputable def oddL : List (List Nat) := [[46], [46, 46], [126], [47], [64], [64, 97], [97], [98], [46, 46, 46], [46, 97], [126, 49, 51], [97, 47, 98], [32], [46, 46, 97]]
noncomputable def nmS (c : Int) (k : Nat) : Nat := sgn (((c / 12 + 7 * (k : Int)) * 48271 % 65537 / 5 % 94).toNat)
noncomputable def nmSize (c : Int) : Int := if c / 12 % 9 = 4 then 1 + c / 3 % 4 + c / 108 % 40 else 1 + c / 3 % 4
noncomputable def nameBy (c : Int) : List Nat := if c % 3 = 0 then oddL.getD (c / 3 % 14).toNat [] else (List.range (nmSize c).toNat).map (nmS c)
theorem nmSize_le (c : Int) : 0 ≤ nmSize c ∧ nmSize c ≤ 43 := by
  unfold nmSize; split <;> omega
theorem nameBy_len (c : Int) : (nameBy c).length ≤ 43 := by
  unfold nameBy
  split
  · have h : (c / 3 % 14).toNat < 14 := by omega
    generalize (c / 3 % 14).toNat = k at h
    revert k
    decide +kernel
  · simp only [List.length_map, List.length_range, nmSize]
    split <;> omega
end Mine
end
section
open PySem PySem.W PyProof.Rows
set_option linter.all false
namespace Mine
end Mine
end
section
namespace Mine
noncomputable def splitC (c : Nat) : List Nat → List (List Nat)
  | [] => [[]]
  | x :: r => if x = c then [] :: splitC c r else (x :: (splitC c r).headD []) :: (splitC c r).tail
theorem splitC_ne (c : Nat) : ∀ l, splitC c l ≠ []
  | [] => by simp [splitC]
  | x :: r => by unfold splitC; split <;> simp
theorem icat_cons (s : List Nat) (x y : List Nat) (r : List (List Nat)) : List.intercalate s (x :: y :: r) = x ++ s ++ List.intercalate s (y :: r) := by
  simp [List.intercalate]
theorem icat_single (s : List Nat) (x : List Nat) : List.intercalate s [x] = x := by simp [List.intercalate]
theorem splitC_app (c : Nat) : ∀ (p l : List Nat), c ∉ p → splitC c (p ++ c :: l) = p :: splitC c l
  | [], l, _ => by rw [List.nil_append, splitC, if_pos rfl]
  | x :: p, l, h => by
    simp only [List.mem_cons, not_or] at h
    rw [List.cons_append, splitC, if_neg (fun e => h.1 e.symm), splitC_app c p l h.2]
    rfl
theorem splitC_one (c : Nat) : ∀ (p : List Nat), c ∉ p → splitC c p = [p]
  | [], _ => rfl
  | x :: p, h => by
    simp only [List.mem_cons, not_or] at h
    rw [splitC, if_neg (fun e => h.1 e.symm), splitC_one c p h.2]
    rfl
theorem icat_splitC (c : Nat) : ∀ (ps : List (List Nat)), ps ≠ [] → (∀ p ∈ ps, c ∉ p) → splitC c (List.intercalate [c] ps) = ps
  | [], h, _ => absurd rfl h
  | [p], _, h => by rw [icat_single, splitC_one c p (h p (.head _))]
  | p :: q :: r, _, h => by
    rw [icat_cons, List.append_assoc, List.singleton_append, splitC_app c p _ (h p (.head _)), icat_splitC c (q :: r) (by simp) fun x hx => h x (.tail _ hx)]

noncomputable def isDig (c : Nat) : Bool := decide (48 ≤ c) && decide (c ≤ 57)
noncomputable def val2 (p q : Nat) : Nat := 10 * (p - 48) + (q - 48)
noncomputable def readL : List Nat → Option (List Nat)
  | [] => some []
  | [c] => if c = 126 then none else some [c]
  | [c, d] => if c = 126 then none else (readL [d]).map (c :: ·)
  | c :: p :: q :: r => if c = 126 then (if isDig p && isDig q && decide (val2 p q ≤ 93) then (readL r).map (sgn (val2 p q) :: ·) else none) else (readL (p :: q :: r)).map (c :: ·)
theorem readL_plain {c : Nat} (h : c ≠ 126) (r : List Nat) : readL (c :: r) = (readL r).map (c :: ·) := by
  match r with
  | [] => simp [readL, h]
  | [d] => simp only [readL, if_neg h]
  | p :: q :: r => simp only [readL, if_neg h]
theorem readL_esc {p q : Nat} (r : List Nat) (h1 : isDig p = true) (h2 : isDig q = true) (h3 : val2 p q ≤ 93) : readL (126 :: p :: q :: r) = (readL r).map (sgn (val2 p q) :: ·) := by
  simp [readL, h1, h2, h3]
theorem readL_bad {r : List Nat} (h : ∀ p q r', r = p :: q :: r' → isDig p = true → isDig q = true → ¬ val2 p q ≤ 93) : readL (126 :: r) = none := by
  match r with
  | [] => rfl
  | [d] => rfl
  | p :: q :: r =>
    have := h p q r rfl
    simp only [readL, if_true]
    split
    · rename_i hh
      simp only [Bool.and_eq_true, decide_eq_true_eq] at hh
      exact absurd hh.2 (this hh.1.1 hh.1.2)
    · rfl
theorem range_getD (nm : List Nat) : (List.range nm.length).map (nm.getD · 0) = nm := by
  apply List.ext_getElem
  · simp
  · intro i h1 h2
    simp [List.getD, h2]
inductive Stp where
  | root | up
  | sh (x : List Nat)
  | nm (x : List Nat)
noncomputable def go (P : List Nat → List (List Nat)) (p : List (List Nat)) : Stp → List (List Nat)
  | .root => []
  | .up => p.dropLast
  | .sh x => P x
  | .nm x => p ++ [x]
end Mine
end
section
open PySem PyProof.Rows PySem.W
set_option linter.all false
namespace Mine
noncomputable abbrev PL (ps : List (List Nat)) : List PyData := ps.map fun x => PyData.str (mkS x)
noncomputable def Asc (x : List Nat) : Prop := ∀ c ∈ x, c < 128
theorem strOk_asc {x : List Nat} (h : Asc x) : PyData.strOk (mkS x) = true := by
  unfold PyData.strOk
  rw [Array.all_eq_true_iff_forall_mem]
  intro c hc
  have hc' : c ∈ x := by simpa [mkS] using hc
  have := h c hc'
  simp
  omega
theorem beq_mkS (a b : List Nat) : (mkS a == mkS b) = decide (a = b) := by
  rw [Bool.eq_iff_iff]
  simp [mkS_inj]
theorem eqvAll_PL : ∀ a b : List (List Nat), PyData.eqvAll (PL a) (PL b) = decide (a = b)
  | [], [] => by simp [PyData.eqvAll]
  | [], _ :: _ => by simp [PyData.eqvAll]
  | _ :: _, [] => by simp [PyData.eqvAll]
  | x :: a, y :: b => by
    have ih := eqvAll_PL a b
    show (PyData.eqv (.str (mkS x)) (.str (mkS y)) && PyData.eqvAll (PL a) (PL b)) = _
    rw [ih]
    show ((mkS x == mkS y) && _) = _
    rw [beq_mkS]
    rw [Bool.eq_iff_iff]; simp
theorem canLay_PL : ∀ {a : List (List Nat)}, (∀ x ∈ a, Asc x) → PyData.canLayAll0 (PL a) = true
  | [], _ => rfl
  | x :: a, h => by
    show (PyData.strOk (mkS x) && PyData.canLayAll0 (PL a)) = true
    rw [strOk_asc (h x (.head _)), canLay_PL fun y hy => h y (.tail _ hy)]; rfl
theorem depth_PL : ∀ a : List (List Nat), PyData.depthAll (PL a) = 0
  | [] => rfl
  | x :: a => by
    show max 0 (PyData.depthAll (PL a)) = 0
    rw [depth_PL a]; rfl
theorem still_PL : ∀ a : List (List Nat), stillAll (PL a) = true
  | [] => rfl
  | x :: a => by simp [stillAll, still, still_PL a]
section
variable {T : St} {n : Nat} {env : Env} {Γ : Gm}
theorem Cmp.nePL {a b : List (List Nat)} (ha : ∀ x ∈ a, Asc x) (hb : ∀ x ∈ b, Asc x) : Cmp T n .NotEq (.d (.list (PL a))) (.d (.list (PL b))) (!decide (a = b)) := by
  rw [← eqvAll_PL]
  exact Cmp.neD (a := .list (PL a)) (b := .list (PL b)) (canLay_PL ha) (canLay_PL hb) (by show PyData.depthAll (PL a) + 1 ≤ 50; rw [depth_PL]; decide)
end
theorem sgn_lt {i : Nat} (h : i < 94) : sgn i < 128 := by unfold sgn; split <;> omega
theorem nameBy_ne (c : Int) : nameBy c ≠ [] := by
  unfold nameBy
  split
  · have h : (c / 3 % 14).toNat < 14 := by omega
    generalize (c / 3 % 14).toNat = k at h
    have key : ∀ k : Fin 14, oddL.getD k.val [] ≠ [] := by decide +kernel
    exact key ⟨k, h⟩
  · intro e
    have := congrArg List.length e
    simp only [List.length_map, List.length_range, List.length_nil] at this
    unfold nmSize at this
    split at this <;> omega
end Mine
end
section
open PySem PySem.Calls PyProof.Rows PySem.W
set_option linter.all false
namespace Mine
theorem split_mkS (l : List Nat) (c : Nat) : Txt.split (mkS l) (mkS [c]) = (splitC c l).map mkS := by
  have hne : Txt.split (mkS l) (mkS [c]) ≠ [] := fun e => by have := (fact_split (mkS l) (mkS [c])).1; rw [e] at this; simp at this
  have hfree := StrLaws.split_free (mkS l) c
  have hj := StrLaws.join_split (mkS l) (mkS [c])
  have key : ∀ ps : List Str, ps = (ps.map fun p : Str => p.cps.toList).map mkS := fun ps => by
    rw [List.map_map]; exact (List.map_id' ps).symm
  have hfree' : ∀ p ∈ Txt.split (mkS l) (mkS [c]), c ∉ p.cps.toList := hfree
  generalize Txt.split (mkS l) (mkS [c]) = ps at hne hfree' hj
  have hj' : List.intercalate [c] (ps.map fun p : Str => p.cps.toList) = l := by
    rw [key ps, join_mkS] at hj
    exact mkS_inj.mp hj
  rw [key ps, ← hj', icat_splitC c _ (by simpa using hne)]
  intro p hp
  obtain ⟨q, hq, rfl⟩ := List.mem_map.mp hp
  exact hfree' q hq
theorem strs_rep {w : World} {R : Addr → Prop} {h : Heap} : ∀ (tk : Nat) (xs : List (List Nat)), RepAll w R h (strsFrom tk (xs.map mkS)) (xs.map fun x => .str (mkS x))
  | _, [] => RepAll.nil
  | tk, x :: xs => RepAll.cons (rep_str ..) (strs_rep (tk + 1) xs)
theorem splitC_len (c : Nat) : ∀ l, (splitC c l).length ≤ l.length + 1
  | [] => by simp [splitC]
  | x :: r => by
    have := splitC_len c r
    unfold splitC
    split
    · simp; omega
    · simp; omega
section
variable {T : St} {n : Nat} {env : Env} {Γ Γ' : Gm}
theorem Meth.split {l : List Nat} {c : Nat} {fl f₂ : Fl} (hz : l.length < sizeLine) : Meth T n "split" (.d (.str (mkS l))) fl [(.d (.str (mkS [c])), f₂)] (.list ((splitC c l).map fun x => .str (mkS x))) := ⟨fun {A reg s E Q ov} hA r => by
  obtain ⟨t, rfl⟩ := Rep.str_inv r
  refine ⟨"str", "str.split", F.plainAttrs_str, F.slot_str_split, F.type_str_split, typeIs_str _ _ _, fun _ e => (nomatch e), fun s₁ vals k R W rs h => ?_⟩
  cases rs with
  | cons r1 r2 =>
    cases r2
    obtain ⟨u, rfl⟩ := Rep.str_inv r1
    have hsp := split_mkS l c
    have hlen := splitC_len c l
    unfold Txt.split at hsp
    have one : (splitC c l).map mkS = [mkS l] → Q (.ref s₁.heap.objs.size) { s₁ with heap := s₁.heap.push { cls := .type "list", data := .seq [Value.str (mkS l) t].toArray } } := fun e => by
      have e' : splitC c l = [l] := by
        cases hq : splitC c l with
        | nil => exact absurd hq (splitC_ne c l)
        | cons a b =>
          rw [hq] at e
          simp only [List.map_cons, List.cons.injEq, List.map_eq_nil_iff, mkS_inj] at e
          rw [e.1, e.2]
      rw [e'] at h
      exact h _ _ (.push _ _) (repF_listP (fun b => R.fresh .c b) (RepAll.cons (rep_str ..) RepAll.nil))
    cases h1 : (decide ((mkS l).length < (mkS [c]).length) || decide (Builtin.Str.strKind (mkS l) < Builtin.Str.strKind (mkS [c]))) with
    | true =>
      rw [h1] at hsp
      exact call_meets F.slot_str_split (typeIs_str _ _ _) F.entry_str_split (F.args_str_split_2 _ _) (meets_str_split_cannot_occur _ _ t u h1) (one hsp.symm)
    | false =>
      rw [h1] at hsp
      cases hf : (Builtin.Str.occurrences (mkS l) (mkS [c]) 0 (mkS l).length ((mkS l).length + 1)).isEmpty with
      | true =>
        rw [hf] at hsp
        exact call_meets F.slot_str_split (typeIs_str _ _ _) F.entry_str_split (F.args_str_split_2 _ _) (meets_str_split_not_found _ _ t u h1 rfl hf) (one hsp.symm)
      | false =>
        rw [hf] at hsp
        simp only [Bool.false_eq_true, if_false] at hsp
        refine call_meets F.slot_str_split (typeIs_str _ _ _) F.entry_str_split (F.args_str_split_2 _ _) (meets_str_split_sep _ _ t u h1 rfl hf (by rw [mkS_len]; omega) ?_) ?_
        · rw [hsp, List.length_map]; omega
        · rw [hsp]
          exact h _ _ (.mk ((KpH.refl _).push _)) (repF_listP (s := { s₁ with toks := _ }) (fun b => R.fresh .c b) (strs_rep _ _))⟩
theorem startswith_one (l : List Nat) (c : Nat) : Txt.startswith (mkS l) (mkS [c]) = decide (l[0]? = some c) := by
  have : Txt.startswith (mkS l) (mkS [c]) = (decide (0 + (mkS [c]).length ≤ (mkS l).length) && Builtin.Str.subAt (mkS l) (mkS [c]) 0) := rfl
  rw [this, StrLaws.subAt_eq, mkS_len, mkS_len, mkS_cps, mkS_cps]
  cases l with
  | nil => simp
  | cons x r =>
    simp
    rw [Bool.eq_iff_iff]; simp
theorem Meth.startswith {l : List Nat} {c : Nat} {fl f₂ : Fl} : Meth T n "startswith" (.d (.str (mkS l))) fl [(.d (.str (mkS [c])), f₂)] (.bool (decide (l[0]? = some c))) := ⟨fun {A reg s E Q ov} hA r => by
  obtain ⟨t, rfl⟩ := Rep.str_inv r
  refine ⟨"str", "str.startswith", F.plainAttrs_str, F.slot_str_startswith, F.type_str_startswith, typeIs_str _ _ _, fun _ e => (nomatch e), fun s₁ vals k R W rs h => ?_⟩
  cases rs with
  | cons r1 r2 =>
    cases r2
    obtain ⟨u, rfl⟩ := Rep.str_inv r1
    refine SC.startswith ?_
    rw [startswith_one]
    exact h _ _ (.refl _) (repF_bool _)⟩
theorem EvF.dict0 {pos : Pos} : EvF T n env Γ (.Dict [] [] pos) (.dict []) := ⟨fun {A reg s E Q} hA R h => by
  refine wpAny_Dict_empty (h _ _ (.push _ _) ⟨[s.heap.objs.size], ?_, fun a ha => ?_, fun a ha => ?_, ?_⟩)
  · exact Reads.dict (as := []) (bs := []) (Heap.get?_push_size _ rfl) rfl rfl .nil .nil
  · rw [List.mem_singleton.mp ha]; exact R.regs.fresh .c _ (Heap.get?_none_of_le (Nat.le_refl _))
  · rw [List.mem_singleton.mp ha]
    refine ⟨_, Heap.get?_push_size _ rfl, fun es k e => ⟨?_, ⟨rfl, rfl, rfl⟩, fun x hx => by cases e; cases hx⟩⟩
    obtain ⟨mc, ⟨o, _, _, ho, _⟩, _⟩ := R.wd.lim
    have : cStatics < s.heap.objs.size := Heap.lt_size ho
    exact Ne.symm (Nat.ne_of_lt (Nat.lt_trans (by decide : sysModules < cStatics) this))
  · exact ⟨_, [], rfl, rfl, Heap.get?_none_of_le (Nat.le_refl _), fun h => (nomatch h), _, Heap.get?_push_size _ rfl, rfl⟩⟩
end
end Mine
end
section
open PySem PySem.Calls PyProof.Rows PySem.W
set_option linter.all false
namespace Mine
section
variable {T : St} {s₀ s : Shared} {d₀ : Addr → Prop} {env : Env} {own : Own} {Γ Γ' : Gm}
theorem SI.mutateG {x g : Str} {a : Addr} {v v' : Vl} {fl fl' : Fl} {h' : Heap} {o' : Obj} (S : SI T s₀ d₀ env own Γ s) (hm : (x, some (v, fl)) ∈ Γ) (hx : own g = some a) (hgx : g = x ∨ (env.kindOf g = none ∧ ∀ y v z, (y, some (v, .s z)) ∈ Γ → y = x))
    (hp : Put Γ x (some (v', fl')) Γ') (hs : Heap.SameBut a s.heap h')
    (ho' : h'.get? a = some o') (hok : (o'.dict = none ∧ ∀ vs, o'.data ≠ .fields vs) ∧ o'.cls ≠ .type "tuple" ∧ o'.cls ≠ .type "frame")
    (hrep : ∀ val, SlotRep T d₀ env own s.heap x val v fl → SlotRep T d₀ env own h' x val v' fl') :
    SI T s₀ d₀ env own Γ' { s with heap := h' } ∧ Pres T.N env own s { s with heap := h' } := by
  obtain ⟨m, cm, F, hn⟩ := S.frm
  obtain ⟨h1, h2, h3, o, h4, h5, h6, h7⟩ := S.ownNew g a hx
  have F' := F.but hs h1 (Ne.symm h2) (fun y c hc q => h3 y c hc q.symm)
  have chg : ChgH T.N (· = a) s.heap h' := ChgH.of_but hs
  have ntup : ∀ z, z = a → NotTup s.heap z := fun z hz => May.notTup S z (.inr (.inr ⟨g, hz ▸ hx⟩))
  have real : ∀ {y : Str} {u : Vl} {f : Fl}, (y, some (u, f)) ∈ Γ → y ≠ x → y ≠ g := fun {y u f} hy hyx q => by
    rcases hgx with e | ⟨e, _⟩
    · exact hyx (q.trans e)
    · obtain ⟨val', l', _⟩ := hn y _ _ hy
      rw [q] at l'
      rcases l' with ⟨k, _⟩ | ⟨k, _⟩ <;> rw [e] at k <;> cases k
  refine ⟨⟨S.eok, S.cok, by rw [hp.names]; exact S.ok, S.wd0, S.d0, fun y b e => ?_, S.ownInj, m, cm, F', fun y v fl hm' => ?_⟩, ⟨⟨_, _, rfl⟩, chg.mono fun b hb => .inr (.inr ⟨g, by rw [show b = a from hb]; exact hx⟩), fun b e => ?_⟩⟩
  · obtain ⟨g1, g2, g3, o1, g4, g5, g6, g7⟩ := S.ownNew y b e
    by_cases hb : b = a
    · subst hb; exact ⟨g1, g2, g3, o', ho', hok⟩
    · exact ⟨g1, g2, g3, o1, (hs.2 b hb).trans g4, g5, g6, g7⟩
  · rcases hp.cases S.ok.nodup y _ hm' with ⟨rfl, e⟩ | ⟨hyx, hm''⟩
    · cases e
      obtain ⟨val, l, r⟩ := hn _ _ _ hm
      exact ⟨val, l, hrep val r⟩
    · obtain ⟨val, l, r⟩ := hn y v fl hm''
      refine ⟨val, l, ?_⟩
      cases fl with
      | c => exact RepV.chg r chg ntup fun b hb q => hb.2.2.2 g (by rw [show b = a from q]; exact hx)
      | b => exact RepV.chg r chg ntup fun b hb q => hb.2.2 g (by rw [show b = a from q]; exact hx)
      | o =>
        obtain ⟨d1, a1, as1, e1, e2, e3, e4, e5, e6⟩ := r
        have hna : ∀ b ∈ a1 :: as1, ¬ b = a := fun b hb q => by
          rcases List.mem_cons.mp hb with rfl | hb
          · exact real hm'' hyx (S.ownInj y g a (q ▸ e3) hx)
          · exact (e5 b hb).2.2.2 g (q ▸ hx)
        exact ⟨d1, a1, as1, e1, e2, e3, reads_chg chg ntup e4 hna, e5, e6.chg chg hna⟩
      | s z' =>
        refine InstOwn.chg r chg ntup (fun b hb _ => ⟨hb, fun q => hb.2.2.2 g (by rw [show b = a from q]; exact hx)⟩) (fun z b q hz => ⟨q, fun e => ?_⟩)
        have hzx := S.ownInj z g a (by rw [← show b = a from e]; exact q) hx
        rcases hz with rfl | hz
        · exact real hm'' hyx hzx
        · rcases hgx with e' | ⟨_, e'⟩
          · obtain ⟨val', l', _⟩ := hn x _ _ hm
            rw [hzx, e'] at hz
            rcases l' with ⟨k, _⟩ | ⟨k, _⟩ <;> rw [hz] at k <;> cases k
          · exact hyx (e' y v z' hm'')
  · by_cases hb : b = a
    · subst hb
      have e' : h'.get? b = none := e
      rw [ho'] at e'; cases e'
    · exact (hs.2 b hb).symm.trans e
theorem SI.mutate {x : Str} {a : Addr} {d d' : PyData} {h' : Heap} {o' : Obj} (S : SI T s₀ d₀ env own Γ s) (hm : (x, some (.d d, .o)) ∈ Γ) (hx : own x = some a) (hp : Put Γ x (some (.d d', .o)) Γ') (hs : Heap.SameBut a s.heap h')
    (ho' : h'.get? a = some o') (hok : (o'.dict = none ∧ ∀ vs, o'.data ≠ .fields vs) ∧ o'.cls ≠ .type "tuple" ∧ o'.cls ≠ .type "frame")
    (hrep : ∃ as, Reads h' (.ref a) d' (a :: as) ∧ (∀ b ∈ as, regOf d₀ env own .c b) ∧ Dok T.w h' (a :: as)) :
    SI T s₀ d₀ env own Γ' { s with heap := h' } ∧ Pres T.N env own s { s with heap := h' } :=
  S.mutateG hm hx (.inl rfl) hp hs ho' hok fun val ⟨dd, a', as, e1, e2, e3, _⟩ => by
    rw [hx] at e3; cases e3
    obtain ⟨as', r1, r2, r3⟩ := hrep
    exact ⟨d', a, as', rfl, e2, hx, by rw [e2]; exact r1, r2, r3⟩
theorem SI.freeze {x : Str} {d : PyData} (S : SI T s₀ d₀ env own Γ s) (hm : (x, some (.d d, .o)) ∈ Γ) (hp : Put Γ x (some (.d d, .c)) Γ') : SI T s₀ d₀ env (fun y => if y = x then none else own y) Γ' s := by
  obtain ⟨m, cm, F, hn⟩ := S.frm
  have sub : ∀ y a, (if y = x then none else own y) = some a → y ≠ x ∧ own y = some a := fun y a e => by
    by_cases hy : y = x
    · simp [hy] at e
    · rw [if_neg hy] at e; exact ⟨hy, e⟩
  have up : ∀ fl a, regOf d₀ env own fl a → regOf d₀ env (fun y => if y = x then none else own y) fl a := regOf_le (fun a ha y q => ha y (sub y a q).2)
  refine ⟨S.eok, S.cok, by rw [hp.names]; exact S.ok, S.wd0, S.d0, fun y b e => S.ownNew y b (sub y b e).2, fun y z b e1 e2 => S.ownInj y z b (sub y b e1).2 (sub z b e2).2, m, cm, F, fun y v fl hm' => ?_⟩
  rcases hp.cases S.ok.nodup y _ hm' with ⟨rfl, e⟩ | ⟨hyx, hm''⟩
  · cases e
    obtain ⟨val, l, dd, a, as, e1, e2, e3, e4, e5, e6⟩ := hn _ _ _ hm
    cases e1
    refine ⟨val, l, a :: as, e4, fun b hb => ?_, e6⟩
    rcases List.mem_cons.mp hb with rfl | hb
    · obtain ⟨h1, h2, h3, _⟩ := S.ownNew _ _ e3
      exact ⟨fun hd => S.d0 _ hd h1, h2, h3, fun z q => (sub z _ q).1 (S.ownInj z _ _ (sub z _ q).2 e3)⟩
    · exact up .c b (e5 b hb)
  · obtain ⟨val, l, r⟩ := hn y v fl hm''
    refine ⟨val, l, ?_⟩
    cases fl with
    | c => exact RepV.mono r (up .c)
    | b => exact RepV.mono r (up .b)
    | o =>
      obtain ⟨d1, a1, as1, e1, e2, e3, e4, e5, e6⟩ := r
      exact ⟨d1, a1, as1, e1, e2, by simp only [if_neg hyx]; exact e3, e4, fun b hb => up .c b (e5 b hb), e6⟩
    | s z' =>
      refine InstOwn.chg (X := fun _ => False) r (.of_kp (.refl _ : KpH 0 _ _)) (fun _ q => q.elim) (fun b hb _ => ⟨up .c b hb, id⟩) (fun z b q hz => ⟨?_, id⟩)
      have hzx : z ≠ x := by
        rcases hz with rfl | hz
        · exact hyx
        · obtain ⟨val', l', _⟩ := hn x _ _ hm
          rintro rfl
          rcases l' with ⟨k, _⟩ | ⟨k, _⟩ <;> rw [hz] at k <;> cases k
      simp only [if_neg hzx]; exact q
end
section
variable {T : St} {n : Nat} {env : Env} {Γ Γ' : Gm} {Q : Fw → Gm → Prop}
theorem EvF.neg {e : PySem.Expr} {i : Int} {pos : Pos} {fl : Fl} (x : Ev T n env Γ e (.d (.int i)) fl) : EvF T n env Γ (.UnaryOp .USub e pos) (.int (-i)) := ⟨fun hA R h =>
  UnaryOp_ (x.run hA R fun val s₁ k₁ r₁ => by
    obtain ⟨t, rfl⟩ := Rep.int_inv r₁
    exact PyProof.Rows.neg_int (h _ _ (k₁.trans (.tok _ _)) (repF_int ..)))⟩
theorem Ex.freeze {x : Str} {d : PyData} {ss : List Stmt} (hm : (x, some (.d d, .o)) ∈ Γ) (hp : Put Γ x (some (.d d, .c)) Γ') (h : Ex T n env Γ' ss Q) : Ex T n env Γ ss Q := ⟨fun {A s₀ d₀ own s E QQ} hA S hq hx => by
  have sub : ∀ y a, (if y = x then none else own y) = some a → own y = some a := fun y a e => by
    by_cases hy : y = x
    · simp [hy] at e
    · rw [if_neg hy] at e; exact e
  have hP : ∀ {s'}, Pres T.N env (fun y => if y = x then none else own y) s s' → Pres T.N env own s s' := fun p =>
    ⟨p.1, p.2.1.mono fun b hb => hb.elim .inl fun hb => .inr (hb.elim .inl fun ⟨y, q⟩ => .inr ⟨y, sub y b q⟩), p.2.2⟩
  have hO : ∀ {own'}, OwnLe (fun y => if y = x then none else own y) own' s → OwnLe own own' s := fun o y a e => (o y a e).elim (fun ⟨z, q⟩ => .inl ⟨z, sub z a q⟩) .inr
  exact h.run hA (S.freeze hm hp) (fun f f' s' Γ'' own'' S'' p o fr q => hq f f' s' Γ'' own'' S'' (hP p) (hO o) fr q) fun k e s' Γ'' own'' S'' p o er q => hx k e s' Γ'' own'' S'' (hP p) (hO o) er q⟩
theorem own_list {s₀ s : Shared} {d₀ : Addr → Prop} {own : Own} {x : Str} {xs : List PyData} (S : SI T s₀ d₀ env own Γ s) (hm : (x, some (.d (.list xs), .o)) ∈ Γ) :
    ∃ a vs o k, NameIs env s.heap x (.ref a) ∧ own x = some a ∧ s.heap.get? a = some o ∧ o.cls = .type "list" ∧ o.dict = none ∧ o.data = .seq (List.toArray vs) k ∧ RepAll T.w (regOf d₀ env own .c) s.heap vs xs := by
  obtain ⟨m, cm, F, hn⟩ := S.frm
  obtain ⟨val, l, dd, a, as, e1, e2, e3, e4, e5, e6⟩ := hn _ _ _ hm
  cases e1
  subst e2
  obtain ⟨h1, h2, h3, o, h4, h5, h6, h7⟩ := S.ownNew x a e3
  cases e4 with
  | @list _ o' vs k _ _ ho hc hd hall =>
    rw [h4] at ho; cases ho
    exact ⟨a, vs.toList, o, k, l.is F, e3, h4, hc, h5.1, by simpa using hd, as, hall, e5, fun b hb => e6 b (.tail _ hb)⟩
theorem SI.relist {s₀ s : Shared} {d₀ : Addr → Prop} {own : Own} {x : Str} {xs xs' : List PyData} {vs' : List Value} {a : Addr} {h' : Heap} {o' : Obj} {k' : Nat} (S : SI T s₀ d₀ env own Γ s) (hm : (x, some (.d (.list xs), .o)) ∈ Γ) (hx : own x = some a)
    (hp : Put Γ x (some (.d (.list xs'), .o)) Γ') (hs : Heap.SameBut a s.heap h') (ho' : h'.get? a = some o') (hc : o'.cls = .type "list") (hdi : o'.dict = none) (hd : o'.data = .seq (List.toArray vs') k')
    (hall : RepAll T.w (regOf d₀ env own .c) s.heap vs' xs') : SI T s₀ d₀ env own Γ' { s with heap := h' } ∧ Pres T.N env own s { s with heap := h' } := by
  have chg : ChgH T.N (· = a) s.heap h' := ChgH.of_but hs
  have ntup : ∀ z, z = a → NotTup s.heap z := fun z hz => May.notTup S z (.inr (.inr ⟨x, hz ▸ hx⟩))
  obtain ⟨as, r1, r2, r3⟩ := RepAll.chg hall chg ntup fun b hb q => hb.2.2.2 x (by rw [show b = a from q]; exact hx)
  refine S.mutate hm hx hp hs ho' ⟨⟨hdi, fun vs q => by rw [hd] at q; cases q⟩, by rw [hc]; simp, by rw [hc]; simp⟩ ⟨as, .list ho' hc hd (by simpa using r1), r2, fun b hb => ?_⟩
  rcases List.mem_cons.mp hb with rfl | hb
  · exact ⟨o', ho', fun es k q => by rw [hd] at q; cases q⟩
  · exact r3 b hb
theorem ld_name {A : Around} {E : Value → Shared → Prop} {s : Shared} {x : Str} {pos : Pos} {v : Value} {Q : Value → Shared → Prop} (hk : env.scope.kind = .function) (hv : NameIs env s.heap x v) (hd : (x == ("__debug__" : Str)) = false) (h : Q v s) : wpAny T.M A (eval (.Name x pos) env) Q E s := by
  rcases hv with ⟨k, m, hn, hv⟩ | ⟨k, c, hc, hv⟩
  · exact wpAny_Name (wpAny_loadName_local hk k hn hv h) hd
  · exact wpAny_Name (wpAny_loadName_cell hk k hc hv h) hd
theorem Ex1.append {x : Str} {p₁ p₂ p₃ p₄ : Pos} {e : PySem.Expr} {xs : List PyData} {d : PyData} (hm : (x, some (.d (.list xs), .o)) ∈ Γ) (he : Ev T n env Γ e (.d d) .c) (hp : Put Γ x (some (.d (.list (xs ++ [d])), .o)) Γ') (hz : xs.length ≤ sizeLine)
    (hbase : attributeBase (.Name x p₁) "append" env (eval (.Name x p₁) env) = eval (.Name x p₁) env) (hstar : starEach [e] env = [(false, eval e env)]) (hline : (p₂.endLine == p₃.line) = true)
    (hsw : swapsWith (.Call (.Attribute (.Name x p₁) "append" p₂) [e] [] p₃) none p₄.line env = pure false) (hq : Q .next Γ') :
    Ex1 T n env Γ (.Expr (.Call (.Attribute (.Name x p₁) "append" p₂) [e] [] p₃) p₄) Q := ⟨fun {A s₀ d₀ own s E QQ} hA S h hx => by
  have htr : backTo p₃ (starEach [e] env) = [(false, eval e env)] := by rw [hstar]; rfl
  refine wpAny_Expr (wpAny_Call_append hbase (by rw [htr]; rfl) hline htr ?_) (by unfold interactive; rw [S.eok.kind]; rfl) hsw
  obtain ⟨a, vs, o, k, l, hxa, ho, hc, hdi, hdat, hall⟩ := own_list S hm
  refine ld_name S.eok.kind l (S.ok.nodebug x (List.mem_map_of_mem (f := fun p : Str × Slot => p.1) hm)) ?_
  refine ⟨a, List.toArray vs, rfl, ⟨o, k, ho, hc, hdi, hdat⟩, he.run hA S.rd fun y s₂ k₂ r₂ => ?_⟩
  have S₂ := S.kp k₂
  have ho₂ := k₂.h.get ho (by rw [hc]; simp)
  refine list_append_plainL ⟨o, k, ho₂, hc, hdi, hdat⟩ (fun h' hl' hs => ?_) (by rw [List.size_toArray, hall.length]; exact hz)
  obtain ⟨o', k', g1, g2, g3, g4⟩ := hl'
  obtain ⟨S', P'⟩ := S₂.relist hm hxa hp hs g1 g2 g3 (by simpa using g4) ((hall.keeps k₂.h).snoc r₂)
  exact h _ .next _ Γ' own S' ((Pres.of_kp k₂).trans (.refl _ _) P') (.refl _ _) trivial hq⟩
end
end Mine
end
section
open PySem PyProof.Rows PySem.W
set_option linter.all false
namespace Mine
noncomputable def kRoot : List Nat := (Str.ofString "root").cps.toList
noncomputable def kUp : List Nat := (Str.ofString "up").cps.toList
noncomputable def kSh : List Nat := (Str.ofString "share").cps.toList
noncomputable def kNm : List Nat := (Str.ofString "name").cps.toList
noncomputable def stD : Stp → PyData
  | .root => .tuple [.str (mkS kRoot)]
  | .up => .tuple [.str (mkS kUp)]
  | .sh x => .tuple [.str (mkS kSh), .str (mkS x)]
  | .nm x => .tuple [.str (mkS kNm), .str (mkS x)]
theorem still_st (s : Stp) : still (stD s) = true := by cases s <;> rfl
theorem still_sts : ∀ ss : List Stp, stillAll (ss.map stD) = true
  | [] => rfl
  | s :: ss => by simp [stillAll, still_st, still_sts ss]
theorem cut_last {α : Type} (l : List α) : pyCut none (some (-1)) l = l.dropLast := by
  unfold pyCut clampTo
  simp only [show (-1 : Int) < 0 by omega, if_true, List.drop_zero, Nat.sub_zero]
  rw [List.dropLast_eq_take]
  congr 1
  omega
theorem cut_head (l : List Nat) : pyCut none (some 1) l = l.take 1 := by
  unfold pyCut clampTo
  simp only [show ¬ (1 : Int) < 0 by omega, if_false, List.drop_zero, Nat.sub_zero]
  by_cases h : 1 ≤ l.length
  · rw [show min (Int.toNat 1) l.length = 1 by simp; omega]
  · rw [List.take_of_length_le (by omega), List.take_of_length_le (by omega)]
theorem sum_le {B : Nat} : ∀ xs : List (List Nat), (∀ x ∈ xs, x.length ≤ B) → (xs.map (·.length)).sum ≤ xs.length * B
  | [], _ => by simp
  | x :: xs, h => by
    have h1 := h x (.head _)
    have h2 := sum_le xs fun y hy => h y (.tail _ hy)
    simp only [List.map_cons, List.sum_cons, List.length_cons, Nat.add_mul, Nat.one_mul]
    omega
theorem icat_len (xs : List (List Nat)) : (List.intercalate [47] xs).length ≤ (xs.map (·.length)).sum + xs.length := by
  match xs with
  | [] => simp [List.intercalate]
  | [x] => rw [icat_single]; simp
  | x :: y :: r =>
    have := icat_len (y :: r)
    rw [icat_cons]
    simp only [List.length_append, List.map_cons, List.sum_cons, List.length_cons, List.length_nil] at this ⊢
    omega
theorem digits_is (c : Nat) : decide (c ∈ (Str.ofString "0123456789").cps.toList) = isDig c := by
  have : (Str.ofString "0123456789").cps.toList = List.range' 48 10 := by decide +kernel
  rw [this, Bool.eq_iff_iff]
  simp only [isDig, Bool.and_eq_true, decide_eq_true_eq, List.mem_range'_1]
  omega
end Mine
end
section
open PySem PyProof.Rows PySem.W
set_option linter.all false
namespace Mine
noncomputable def IsSgn (c : Nat) : Prop := ∃ i, i < 94 ∧ c = sgn i
noncomputable def idx (c : Nat) : Nat := if c < 37 then c - 32 else c - 33
theorem idx_sgn {i : Nat} (h : i < 94) : idx (sgn i) = i := by
  unfold idx sgn; split <;> split <;> omega
noncomputable def escG (c : Nat) : List Nat := [126, 48 + idx c / 10, 48 + idx c % 10]
theorem signs_at {c : Nat} (h : IsSgn c) : idx c < 94 ∧ signsL[idx c]? = some c ∧ ∀ k, k < idx c → signsL[k]? ≠ some c := by
  obtain ⟨i, hi, rfl⟩ := h
  rw [idx_sgn hi]
  refine ⟨hi, signsL_at hi, fun k hk e => ?_⟩
  rw [signsL_at (by omega)] at e
  have := congrArg idx (Option.some.inj e)
  rw [idx_sgn (by omega), idx_sgn hi] at this
  omega
theorem decS_one {i : Int} (h0 : 0 ≤ i) (h1 : i < 10) : decS i = [48 + i.toNat] := by
  have h : ∀ k : Fin 10, decS (k.val : Int) = [48 + k.val] := by decide +kernel
  have := h ⟨i.toNat, by omega⟩
  rwa [show ((i.toNat : Nat) : Int) = i by omega] at this
theorem readL_escG {c : Nat} (h : IsSgn c) (r : List Nat) : readL (escG c ++ r) = (readL r).map (c :: ·) := by
  have h1 := (signs_at h).1
  obtain ⟨i, hi, rfl⟩ := h
  rw [idx_sgn hi] at h1
  have e : val2 (48 + idx (sgn i) / 10) (48 + idx (sgn i) % 10) = i := by rw [idx_sgn hi]; unfold val2; omega
  have := readL_esc (p := 48 + idx (sgn i) / 10) (q := 48 + idx (sgn i) % 10) r (by simp only [isDig, Bool.and_eq_true, decide_eq_true_eq]; rw [idx_sgn hi]; omega) (by simp only [isDig, Bool.and_eq_true, decide_eq_true_eq]; rw [idx_sgn hi]; omega) (by rw [e]; omega)
  rw [e] at this
  exact this
theorem escG_free (c : Nat) : 47 ∉ escG c := by
  unfold escG
  simp only [List.mem_cons, List.not_mem_nil, or_false, not_or]
  omega
noncomputable def cel (c : Int) : Nat → Int
  | 0 => c
  | k + 1 => cel c k / 2
noncomputable def mstG (nm : List Nat) (cell : Int) (k : Nat) : Bool := decide (nm.getD k 0 ∈ [47, 126]) || ((decide (k = 0) && decide (nm.getD 0 0 = 64)) || (cel cell k % 2 == 1))
noncomputable def pcG (nm : List Nat) (cell : Int) (k : Nat) : List Nat := if mstG nm cell k then escG (nm.getD k 0) else [nm.getD k 0]
noncomputable def partTo (nm : List Nat) (cell : Int) (i : Nat) : List Nat := (List.range i).flatMap (pcG nm cell)
noncomputable def part0 (nm : List Nat) (cell : Int) : List Nat := partTo nm cell nm.length
noncomputable def partL (nm : List Nat) (cell : Int) : List Nat := if part0 nm cell = [46] ∨ part0 nm cell = [46, 46] then escG 46 ++ (part0 nm cell).drop 1 else part0 nm cell
theorem partTo_succ (nm : List Nat) (cell : Int) (i : Nat) : partTo nm cell (i + 1) = partTo nm cell i ++ pcG nm cell i := by
  unfold partTo; rw [List.range_succ]; simp
theorem pcG_len (nm : List Nat) (cell : Int) (k : Nat) : 1 ≤ (pcG nm cell k).length ∧ (pcG nm cell k).length ≤ 3 := by
  unfold pcG; split <;> simp [escG]
theorem partTo_len (nm : List Nat) (cell : Int) : ∀ i, i ≤ (partTo nm cell i).length ∧ (partTo nm cell i).length ≤ 3 * i
  | 0 => by simp [partTo]
  | i + 1 => by
    have := partTo_len nm cell i
    have := pcG_len nm cell i
    rw [partTo_succ, List.length_append]; omega
theorem partL_len (nm : List Nat) (cell : Int) : (partL nm cell).length ≤ 3 * nm.length + 3 := by
  have := partTo_len nm cell nm.length
  unfold partL
  split
  · simp only [List.length_append, List.length_drop, escG, List.length_cons, List.length_nil]
    unfold part0; omega
  · unfold part0; omega
theorem readL_pcG {nm : List Nat} {cell : Int} {k : Nat} (hs : ∀ c ∈ nm, IsSgn c) (hk : k < nm.length) (r : List Nat) : readL (pcG nm cell k ++ r) = (readL r).map (nm.getD k 0 :: ·) := by
  have hm : nm.getD k 0 ∈ nm := by simp [List.getD, hk]
  unfold pcG
  cases h : mstG nm cell k with
  | true => exact readL_escG (hs _ hm) r
  | false =>
    simp only [Bool.false_eq_true, if_false, List.singleton_append]
    refine readL_plain (fun e => ?_) r
    unfold mstG at h
    rw [e] at h
    simp at h
theorem readL_part0 {nm : List Nat} {cell : Int} (hs : ∀ c ∈ nm, IsSgn c) : readL (part0 nm cell) = some nm := by
  have key : ∀ ks : List Nat, (∀ k ∈ ks, k < nm.length) → readL (ks.flatMap (pcG nm cell)) = some (ks.map (nm.getD · 0)) := by
    intro ks
    induction ks with
    | nil => intro _; simp [readL]
    | cons k ks ih =>
      intro h
      rw [List.flatMap_cons, readL_pcG hs (h k (.head _)), ih fun x hx => h x (.tail _ hx)]
      rfl
  unfold part0 partTo
  rw [key _ fun k hk => List.mem_range.mp hk, range_getD]
theorem sgn46 : IsSgn 46 := ⟨13, by decide, by decide⟩
theorem readL_part {nm : List Nat} {cell : Int} (hs : ∀ c ∈ nm, IsSgn c) : readL (partL nm cell) = some nm := by
  have h0 := readL_part0 (cell := cell) hs
  unfold partL
  split
  · rename_i h
    rcases h with h | h
    · rw [h] at h0
      rw [h, readL_escG sgn46]
      rw [← h0]; rfl
    · rw [h] at h0
      rw [h, readL_escG sgn46]
      rw [← h0]; rfl
  · exact h0
theorem part_free {nm : List Nat} {cell : Int} : 47 ∉ partL nm cell := by
  have h0 : 47 ∉ part0 nm cell := by
    intro h
    obtain ⟨k, hk, h⟩ := List.mem_flatMap.mp h
    unfold pcG at h
    split at h
    · exact escG_free _ h
    · rename_i hm
      rw [List.mem_singleton] at h
      unfold mstG at hm
      rw [← h] at hm
      simp at hm
  unfold partL
  split
  · intro h
    rcases List.mem_append.mp h with h | h
    · exact escG_free _ h
    · exact h0 (List.mem_of_mem_drop h)
  · exact h0
theorem readL_free : ∀ {l : List Nat}, 126 ∉ l → readL l = some l
  | [], _ => rfl
  | c :: r, h => by
    simp only [List.mem_cons, not_or] at h
    rw [readL_plain (fun e => h.1 e.symm), readL_free h.2]; rfl
theorem nameBy_sgn (c : Int) : ∀ x ∈ nameBy c, IsSgn x := by
  unfold nameBy
  split
  · have h : (c / 3 % 14).toNat < 14 := by omega
    generalize (c / 3 % 14).toNat = k at h
    have key : ∀ k : Fin 14, ∀ x ∈ oddL.getD k.val [], idx x < 94 ∧ x = sgn (idx x) := by decide +kernel
    intro x hx
    exact ⟨_, key ⟨k, h⟩ x hx⟩
  · intro x hx
    obtain ⟨k, _, rfl⟩ := List.mem_map.mp hx
    exact ⟨_, by omega, rfl⟩
noncomputable def shareL (nm : List Nat) (cell : Int) : List Nat := if cell % 2 = 1 ∧ 47 ∉ nm ∧ 126 ∉ nm then 64 :: nm else 64 :: partL nm (cell / 2)
theorem share_read {nm : List Nat} {cell : Int} (hs : ∀ c ∈ nm, IsSgn c) : ∃ r, shareL nm cell = 64 :: r ∧ 47 ∉ r ∧ readL r = some nm := by
  unfold shareL
  split
  · rename_i h; exact ⟨nm, rfl, h.2.1, readL_free h.2.2⟩
  · exact ⟨_, rfl, part_free, readL_part hs⟩

noncomputable def stepOf (p : List Nat) : Option (List Stp) :=
  if p = [] ∨ p = [46] then some [] else if p = [46, 46] then some [.up] else if p.getD 0 0 = 64 then (readL (p.drop 1)).map fun x => [.sh x] else (readL p).map fun x => [.nm x]
theorem stepOf_share {r nm : List Nat} (h : readL r = some nm) : stepOf (64 :: r) = some [.sh nm] := by
  unfold stepOf
  rw [if_neg (by simp), if_neg (by simp), if_pos (by rfl)]
  simp [h]
noncomputable def rootOf (line : List Nat) : List Stp := if line[0]? = some 47 then [.root] else []
theorem splitC_two (c : Nat) : ∀ p t : List Nat, splitC c (p ++ c :: t) = splitC c p ++ splitC c t
  | [], t => by rw [List.nil_append]; show splitC c (c :: t) = [] :: splitC c t; rw [splitC]; exact if_pos rfl
  | x :: p, t => by
    have ih := splitC_two c p t
    have hne := splitC_ne c p
    rw [List.cons_append, splitC, ih, show splitC c (x :: p) = if x = c then [] :: splitC c p else (x :: (splitC c p).headD []) :: (splitC c p).tail from rfl]
    cases h : splitC c p with
    | nil => exact absurd h hne
    | cons y ys => split <;> simp
theorem splitC_flat (c : Nat) : ∀ ps : List (List Nat), ps ≠ [] → splitC c (List.intercalate [c] ps) = ps.flatMap (splitC c)
  | [], h => absurd rfl h
  | [p], _ => by rw [icat_single]; simp
  | p :: q :: r, _ => by
    have ih := splitC_flat c (q :: r) (by simp)
    rw [icat_cons, List.append_assoc, List.singleton_append, List.flatMap_cons, ← ih]
    exact splitC_two c p _
theorem splitC_part (c : Nat) : ∀ l : List Nat, ∀ p ∈ splitC c l, p.length ≤ l.length
  | [], p, hp => by simp [splitC] at hp; subst hp; simp
  | x :: r, p, hp => by
    have ih := splitC_part c r
    have hne := splitC_ne c r
    unfold splitC at hp
    generalize splitC c r = sp at hp ih hne
    cases sp with
    | nil => exact absurd rfl hne
    | cons y ys =>
      split at hp
      · rcases List.mem_cons.mp hp with rfl | hp
        · simp
        · have := ih p hp; simp; omega
      · simp only [List.headD_cons, List.tail_cons] at hp
        rcases List.mem_cons.mp hp with rfl | hp
        · have := ih y (.head _); simp; omega
        · have := ih p (.tail _ hp); simp; omega
theorem brk_line {ps : List (List Nat)} {b : List Nat} (hb : ∃ p ∈ splitC 47 b, stepOf p = none) (hm : b ∈ ps) : ∃ p ∈ splitC 47 (List.intercalate [47] ps), stepOf p = none := by
  obtain ⟨p, hp, h⟩ := hb
  have hne : ps ≠ [] := fun e => by rw [e] at hm; cases hm
  refine ⟨p, ?_, h⟩
  rw [splitC_flat 47 ps hne]
  exact List.mem_flatMap.mpr ⟨b, hm, hp⟩
end Mine
end
section
set_option linter.all false
namespace Mine
noncomputable abbrev Row := List Nat × List Stp
noncomputable abbrev PM := List (List Nat × List (List Nat))
noncomputable def PMf (pm : PM) : List Nat → List (List Nat) := fun x => (pm.lookup x).getD []
noncomputable def rdy (pm : PM) : Stp → Bool
  | .sh x => (pm.lookup x).isSome
  | _ => true
noncomputable def ready (pm : PM) (ss : List Stp) : Bool := ss.all (rdy pm)
noncomputable def passF : List Row → PM → List Row → PM × List Row
  | [], pm, left => (pm, left)
  | (x, ss) :: r, pm, left => if ready pm ss then passF r (pm ++ [(x, ss.foldl (go (PMf pm)) [])]) left else passF r pm (left ++ [(x, ss)])
noncomputable def loopF : Nat → List Row → PM → PM
  | 0, _, pm => pm
  | k + 1, rows, pm => loopF k (passF rows pm []).2 (passF rows pm []).1
theorem loopF_nil : ∀ (k : Nat) (pm : PM), loopF k [] pm = pm
  | 0, _ => rfl
  | k + 1, pm => loopF_nil k pm

theorem lookup_mem {α : Type} {l : List (List Nat × α)} {x : List Nat} {a : α} (h : l.lookup x = some a) : (x, a) ∈ l := by
  induction l with
  | nil => simp at h
  | cons p l ih =>
    rw [show p = (p.1, p.2) from rfl, List.lookup_cons] at h
    by_cases hx : x = p.1
    · simp [hx] at h; subst h; rw [hx]; exact .head _
    · have : (x == p.1) = false := by simpa using hx
      rw [this] at h; exact .tail _ (ih h)
theorem lookup_some {α : Type} {l : List (List Nat × α)} {x : List Nat} (h : x ∈ l.map (·.1)) : (l.lookup x).isSome = true := by
  induction l with
  | nil => cases h
  | cons p l ih =>
    rw [show p = (p.1, p.2) from rfl, List.lookup_cons]
    by_cases hx : x = p.1
    · simp [hx]
    · have : (x == p.1) = false := by simpa using hx
      rw [this]
      rw [List.map_cons] at h
      exact ih ((List.mem_cons.mp h).resolve_left hx)
theorem lookup_none {α : Type} {l : List (List Nat × α)} {x : List Nat} (h : x ∉ l.map (·.1)) : l.lookup x = none := by
  cases q : l.lookup x with
  | none => rfl
  | some a => exact absurd (List.mem_map_of_mem (f := fun p : List Nat × α => p.1) (lookup_mem q)) h
structure Acy (ref : List Nat → List (List Nat)) (rk : List Nat → Nat) (rows : List Row) : Prop where
  nodup : (rows.map (·.1)).Nodup
  val : ∀ x ss, (x, ss) ∈ rows → ref x = ss.foldl (go ref) []
  sh : ∀ x ss, (x, ss) ∈ rows → ∀ y, .sh y ∈ ss → y ∈ rows.map (·.1) ∧ rk y < rk x
structure Inv (ref : List Nat → List (List Nat)) (rows0 rows : List Row) (pm : PM) : Prop where
  sub : ∀ r ∈ rows, r ∈ rows0
  nodup : (pm.map (·.1) ++ rows.map (·.1)).Nodup
  all : ∀ x ∈ rows0.map (·.1), x ∈ pm.map (·.1) ++ rows.map (·.1)
  val : ∀ x p, (x, p) ∈ pm → p = ref x
  keys : ∀ x ∈ pm.map (·.1), x ∈ rows0.map (·.1)
  len : pm.length + rows.length = rows0.length
theorem passF_pos {x : List Nat} {ss : List Stp} {r left : List Row} {pm : PM} (h : ready pm ss = true) : passF ((x, ss) :: r) pm left = passF r (pm ++ [(x, ss.foldl (go (PMf pm)) [])]) left := by
  rw [passF, if_pos h]
theorem passF_neg {x : List Nat} {ss : List Stp} {r left : List Row} {pm : PM} (h : ready pm ss = false) : passF ((x, ss) :: r) pm left = passF r pm (left ++ [(x, ss)]) := by
  rw [passF, if_neg (by rw [h]; decide)]
theorem fold_ref {P P' : List Nat → List (List Nat)} : ∀ (ss : List Stp) (p : List (List Nat)), (∀ y, .sh y ∈ ss → P y = P' y) → ss.foldl (go P) p = ss.foldl (go P') p
  | [], _, _ => rfl
  | s :: ss, p, h => by
    have : go P p s = go P' p s := by
      cases s with
      | sh y => exact h y (.head _)
      | _ => rfl
    rw [List.foldl_cons, List.foldl_cons, this]
    exact fold_ref ss _ fun y hy => h y (.tail _ hy)
theorem ready_sh {pm : PM} {ss : List Stp} (h : ready pm ss = true) {y : List Nat} (hy : .sh y ∈ ss) : (pm.lookup y).isSome = true := List.all_eq_true.mp h _ hy
section
variable {ref : List Nat → List (List Nat)} {rk : List Nat → Nat} {rows0 : List Row}
theorem Inv.put (A : Acy ref rk rows0) {x : List Nat} {ss : List Stp} {r left : List Row} {pm : PM} (I : Inv ref rows0 (left ++ (x, ss) :: r) pm) (hr : ready pm ss = true) :
    x ∉ pm.map (·.1) ∧ ss.foldl (go (PMf pm)) [] = ref x ∧ Inv ref rows0 (left ++ r) (pm ++ [(x, ss.foldl (go (PMf pm)) [])]) := by
  have hm : (x, ss) ∈ rows0 := I.sub _ (by simp)
  have hnd := I.nodup
  rw [List.map_append, List.map_cons] at hnd
  have hv : ss.foldl (go (PMf pm)) [] = ref x := by
    rw [A.val x ss hm]
    refine fold_ref ss [] fun y hy => ?_
    obtain ⟨p, hp⟩ := Option.isSome_iff_exists.mp (ready_sh hr hy)
    show (pm.lookup y).getD [] = ref y
    rw [hp]
    exact I.val y p (lookup_mem hp)
  have hx : x ∉ pm.map (·.1) := fun hx => by
    have := (List.nodup_append.mp hnd).2.2 x hx x (by simp)
    exact this rfl
  refine ⟨hx, hv, ⟨fun q hq => I.sub q (by rcases List.mem_append.mp hq with h | h <;> simp [h]), ?_, fun y hy => ?_, fun y p hp => ?_, fun y hy => ?_, ?_⟩⟩
  · rw [List.map_append, List.map_append]
    have hperm : (pm.map (·.1) ++ (left.map (·.1) ++ x :: r.map (·.1))).Perm (pm.map (·.1) ++ [x] ++ (left.map (·.1) ++ r.map (·.1))) := by
      rw [List.append_assoc]
      exact List.Perm.append_left _ (List.perm_middle.trans (by simp))
    exact hperm.nodup_iff.mp hnd
  · have := I.all y hy
    simp only [List.map_append, List.map_cons, List.mem_append, List.mem_cons, List.map_nil, List.not_mem_nil, or_false] at this ⊢
    rcases this with h | h | h | h <;> simp [h]
  · rcases List.mem_append.mp hp with hp | hp
    · exact I.val y p hp
    · simp only [List.mem_singleton, Prod.mk.injEq] at hp
      rw [hp.1, hp.2]; exact hv
  · rw [List.map_append] at hy
    rcases List.mem_append.mp hy with hy | hy
    · exact I.keys y hy
    · simp only [List.map_cons, List.map_nil, List.mem_singleton] at hy
      rw [hy]; exact List.mem_map_of_mem (f := fun q : Row => q.1) hm
  · have := I.len
    simp only [List.length_append, List.length_cons, List.length_nil] at this ⊢; omega
theorem Inv.skip {x : List Nat} {ss : List Stp} {r left : List Row} {pm : PM} (I : Inv ref rows0 (left ++ (x, ss) :: r) pm) : Inv ref rows0 ((left ++ [(x, ss)]) ++ r) pm := by
  rw [List.append_assoc]; exact I
theorem pass_inv (A : Acy ref rk rows0) : ∀ (rows : List Row) (pm : PM) (left : List Row), Inv ref rows0 (left ++ rows) pm → Inv ref rows0 (passF rows pm left).2 (passF rows pm left).1
  | [], pm, left, I => by simpa [passF] using I
  | (x, ss) :: r, pm, left, I => by
    unfold passF
    split
    · rename_i h; exact pass_inv A r _ left (I.put A h).2.2
    · exact pass_inv A r pm _ I.skip
theorem pass_len : ∀ (rows : List Row) (pm : PM) (left : List Row), (passF rows pm left).2.length ≤ left.length + rows.length
  | [], _, left => by simp [passF]
  | (x, ss) :: r, pm, left => by
    unfold passF
    split
    · have := pass_len r (pm ++ [(x, ss.foldl (go (PMf pm)) [])]) left
      simp only [List.length_cons]; omega
    · have := pass_len r pm (left ++ [(x, ss)])
      simp only [List.length_cons, List.length_append, List.length_nil] at this ⊢; omega
theorem pass_stuck : ∀ (rows : List Row) (pm : PM) (left : List Row), (passF rows pm left).2.length = left.length + rows.length → ∀ r ∈ rows, ready pm r.2 = false
  | [], _, _, _, r, hr => nomatch hr
  | (x, ss) :: r, pm, left, h, q, hq => by
    unfold passF at h
    split at h
    · have := pass_len r (pm ++ [(x, ss.foldl (go (PMf pm)) [])]) left
      simp only [List.length_cons] at h; omega
    · rename_i hn
      rcases List.mem_cons.mp hq with rfl | hq
      · simpa using hn
      · refine pass_stuck r pm (left ++ [(x, ss)]) ?_ q hq
        simp only [List.length_cons, List.length_append, List.length_nil] at h ⊢; omega
theorem min_rank (rk : List Nat → Nat) : ∀ (rows : List Row), rows ≠ [] → ∃ r ∈ rows, ∀ q ∈ rows, rk r.1 ≤ rk q.1
  | [], h => absurd rfl h
  | [r], _ => ⟨r, .head _, fun q hq => by rw [List.mem_singleton.mp hq]; exact Nat.le_refl _⟩
  | r :: r' :: rows, _ => by
    obtain ⟨m, hm, hle⟩ := min_rank rk (r' :: rows) (by simp)
    by_cases h : rk r.1 ≤ rk m.1
    · exact ⟨r, .head _, fun q hq => (List.mem_cons.mp hq).elim (fun e => by rw [e]; exact Nat.le_refl _) fun hq => Nat.le_trans h (hle q hq)⟩
    · exact ⟨m, .tail _ hm, fun q hq => (List.mem_cons.mp hq).elim (fun e => by rw [e]; omega) (hle q)⟩
theorem pass_moves (A : Acy ref rk rows0) {rows : List Row} {pm : PM} (I : Inv ref rows0 rows pm) (hne : rows ≠ []) : (passF rows pm []).2.length < rows.length := by
  have h1 := pass_len rows pm []
  simp only [List.length_nil, Nat.zero_add] at h1
  refine Nat.lt_of_le_of_ne h1 fun he => ?_
  have hst := pass_stuck rows pm [] (by simpa using he)
  obtain ⟨⟨x, ss⟩, hr, hle⟩ := min_rank rk rows hne
  have hnr := hst _ hr
  have : ready pm ss = true := List.all_eq_true.mpr fun s hs => by
    cases s with
    | sh y =>
      obtain ⟨hy, hlt⟩ := A.sh x ss (I.sub _ hr) y hs
      refine lookup_some ?_
      rcases List.mem_append.mp (I.all y hy) with h | h
      · exact h
      · obtain ⟨q, hq, rfl⟩ := List.mem_map.mp h
        have := hle q hq
        simp only at this; omega
    | _ => rfl
  rw [this] at hnr; cases hnr
theorem loop_inv (A : Acy ref rk rows0) : ∀ (k : Nat) (rows : List Row) (pm : PM), rows.length ≤ k → Inv ref rows0 rows pm → Inv ref rows0 [] (loopF k rows pm)
  | 0, rows, pm, hk, I => by
    have : rows = [] := List.eq_nil_of_length_eq_zero (Nat.le_zero.mp hk)
    subst this; exact I
  | k + 1, rows, pm, hk, I => by
    by_cases hne : rows = []
    · subst hne; rw [loopF_nil]; exact I
    · have := pass_moves A I hne
      exact loop_inv A k _ _ (by omega) (pass_inv A rows pm [] (by simpa using I))
theorem inv0 (A : Acy ref rk rows0) : Inv ref rows0 rows0 [] := ⟨fun _ h => h, by simpa using A.nodup, fun x hx => by simpa using hx, fun _ _ h => (nomatch h), fun _ h => (by cases h), by simp⟩
theorem loop_look (A : Acy ref rk rows0) : (∀ x ∈ rows0.map (·.1), (loopF rows0.length rows0 []).lookup x = some (ref x)) ∧ (∀ x, x ∉ rows0.map (·.1) → (loopF rows0.length rows0 []).lookup x = none) ∧ ((loopF rows0.length rows0 []).map (·.1)).Nodup ∧ (loopF rows0.length rows0 []).length = rows0.length := by
  have I := loop_inv A rows0.length rows0 [] (Nat.le_refl _) (inv0 A)
  refine ⟨fun x hx => ?_, fun x hx => lookup_none fun q => hx (I.keys x q), ?_, by simpa using I.len⟩
  · have := I.all x hx
    simp only [List.map_nil, List.append_nil] at this
    obtain ⟨p, hp⟩ := Option.isSome_iff_exists.mp (lookup_some this)
    rw [hp, I.val x p (lookup_mem hp)]
  · simpa using I.nodup
end
end Mine
end
section
open PySem PyProof.Rows PySem.W
set_option linter.all false
namespace Mine
noncomputable def stepsOf (line : List Nat) : List Stp := rootOf line ++ (splitC 47 line).flatMap (fun q => (stepOf q).getD [])
noncomputable def okLine (line : List Nat) : Prop := ∀ q ∈ splitC 47 line, (stepOf q).isSome = true
noncomputable def Gn (x : List Nat) : Prop := x ≠ [] ∧ x.length ≤ 43 ∧ ∀ c ∈ x, IsSgn c
theorem nameBy_gd (c : Int) : Gn (nameBy c) := ⟨nameBy_ne c, nameBy_len c, nameBy_sgn c⟩
theorem Gn.asc {x : List Nat} (h : Gn x) : Asc x := fun c hc => by
  obtain ⟨i, hi, rfl⟩ := h.2.2 c hc
  exact sgn_lt hi
theorem steps_icat {qs : List (List Nat × List Stp)} (hq : qs ≠ []) (h : ∀ q ∈ qs, 47 ∉ q.1 ∧ stepOf q.1 = some q.2) :
    okLine (List.intercalate [47] (qs.map (·.1))) ∧ (splitC 47 (List.intercalate [47] (qs.map (·.1)))).flatMap (fun q => (stepOf q).getD []) = qs.flatMap (·.2) := by
  have e := icat_splitC 47 (qs.map (·.1)) (by simpa using hq) (fun p hp => by obtain ⟨q, hq, rfl⟩ := List.mem_map.mp hp; exact (h q hq).1)
  unfold okLine
  rw [e]
  refine ⟨fun p hp => ?_, ?_⟩
  · obtain ⟨q, hq, rfl⟩ := List.mem_map.mp hp
    rw [(h q hq).2]; rfl
  · clear hq e
    induction qs with
    | nil => rfl
    | cons q qs ih =>
      rw [List.map_cons, List.flatMap_cons, List.flatMap_cons, ih fun q hq => h q (.tail _ hq), (h q (.head _)).2]; rfl
noncomputable abbrev Tab := List (List Nat × List Nat)
noncomputable def rowsOf (tab : Tab) : List Row := tab.map fun q => (q.1, stepsOf q.2)
theorem rowsOf_keys (tab : Tab) : (rowsOf tab).map (·.1) = tab.map (·.1) := by unfold rowsOf; rw [List.map_map]; rfl
theorem rootW_one (l : List Nat) : (rootOf l).length ≤ 1 := by unfold rootOf; split <;> simp
theorem fold_gd {P : List Nat → List (List Nat)} : ∀ (ss : List Stp) (p : List (List Nat)), (∀ y, .sh y ∈ ss → ∀ x ∈ P y, Gn x) → (∀ y, .nm y ∈ ss → Gn y) → (∀ x ∈ p, Gn x) → ∀ x ∈ ss.foldl (go P) p, Gn x
  | [], p, _, _, hp => hp
  | s :: ss, p, h1, h2, hp => by
    refine fold_gd ss (go P p s) (fun y hy => h1 y (.tail _ hy)) (fun y hy => h2 y (.tail _ hy)) fun x hx => ?_
    cases s with
    | root => cases hx
    | up => exact hp x ((List.dropLast_sublist p).subset hx)
    | sh y => exact h1 y (.head _) x hx
    | nm y =>
      rcases List.mem_append.mp hx with hx | hx
      · exact hp x hx
      · rw [List.mem_singleton.mp hx]; exact h2 y (.head _)
theorem fold_lenW (P : List Nat → List (List Nat)) (B : Nat) : ∀ (ss : List Stp) (p : List (List Nat)), (∀ y, .sh y ∈ ss → (P y).length ≤ B) → ∀ k, p.length ≤ B + k → (ss.foldl (go P) p).length ≤ B + k + ss.length
  | [], p, _, k, hp => hp
  | s :: ss, p, h, k, hp => by
    have h1 : (go P p s).length ≤ B + (k + 1) := by
      cases s with
      | root => simp [go]
      | up => simp only [go, List.length_dropLast]; omega
      | sh y => have := h y (.head _); simp only [go]; omega
      | nm y => simp only [go, List.length_append, List.length_singleton]; omega
    have := fold_lenW P B ss (go P p s) (fun y hy => h y (.tail _ hy)) (k + 1) h1
    rw [List.foldl_cons, List.length_cons]; omega
theorem lookup_nodup {α : Type} {l : List (List Nat × α)} {x : List Nat} {a : α} (hn : (l.map (·.1)).Nodup) (h : (x, a) ∈ l) : l.lookup x = some a := by
  induction l with
  | nil => cases h
  | cons p l ih =>
    simp only [List.map_cons, List.nodup_cons] at hn
    rw [show p = (p.1, p.2) from rfl, List.lookup_cons]
    rcases List.mem_cons.mp h with rfl | h
    · simp
    · have : (x == p.1) = false := by
        simp only [beq_eq_false_iff_ne, ne_eq]
        rintro rfl
        exact hn.1 (List.mem_map.mpr ⟨_, h, rfl⟩)
      rw [this]; exact ih hn.2 h
end Mine
end
section
open PySem PyProof.Rows PySem.W
set_option linter.all false
namespace Mine
end Mine
end
section
set_option linter.all false
namespace Mine
noncomputable def kindP (c : Int) (k : Nat) : Int := (c / 6 + 5 * (k : Int) * (1 + c % 11)) % 23
noncomputable def poName (names : List (List Nat)) (c : Int) (k : Nat) : List Nat := names.getD ((c / 138 + (k : Int)) % names.length).toNat []
noncomputable def oddS (c : Int) (k : Nat) : Bool := decide (kindP c k = 8) && decide (c % 4 = 1)
noncomputable def oddE (c : Int) (k : Nat) : Bool := decide (kindP c k = 9) && decide (c % 4 = 2)
noncomputable def sixty (c : Int) : List Nat := if c / 138 % 2 = 1 then List.replicate 60 115 else []
noncomputable def badL : List (List Nat) := [[126], [97, 126, 57, 52], [64, 126, 49]]
noncomputable def plainL : List (List Nat) := [[], [46, 46], [97], [46, 46, 46]]
noncomputable def plainS : List (List Stp) := [[], [.up], [.nm [97]], [.nm [46, 46, 46]]]
noncomputable def poPart (names : List (List Nat)) (c : Int) (k : Nat) : List Nat :=
  if kindP c k < 8 then shareL (poName names c k) (c / 7 % 128) else if oddS c k then 64 :: sixty c else if oddE c k then badL.getD (c / 138 % 3).toNat [] else plainL.getD (kindP c k % 4).toNat []
noncomputable def poSteps (names : List (List Nat)) (c : Int) (k : Nat) : List Stp :=
  if kindP c k < 8 then [.sh (poName names c k)] else if oddS c k then [] else if oddE c k then [] else plainS.getD (kindP c k % 4).toNat []
noncomputable def poReal (names : List (List Nat)) (c : Int) (k : Nat) : List Stp :=
  if kindP c k < 8 then [.sh (poName names c k)] else if oddS c k then [.sh (sixty c)] else if oddE c k then [] else plainS.getD (kindP c k % 4).toNat []
noncomputable def tM : List Nat := [109, 97, 100, 101]
noncomputable def tS : List Nat := [115, 104, 97, 114, 101]
noncomputable def tE : List Nat := [101, 115, 99, 97, 112, 101]
noncomputable def oddTo (c : Int) : Nat → List Nat
  | 0 => tM
  | k + 1 => if kindP c k < 8 then oddTo c k else if oddS c k then (if oddTo c k = tM then tS else oddTo c k) else if oddE c k then tE else oddTo c k
theorem odd_cases (c : Int) : ∀ n, (oddTo c n = tE ∧ ∃ k, k < n ∧ oddE c k = true) ∨ (oddTo c n = tS ∧ (∀ k, k < n → oddE c k = false) ∧ ∃ k, k < n ∧ oddS c k = true) ∨ (oddTo c n = tM ∧ ∀ k, k < n → oddE c k = false ∧ oddS c k = false)
  | 0 => .inr (.inr ⟨rfl, fun k h => absurd h (Nat.not_lt_zero k)⟩)
  | n + 1 => by
    have ih := odd_cases c n
    have hSE : ∀ k j, oddS c k = true → oddE c j = false := fun k j h => by
      unfold oddS oddE at *
      simp only [Bool.and_eq_true, decide_eq_true_eq] at h
      simp only [Bool.and_eq_false_iff, decide_eq_false_iff_not]
      omega
    have hES : ∀ k j, oddE c k = true → oddS c j = false := fun k j h => by
      unfold oddS oddE at *
      simp only [Bool.and_eq_true, decide_eq_true_eq] at h
      simp only [Bool.and_eq_false_iff, decide_eq_false_iff_not]
      omega
    have ext : ∀ {P : Nat → Prop}, (∀ k, k < n → P k) → P n → ∀ k, k < n + 1 → P k := fun h1 h2 k hk => by
      rcases Nat.lt_succ_iff_lt_or_eq.mp hk with h | rfl
      · exact h1 k h
      · exact h2
    unfold oddTo
    by_cases h8 : kindP c n < 8
    · rw [if_pos h8]
      have hS : oddS c n = false := by unfold oddS; simp only [Bool.and_eq_false_iff, decide_eq_false_iff_not]; omega
      have hE : oddE c n = false := by unfold oddE; simp only [Bool.and_eq_false_iff, decide_eq_false_iff_not]; omega
      rcases ih with ⟨h1, k, h2, h3⟩ | ⟨h1, h2, k, h3, h4⟩ | ⟨h1, h2⟩
      · exact .inl ⟨h1, k, by omega, h3⟩
      · exact .inr (.inl ⟨h1, ext h2 hE, k, by omega, h4⟩)
      · exact .inr (.inr ⟨h1, ext h2 ⟨hE, hS⟩⟩)
    · rw [if_neg h8]
      cases hS : oddS c n with
      | true =>
        simp only [if_true]
        rcases ih with ⟨h1, k, h2, h3⟩ | ⟨h1, h2, k, h3, h4⟩ | ⟨h1, h2⟩
        · rw [hSE n k hS] at h3; cases h3
        · exact .inr (.inl ⟨by rw [if_neg (by rw [h1]; decide), h1], ext h2 (hSE n n hS), n, by omega, hS⟩)
        · exact .inr (.inl ⟨by rw [if_pos h1], ext (fun k hk => (h2 k hk).1) (hSE n n hS), n, by omega, hS⟩)
      | false =>
        simp only [Bool.false_eq_true, if_false]
        cases hE : oddE c n with
        | true => exact .inl ⟨by simp, n, by omega, hE⟩
        | false =>
          simp only [Bool.false_eq_true, if_false]
          rcases ih with ⟨h1, k, h2, h3⟩ | ⟨h1, h2, k, h3, h4⟩ | ⟨h1, h2⟩
          · exact .inl ⟨h1, k, by omega, h3⟩
          · exact .inr (.inl ⟨h1, ext h2 hE, k, by omega, h4⟩)
          · exact .inr (.inr ⟨h1, ext h2 ⟨hE, hS⟩⟩)
noncomputable def poN (c : Int) : Nat := (c % 6).toNat
noncomputable def poParts (names : List (List Nat)) (c : Int) (n : Nat) : List (List Nat) := (List.range n).map (poPart names c)
noncomputable def poLine (names : List (List Nat)) (c : Int) : List Nat := List.intercalate [47] (poParts names c (poN c))
noncomputable def poFlat (names : List (List Nat)) (c : Int) (n : Nat) : List Stp := (List.range n).flatMap (poSteps names c)
noncomputable def poAll (names : List (List Nat)) (c : Int) : List Stp := rootOf (poLine names c) ++ poFlat names c (poN c)
theorem poName_mem {names : List (List Nat)} (hn : names ≠ []) (c : Int) (k : Nat) : poName names c k ∈ names := by
  unfold poName
  have hl := List.length_pos_iff.mpr hn
  have h1 := Int.emod_nonneg (c / 138 + (k : Int)) (b := (names.length : Int)) (by omega)
  have h2 := Int.emod_lt_of_pos (c / 138 + (k : Int)) (b := (names.length : Int)) (by omega)
  have : ((c / 138 + (k : Int)) % names.length).toNat < names.length := by omega
  simp [List.getD, this]
theorem plain_at {i : Int} (h0 : 0 ≤ i) (h4 : i < 4) : 47 ∉ plainL.getD i.toNat [] ∧ stepOf (plainL.getD i.toNat []) = some (plainS.getD i.toNat []) ∧ (plainL.getD i.toNat []).length ≤ 3 ∧ (plainS.getD i.toNat []).length ≤ 1 := by
  have : i = 0 ∨ i = 1 ∨ i = 2 ∨ i = 3 := by omega
  rcases this with rfl | rfl | rfl | rfl <;> exact ⟨by decide +kernel, rfl, by decide +kernel, by decide +kernel⟩
theorem bad_at {i : Int} (h0 : 0 ≤ i) (h3 : i < 3) : (∃ p ∈ splitC 47 (badL.getD i.toNat []), stepOf p = none) ∧ (badL.getD i.toNat []).length ≤ 4 := by
  have : i = 0 ∨ i = 1 ∨ i = 2 := by omega
  rcases this with rfl | rfl | rfl
  · exact ⟨⟨[126], by decide +kernel, by decide +kernel⟩, by decide +kernel⟩
  · exact ⟨⟨[97, 126, 57, 52], by decide +kernel, by decide +kernel⟩, by decide +kernel⟩
  · exact ⟨⟨[64, 126, 49], by decide +kernel, by decide +kernel⟩, by decide +kernel⟩
theorem kind_range (c : Int) (k : Nat) : 0 ≤ kindP c k ∧ kindP c k < 23 := by unfold kindP; omega
theorem sixty_free (c : Int) : 47 ∉ sixty c ∧ 126 ∉ sixty c ∧ (sixty c).length ≤ 60 := by unfold sixty; split <;> simp
theorem po_real {names : List (List Nat)} (hn : names ≠ []) (hg : ∀ x ∈ names, Gn x) {c : Int} {k : Nat} (hE : oddE c k = false) : 47 ∉ poPart names c k ∧ stepOf (poPart names c k) = some (poReal names c k) := by
  unfold poPart poReal
  split
  · obtain ⟨r, h1, h2, h3⟩ := share_read (cell := c / 7 % 128) (hg _ (poName_mem hn c k)).2.2
    rw [h1]
    exact ⟨by simp [h2], stepOf_share h3⟩
  split
  · exact ⟨by simp [(sixty_free c).1], stepOf_share (readL_free (sixty_free c).2.1)⟩
  · rw [hE]
    simp only [Bool.false_eq_true, if_false]
    have := plain_at (i := kindP c k % 4) (by omega) (by omega)
    exact ⟨this.1, this.2.1⟩
theorem po_len {names : List (List Nat)} (hn : names ≠ []) (hg : ∀ x ∈ names, Gn x) (c : Int) (k : Nat) : (poPart names c k).length ≤ 200 ∧ (poSteps names c k).length ≤ 1 ∧ (poReal names c k).length ≤ 1 := by
  have h1 := plain_at (i := kindP c k % 4) (by omega) (by omega)
  have h2 := bad_at (i := c / 138 % 3) (by omega) (by omega)
  have h3 := sixty_free c
  refine ⟨?_, ?_, ?_⟩
  · unfold poPart
    split
    · have h4 := (hg _ (poName_mem hn c k)).2.1
      unfold shareL
      split
      · rw [List.length_cons]; omega
      · rw [List.length_cons]
        have := partL_len (poName names c k) (c / 7 % 128 / 2)
        omega
    split
    · rw [List.length_cons]; omega
    split
    · omega
    · omega
  · unfold poSteps
    split
    · simp
    split
    · simp
    split
    · simp
    · omega
  · unfold poReal
    split
    · simp
    split
    · simp
    split
    · simp
    · omega
theorem flat_le {f : Nat → List Stp} (h : ∀ k, (f k).length ≤ 1) : ∀ n, ((List.range n).flatMap f).length ≤ n
  | 0 => by simp
  | n + 1 => by
    have h1 := flat_le h n
    have h2 := h n
    rw [List.range_succ, List.flatMap_append, List.length_append]
    simp only [List.flatMap_cons, List.flatMap_nil, List.append_nil]
    omega
structure PoOk (names : List (List Nat)) (c : Int) : Prop where
  len : (poLine names c).length ≤ 10000
  esc : oddTo c (poN c) = tE → ¬ okLine (poLine names c)
  ok : oddTo c (poN c) ≠ tE → okLine (poLine names c)
  n61 : okLine (poLine names c) → (stepsOf (poLine names c)).length ≤ 61
  sh : oddTo c (poN c) = tS → ∃ y, .sh y ∈ stepsOf (poLine names c) ∧ y ∉ names
  made : oddTo c (poN c) = tM → stepsOf (poLine names c) = poAll names c
  inn : ∀ y, .sh y ∈ poAll names c → y ∈ names
theorem po_ok {names : List (List Nat)} (hn : names ≠ []) (hg : ∀ x ∈ names, Gn x) (c : Int) : PoOk names c := by
  have hN : poN c ≤ 5 := by unfold poN; omega
  have hplen : (poParts names c (poN c)).length = poN c := by simp [poParts]
  have hsl : (poLine names c).length ≤ 10000 := by
    have h1 := icat_len (poParts names c (poN c))
    have h2 := sum_le (B := 200) (poParts names c (poN c)) fun x hx => by
      obtain ⟨k, _, rfl⟩ := List.mem_map.mp hx
      exact (po_len hn hg c k).1
    unfold poLine; omega
  have real : (∀ k, k < poN c → oddE c k = false) → okLine (poLine names c) ∧ stepsOf (poLine names c) = rootOf (poLine names c) ++ (List.range (poN c)).flatMap (poReal names c) := fun hE => by
    by_cases h0 : poN c = 0
    · have e : poLine names c = [] := by unfold poLine poParts; rw [h0]; rfl
      rw [e, h0]
      exact ⟨fun q hq => by simp [splitC] at hq; subst hq; rfl, rfl⟩
    · have h := steps_icat (qs := (List.range (poN c)).map fun k => (poPart names c k, poReal names c k)) (by simp [h0]) (fun q hq => by
        obtain ⟨k, hk, rfl⟩ := List.mem_map.mp hq
        exact po_real hn hg (hE k (List.mem_range.mp hk)))
      rw [List.map_map] at h
      have e1 : List.map ((fun q : List Nat × List Stp => q.1) ∘ fun k => (poPart names c k, poReal names c k)) (List.range (poN c)) = poParts names c (poN c) := rfl
      rw [e1] at h
      have e2 : ∀ l : List Nat, (l.map fun k => (poPart names c k, poReal names c k)).flatMap (·.2) = l.flatMap (poReal names c) := fun l => by
        induction l with
        | nil => rfl
        | cons a l ih => rw [List.map_cons, List.flatMap_cons, List.flatMap_cons, ih]
      rw [e2] at h
      exact ⟨h.1, by unfold stepsOf; rw [show splitC 47 (poLine names c) = splitC 47 (List.intercalate [47] (poParts names c (poN c))) from rfl, h.2]⟩
  have hr1 := rootW_one (poLine names c)
  have cases3 := odd_cases c (poN c)
  have notE : oddTo c (poN c) ≠ tE → ∀ k, k < poN c → oddE c k = false := fun h => by
    rcases cases3 with ⟨h1, _⟩ | ⟨_, h2, _⟩ | ⟨_, h2⟩
    · exact absurd h1 h
    · exact h2
    · exact fun k hk => (h2 k hk).1
  have escN : oddTo c (poN c) = tE → ¬ okLine (poLine names c) := fun h => by
    rcases cases3 with ⟨_, k, hk, hE⟩ | ⟨h1, _⟩ | ⟨h1, _⟩
    · have hb := bad_at (i := c / 138 % 3) (by omega) (by omega)
      have hpe : poPart names c k = badL.getD (c / 138 % 3).toNat [] := by
        have h9 : kindP c k = 9 := by
          unfold oddE at hE
          simp only [Bool.and_eq_true, decide_eq_true_eq] at hE
          exact hE.1
        have hS : oddS c k = false := by unfold oddS; simp only [Bool.and_eq_false_iff, decide_eq_false_iff_not]; omega
        unfold poPart
        rw [if_neg (by omega), hS, hE]
        simp
      obtain ⟨p, hp1, hp2⟩ := brk_line (ps := poParts names c (poN c)) hb.1 (List.mem_map.mpr ⟨k, List.mem_range.mpr hk, hpe⟩)
      intro hok
      have := hok p hp1
      rw [hp2] at this; cases this
    · rw [h1] at h; cases h
    · rw [h1] at h; cases h
  refine ⟨hsl, escN, fun h => (real (notE h)).1, ?_, fun h => ?_, fun h => ?_, fun y hy => ?_⟩
  · intro hok
    have h : oddTo c (poN c) ≠ tE := fun h => escN h hok
    rw [(real (notE h)).2, List.length_append]
    have := flat_le (f := poReal names c) (fun k => (po_len hn hg c k).2.2) (poN c)
    omega
  · rcases cases3 with ⟨h1, _⟩ | ⟨h1, hE, k, hk, hS⟩ | ⟨h1, _⟩
    · rw [h1] at h; cases h
    · refine ⟨sixty c, ?_, fun hm => ?_⟩
      · rw [(real hE).2]
        refine List.mem_append_right _ (List.mem_flatMap.mpr ⟨k, List.mem_range.mpr hk, ?_⟩)
        have h8 : kindP c k = 8 := by
          unfold oddS at hS
          simp only [Bool.and_eq_true, decide_eq_true_eq] at hS
          exact hS.1
        unfold poReal
        rw [if_neg (by omega), if_pos hS]
        exact .head _
      · have hgx := hg _ hm
        unfold sixty at hgx
        split at hgx
        · have := hgx.2.1; simp at this
        · exact hgx.1 rfl
    · rw [h1] at h; cases h
  · rcases cases3 with ⟨h1, _⟩ | ⟨h1, _⟩ | ⟨_, hno⟩
    · rw [h1] at h; cases h
    · rw [h1] at h; cases h
    · rw [(real fun k hk => (hno k hk).1).2]
      unfold poAll poFlat
      congr 1
      rw [List.flatMap_def, List.flatMap_def]
      congr 1
      refine List.map_congr_left fun k hk => ?_
      have := (hno k (List.mem_range.mp hk)).2
      unfold poReal poSteps
      rw [this]
      simp
  · rcases List.mem_append.mp hy with hy | hy
    · unfold rootOf at hy
      split at hy <;> simp at hy
    · obtain ⟨k, _, hk⟩ := List.mem_flatMap.mp hy
      unfold poSteps at hk
      split at hk
      · simp at hk; rw [hk]; exact poName_mem hn c k
      split at hk
      · cases hk
      split at hk
      · cases hk
      · exfalso
        have : kindP c k % 4 = 0 ∨ kindP c k % 4 = 1 ∨ kindP c k % 4 = 2 ∨ kindP c k % 4 = 3 := by omega
        rcases this with e | e | e | e <;> rw [e] at hk <;> simp [plainS] at hk
end Mine
end
section
set_option linter.all false
namespace Mine
theorem nodup_sub {α : Type} [DecidableEq α] : ∀ {l₁ l₂ : List α}, l₁.Nodup → (∀ x ∈ l₁, x ∈ l₂) → l₁.length ≤ l₂.length
  | [], _, _, _ => Nat.zero_le _
  | a :: l₁, l₂, hn, hs => by
    have ha := hs a (.head _)
    obtain ⟨h1, h2⟩ := List.nodup_cons.mp hn
    have ih := nodup_sub (l₁ := l₁) (l₂ := l₂.erase a) h2 fun x hx => by
      have hne : x ≠ a := fun e => h1 (by rw [← e]; exact hx)
      exact (List.mem_erase_of_ne hne).mpr (hs x (.tail _ hx))
    have := List.length_erase_of_mem ha
    have hp := List.length_pos_of_mem ha
    rw [List.length_cons]; omega
noncomputable abbrev Nm := List Nat
noncomputable def addN (ks : List Nm) (y : Nm) : List Nm := if y ∈ ks then ks else ks ++ [y]
noncomputable def addAll (ks os : List Nm) : List Nm := os.foldl addN ks
noncomputable def closeS (W : Nm → List Nm) (ks : List Nm) : List Nm := ks.foldl (fun acc s => addAll acc (W s)) ks
noncomputable def closeN (W : Nm → List Nm) : Nat → List Nm → List Nm
  | 0, ks => ks
  | n + 1, ks => closeN W n (closeS W ks)
theorem addN_mem {ks : List Nm} {y z : Nm} : z ∈ addN ks y ↔ z ∈ ks ∨ z = y := by
  unfold addN
  split
  · rename_i h; exact ⟨.inl, fun q => q.elim id fun e => e ▸ h⟩
  · simp
theorem addAll_mem : ∀ {os ks : List Nm} {z : Nm}, z ∈ addAll ks os ↔ z ∈ ks ∨ z ∈ os
  | [], ks, z => by simp [addAll]
  | o :: os, ks, z => by
    show z ∈ addAll (addN ks o) os ↔ _
    rw [addAll_mem (os := os), addN_mem]
    simp only [List.mem_cons]
    constructor
    · rintro ((h | h) | h) <;> simp [h]
    · rintro (h | h | h) <;> simp [h]
theorem addN_nodup {ks : List Nm} {y : Nm} (h : ks.Nodup) : (addN ks y).Nodup := by
  unfold addN
  split
  · exact h
  · rename_i hy
    rw [List.nodup_append]
    refine ⟨h, by simp, fun a ha b hb => ?_⟩
    rw [List.mem_singleton.mp hb]
    rintro rfl; exact hy ha
theorem addAll_nodup : ∀ {os ks : List Nm}, ks.Nodup → (addAll ks os).Nodup
  | [], _, h => h
  | _ :: os, _, h => addAll_nodup (os := os) (addN_nodup h)
theorem addAll_pre : ∀ {os ks : List Nm}, ∃ r, addAll ks os = ks ++ r
  | [], ks => ⟨[], by simp [addAll]⟩
  | o :: os, ks => by
    obtain ⟨r, hr⟩ := addAll_pre (os := os) (ks := addN ks o)
    show ∃ r, addAll (addN ks o) os = _
    rw [hr]
    unfold addN
    split
    · exact ⟨r, rfl⟩
    · exact ⟨o :: r, by simp⟩
theorem foldC_mem {W : Nm → List Nm} : ∀ {ss acc : List Nm} {z : Nm}, z ∈ ss.foldl (fun acc s => addAll acc (W s)) acc ↔ z ∈ acc ∨ ∃ s ∈ ss, z ∈ W s
  | [], acc, z => by simp
  | s :: ss, acc, z => by
    rw [List.foldl_cons, foldC_mem, addAll_mem]
    simp only [List.mem_cons, exists_eq_or_imp]
    constructor
    · rintro ((h | h) | h)
      · exact .inl h
      · exact .inr (.inl h)
      · exact .inr (.inr h)
    · rintro (h | h | h)
      · exact .inl (.inl h)
      · exact .inl (.inr h)
      · exact .inr h
theorem foldC_pre {W : Nm → List Nm} : ∀ {ss acc : List Nm}, ∃ r, ss.foldl (fun acc s => addAll acc (W s)) acc = acc ++ r
  | [], acc => ⟨[], by simp⟩
  | s :: ss, acc => by
    obtain ⟨r1, h1⟩ := addAll_pre (os := W s) (ks := acc)
    obtain ⟨r2, h2⟩ := foldC_pre (W := W) (ss := ss) (acc := addAll acc (W s))
    exact ⟨r1 ++ r2, by rw [List.foldl_cons, h2, h1, List.append_assoc]⟩
theorem foldC_nodup {W : Nm → List Nm} : ∀ {ss acc : List Nm}, acc.Nodup → (ss.foldl (fun acc s => addAll acc (W s)) acc).Nodup
  | [], _, h => h
  | s :: ss, _, h => foldC_nodup (ss := ss) (addAll_nodup h)
theorem closeS_mem {W : Nm → List Nm} {ks : List Nm} {z : Nm} : z ∈ closeS W ks ↔ z ∈ ks ∨ ∃ s ∈ ks, z ∈ W s := foldC_mem
theorem closeS_nodup {W : Nm → List Nm} {ks : List Nm} (h : ks.Nodup) : (closeS W ks).Nodup := foldC_nodup h
noncomputable def Closed (W : Nm → List Nm) (ks : List Nm) : Prop := ∀ s ∈ ks, ∀ z ∈ W s, z ∈ ks
theorem closeS_grows {W : Nm → List Nm} {ks : List Nm} (h : ¬ Closed W ks) : ks.length + 1 ≤ (closeS W ks).length := by
  obtain ⟨r, hr⟩ := foldC_pre (W := W) (ss := ks) (acc := ks)
  have e : closeS W ks = ks ++ r := hr
  rw [e, List.length_append]
  have : r ≠ [] := by
    rintro rfl
    refine h fun s hs z hz => ?_
    have : z ∈ closeS W ks := closeS_mem.mpr (.inr ⟨s, hs, hz⟩)
    rwa [e, List.append_nil] at this
  have := List.length_pos_iff.mpr this
  omega
theorem closeS_closed {W : Nm → List Nm} {ks : List Nm} (h : Closed W ks) (z : Nm) : z ∈ closeS W ks ↔ z ∈ ks := by
  rw [closeS_mem]
  exact ⟨fun q => q.elim id fun ⟨s, hs, hz⟩ => h s hs z hz, .inl⟩
theorem closeN_keeps {W : Nm → List Nm} : ∀ (n : Nat) {ks : List Nm} {z : Nm}, z ∈ ks → z ∈ closeN W n ks
  | 0, _, _, h => h
  | n + 1, ks, z, h => closeN_keeps n (closeS_mem.mpr (.inl h))
theorem closeN_nodup {W : Nm → List Nm} : ∀ (n : Nat) {ks : List Nm}, ks.Nodup → (closeN W n ks).Nodup
  | 0, _, h => h
  | n + 1, _, h => closeN_nodup n (closeS_nodup h)
theorem closeN_ind {W : Nm → List Nm} {P : Nm → Prop} (hP : ∀ s, P s → ∀ z ∈ W s, P z) : ∀ (n : Nat) {ks : List Nm}, (∀ z ∈ ks, P z) → ∀ z ∈ closeN W n ks, P z
  | 0, _, h => h
  | n + 1, ks, h => closeN_ind hP n fun z hz => by
    rcases closeS_mem.mp hz with hz | ⟨s, hs, hz⟩
    · exact h z hz
    · exact hP s (h s hs) z hz
theorem closeN_closed {W : Nm → List Nm} {names : List Nm} (hW : ∀ s ∈ names, ∀ z ∈ W s, z ∈ names) : ∀ (n : Nat) {ks : List Nm}, ks.Nodup → (∀ z ∈ ks, z ∈ names) → names.length ≤ ks.length + n ∨ Closed W ks → Closed W (closeN W n ks)
  | 0, ks, hn, hs, h => by
    rcases h with h | h
    · -- all names are there
      intro s hs' z hz
      have hzn := hW s (hs s hs') z hz
      by_cases hzk : z ∈ ks
      · exact hzk
      · exfalso
        have := nodup_sub (l₁ := z :: ks) (l₂ := names) (List.nodup_cons.mpr ⟨hzk, hn⟩) fun x hx => (List.mem_cons.mp hx).elim (fun e => e ▸ hzn) (hs x)
        simp at this; omega
    · exact h
  | n + 1, ks, hn, hs, h => by
    have hs' : ∀ z ∈ closeS W ks, z ∈ names := fun z hz => by
      rcases closeS_mem.mp hz with hz | ⟨s, hss, hz⟩
      · exact hs z hz
      · exact hW s (hs s hss) z hz
    refine closeN_closed hW n (closeS_nodup hn) hs' ?_
    by_cases hc : Closed W ks
    · refine .inr fun s hs2 z hz => ?_
      rw [closeS_closed hc] at hs2 ⊢
      exact hc s hs2 z hz
    · rcases h with h | h
      · have := closeS_grows hc
        exact .inl (by omega)
      · exact absurd h hc
noncomputable def reachF (W : Nm → List Nm) (n : Nat) (x : Nm) : List Nm := closeN W n (addAll [] (W x))
section
variable {W : Nm → List Nm} {names : List Nm}
theorem reach_nodup (n : Nat) (x : Nm) : (reachF W n x).Nodup := closeN_nodup n (addAll_nodup List.nodup_nil)
theorem reach_closed (hW : ∀ s ∈ names, ∀ z ∈ W s, z ∈ names) {x : Nm} (hx : x ∈ names) : Closed W (reachF W names.length x) ∧ ∀ z ∈ W x, z ∈ reachF W names.length x := by
  refine ⟨closeN_closed hW names.length (addAll_nodup List.nodup_nil) (fun z hz => ?_) (.inl (by omega)), fun z hz => closeN_keeps _ (addAll_mem.mpr (.inr hz))⟩
  rcases addAll_mem.mp hz with h | h
  · cases h
  · exact hW x hx z h
theorem ring_no {rk : Nm → Nat} (hW : ∀ s ∈ names, ∀ z ∈ W s, z ∈ names) (hrk : ∀ s ∈ names, ∀ z ∈ W s, rk z < rk s) {x : Nm} (hx : x ∈ names) (n : Nat) : x ∉ reachF W n x := fun h => by
  have := closeN_ind (W := W) (P := fun z => z ∈ names ∧ rk z < rk x) (fun s hs z hz => ⟨hW s hs.1 z hz, by have := hrk s hs.1 z hz; have := hs.2; omega⟩) n (ks := addAll [] (W x)) (fun z hz => by
    rcases addAll_mem.mp hz with h | h
    · cases h
    · exact ⟨hW x hx z h, hrk x hx z h⟩) x h
  omega
theorem rank_of (hW : ∀ s ∈ names, ∀ z ∈ W s, z ∈ names) (hno : ∀ x ∈ names, x ∉ reachF W names.length x) : ∀ s ∈ names, ∀ z ∈ W s, (reachF W names.length z).length < (reachF W names.length s).length := fun s hs z hz => by
  have hzn := hW s hs z hz
  obtain ⟨hc, hw⟩ := reach_closed hW hs
  have hsub : ∀ y ∈ reachF W names.length z, y ∈ reachF W names.length s := closeN_ind (W := W) (P := fun y => y ∈ reachF W names.length s) (fun a ha b hb => hc a ha b hb) names.length fun y hy => by
    rcases addAll_mem.mp hy with h | h
    · cases h
    · exact hc z (hw z hz) y h
  have := nodup_sub (l₁ := z :: reachF W names.length z) (l₂ := reachF W names.length s) (List.nodup_cons.mpr ⟨hno z hzn, reach_nodup _ _⟩) fun y hy => (List.mem_cons.mp hy).elim (fun e => e ▸ hw z hz) (hsub y)
  simp at this; omega
end
noncomputable def refN (S : Nm → List Stp) : Nat → Nm → List (List Nat)
  | 0, _ => []
  | k + 1, x => (S x).foldl (go (refN S k)) []
section
variable {S : Nm → List Stp} {names : List Nm} {rk : Nm → Nat}
theorem refN_same (hin : ∀ x ∈ names, ∀ y, .sh y ∈ S x → y ∈ names ∧ rk y < rk x) : ∀ (k : Nat) (x : Nm), x ∈ names → rk x < k → refN S (k + 1) x = refN S k x
  | 0, _, _, h => absurd h (Nat.not_lt_zero _)
  | k + 1, x, hx, h => by
    show (S x).foldl (go (refN S (k + 1))) [] = (S x).foldl (go (refN S k)) []
    refine fold_ref _ _ fun y hy => ?_
    obtain ⟨h1, h2⟩ := hin x hx y hy
    exact refN_same hin k y h1 (by omega)
theorem refN_len (h61 : ∀ x, (S x).length ≤ 61) : ∀ (k : Nat) (x : Nm), (refN S k x).length ≤ 61 * k
  | 0, x => by simp [refN]
  | k + 1, x => by
    have := fold_lenW (refN S k) (61 * k) (S x) [] (fun y _ => refN_len h61 k y) 0 (by simp)
    have := h61 x
    show ((S x).foldl (go (refN S k)) []).length ≤ _
    omega
theorem acy_of {rows : List Row} {N : Nat} (hnd : (rows.map (·.1)).Nodup) (hS : ∀ x ss, (x, ss) ∈ rows → S x = ss) (hin : ∀ x ss, (x, ss) ∈ rows → ∀ y, .sh y ∈ ss → y ∈ rows.map (·.1) ∧ rk y < rk x) (hN : ∀ x ∈ rows.map (·.1), rk x < N) : Acy (refN S (N + 1)) rk rows := by
  have hin' : ∀ x ∈ rows.map (·.1), ∀ y, .sh y ∈ S x → y ∈ rows.map (·.1) ∧ rk y < rk x := fun x hx y hy => by
    obtain ⟨⟨x', ss⟩, hr, rfl⟩ := List.mem_map.mp hx
    rw [hS x' ss hr] at hy
    exact hin x' ss hr y hy
  refine ⟨hnd, fun x ss h => ?_, hin⟩
  have hx : x ∈ rows.map (·.1) := List.mem_map_of_mem (f := fun q : Row => q.1) h
  rw [← refN_same hin' (N + 1) x hx (by have := hN x hx; omega)]
  show (S x).foldl (go (refN S (N + 1))) [] = _
  rw [hS x ss h]
end
end Mine
end
section
set_option linter.all false
namespace Mine
noncomputable def setPM (pm : PM) (x : Nm) (p : List (List Nat)) : PM := if (pm.lookup x).isSome then pm.map fun q => if q.1 = x then (q.1, p) else q else pm ++ [(x, p)]
noncomputable def psStep (pm : PM) (r : Row) : PM := if ready pm r.2 then setPM pm r.1 (r.2.foldl (go (PMf pm)) []) else pm
noncomputable def psTurn (rows : List Row) (pm : PM) : PM := rows.foldl psStep pm
noncomputable def psAll (rows : List Row) (n : Nat) : PM := (List.range n).foldl (fun pm _ => psTurn rows pm) []
structure PI (ref : Nm → List (List Nat)) (rows : List Row) (pm : PM) : Prop where
  nd : (pm.map (·.1)).Nodup
  val : ∀ x p, (x, p) ∈ pm → p = ref x
  keys : ∀ x ∈ pm.map (·.1), x ∈ rows.map (·.1)
theorem setPM_keys {pm : PM} {x : Nm} {p : List (List Nat)} {y : Nm} : y ∈ (setPM pm x p).map (·.1) ↔ y ∈ pm.map (·.1) ∨ y = x := by
  unfold setPM
  split
  · rename_i h
    have e : (pm.map fun q => if q.1 = x then (q.1, p) else q).map (·.1) = pm.map (·.1) := by
      rw [List.map_map]; congr 1; funext q; simp only [Function.comp]; split <;> rfl
    rw [e]
    refine ⟨.inl, fun q => q.elim id fun e => ?_⟩
    obtain ⟨p', hp'⟩ := Option.isSome_iff_exists.mp h
    rw [e]
    exact List.mem_map_of_mem (f := fun q : List Nat × List (List Nat) => q.1) (lookup_mem hp')
  · rw [List.map_append]; simp
theorem PI.step {ref : Nm → List (List Nat)} {rk : Nm → Nat} {rows : List Row} {pm : PM} (A : Acy ref rk rows) (I : PI ref rows pm) {x : Nm} {ss : List Stp} (hr : (x, ss) ∈ rows) : PI ref rows (psStep pm (x, ss)) := by
  unfold psStep
  simp only
  split
  case isFalse => exact I
  rename_i hrd
  have hv : ss.foldl (go (PMf pm)) [] = ref x := by
    rw [A.val x ss hr]
    refine fold_ref ss [] fun y hy => ?_
    obtain ⟨p, hp⟩ := Option.isSome_iff_exists.mp (ready_sh hrd hy)
    show (pm.lookup y).getD [] = ref y
    rw [hp]
    exact I.val y p (lookup_mem hp)
  have hx : x ∈ rows.map (·.1) := List.mem_map_of_mem (f := fun q : Row => q.1) hr
  refine ⟨?_, fun y p hy => ?_, fun y hy => ?_⟩
  · unfold setPM
    split
    · rw [List.map_map]
      have : ((fun q : List Nat × List (List Nat) => q.1) ∘ fun q => if q.1 = x then (q.1, ss.foldl (go (PMf pm)) []) else q) = fun q => q.1 := by funext q; simp only [Function.comp]; split <;> rfl
      rw [this]; exact I.nd
    · rename_i h
      rw [List.map_append, List.nodup_append]
      refine ⟨I.nd, by simp, fun a ha b hb => ?_⟩
      simp only [List.map_cons, List.map_nil, List.mem_singleton] at hb
      rw [hb]
      rintro rfl
      exact h (lookup_some ha)
  · unfold setPM at hy
    split at hy
    · obtain ⟨q, hq, e⟩ := List.mem_map.mp hy
      split at e
      · rename_i h; cases e; rw [hv, h]
      · cases e; exact I.val _ _ hq
    · rcases List.mem_append.mp hy with hy | hy
      · exact I.val y p hy
      · simp only [List.mem_singleton, Prod.mk.injEq] at hy
        rw [hy.1, hy.2, hv]
  · rcases setPM_keys.mp hy with h | h
    · exact I.keys y h
    · rw [h]; exact hx
theorem psStep_keeps {pm : PM} {r : Row} {y : Nm} (h : y ∈ pm.map (·.1)) : y ∈ (psStep pm r).map (·.1) := by
  unfold psStep
  split
  · exact setPM_keys.mpr (.inl h)
  · exact h
theorem psFold_keeps : ∀ (rs : List Row) {pm : PM} {y : Nm}, y ∈ pm.map (·.1) → y ∈ (rs.foldl psStep pm).map (·.1)
  | [], _, _, h => h
  | _ :: rs, _, _, h => psFold_keeps rs (psStep_keeps h)
theorem PI.fold {ref : Nm → List (List Nat)} {rk : Nm → Nat} {rows : List Row} (A : Acy ref rk rows) : ∀ (rs : List Row) {pm : PM}, (∀ r ∈ rs, r ∈ rows) → PI ref rows pm → PI ref rows (rs.foldl psStep pm)
  | [], _, _, I => I
  | (x, ss) :: rs, _, h, I => PI.fold A rs (fun r hr => h r (.tail _ hr)) (I.step A (h _ (.head _)))
theorem turn_places : ∀ (rs : List Row) {pm : PM} {x : Nm} {ss : List Stp}, (x, ss) ∈ rs → ready pm ss = true → x ∈ (rs.foldl psStep pm).map (·.1)
  | r :: rs, pm, x, ss, h, hr => by
    rcases List.mem_cons.mp h with e | h
    · subst e
      refine psFold_keeps rs ?_
      unfold psStep
      rw [if_pos hr]
      exact setPM_keys.mpr (.inr rfl)
    · refine turn_places rs h (List.all_eq_true.mpr fun s hs => ?_)
      cases s with
      | sh y =>
        have h1 : (pm.lookup y).isSome = true := ready_sh hr hs
        obtain ⟨p, hp⟩ := Option.isSome_iff_exists.mp h1
        exact lookup_some (psStep_keeps (List.mem_map_of_mem (f := fun q : List Nat × List (List Nat) => q.1) (lookup_mem hp)))
      | _ => rfl
theorem psAll_succ (rows : List Row) (n : Nat) : psAll rows (n + 1) = psTurn rows (psAll rows n) := by unfold psAll; rw [List.range_succ, List.foldl_append]; rfl
theorem psAll_inv {ref : Nm → List (List Nat)} {rk : Nm → Nat} {rows : List Row} (A : Acy ref rk rows) : ∀ n, PI ref rows (psAll rows n) ∧ (n ≤ (psAll rows n).length ∨ ∀ x ∈ rows.map (·.1), x ∈ (psAll rows n).map (·.1))
  | 0 => ⟨⟨by simp [psAll], by simp [psAll], by simp [psAll]⟩, .inl (Nat.zero_le _)⟩
  | n + 1 => by
    obtain ⟨I, h⟩ := psAll_inv A n
    rw [psAll_succ]
    have I' : PI ref rows (psTurn rows (psAll rows n)) := PI.fold A rows (fun _ h => h) I
    refine ⟨I', ?_⟩
    by_cases hall : ∀ x ∈ rows.map (·.1), x ∈ (psAll rows n).map (·.1)
    · exact .inr fun x hx => psFold_keeps rows (hall x hx)
    · rcases h with h | h
      · left
        -- the least rank that lacks
        have hne : rows.filter (fun r => decide (r.1 ∉ (psAll rows n).map (·.1))) ≠ [] := by
          intro e
          refine hall fun x hx => ?_
          obtain ⟨r, hr, rfl⟩ := List.mem_map.mp hx
          apply Classical.byContradiction
          intro hn
          have : r ∈ rows.filter (fun r => decide (r.1 ∉ (psAll rows n).map (·.1))) := List.mem_filter.mpr ⟨hr, by simpa using hn⟩
          rw [e] at this; cases this
        obtain ⟨⟨x, ss⟩, hr, hle⟩ := min_rank rk _ hne
        obtain ⟨hr1, hr2⟩ := List.mem_filter.mp hr
        have hxn : x ∉ (psAll rows n).map (·.1) := by simpa using hr2
        have hrd : ready (psAll rows n) ss = true := List.all_eq_true.mpr fun s hs => by
          cases s with
          | sh y =>
            obtain ⟨hy, hlt⟩ := A.sh x ss hr1 y hs
            refine lookup_some ?_
            apply Classical.byContradiction
            intro hyn
            obtain ⟨q, hq, rfl⟩ := List.mem_map.mp hy
            have := hle q (List.mem_filter.mpr ⟨hq, by simpa using hyn⟩)
            simp only at this; omega
          | _ => rfl
        have hx' := turn_places rows hr1 hrd
        have := nodup_sub (l₁ := x :: (psAll rows n).map (·.1)) (l₂ := (psTurn rows (psAll rows n)).map (·.1)) (List.nodup_cons.mpr ⟨hxn, I.nd⟩) fun y hy => (List.mem_cons.mp hy).elim (fun e => e ▸ hx') (psFold_keeps rows)
        simp only [List.length_cons, List.length_map] at this
        omega
      · exact absurd h hall
theorem psAll_look {ref : Nm → List (List Nat)} {rk : Nm → Nat} {rows : List Row} (A : Acy ref rk rows) : ((psAll rows rows.length).map (·.1)).Nodup ∧ ∀ x ∈ rows.map (·.1), (psAll rows rows.length).lookup x = some (ref x) := by
  obtain ⟨I, h⟩ := psAll_inv A rows.length
  have hall : ∀ x ∈ rows.map (·.1), x ∈ (psAll rows rows.length).map (·.1) := by
    rcases h with h | h
    · intro x hx
      apply Classical.byContradiction
      intro hn
      have := nodup_sub (l₁ := x :: (psAll rows rows.length).map (·.1)) (l₂ := rows.map (·.1)) (List.nodup_cons.mpr ⟨hn, I.nd⟩) fun y hy => (List.mem_cons.mp hy).elim (fun e => e ▸ hx) (I.keys y)
      simp only [List.length_cons, List.length_map] at this
      omega
    · exact h
  refine ⟨I.nd, fun x hx => ?_⟩
  obtain ⟨p, hp⟩ := Option.isSome_iff_exists.mp (lookup_some (hall x hx))
  rw [hp, I.val x p (lookup_mem hp)]
end Mine
end
section
open PySem PySem.Calls PyProof.Rows PySem.W
set_option linter.all false
set_option maxRecDepth 100000
namespace Mine
section
variable {T : St} {n : Nat} {env : Env} {Γ Γ' : Gm} {Q : Fw → Gm → Prop}
theorem IsA.list {xs : List PyData} : IsA T n (.d (.list xs)) "list" true := ⟨fun hA r h => by
  obtain ⟨a, vs, rfl, _, ⟨o, ho, hc, _⟩, _⟩ := Rep.list_inv r
  exact IsiPair.list_list ho hc (h _ (.refl _))⟩
end
end Mine
end
section
open PySem PySem.Calls PyProof.Rows PySem.W
set_option linter.all false
namespace Mine
noncomputable def BaseOk (N : Nat) (base : Heap) : Prop := ∀ b o, base.get? b = some o → o.cls ≠ .type "frame" ∨ b < N ∨ ∃ vs, o.data = .fields vs
theorem stays_kp {N : Nat} {base h h' : Heap} (B : BaseOk N base) (k : base.StaysIn h) (hk : KpH N h h') : base.StaysIn h' := fun b o e => by
  obtain ⟨sl, e2, f⟩ := hk b o (k b o e)
  rw [e2, f (B b o e)]
theorem ff_kp {N : Nat} {base h h' : Heap} {l : List Env} (hf : h.FunFrames base l) (hk : KpH N h h') : h'.FunFrames base l := hf.of_keeps fun b o e _ => let ⟨_, e', _⟩ := hk b o e; ⟨_, e', rfl⟩
theorem slots_kp {N : Nat} {h h' : Heap} (hk : KpH N h h') : h.UpToSlots h' := fun b o e _ => let ⟨sl, e', _⟩ := hk b o e; ⟨sl, e'⟩

structure XAt (base : Heap) (l : List Env) (s : Shared) (k : Addr) (ea : Addr) (s' : Shared) : Prop where
  same : ∃ h tk, s' = { s with heap := h, toks := tk }
  up : s.heap.UpToSlots s'.heap
  fly : (∃ a0, Heap.FlyingW base l ea (.ref k) a0 s'.heap) ∨ ∃ h vs, Heap.MadeExcOf h s'.heap ea (.ref k) vs ∧ base.StaysIn h ∧ h.FunFrames base l
theorem XAt.older {base : Heap} {l : List Env} {s₀ s s' : Shared} {k ea : Addr} (x : XAt base l s k ea s') (hs : ∃ h tk, s = { s₀ with heap := h, toks := tk }) (hu : s₀.heap.UpToSlots s.heap) : XAt base l s₀ k ea s' := by
  refine ⟨?_, hu.trans x.up, x.fly⟩
  obtain ⟨h, tk, rfl⟩ := hs
  obtain ⟨h', tk', rfl⟩ := x.same
  exact ⟨h', tk', rfl⟩
structure XFl (base : Heap) (l : List Env) (s : Shared) (k : Addr) (ea : Addr) (s' : Shared) : Prop where
  same : ∃ h tk, s' = { s with heap := h, toks := tk }
  up : s.heap.UpToSlots s'.heap
  fly : ∃ a0, Heap.FlyingW base l ea (.ref k) a0 s'.heap
theorem XFl.at {base : Heap} {l : List Env} {s s' : Shared} {k ea : Addr} (x : XFl base l s k ea s') : XAt base l s k ea s' := ⟨x.same, x.up, .inl x.fly⟩
theorem XFl.kp {N : Nat} {base : Heap} {l : List Env} {s₀ s s' : Shared} {k ea : Addr} (x : XFl base l s k ea s') (hk : Kp N s₀ s) : XFl base l s₀ k ea s' := by
  have hu := slots_kp hk.h
  obtain ⟨h, tk, rfl, _⟩ := hk
  refine ⟨?_, hu.trans x.up, x.fly⟩
  obtain ⟨h', tk', rfl⟩ := x.same
  exact ⟨h', tk', rfl⟩

structure CallsX (T : St) (n : Nat) (f : Addr) (xs : List Vl) (k : Addr) : Prop where
  run : ∀ {A : Around} {s : Shared} {E : Value → Shared → Prop} {Q : Value → Shared → Prop} {vals : List Value} {base : Heap} {l : List Env}, Amb n A → A.frames = some l → BaseOk T.N base → base.StaysIn s.heap → s.heap.FunFrames base l → Wd T s.heap → RepAs T.w s.heap vals xs →
    (∀ ea s', XFl base l s k ea s' → E (.ref ea) s') → wpAny T.M A (call (.ref f) vals) Q E s
noncomputable def FunX (T : St) (n : Nat) (f : Str) (xs : List Vl) (k : Addr) : Prop := ∃ a fd, T.mg f = some (.ref a) ∧ FnAt T a fd ∧ CallsX T n a xs k
theorem CallsX.le {T : St} {n m : Nat} {f : Addr} {xs : List Vl} {k : Addr} (x : CallsX T m f xs k) (h : m ≤ n) : CallsX T n f xs k := ⟨fun hA => x.run (hA.le h)⟩

structure EvX (T : St) (n : Nat) (env : Env) (Γ : Gm) (e : PySem.Expr) (k : Addr) : Prop where
  run : ∀ {A : Around} {reg : Fl → Addr → Prop} {s : Shared} {E : Value → Shared → Prop} {Q : Value → Shared → Prop} {base : Heap} {l : List Env}, Amb n A → A.frames = some l → BaseOk T.N base → base.StaysIn s.heap → s.heap.FunFrames base l → Rd T env reg Γ s →
    (∀ ea s', XFl base l s k ea s' → E (.ref ea) s') → wpAny T.M A (eval e env) Q E s
section
variable {T : St} {n : Nat} {env : Env} {Γ : Gm}
theorem EvX.call {m : Nat} {f : Str} {p pos : Pos} {args : List PySem.Expr} {xs : List (Vl × Fl)} {ys : List Vl} {k : Addr} (hx : env.kindOf f = some .globalImplicit) (hd : (f == ("__debug__" : Str)) = false)
    (ha : EvA T n env Γ args xs) (hf : Fst xs ys) (hc : FunX T m f ys k) (hm : m ≤ n) : EvX T n env Γ (.Call (.Name f p) args [] pos) k := ⟨fun {A reg s E Q base l} hA hl B hb hff R h => by
  obtain ⟨a, fd, hg, ⟨o, ho, hdat⟩, hc⟩ := hc
  have e := hf.eq
  subst e
  refine Call_Name rfl (ld_global R hx hd hg (callWith_function (o := o) (fd := fd) (evalArgs_any (ha.plain pos) (ha.run hA R fun vals s₁ k₁ r₁ => ⟨⟨(R.wd.kp k₁.h).k a o ho, hdat⟩, ?_⟩))))
  exact (hc.le hm).run hA hl B (stays_kp B hb k₁.h) (ff_kp hff k₁.h) (R.wd.kp k₁.h) r₁.any fun ea s' x => h ea s' (x.kp k₁)⟩
theorem EvX.binR {l r : PySem.Expr} {op : Operator} {pos : Pos} {v : Vl} {fl : Fl} {k : Addr} (h₁ : Ev T n env Γ l v fl) (h₂ : EvX T n env Γ r k) : EvX T n env Γ (.BinOp l op r pos) k := ⟨fun {A reg s E Q base l} hA hl B hb hff R h =>
  wpAny_BinOp (h₁.run hA R fun a s₁ k₁ r₁ => h₂.run hA hl B (stays_kp B hb k₁.h) (ff_kp hff k₁.h) (R.kp k₁) fun ea s' x => h ea s' (x.kp k₁))⟩
theorem EvX.tuple2 {e₁ e₂ : PySem.Expr} {kk : Nat} {pos : Pos} {v : Vl} {fl : Fl} {k : Addr} (h₁ : Ev T n env Γ e₁ v fl) (h₂ : EvX T n env Γ e₂ k) (hs : starEach [e₁, e₂] env = [(false, eval e₁ env), (false, eval e₂ env)]) : EvX T n env Γ (.Tuple [e₁, e₂] kk pos) k := ⟨fun {A reg s E Q base l} hA hl B hb hff R h => by
  refine Tuple_ ?_
  rw [hs]
  show wpAny T.M A (spliced ((false, eval e₁ env) :: (false, eval e₂ env) :: [])) _ _ _
  exact spliced_cons (h₁.run hA R fun a s₁ k₁ r₁ => spliced_cons (h₂.run hA hl B (stays_kp B hb k₁.h) (ff_kp hff k₁.h) (R.kp k₁) fun ea s' x => h ea s' (x.kp k₁)))⟩
end

structure Bl (T : St) (A : Around) (env : Env) (base : Heap) (outer : List Env) (s₀ : Shared) : Prop where
  fr : A.frames = some (env :: outer)
  ok : BaseOk T.N base
  stays : base.StaysIn s₀.heap
  ff : s₀.heap.FunFrames base outer
  own : env.frame = some env.locals
theorem Bl.at {T : St} {A : Around} {env : Env} {base : Heap} {outer : List Env} {s₀ s : Shared} {d₀ : Addr → Prop} {own : Own} {Γ : Gm} (B : Bl T A env base outer s₀) (S : SI T s₀ d₀ env own Γ s) : base.StaysIn s.heap ∧ s.heap.FunFrames base (env :: outer) := by
  obtain ⟨m, cm, F, _⟩ := S.frm
  refine ⟨stays_kp B.ok B.stays F.keep, .cons (by rw [S.eok.kind]; decide) B.own F.ns ?_ (ff_kp B.ff F.keep)⟩
  cases q : base.get? env.locals with
  | none => rfl
  | some o => have := B.stays _ o q; rw [F.newL] at this; cases this
theorem SI.older {T : St} {env : Env} {s₀ s : Shared} {d₀ : Addr → Prop} {own : Own} {Γ : Gm} (S : SI T s₀ d₀ env own Γ s) {base : Heap} {l : List Env} {k ea : Addr} {s' : Shared} (x : XAt base l s k ea s') : XAt base l s₀ k ea s' := by
  obtain ⟨m, cm, F, _⟩ := S.frm
  exact x.older F.same (slots_kp F.keep)

structure ExX (T : St) (n : Nat) (env : Env) (outer : List Env) (Γ : Gm) (ss : List Stmt) (Q : Fw → Gm → Prop) : Prop where
  run : ∀ {A : Around} {s₀ : Shared} {d₀ : Addr → Prop} {own : Own} {s : Shared} {E : Value → Shared → Prop} {QQ : Flow → Shared → Prop} {base : Heap}, Amb n A → Bl T A env base outer s₀ → SI T s₀ d₀ env own Γ s → PassesOwn T.M A env E →
    (∀ f f' s' Γ' own', SI T s₀ d₀ env own' Γ' s' → Pres T.N env own s s' → OwnLe own own' s → FlowRep T s₀ d₀ s' f f' → Q f' Γ' → QQ f s') →
    (∀ k ea s', XAt base (env :: outer) s₀ k ea s' → Q (.exc k) [] → E (.ref ea) s') → wpAny T.M A (execs ss env) QQ E s
structure ExX1 (T : St) (n : Nat) (env : Env) (outer : List Env) (Γ : Gm) (st : Stmt) (Q : Fw → Gm → Prop) : Prop where
  run : ∀ {A : Around} {s₀ : Shared} {d₀ : Addr → Prop} {own : Own} {s : Shared} {E : Value → Shared → Prop} {QQ : Flow → Shared → Prop} {base : Heap}, Amb n A → Bl T A env base outer s₀ → SI T s₀ d₀ env own Γ s → PassesOwn T.M A env E →
    (∀ f f' s' Γ' own', SI T s₀ d₀ env own' Γ' s' → Pres T.N env own s s' → OwnLe own own' s → FlowRep T s₀ d₀ s' f f' → Q f' Γ' → QQ f s') →
    (∀ k ea s', XAt base (env :: outer) s₀ k ea s' → Q (.exc k) [] → E (.ref ea) s') → wpAny T.M A (exec st env) QQ E s
noncomputable def ThnX (T : St) (n : Nat) (env : Env) (outer : List Env) (rest : List Stmt) (Q : Fw → Gm → Prop) : Fw → Gm → Prop
  | .next, Γ => ExX T n env outer Γ rest Q
  | .brk, Γ => Q .brk Γ
  | .cont, Γ => Q .cont Γ
  | .ret d, Γ => Q (.ret d) Γ
  | .exc k, Γ => Q (.exc k) Γ
section
variable {T : St} {n : Nat} {env : Env} {outer : List Env} {Γ Γ' : Gm} {Q Q' : Fw → Gm → Prop}
theorem ExX.of {ss : List Stmt} (h : Ex T n env Γ ss Q) : ExX T n env outer Γ ss Q := ⟨fun hA B S hE hq hx => h.run hA S hq fun k e s' Γ' own' S' p o er q => er.elim⟩
theorem ExX1.of {st : Stmt} (h : Ex1 T n env Γ st Q) : ExX1 T n env outer Γ st Q := ⟨fun hA B S hE hq hx => h.run hA S hq fun k e s' Γ' own' S' p o er q => er.elim⟩
theorem ExX.nil (h : Q .next Γ) : ExX T n env outer Γ [] Q := .of (.nil h)
theorem ExX.cons {st : Stmt} {rest : List Stmt} (h : ExX1 T n env outer Γ st (ThnX T n env outer rest Q)) : ExX T n env outer Γ (st :: rest) Q := ⟨fun {A s₀ d₀ own s E QQ base} hA B S hE hq hx => by
  refine wpAny_execs_cons (h.run hA B S hE (fun f f' s' Γ' own' S' p o fr q => ?_) fun k ea s' x q => hx k ea s' x q)
  cases f' with
  | next =>
    cases f <;> first | exact fr.elim | skip
    exact ExX.run q hA B S' hE (fun g g' s'' Γ'' own'' S'' p' o' fr' q' => hq g g' s'' Γ'' own'' S'' (p.trans o p') (o.trans o' p) fr' q') hx
  | brk => cases f <;> first | exact fr.elim | exact hq _ .brk s' Γ' own' S' p o fr q
  | cont => cases f <;> first | exact fr.elim | exact hq _ .cont s' Γ' own' S' p o fr q
  | ret d => cases f <;> first | exact fr.elim | exact hq _ (.ret d) s' Γ' own' S' p o fr q
  | exc k => cases f <;> exact fr.elim⟩
theorem ExX.cons1 {st : Stmt} {rest : List Stmt} (h : Ex1 T n env Γ st (ThnX T n env outer rest Q)) : ExX T n env outer Γ (st :: rest) Q := .cons (.of h)
theorem ExX1.ite {test : PySem.Expr} {body orelse : List Stmt} {p : Pos} {b : Bool} (ht : IsT T n env Γ test b) (h₁ : b = true → ExX T n env outer Γ body Q) (h₂ : b = false → ExX T n env outer Γ orelse Q) : ExX1 T n env outer Γ (.If test body orelse p) Q := ⟨fun {A s₀ d₀ own s E QQ base} hA B S hE h hx => by
  refine wpAny_If (ht.run hA S.rd fun s₁ k₁ => ?_)
  have h' : ∀ f f' s' Γ' own', SI T s₀ d₀ env own' Γ' s' → Pres T.N env own s₁ s' → OwnLe own own' s₁ → FlowRep T s₀ d₀ s' f f' → Q f' Γ' → QQ f s' := fun f f' s' Γ' own' S' p o fr q =>
    h f f' s' Γ' own' S' ((Pres.of_kp k₁).trans (.refl _ _) p) ((OwnLe.refl own s).trans o (Pres.of_kp (env := env) k₁)) fr q
  cases b with
  | true => exact (h₁ rfl).run hA B (S.kp k₁) hE h' hx
  | false => exact (h₂ rfl).run hA B (S.kp k₁) hE h' hx⟩
theorem ExX1.whil {test : PySem.Expr} {body : List Stmt} {p : Pos} (I : Nat → Gm → Prop) (k : Nat) (h0 : I k Γ)
    (hturn : ∀ k Γ, I k Γ → ∃ b, IsT T n env Γ test b ∧ (b = true → ExX T n env outer Γ body (Turn I k Q)) ∧ (b = false → Q .next Γ)) : ExX1 T n env outer Γ (.While test body [] p) Q := ⟨fun {A s₀ d₀ own s E QQ base} hA B S hE h hx => by
  refine wpAny_While (codeAny_whileLoop (fun k s' => ∃ Γ' own', SI T s₀ d₀ env own' Γ' s' ∧ Pres T.N env own s s' ∧ OwnLe own own' s ∧ I k Γ') (fun k s' ⟨Γ', own', S', p', o', hI⟩ => ?_) k ⟨Γ, own, S, .of_kp (.refl _), .refl _ _, h0⟩)
  obtain ⟨b, ht, hb1, hb2⟩ := hturn k Γ' hI
  refine ht.run hA S'.rd fun s₂ k₂ => ?_
  have S₂ := S'.kp k₂
  have p₂ : Pres T.N env own s s₂ := p'.trans o' (.of_kp k₂)
  have o₂ : OwnLe own own' s := o'
  cases b with
  | true =>
    refine wpAny_passesOwn hE ((hb1 rfl).run hA B S₂ hE (fun f f' s₃ Γ₃ own₃ S₃ p₃ o₃ fr q => ?_) fun k ea s₃ x q => hx k ea s₃ x q)
    have p₄ := p₂.trans o₂ p₃
    have o₄ := o₂.trans o₃ p₂
    cases f' with
    | next => cases f <;> first | exact fr.elim | (obtain ⟨m, hm, hI'⟩ := q; exact ⟨m, hm, Γ₃, own₃, S₃, p₄, o₄, hI'⟩)
    | cont => cases f <;> first | exact fr.elim | (obtain ⟨m, hm, hI'⟩ := q; exact ⟨m, hm, Γ₃, own₃, S₃, p₄, o₄, hI'⟩)
    | brk => cases f <;> first | exact fr.elim | exact h _ .next s₃ Γ₃ own₃ S₃ p₄ o₄ trivial q
    | ret d => cases f <;> first | exact fr.elim | exact h _ (.ret d) s₃ Γ₃ own₃ S₃ p₄ o₄ fr q
    | exc e => cases f <;> exact fr.elim
  | false => exact wpAny_execs_nil (h _ .next s₂ Γ' own' S₂ p₂ o₂ trivial (hb2 rfl))⟩
theorem ExX1.assignX {x : Str} {p₁ p₂ : Pos} {e : PySem.Expr} {k : Addr} (he : EvX T n env Γ e k) (hs : swapsWith e (some (.Name x p₁)) p₂.line env = pure false) (hq : Q (.exc k) []) : ExX1 T n env outer Γ (.Assign [.Name x p₁] e p₂) Q := ⟨fun {A s₀ d₀ own s E QQ base} hA B S hE h hx => by
  have hb := B.at S
  exact wpAny_Assign_Name (he.run hA B.fr B.ok hb.1 hb.2 S.rd fun ea s' x => hx k ea s' (S.older x.at) hq) hs⟩
theorem ExX1.appendX {x : Str} {p₁ p₂ p₃ p₄ : Pos} {e : PySem.Expr} {xs : List PyData} {k : Addr} (hm : (x, some (.d (.list xs), .o)) ∈ Γ) (he : EvX T n env Γ e k)
    (hbase : attributeBase (.Name x p₁) "append" env (eval (.Name x p₁) env) = eval (.Name x p₁) env) (hstar : starEach [e] env = [(false, eval e env)]) (hline : (p₂.endLine == p₃.line) = true)
    (hsw : swapsWith (.Call (.Attribute (.Name x p₁) "append" p₂) [e] [] p₃) none p₄.line env = pure false) (hq : Q (.exc k) []) :
    ExX1 T n env outer Γ (.Expr (.Call (.Attribute (.Name x p₁) "append" p₂) [e] [] p₃) p₄) Q := ⟨fun {A s₀ d₀ own s E QQ base} hA B S hE h hx => by
  have htr : backTo p₃ (starEach [e] env) = [(false, eval e env)] := by rw [hstar]; rfl
  refine wpAny_Expr (wpAny_Call_append hbase (by rw [htr]; rfl) hline htr ?_) (by unfold interactive; rw [S.eok.kind]; rfl) hsw
  obtain ⟨a, vs, o, kk, l, hxa, ho, hc, hdi, hdat, hall⟩ := own_list S hm
  refine ld_name S.eok.kind l (S.ok.nodebug x (List.mem_map_of_mem (f := fun p : Str × Slot => p.1) hm)) ?_
  have hb := B.at S
  exact ⟨a, List.toArray vs, rfl, ⟨o, kk, ho, hc, hdi, hdat⟩, he.run hA B.fr B.ok hb.1 hb.2 S.rd fun ea s' x => hx k ea s' (S.older x.at) hq⟩⟩
end

theorem ownTail_kp {N : Nat} {h h' : Heap} {bmB tl : List Value} (x : OwnTail h bmB tl) (hk : KpH N h h') : OwnTail h' bmB tl := by
  induction x with
  | base => exact .base
  | own hA hN hni _ ih => obtain ⟨sl, e, _⟩ := hk _ _ hA; exact .own e (hk.ns hN) hni ih
theorem RepVs.len {w : World} {h : Heap} {reg : Fl → Addr → Prop} {vs : List Value} {xs : List (Vl × Fl)} (r : RepVs w h reg vs xs) : vs.length = xs.length := by
  induction r with
  | nil => rfl
  | cons _ _ ih => simp [ih]
structure ExcCls (T : St) (x : Str) (C : Addr) : Prop where
  own : ∀ h : Heap, Wd T h → OwnCls x C [.type "ValueError", .type "Exception", .type "BaseException", .type "object"] "ValueError.__new__" T.mg h
section
variable {T : St} {n : Nat} {env : Env} {outer : List Env} {Γ : Gm} {Q : Fw → Gm → Prop}
theorem ExX1.raise {x : Str} {C : Addr} {np cpos pos : Pos} {args : List PySem.Expr} {xs : List (Vl × Fl)} (O : ExcCls T x C) (ha : EvA T n env Γ args xs) (hxs : xs.length ≤ 30) (hx' : env.kindOf x = some .globalImplicit) (hd : (x == ("__debug__" : Str)) = false) (hq : Q (.exc C) []) :
    ExX1 T n env outer Γ (.Raise (some (.Call (.Name x np) args [] cpos)) none pos) Q := ⟨fun {A s₀ d₀ own s E QQ base} hA B S hE h hx => by
  obtain ⟨tl, N, nm, q, bs, hdct, sn, sub, ab, col, dd, k0, k1, k2, k3, k5, mN, hC, hN, hni, TL⟩ := (O.own s.heap S.wd).obj
  refine wpAny_Raise_call_subT (C := C) (nm := nm) (q := q) (N := N) (bs := bs) (bm := tl) (hdct := hdct) (sn := sn) (sub := sub) (ab := ab) (col := col) (dd := dd) (k0 := k0) (k1 := k1) (k2 := k2) (k3 := k3) (k5 := k5)
    PySem.F.excBase_ValueError (mN := mN) (TL.hasType (by decide)) hA.handled (ha.plain cpos) hni (ld_global S.rd hx' hd (O.own s.heap S.wd).bound ⟨rfl, ?_⟩)
  refine evalArgs_any (ha.plain cpos) (ha.run hA S.rd fun vals s₁ k₁ r₁ => ?_)
  have hb := B.at (S.kp k₁)
  refine ⟨rfl, by show vals.length ≤ sizeLine; rw [r₁.len, sizeLine_is]; omega, k₁.h.get hC (by simp), k₁.h.ns hN, ownTail_kp TL k₁.h, fun h' e hm => hx C e _ ?_ hq⟩
  exact (S.kp k₁).older ⟨⟨h', s₁.toks, rfl⟩, .of_keeps hm.keeps, .inr ⟨s₁.heap, _, hm, hb.1, hb.2⟩⟩⟩
end
end Mine
end
section
open PySem PySem.Calls PyProof.Rows PySem.W
set_option linter.all false
namespace Mine
section
variable {T : St} {n : Nat} {env : Env} {outer : List Env} {Γ Γ' : Gm} {Q Q' : Fw → Gm → Prop}
theorem ExX1.forI {x : Str} {p₁ p : Pos} {iter : PySem.Expr} {body : List Stmt} {items : List PyData} {fl : Fl} (hi : Itr T n env Γ iter items fl) (hfl : fl ≠ .o ∧ ∀ x, fl ≠ .s x) (hk : env.kindOf x = some .local ∨ env.kindOf x = some .cell) (I : Nat → Gm → Prop) (h0 : I 0 Γ)
    (hturn : ∀ i d Γ₁, items[i]? = some d → I i Γ₁ → ∃ fl' Γ₂, (fl' = fl ∨ (fl' = .c ∧ still d = true)) ∧ Put Γ₁ x (some (.d d, fl')) Γ₂ ∧ ExX T n env outer Γ₂ body (TurnF I i Q))
    (hend : ∀ Γ₁, I items.length Γ₁ → Q .next Γ₁) : ExX1 T n env outer Γ (.For (.Name x p₁) iter body [] p) Q := ⟨fun hA B S hE h hx => forI_core (Bd := fun i Γ₂ => ExX T n env outer Γ₂ body (TurnF I i Q)) hA S h hi hfl hk I h0 hturn (fun i Γ₂ own s QQ' hb S h => wpAny_passesOwn hE (hb.run hA B S hE h fun k ea s₅ x q => hx k ea s₅ x q)) hend⟩
theorem Ex1.tryOk {body : List Stmt} {h₀ : ExceptHandler} {hs : List ExceptHandler} {p : Pos} (h : Ex T n env Γ body Q) (hn : ∀ f Γ, Q f Γ → f ≠ .brk ∧ f ≠ .cont) : Ex1 T n env Γ (.Try body (h₀ :: hs) [] [] p) Q := ⟨fun {A s₀ d₀ own s E QQ} hA S hq hx => by
  refine wpAny_Try_except (h.run hA S (fun f f' s' Γ' own' S' p o fr q => ?_) fun k e s' Γ' own' S' p o er q => er.elim)
  cases f' with
  | next => cases f <;> first | exact fr.elim | exact wpAny_execs_nil (hq _ .next s' Γ' own' S' p o fr q)
  | brk => exact absurd rfl (hn _ _ q).1
  | cont => exact absurd rfl (hn _ _ q).2
  | ret d => cases f <;> first | exact fr.elim | exact hq _ (.ret d) s' Γ' own' S' p o fr q
  | exc k => cases f <;> exact fr.elim⟩
end
noncomputable def EndsX (k : Addr) : Fw → Gm → Prop
  | .exc k', _ => k' = k
  | _, _ => False
end Mine
end
section
open PySem PySem.Calls PyProof.Rows PySem.W
set_option linter.all false
namespace Mine
structure CallsT (T : St) (n : Nat) (f : Addr) (xs : List Vl) (d : PyData) : Prop where
  run : ∀ {A : Around} {s : Shared} {E : Value → Shared → Prop} {Q : Value → Shared → Prop} {vals : List Value}, Amb n A → A.frames = some [] → s.heap.objs.size ≤ T.N → Wd T s.heap → RepAs T.w s.heap vals xs →
    (∀ val s', Kp T.N s s' → RepF T.w (fun a => ¬ False) s.heap s'.heap val d → Q val s') → wpAny T.M A (call (.ref f) vals) Q E s
noncomputable def FunT (T : St) (n : Nat) (f : Str) (xs : List Vl) (d : PyData) : Prop := ∃ a fd, T.mg f = some (.ref a) ∧ FnAt T a fd ∧ CallsT T n a xs d
theorem FunX.def {T : St} {n : Nat} {f : Str} {a : Addr} {xs : List Vl} {k : Addr} {name qual : Str} {params : Arguments} {body : List Stmt} {scope : Scope} {dV kV doc pm cdv ct oc : Value} {an od : Option Addr} {osl : Array (Option Value)} {ps ls : List Str} {Γp : Gm}
    (G : Gd T) (hn : nsIn T.K mainGlobals f = some (some (.ref a))) (ho : T.K.lookup a = some ⟨oc, od, .func (fnOf name qual params body scope dV kV doc pm an cdv ct), osl⟩) (hcd : codeIn T.K cdv qual = true)
    (hb : Binds (fnOf name qual params body scope dV kV doc pm an cdv ct) ps) (hp : Prm ps xs Γp) (hok : GmOk (ps ++ ls)) (hk : ∀ x ∈ ps, scope.names.lookup x = some .local ∨ scope.names.lookup x = some .cell)
    (hsc : scope.kind = .function ∧ scope.isCoroutine = false ∧ scope.isGenerator = false)
    (h : ∀ (env : Env) (outer : List Env), env.scope = scope → ExX T n env outer (Γp ++ ls.map fun x => (x, none)) body (EndsX k)) : FunX T (n + 1) f xs k :=
  ⟨a, _, G.g f _ hn, ⟨_, ho, rfl⟩, ⟨fun {A s E Q vals base l} hA hAf BO hst hff hw hr hq => call_enter (g := s.heap) (D := fun _ => False) ho hcd hb hp hok hk hsc (by have := hA.depth; omega) hw (fun _ _ e => e) hw (fun _ h => h.elim) hr fun env s₁ he hfe _ S _ => by
    have B : Bl T (A.deeper env) env base l s := ⟨Around.frames_deeper hAf, BO, hst, hff, hfe⟩
    refine (h env l he).run (hA.deeper _) B S PassesOwn.leaving (fun g g' s' Γ' own' S' p o fr q => ?_) fun k' ea s' x q => ?_
    · cases g' with
      | exc k' => cases g <;> exact fr.elim
      | next => exact q.elim
      | brk => exact q.elim
      | cont => exact q.elim
      | ret d => exact q.elim
    · have q' : k' = k := q
      subst q'
      rcases x.fly with ⟨a0, hfl⟩ | ⟨h₁, vs, hm, hs, hf⟩
      · refine wpAny_leaves_onW B.fr B.own hfl fun h' hfl' hup => hq ea _ ⟨?_, x.up.trans hup, _, hfl'⟩
        obtain ⟨h₂, tk, rfl⟩ := x.same; exact ⟨_, _, rfl⟩
      · refine wpAny_leaves_madeW B.fr B.own hs hf hm fun h' t hfl' _ _ hup => hq ea _ ⟨?_, x.up.trans hup, _, hfl'⟩
        obtain ⟨h₂, tk, rfl⟩ := x.same; exact ⟨_, _, rfl⟩⟩⟩
theorem FunT.def {T : St} {n : Nat} {f : Str} {a : Addr} {xs : List Vl} {d : PyData} {name qual : Str} {params : Arguments} {body : List Stmt} {scope : Scope} {dV kV doc pm cdv ct oc : Value} {an od : Option Addr} {osl : Array (Option Value)} {ps ls : List Str} {Γp : Gm}
    (G : Gd T) (hn : nsIn T.K mainGlobals f = some (some (.ref a))) (ho : T.K.lookup a = some ⟨oc, od, .func (fnOf name qual params body scope dV kV doc pm an cdv ct), osl⟩) (hcd : codeIn T.K cdv qual = true)
    (hb : Binds (fnOf name qual params body scope dV kV doc pm an cdv ct) ps) (hp : Prm ps xs Γp) (hok : GmOk (ps ++ ls)) (hk : ∀ x ∈ ps, scope.names.lookup x = some .local ∨ scope.names.lookup x = some .cell)
    (hsc : scope.kind = .function ∧ scope.isCoroutine = false ∧ scope.isGenerator = false)
    (h : ∀ env : Env, env.scope = scope → ExX T n env [] (Γp ++ ls.map fun x => (x, none)) body (Ends d)) : FunT T (n + 1) f xs d :=
  ⟨a, _, G.g f _ hn, ⟨_, ho, rfl⟩, ⟨fun {A s E Q vals} hA hAf hN hw hr hq => call_enter (g := s.heap) (D := fun _ => False) ho hcd hb hp hok hk hsc (by have := hA.depth; omega) hw (fun _ _ e => e) hw (fun _ h => h.elim) hr fun env s₁ he hfe _ S _ => by
    have B : Bl T (A.deeper env) env s.heap [] s := ⟨Around.frames_deeper hAf, fun b o e => .inr (.inl (Nat.lt_of_lt_of_le (Heap.lt_size e) hN)), fun _ _ e => e, trivial, hfe⟩
    refine (h env he).run (hA.deeper _) B S PassesOwn.leaving (fun g g' s' Γ' own' S' p o fr q => ?_) fun k' ea s' x q => q.elim
    obtain ⟨m, cm, F', _⟩ := S'.frm
    have hkp : Kp T.N s s' := by obtain ⟨h', tk, e⟩ := F'.same; subst e; exact ⟨h', tk, rfl, F'.keep⟩
    cases g' with
    | ret d' =>
      cases g <;> first | exact fr.elim | skip
      have : d' = d := q
      subst this
      exact hq _ s' hkp fr
    | next =>
      cases g <;> first | exact fr.elim | skip
      have : d = .none := q
      subst this
      exact hq _ s' hkp repF_none
    | brk => exact q.elim
    | cont => exact q.elim
    | exc k => exact q.elim⟩⟩
theorem FunX.defK {T : St} {K : Frag} {n : Nat} {f : Str} {a : Addr} {xs : List Vl} {k : Addr} {name qual : Str} {params : Arguments} {body : List Stmt} {scope : Scope} {dV kV doc pm cdv ct oc : Value} {an od : Option Addr} {osl : Array (Option Value)} {Γp : Gm}
    (G : GdK T K) (ps ls : List Str) (hn : nsIn K mainGlobals f = some (some (.ref a))) (ho : K.lookup a = some ⟨oc, od, .func (fnOf name qual params body scope dV kV doc pm an cdv ct), osl⟩) (hcd : codeIn K cdv qual = true)
    (hb : Binds (fnOf name qual params body scope dV kV doc pm an cdv ct) ps) (hp : Prm ps xs Γp) (hok : okNames (ps ++ ls) = true) (hk : okPrm scope ps = true)
    (hsc : scope.kind = .function ∧ scope.isCoroutine = false ∧ scope.isGenerator = false)
    (h : ∀ (env : Env) (outer : List Env), env.scope = scope → ExX T n env outer (Γp ++ ls.map fun x => (x, none)) body (EndsX k)) : FunX T (n + 1) f xs k :=
  FunX.def G.gd (by rw [G.k]; exact hn) (by rw [G.k]; exact ho) (by rw [G.k]; exact hcd) hb hp (okNames_ok hok) (okPrm_ok hk) hsc h
theorem FunT.defK {T : St} {K : Frag} {n : Nat} {f : Str} {a : Addr} {xs : List Vl} {d : PyData} {name qual : Str} {params : Arguments} {body : List Stmt} {scope : Scope} {dV kV doc pm cdv ct oc : Value} {an od : Option Addr} {osl : Array (Option Value)} {Γp : Gm}
    (G : GdK T K) (ps ls : List Str) (hn : nsIn K mainGlobals f = some (some (.ref a))) (ho : K.lookup a = some ⟨oc, od, .func (fnOf name qual params body scope dV kV doc pm an cdv ct), osl⟩) (hcd : codeIn K cdv qual = true)
    (hb : Binds (fnOf name qual params body scope dV kV doc pm an cdv ct) ps) (hp : Prm ps xs Γp) (hok : okNames (ps ++ ls) = true) (hk : okPrm scope ps = true)
    (hsc : scope.kind = .function ∧ scope.isCoroutine = false ∧ scope.isGenerator = false)
    (h : ∀ env : Env, env.scope = scope → ExX T n env [] (Γp ++ ls.map fun x => (x, none)) body (Ends d)) : FunT T (n + 1) f xs d :=
  FunT.def G.gd (by rw [G.k]; exact hn) (by rw [G.k]; exact ho) (by rw [G.k]; exact hcd) hb hp (okNames_ok hok) (okPrm_ok hk) hsc h
end Mine
end
section
open PySem PySem.Calls PyProof.Rows PySem.W
set_option linter.all false
namespace Mine
section
variable {T : St} {s₀ s s' : Shared} {d₀ : Addr → Prop} {env : Env} {own : Own} {Γ : Gm}
theorem SI.slots (S : SI T s₀ d₀ env own Γ s) (hs : ∃ h tk, s' = { s with heap := h, toks := tk }) (hk : ChgH T.N (· = env.locals) s.heap s'.heap) (hl : ∀ o, s.heap.get? env.locals = some o → ∃ sl, s'.heap.get? env.locals = some { o with slots := sl }) :
    SI T s₀ d₀ env own Γ s' ∧ Pres T.N env own s s' := by
  obtain ⟨m, cm, F, hn⟩ := S.frm
  have ntup : ∀ z, z = env.locals → NotTup s.heap z := fun z hz => May.notTup S z (.inl hz)
  refine ⟨⟨S.eok, S.cok, S.ok, S.wd0, S.d0, fun x a e => ?_, S.ownInj, m, cm, ⟨?_, fun b o e => ?_, ?_, fun y c hc => ?_, F.newL, F.newC, F.apart⟩, fun x v fl hm => ?_⟩, ⟨hs, hk.mono fun b hb => .inl hb, fun b e => ?_⟩⟩
  · obtain ⟨h1, h2, h3, o, h4, h5, h6, h7⟩ := S.ownNew x a e
    exact ⟨h1, h2, h3, o, hk.plain h4 h2 h7, h5, h6, h7⟩
  · obtain ⟨h, tk, rfl⟩ := F.same
    obtain ⟨h', tk', rfl⟩ := hs
    exact ⟨h', tk', rfl⟩
  · obtain ⟨sl, e1, f1⟩ := F.keep b o e
    obtain ⟨sl', e2, f2⟩ := hk b _ e1 fun q => by rw [show b = env.locals from q, F.newL] at e; cases e
    exact ⟨sl', e2, fun q => (f2 q).trans (f1 q)⟩
  · obtain ⟨o, es, ep, ho, hd, r⟩ := F.ns
    obtain ⟨sl, e⟩ := hl o ho
    exact ⟨_, es, ep, e, hd, r⟩
  · obtain ⟨o, ho, hd⟩ := F.cell y c hc
    obtain ⟨o', e, _, _, ed⟩ := hk.gets ho (F.newC y c hc).2
    exact ⟨o', e, ed.trans hd⟩
  · obtain ⟨val, l, r⟩ := hn x v fl hm
    refine ⟨val, l, ?_⟩
    cases fl with
    | c => exact RepV.chg r hk ntup fun a ha => ha.2.1
    | b => exact RepV.chg r hk ntup fun a ha => ha.1
    | o =>
      obtain ⟨d, a, as, e1, e2, e3, e4, e5, e6⟩ := r
      have hna : ∀ b ∈ a :: as, ¬ b = env.locals := fun b hb => by
        rcases List.mem_cons.mp hb with rfl | hb
        · exact (S.ownNew x _ e3).2.1
        · exact (e5 b hb).2.1
      exact ⟨d, a, as, e1, e2, e3, reads_chg hk ntup e4 hna, e5, e6.chg hk hna⟩
    | s _ => exact InstOwn.chg r hk ntup (fun b hb _ => ⟨hb, hb.2.1⟩) (fun y b q _ => ⟨q, (S.ownNew y b q).2.1⟩)
  · cases q : s.heap.get? b with
    | none => rfl
    | some o =>
      by_cases hb : b = env.locals
      · subst hb; obtain ⟨sl, e'⟩ := hl o q; rw [e] at e'; cases e'
      · obtain ⟨sl, e', _⟩ := hk b o q hb; rw [e] at e'; cases e'
end
open Classical in
noncomputable def hidden (N : Nat) (env : Env) (h : Heap) : List Addr := env.locals :: (List.range h.objs.size).filter fun b => decide (N ≤ b ∧ ∃ o, h.get? b = some o ∧ o.cls = .type "frame" ∧ ∀ vs, o.data ≠ .fields vs)
section
variable {T : St} {n : Nat} {env : Env} {Γ Γ' : Gm} {Q : Fw → Gm → Prop}
theorem excCls_of {K : Frag} (G : GdK T K) {x : Str} {C : Addr} (hn : nsIn K mainGlobals x = some (some (.ref C))) (hq : excIn K C [.type "ValueError", .type "Exception", .type "BaseException", .type "object"] "ValueError.__new__" = true) : ExcCls T x C := ⟨fun h W => by
  obtain ⟨p, loose, hfr⟩ := G.fr
  exact own_of_in (K := K) (p := p) (loose := loose) (fun b o e => W.k b o (by rw [G.k]; exact e)) ⟨W.g, W.b, W.lim, G.b, hfr⟩ hn hq⟩
end
end Mine
end
section
open PySem PySem.Calls PyProof.Rows PySem.W
set_option linter.all false
namespace Mine
noncomputable def dictD (m : List (List Nat × PyData)) : PyData := .dict (m.map fun p => (.str (mkS p.1), p.2))
section
variable {prog : Program} {w : World} {R : Addr → Prop} {h : Heap} {v : Value}
theorem pairs_of {h : Heap} : ∀ {es : List DictEntry} {m : List (List Nat × PyData)} {as bs : List Addr}, ReadsAll h (es.map (·.key)) (m.map fun p => .str (mkS p.1)) as → ReadsAll h (es.map (·.val)) (m.map (·.2)) bs →
    Pairs (strKind prog w) es ((m.map fun p => mkS p.1).zip (es.map (·.val)))
  | [], [], _, _, _, _ => .nil
  | [], _ :: _, _, _, h1, _ => nomatch h1
  | _ :: _, [], _, _, h1, _ => nomatch h1
  | e :: es, p :: m, _, _, .cons h1 h2, .cons h3 h4 => by
    refine .cons ?_ rfl (pairs_of h2 h4)
    have h1' : Reads h e.key (.str (mkS p.1)) _ := h1
    generalize hk : e.key = kk at h1'
    cases h1'
    show (mkS p.1 == mkS p.1) = true
    simp
theorem zip_keys : ∀ {m : List (List Nat × PyData)} {vs : List Value}, vs.length = m.length → ((m.map fun p => mkS p.1).zip vs).map (·.1) = m.map fun p => mkS p.1
  | [], [], _ => rfl
  | [], _ :: _, h => by simp at h
  | _ :: _, [], h => by simp at h
  | _ :: m, _ :: vs, h => by simp [zip_keys (m := m) (vs := vs) (by simpa using h)]
theorem readsAll_nil {h : Heap} : ∀ {es : List Value} {m : List (List Nat × PyData)} {as : List Addr}, ReadsAll h es (m.map fun p => .str (mkS p.1)) as → as = []
  | [], [], _, .nil => rfl
  | _ :: _, _ :: _, _, .cons h1 h2 => by cases h1; rw [readsAll_nil h2]; rfl
theorem Rep.dict_inv {m : List (List Nat × PyData)} (x : Rep w R h v (dictD m)) (hn : (m.map (·.1)).Nodup) :
    ∃ a vs, v = .ref a ∧ R a ∧ a ≠ sysModules ∧ (∃ ep, h.DictAt (strKind prog w) a ((m.map fun p => mkS p.1).zip vs) ep) ∧ RepAll w R h vs (m.map (·.2)) := by
  obtain ⟨as, r, hr, hd⟩ := x
  cases r with
  | @dict a o es n _ as bs ho hc hdat hks hvs =>
    have e1 : (m.map fun p => ((.str (mkS p.1), p.2) : PyData × PyData)).map (·.1) = m.map fun p => .str (mkS p.1) := by rw [List.map_map]; rfl
    have e2 : (m.map fun p => ((.str (mkS p.1), p.2) : PyData × PyData)).map (·.2) = m.map (·.2) := by rw [List.map_map]; rfl
    rw [e1] at hks; rw [e2] at hvs
    obtain ⟨o', ho', hdk⟩ := hd a (by simp)
    rw [ho] at ho'; cases ho'
    obtain ⟨h1, h2, h3⟩ := hdk _ _ hdat
    have hP := pairs_of (prog := prog) (w := w) hks hvs
    have hlen : (es.toList.map (·.val)).length = m.length := by
      have hA : RepAll w (fun _ => True) h (es.toList.map (·.val)) (m.map (·.2)) := ⟨bs, hvs, fun _ _ => trivial, fun b hb => hd b (by simp [hb])⟩
      rw [hA.length, List.length_map]
    refine ⟨a, es.toList.map (·.val), rfl, hr a (by simp), h1, ⟨n, o, es, ho, ⟨h2.1, h2.2.1, h2.2.2⟩, hdat, fun e he => ?_, hP, ?_⟩, bs, hvs, fun b hb => hr b (by simp [hb]), fun b hb => hd b (by simp [hb])⟩
    · obtain ⟨y, t, q1, q2⟩ := h3 e (by simpa using he)
      exact ⟨y, by show Value.isStrOf y e.key = true; rw [q1]; show (y == y) = true; simp, q2⟩
    · rw [zip_keys hlen]
      exact List.pairwise_map.mpr ((List.pairwise_map.mp hn).imp fun h e => h (mkS_inj.mp e))
theorem valueAt_zip : ∀ {m : List (List Nat × PyData)} {vs : List Value} {k : List Nat}, RepAll w R h vs (m.map (·.2)) →
    (∀ d, m.lookup k = some d → ∃ u, valueAt ((m.map fun p => mkS p.1).zip vs) (mkS k) = some u ∧ Rep w R h u d) ∧ (m.lookup k = none → valueAt ((m.map fun p => mkS p.1).zip vs) (mkS k) = none)
  | [], [], k, _ => ⟨fun d e => by simp at e, fun _ => rfl⟩
  | [], _ :: _, k, ⟨_, r, _⟩ => nomatch r
  | _ :: _, [], k, ⟨_, r, _⟩ => nomatch r
  | (x, d') :: m, u :: vs, k, r => by
    obtain ⟨r1, r2⟩ := r.cons_inv
    obtain ⟨i1, i2⟩ := valueAt_zip (k := k) r2
    rw [List.lookup_cons]
    unfold valueAt at i1 i2 ⊢
    by_cases hx : k = x
    · subst hx
      simp only [beq_self_eq_true, List.map_cons, List.zip_cons_cons, List.find?_cons, decide_true, Option.map_some]
      exact ⟨fun d e => by cases e; exact ⟨u, rfl, r1⟩, fun e => by cases e⟩
    · have h1 : (k == x) = false := by simpa using hx
      have h2 : decide (mkS x = mkS k) = false := decide_eq_false fun e => hx (mkS_inj.mp e).symm
      simp only [h1, List.map_cons, List.zip_cons_cons, List.find?_cons, h2]
      exact ⟨i1, i2⟩
end
section
variable {T : St} {n : Nat} {env : Env} {Γ Γ' : Gm} {m : List (List Nat × PyData)} {fl : Fl} {Q : Fw → Gm → Prop}
theorem Itr.dict {e : PySem.Expr} (he : Ev T n env Γ e (.d (dictD m)) fl) (hn : (m.map (·.1)).Nodup) (hs : ∀ x, foldedSetIterable e env x = pure x) : Itr T n env Γ e (m.map fun p => .str (mkS p.1)) fl := ⟨fun {A reg s E Q} hA R h => by
  refine he.run hA R fun val s₁ k₁ r₁ => ?_
  obtain ⟨a, vs, rfl, hR, hsm, ⟨ep, hd⟩, hall⟩ := Rep.dict_inv (prog := T.prog) r₁ hn
  have hlt : a < s₁.heap.objs.size := by obtain ⟨_, _, e, _⟩ := hd; exact Heap.lt_size e
  have hlen : ((m.map fun p => mkS p.1).zip vs).length = (m.map fun p => PyData.str (mkS p.1)).length := by
    have := hall.length
    simp only [List.length_map] at this
    simp [this]
  have hd' : ∀ o, (s₁.heap.push o).DictAt (strKind T.prog T.w) a ((m.map fun p => mkS p.1).zip vs) ep := fun o => hd.at' fun _ e => Heap.get?_push_of_some _ e
  refine wpAny_pyIter_dict (by simpa using hsm) hd (h s₁.heap.objs.size _ [s₁.heap.objs.size, a] [s₁.heap.objs.size] _ (fun i h => h.IsKeyIter s₁.heap.objs.size a i (m.map fun p => PyData.str (mkS p.1)).length ep ∧ h.DictAt (strKind T.prog T.w) a ((m.map fun p => mkS p.1).zip vs) ep) (k₁.trans (.push _ _))
    ⟨hlen ▸ Walks.dictKeys (knd := strKind T.prog T.w) hA.handled _ _ (Nat.ne_of_lt hlt) _ ep, fun i h st b hb => ?_, fun i h st b hb => ?_⟩ ⟨⟨_, Heap.get?_push_size _ rfl, rfl, by rw [← hlen]; rfl⟩, hd' _⟩ (fun b hb => ?_) (fun b hb => ?_) fun i v _ hv => ?_)
  · simp only [List.mem_singleton] at hb; subst hb
    obtain ⟨o, ho, _, hd⟩ := st.1
    exact ⟨o, _, ho, hd⟩
  · simp only [List.mem_cons, List.not_mem_nil, or_false] at hb
    rcases hb with rfl | rfl
    · obtain ⟨o, ho, hc, _⟩ := st.1; exact ⟨o, ho, by rw [hc]; simp⟩
    · obtain ⟨o, _, ho, hc, _⟩ := st.2; exact ⟨o, ho, by rw [hc.1]; simp⟩
  · simp only [List.mem_singleton] at hb; subst hb
    exact k₁.h.none (Heap.get?_none_of_le (Nat.le_refl _))
  · simp only [List.mem_cons, List.not_mem_nil, or_false] at hb
    rcases hb with rfl | rfl
    · exact .inl (by simp)
    · exact .inr (.inl hR)
  · obtain ⟨k, x, hk, hkv⟩ := hv
    obtain ⟨t, rfl⟩ := Value.isStrOf_shape hkv
    have h1 := List.getElem?_zip_eq_some.mp hk
    have h2 : (m.map fun p => PyData.str (mkS p.1))[i]? = some (.str k) := by
      have := h1.1
      rw [List.getElem?_map] at this ⊢
      obtain ⟨p, q1, q2⟩ := Option.map_eq_some_iff.mp this
      have q2' : mkS p.1 = k := q2
      rw [q1]; simp [q2']
    exact ⟨_, h2, rep_str _ _⟩, hs⟩
theorem Sub.dict {k : List Nat} {d : PyData} (hn : (m.map (·.1)).Nodup) (hl : m.lookup k = some d) : Sub T n (.d (dictD m)) fl (.d (.str (mkS k))) d fl := ⟨fun {A reg R₂ s E Q ov ival} hA _ r₁ r₂ h => by
  obtain ⟨a, vs, rfl, hR, hsm, ⟨ep, hd⟩, hall⟩ := Rep.dict_inv (prog := T.prog) r₁ hn
  obtain ⟨t, rfl⟩ := Rep.str_inv r₂
  obtain ⟨u, hu, hr⟩ := (valueAt_zip (k := k) hall).1 d hl
  exact ⟨"dict", _, slot_dict_getitem.lookup, hd.dictOf.typeIs, wpAny_getItem_of (knd := strKind T.prog T.w) (k := mkS k) (by show (mkS k == mkS k) = true; simp) hd.dictOf.mapOf hu (h _ _ (.tok _ _) hr)⟩⟩
theorem Cmp.inD {k : List Nat} (hn : (m.map (·.1)).Nodup) : Cmp T n .In (.d (.str (mkS k))) (.d (dictD m)) (m.lookup k).isSome := ⟨fun {A R₁ R₂ s E Q x y} hA _ r₁ r₂ h => by
  obtain ⟨a, vs, rfl, hR, hsm, ⟨ep, hd⟩, hall⟩ := Rep.dict_inv (prog := T.prog) r₂ hn
  obtain ⟨t, rfl⟩ := Rep.str_inv r₁
  refine wpAny_in_of (knd := strKind T.prog T.w) (k := mkS k) (by show (mkS k == mkS k) = true; simp) (by simpa using hsm) hd.dictOf.mapOf ?_
  have hv := valueAt_zip (k := k) hall
  cases e : m.lookup k with
  | none => rw [hv.2 e]; rw [e] at h; exact h _ (.tok _ _)
  | some d =>
    obtain ⟨u, hu, _⟩ := hv.1 d e
    rw [hu]; rw [e] at h; exact h _ (.tok _ _)⟩
theorem Cmp.ninD {k : List Nat} (hn : (m.map (·.1)).Nodup) : Cmp T n .NotIn (.d (.str (mkS k))) (.d (dictD m)) (!(m.lookup k).isSome) := ⟨fun {A R₁ R₂ s E Q x y} hA _ r₁ r₂ h => by
  obtain ⟨a, vs, rfl, hR, hsm, ⟨ep, hd⟩, hall⟩ := Rep.dict_inv (prog := T.prog) r₂ hn
  obtain ⟨t, rfl⟩ := Rep.str_inv r₁
  refine wpAny_notIn_of (knd := strKind T.prog T.w) (k := mkS k) (by show (mkS k == mkS k) = true; simp) (by simpa using hsm) hd.dictOf.mapOf ?_
  have hv := valueAt_zip (k := k) hall
  cases e : m.lookup k with
  | none => rw [hv.2 e]; rw [e] at h; exact h _ (.tok _ _)
  | some d =>
    obtain ⟨u, hu, _⟩ := hv.1 d e
    rw [hu]; rw [e] at h; exact h _ (.tok _ _)⟩
theorem Ex1.expr {e : PySem.Expr} {p : Pos} {d : PyData} (he : EvF T n env Γ e d) (hs : swapsWith e none p.line env = pure false) (hq : Q .next Γ) : Ex1 T n env Γ (.Expr e p) Q := ⟨fun {A s₀ d₀ own s E QQ} hA S h hx => by
  refine wpAny_Expr_any (he.run hA S.rd fun val s₁ k₁ r₁ => h _ .next s₁ Γ own (S.kp k₁) (.of_kp k₁) (.refl _ _) trivial hq) ?_ hs
  unfold interactive; rw [S.eok.kind]; rfl⟩
end
end Mine
end
section
open PySem PySem.Calls PyProof.Rows PySem.W
set_option linter.all false
namespace Mine

theorem Wd.frag {T : St} {h : Heap} (x : Wd T h) : Frag.In T.K h := fun a o e => x.k a o e
section
variable {w : World} {R : Addr → Prop} {h : Heap}
theorem FieldsRep.get {f : Str} {d : PyData} : ∀ {es : List DictEntry} {fs : List (Str × PyData)}, FieldsRep w R h es fs → fs.lookup f = some d → ∃ v, getL f es = some (some v) ∧ Rep w R h v d
  | [], [], _, e => by simp at e
  | e :: es, (x, d') :: fs, ⟨⟨t, hk⟩, _, hv, r⟩, hl => by
    rw [List.lookup_cons] at hl
    by_cases hx : f = x
    · subst hx
      simp at hl
      subst hl
      exact ⟨e.val, by simp [getL, hk, Value.isStr], hv⟩
    · have hx' : (f == x) = false := by simpa using hx
      rw [hx'] at hl
      obtain ⟨v, h1, h2⟩ := FieldsRep.get r hl
      refine ⟨v, ?_, h2⟩
      have hne : e.key.isStr f = false := by rw [hk]; show (x == f) = false; simpa using Ne.symm hx
      unfold getL at h1 ⊢
      rw [List.find?_cons_of_neg (by rw [hne]; decide)]
      cases q : es.find? (·.key.isStr f) with
      | some e' => rw [q] at h1; exact h1
      | none => rw [q] at h1; simp only at h1; split at h1 <;> cases h1
theorem FieldsRep.noRef : ∀ {es : List DictEntry} {fs : List (Str × PyData)}, FieldsRep w R h es fs → es.any (·.refKey) = false
  | [], [], _ => rfl
  | e :: es, (x, d') :: fs, ⟨⟨t, hk⟩, _, hv, r⟩ => by
    rw [List.any_cons, FieldsRep.noRef r]
    have : e.refKey = false := by unfold DictEntry.refKey; rw [hk]
    rw [this]; rfl
theorem FieldsRep.no {f : Str} : ∀ {es : List DictEntry} {fs : List (Str × PyData)}, FieldsRep w R h es fs → fs.lookup f = none → es.find? (·.key.isStr f) = none
  | [], [], _, _ => rfl
  | e :: es, (x, d') :: fs, ⟨⟨t, hk⟩, _, hv, r⟩, hl => by
    rw [List.lookup_cons] at hl
    by_cases hx : f = x
    · subst hx; simp at hl
    · have hx' : (f == x) = false := by simpa using hx
      rw [hx'] at hl
      have hne : e.key.isStr f = false := by rw [hk]; show (x == f) = false; simpa using Ne.symm hx
      rw [List.find?_cons_of_neg (by rw [hne]; decide)]
      exact FieldsRep.no r hl
theorem FieldsRep.lacks {f : Str} {es : List DictEntry} {fs : List (Str × PyData)} (r : FieldsRep w R h es fs) (hl : fs.lookup f = none) : getL f es = some none := by
  unfold getL
  rw [r.no hl, r.noRef]; rfl
theorem FieldsRep.length : ∀ {es : List DictEntry} {fs : List (Str × PyData)}, FieldsRep w R h es fs → es.length = fs.length
  | [], [], _ => rfl
  | _ :: _, (_, _) :: _, ⟨_, _, _, r⟩ => by simp [FieldsRep.length r]
theorem inst_at {x dx C : Addr} {es : List DictEntry} {n : Nat} (h1 : h.get? x = some { cls := .ref C, dict := some dx }) (h2 : h.get? dx = some { cls := .type "dict", data := .dict (List.toArray es) n }) :
    InstAt h x { cls := .ref C, dict := some dx } C (some (dictOf es n)) := ⟨h1, rfl, rfl, h2⟩
theorem Rep.handed {v : Value} {d : PyData} (r : Rep w R h v d) : handedIn v = true := by
  obtain ⟨as, r, _⟩ := r
  cases r <;> rfl
end

structure ClsOk (T : St) (C : Addr) : Prop where
  ga : findIn T.K (.ref C) "__getattribute__" = some (some (.builtin "object.__getattribute__"))
  gt : findIn T.K (.ref C) "__getattr__" = some none
  sa : findIn T.K (.ref C) "__setattr__" = some (some (.builtin "object.__setattr__"))
  over : plainOver T.K C = true
  dict : hasDictIn T.K C = true

section
variable {T : St} {n : Nat} {env : Env} {Γ Γ' : Gm} {C : Addr} {fs : List (Str × PyData)} {fl : Fl}
theorem Ev.attr {x f : Str} {p pos : Pos} {d : PyData} (c : ClsOk T C) (he : Ev T n env Γ (.Name x p) (.i C fs) fl) (ha : findIn T.K (.ref C) f = some none) (hl : fs.lookup f = some d) : Ev T n env Γ (.Attribute (.Name x p) f pos) (.d d) fl := ⟨fun {A reg s E Q} hA R h =>
  Attribute_name (he.run hA R fun val s₁ k₁ r₁ => by
    obtain ⟨a, dx, es, m, e1, e2, e3, e4, e5, e6⟩ := r₁
    subst e1
    obtain ⟨v, g1, g2⟩ := e6.get hl
    exact get_value (R.wd.kp k₁.h).frag (inst_at e4 e5) c.ga (findObj_own c.dict ha rfl (by rw [lookIn_dict]; exact g1)) g2.handed (h v _ (k₁.trans (.tok _ _)) g2))⟩

theorem Call_meth {A : Around} {E : Value → Shared → Prop} {s : Shared} {o : PySem.Expr} {name : Str} {apos pos : Pos} {args : List PySem.Expr} {Q : Value → Shared → Prop}
    (hbase : attributeBase o name env (eval o env) = eval o env)
    (hfew : ((backTo pos (starEach args env)).all (fun x => !x.1) && (backToKw pos (keywordEach [] env)).all (fun x => x.1.isSome)
      && decide (args.length + ([] : List Keyword).length + (if ([] : List Keyword).isEmpty then 0 else 1) < 30)) = true)
    (hline : (apos.endLine == pos.line) = true)
    (h : wpAny T.M A (eval o env) (fun ov s₁ => ∀ pl, wpAny T.M A (getMethod ov name pl) (fun fx s₂ => wpAny T.M A (callWith pos fx.1 fx.2 (backTo pos (starEach args env)) []) Q E s₂) E s₁) E s) :
    wpAny T.M A (eval (.Call (.Attribute o name apos) args [] pos) env) Q E s := by
  rw [arm_eval_Call, hbase]
  refine wpAny_bind (wpAny_mono h (fun ov s₁ h₁ => ?_) fun _ _ e => e)
  refine wpAny_bind (wpAny_standAt ?_)
  have hform : methodCallForm (args.length + ([] : List Keyword).length) (backTo pos (starEach args env)) (backToKw pos (keywordEach [] env)) = true := hfew
  have hpos : methodCallPos true o env apos pos = pure pos := by unfold methodCallPos; simp [hline]
  unfold methodCall
  rw [hform]
  refine wpAny_bind (wpAny_holding (wpAny_mono (h₁ _) (fun fx s₂ h₂ => ?_) fun _ _ e => e))
  exact wpAny_bind (wpAny_of_eq hpos h₂)

theorem fnAt_keep {a : Addr} {fd : FuncData} (hf : FnAt T a fd) : keepIn T.K (.ref a) = true := by
  obtain ⟨⟨c, di, da, sl⟩, ho, hd⟩ := hf
  cases hd
  unfold keepIn
  simp only [ho]

theorem EvF.methI {m : Nat} {o : PySem.Expr} {name : Str} {apos pos : Pos} {args : List PySem.Expr} {xs : List (Vl × Fl)} {d : PyData} {fa : Addr} {fd : FuncData} (c : ClsOk T C) (ho : Ev T n env Γ o (.i C fs) fl)
    (hf : findIn T.K (.ref C) name = some (some (.ref fa))) (ht : typeIn T.K (.ref fa) = some (.type "function")) (hfn : FnAt T fa fd) (hl : fs.lookup name = none) (ha : EvA T n env Γ args xs) (hc : Calls T m fa (.i C fs :: xs.map (·.1)) d) (hm : m ≤ n)
    (hbase : attributeBase o name env (eval o env) = eval o env) (hfew : decide (args.length < 30) = true) (hline : (apos.endLine == pos.line) = true) : EvF T n env Γ (.Call (.Attribute o name apos) args [] pos) d := ⟨fun {A reg s E Q} hA R h => by
  refine Call_meth hbase ?_ hline (ho.run hA R fun ov s₁ k₁ r₁ => ?_)
  · have h1 : (backTo pos (starEach args env)).all (fun x => !x.1) = true := by
      have := ha.plain pos
      rw [List.any_eq_false] at this
      rw [List.all_eq_true]
      intro x hx
      have := this x hx
      simpa using this
    rw [h1]
    show (true && true && decide (args.length + 0 + 0 < 30)) = true
    simpa using hfew
  · have r₀ := r₁
    obtain ⟨a, dx, es, k, e1, e2, e3, e4, e5, e6⟩ := r₁
    subst e1
    intro pl
    refine method_fn (R.wd.kp k₁.h).frag (inst_at e4 e5) c.ga c.gt hf ht (by show (lookIn name (dictOf es k)).map _ = _; rw [lookIn_dict, e6.lacks hl]; rfl) ?_
    refine callWith_of (P := fun h => Frag.In T.K h) (by rw [ha.plain]; rfl) (keeps_K (fnAt_keep hfn)) (evalArgs_any (ha.plain pos) (ha.run hA (R.kp k₁) fun vals s₂ k₂ r₂ => ⟨((R.wd.kp k₁.h).kp k₂.h).frag, ?_⟩))
    exact (hc.le hm).run (fun b => ¬ reg .c b) hA ((R.wd.kp k₁.h).kp k₂.h) (fun b hb e => hb (((R.regs.kp k₁.h).kp k₂.h).fresh .c b e)) (.cons (RepV.mono (RepV.keeps (x := .i C fs) r₀ k₂.h) fun _ _ => trivial) r₂.any) fun val s₃ k₃ r₃ =>
      h val s₃ ((k₁.trans k₂).trans k₃) ((r₃.older (k₁.trans k₂).h).mono fun b hb => Classical.byContradiction hb)⟩

theorem set_field {A : Around} {E : Value → Shared → Prop} {s : Shared} {Q : Unit → Shared → Prop} {x dx : Addr} {es : List DictEntry} {k : Nat} {name : Str} {v : Value} (X : Wd T s.heap) (c : ClsOk T C)
    (hx : s.heap.get? x = some { cls := .ref C, dict := some dx }) (hdx : s.heap.get? dx = some { cls := .type "dict", data := .dict (List.toArray es) k }) (ht : takerIn T.K C name = some none)
    (hno : es.find? (·.key.isStr name) = none) (hnr : es.any (·.refKey) = false) (hz : es.length < 1000)
    (h : Q () { s with heap := s.heap.update dx (Obj.putName name (PyData.keyHash T.w.params name) (.str name (s.toks + 1)) v), toks := s.toks + 2 }) : wpAny T.M A (setAttr (.ref x) name v) Q E s := by
  have I := inst_at hx hdx
  refine set_plain X.frag I c.sa (osa_open (s := { s with toks := s.toks + 1 }) X.frag I c.over ht fun b => ?_)
  obtain ⟨cd, hc, hd'⟩ := any_some c.dict
  have X' : Frag.In T.K ({ s with toks := s.toks + 1 } : Shared).heap := X.frag
  refine wpAny_bind (wpAny_pure (wpAny_bind (wpAny_bind (wpAny_loadPart hx (wpAny_bind (Looks.here (s := { s with toks := s.toks + 1 }) (looks_clsIn X' hc) ?_))))))
  rw [hd']
  refine wpAny_pure (a := some dx) (wpAny_bind (wpAny_pure (wpAny_bind ?_)))
  unfold nsSet
  refine wpAny_bind (wpAny_bind (wpAny_askSetting (wpAny_pure (wpAny_bind (wpAny_mkText (wpAny_bind (wpAny_loadPart hdx ?_)))))))
  have hc' : (!(List.toArray es).any (·.key.isStr name) && (List.toArray es).any (·.refKey)) = false := by
    rw [List.any_toArray, List.any_toArray, hnr, Bool.and_false]
  dsimp only
  rw [aRefKeyMayBeTheName_at, hc']
  have hpn := putName_dict name (PyData.keyHash T.w.params name) (.str name (s.toks + 1)) v es k
  have hput : (s.heap.update dx (Obj.putName name (PyData.keyHash T.w.params name) (.str name (s.toks + 1)) v)).get? dx = some (dictOf (putL name (PyData.keyHash T.w.params name) (.str name (s.toks + 1)) v es) (putN name es k)) := by
    rw [← hpn]
    refine Heap.get?_update_self _ hdx ?_
    show (Obj.putName _ _ _ _ (dictOf es k)).isFreed = false
    rw [hpn]; rfl
  refine wpAny_updatePart hdx ?_
  refine wpAny_bind (wpAny_lookBehind hput (pastItsLine_dict ?_) ?_)
  · rw [List.size_toArray, sizeLine_eq]
    have : (putL name (PyData.keyHash T.w.params name) (.str name (s.toks + 1)) v es).length ≤ es.length + 1 := putL_len es
    omega
  · exact wpAny_pure h
where
  putL_len {name : Str} {hh : Int} {key v : Value} : ∀ es : List DictEntry, (putL name hh key v es).length ≤ es.length + 1
    | [] => by simp [putL]
    | e :: r => by
      unfold putL
      split
      · simp
      · have := putL_len (name := name) (hh := hh) (key := key) (v := v) r
        simp only [List.length_cons]; omega
end
end Mine
end
section
open PySem PySem.Calls PyProof.Rows PySem.W
set_option linter.all false
namespace Mine
section
variable {T : St} {n : Nat} {env : Env} {Γ Γ' : Gm} {C : Addr} {fs : List (Str × PyData)} {Q : Fw → Gm → Prop}
theorem FldO.no {d₀ : Addr → Prop} {own : Own} {h : Heap} {o : Option Str} {es : List DictEntry} {f : Str} (r : FldO T d₀ env own h o es fs) (hl : fs.lookup f = none) : es.find? (·.key.isStr f) = none := (r.rep (R := fun _ => True) (fun _ _ => trivial) fun _ _ => trivial).no hl
theorem FldO.put {d₀ : Addr → Prop} {own : Own} {h : Heap} {o : Option Str} {f : Str} {d : PyData} {v : Value} {t : Tok} (hv : (o ≠ some f ∧ Rep T.w (regOf d₀ env own .c) h v d) ∨ (o = some f ∧ env.kindOf gN = none ∧ ∃ pd as, v = .ref pd ∧ own gN = some pd ∧ Reads h v d (pd :: as) ∧ (∀ b ∈ as, regOf d₀ env own .c b) ∧ Dok T.w h (pd :: as))) :
    ∀ {es : List DictEntry} {fs : List (Str × PyData)}, FldO T d₀ env own h o es fs → fs.lookup f = none → FldO T d₀ env own h o (putL f (PyData.keyHash T.w.params f) (.str f t) v es) (fs ++ [(f, d)])
  | [], [], _, _ => ⟨⟨⟨t, rfl⟩, rfl⟩, hv, trivial⟩
  | e :: es, (x, d') :: fs, ⟨h1, h2, r⟩, hl => by
    obtain ⟨⟨t', hk⟩, hh⟩ := h1
    rw [List.lookup_cons] at hl
    by_cases hx : f = x
    · subst hx; simp at hl
    · have hx' : (f == x) = false := by simpa using hx
      rw [hx'] at hl
      have hne : e.key.isStr f = false := by rw [hk]; show (x == f) = false; simpa using Ne.symm hx
      unfold putL
      rw [hne, if_neg (by decide)]
      exact ⟨⟨⟨t', hk⟩, hh⟩, h2, FldO.put hv r hl⟩
theorem FldO.mark {d₀ : Addr → Prop} {own : Own} {h : Heap} {f : Str} : ∀ {es : List DictEntry} {fs : List (Str × PyData)}, FldO T d₀ env own h none es fs → fs.lookup f = none → FldO T d₀ env own h (some f) es fs
  | [], [], _, _ => trivial
  | e :: es, (x, d') :: fs, ⟨h1, h2, r⟩, hl => by
    rw [List.lookup_cons] at hl
    by_cases hx : f = x
    · subst hx; simp at hl
    · have hx' : (f == x) = false := by simpa using hx
      rw [hx'] at hl
      refine ⟨h1, .inl ⟨by simpa using hx, ?_⟩, FldO.mark r hl⟩
      rcases h2 with h2 | h2
      · exact h2.2
      · exact absurd h2.1 (by simp)
theorem Ex1.setG {x f : Str} {p₁ p₂ p₃ : Pos} {e : PySem.Expr} {d : PyData} {a : Addr} {o o' : Option Str} (c : ClsOk T C) (he : EvF T n env Γ e d) (ho : o' = o ∧ o ≠ some f ∨ o = none ∧ o' = some f ∧ isMut d = true ∧ env.kindOf gN = none ∧ ∀ y v z, (y, some (v, .s z)) ∈ Γ → y = x)
    (hm : (x, some (.i C fs, .s (a, o))) ∈ Γ) (hl : fs.lookup f = none) (ht : takerIn T.K C f = some none) (hz : fs.length < 1000)
    (hp : Put Γ x (some (.i C (fs ++ [(f, d)]), .s (a, o'))) Γ') (hs : swapsWith e (some (.Attribute (.Name x p₁) f p₂)) p₃.line env = pure false) (hq : Q .next Γ') : Ex1 T n env Γ (.Assign [.Attribute (.Name x p₁) f p₂] e p₃) Q := ⟨fun {A s₀ d₀ own s E QQ} hA S h hx => by
  refine plainObj_wpAny_Assign_Attribute (he.run hA S.rd fun val s₁ k₁ r₁ => ?_) hs
  -- the new owner, if there is one
  have hown : ∃ own', (∀ y, y ≠ gN ∨ own' = own → own' y = own y) ∧ SI T s₀ d₀ env own' Γ s₁ ∧ OwnLe own own' s ∧ ((o' ≠ some f ∧ Rep T.w (regOf d₀ env own' .c) s₁.heap val d) ∨ (o' = some f ∧ env.kindOf gN = none ∧ ∃ pd as, val = .ref pd ∧ own' gN = some pd ∧ Reads s₁.heap val d (pd :: as) ∧ (∀ b ∈ as, regOf d₀ env own' .c b) ∧ Dok T.w s₁.heap (pd :: as))) := by
    rcases ho with ⟨rfl, hne⟩ | ⟨rfl, rfl, hmu, hgk, hone⟩
    · exact ⟨own, fun _ _ => rfl, S.kp k₁, .refl _ _, .inl ⟨hne, r₁.rep⟩⟩
    · obtain ⟨pd, as, e1, e2, e3, e4, e5, e6, e7⟩ := r₁.top hmu
      obtain ⟨m, cm, F, hn⟩ := S.frm
      have hf := S.fresh e5
      have sub : ∀ y b, (if y = gN then some pd else own y) = some b → (y = gN ∧ b = pd) ∨ (y ≠ gN ∧ own y = some b) := fun y b q => by
        by_cases hy : y = gN
        · rw [if_pos hy] at q; cases q; exact .inl ⟨hy, rfl⟩
        · rw [if_neg hy] at q; exact .inr ⟨hy, q⟩
      have old : ∀ y b, own y = some b → b ≠ pd := fun y b q e => by
        obtain ⟨_, _, _, ob, h4, _⟩ := S.ownNew y b q
        rw [e, e5] at h4; cases h4
      have up : ∀ fl b, regOf d₀ env own fl b → b ≠ pd → regOf d₀ env (fun y => if y = gN then some pd else own y) fl b := fun fl b hb hbp => by
        have hno : (∀ y, own y ≠ some b) → ∀ y, (if y = gN then some pd else own y) ≠ some b := fun hb y q => by
          rcases sub y b q with ⟨_, q⟩ | ⟨_, q⟩
          · exact hbp q
          · exact hb y q
        cases fl with
        | o => trivial
        | s _ => trivial
        | b => exact ⟨hb.1, hb.2.1, hno hb.2.2⟩
        | c => exact ⟨hb.1, hb.2.1, hb.2.2.1, hno hb.2.2.2⟩
      have real : ∀ y v fl, (y, some (v, fl)) ∈ Γ → y ≠ gN := fun y v fl hy q => by
        obtain ⟨_, l, _⟩ := hn y v fl hy
        rw [q] at l
        rcases l with ⟨kk, _⟩ | ⟨kk, _⟩ <;> rw [hgk] at kk <;> cases kk
      have S₁ := S.kp k₁
      refine ⟨fun y => if y = gN then some pd else own y, fun y hy => ?_, ⟨S.eok, S.cok, S.ok, S.wd0, S.d0, fun y b q => ?_, fun y z b q1 q2 => ?_, m, cm, F.kp k₁, fun y v fl hy => ?_⟩, fun y b q => ?_, .inr ⟨rfl, hgk, pd, as, e1, by simp, e2, fun b hb => up .c b (e3 b hb) fun q => e6 (q ▸ hb), e4⟩⟩
      · rcases hy with hy | hy
        · exact if_neg hy
        · exact congrFun hy y
      · rcases sub y b q with ⟨_, rfl⟩ | ⟨_, q⟩
        · exact ⟨F.keep.none e5, hf.2.1, hf.2.2.1, e7⟩
        · exact S₁.ownNew y b q
      · rcases sub y b q1 with ⟨u1, v1⟩ | ⟨u1, v1⟩ <;> rcases sub z b q2 with ⟨u2, v2⟩ | ⟨u2, v2⟩
        · rw [u1, u2]
        · exact absurd v1 (old z b v2)
        · exact absurd v2 (old y b v1)
        · exact S.ownInj y z b v1 v2
      · obtain ⟨val', l, r⟩ := hn y v fl hy
        refine ⟨val', l, ?_⟩
        have hne : ∀ b, s.heap.get? b ≠ none → b ≠ pd := fun b hb q => hb (q ▸ e5)
        cases fl with
        | c => exact (RepV.mono (RepV.there r) fun b hb => up .c b hb.1 (hne b hb.2)).keeps k₁.h
        | b => exact (RepV.mono (RepV.there r) fun b hb => up .b b hb.1 (hne b hb.2)).keeps k₁.h
        | o =>
          obtain ⟨d1, a1, as1, g1, g2, g3, g4, g5, g6⟩ := r
          exact ⟨d1, a1, as1, g1, g2, by show (if y = gN then some pd else own y) = some a1; rw [if_neg (real y _ _ hy)]; exact g3, reads_kp k₁.h g4, fun b hb => up .c b (g5 b hb) (hne b (by obtain ⟨ob, e, _⟩ := g6 b (.tail _ hb); rw [e]; simp)), g6.keeps k₁.h⟩
        | s z =>
          obtain rfl := hone y v z hy
          have hz := S.ok.nodup
          have hzo := mem_unique hz hy hm
          cases hzo
          obtain ⟨C1, fs1, dx1, es1, n1, g1, g2, g3, g4, g5, g6, g7⟩ := InstOwn.inst r
          refine .inl ⟨C1, fs1, dx1, es1, n1, g1, g2, by show (if _ = gN then some pd else own _) = _; rw [if_neg (real _ _ _ hy)]; exact g3, up .c _ g4 (hne _ (by rw [g5]; simp)), k₁.h.get g5 (by simp), k₁.h.get g6 (by simp), ?_⟩
          exact fldO_none (fun b hb hn => up .c b hb (hne b hn)) k₁.h g7
      · rcases sub y b q with ⟨_, rfl⟩ | ⟨_, q⟩
        · exact .inr e5
        · exact .inl ⟨y, q⟩
  obtain ⟨own', hsame, S₁, hle, hval⟩ := hown
  have hfr := S₁.frm
  obtain ⟨m, cm, F, hn⟩ := hfr
  obtain ⟨sv, l, r₀⟩ := hn x _ _ hm
  obtain ⟨C', fs', dx, es, k, e1, e2, e3, e4, e5, e6, e7⟩ := InstOwn.inst r₀
  cases e1
  subst e2
  have hd := S.ok.nodebug x (List.mem_map_of_mem (f := fun p : Str × Slot => p.1) hm)
  refine ld_name S.eok.kind (l.is F) hd ?_
  have hnr := (e7.rep (R := fun _ => True) (fun _ _ => trivial) fun _ _ => trivial)
  refine set_field S₁.wd c e5 e6 ht (e7.no hl) hnr.noRef (by rw [hnr.length]; exact hz) ?_
  have hpn := putName_dict f (PyData.keyHash T.w.params f) (.str f (s₁.toks + 1)) val es k
  generalize hh' : s₁.heap.update dx (Obj.putName f (PyData.keyHash T.w.params f) (.str f (s₁.toks + 1)) val) = h'
  have hput : h'.get? dx = some (dictOf (putL f (PyData.keyHash T.w.params f) (.str f (s₁.toks + 1)) val es) (putN f es k)) := by
    rw [← hh', ← hpn]
    refine Heap.get?_update_self _ e6 ?_
    show (Obj.putName _ _ _ _ (dictOf es k)).isFreed = false
    rw [hpn]; rfl
  have S₂ : SI T s₀ d₀ env own' Γ { s₁ with toks := s₁.toks + 2 } := S₁.kp (.tok _ _)
  have hbut : Heap.SameBut dx s₁.heap h' := hh' ▸ Heap.SameBut.update s₁.heap dx _
  have chg : ChgH T.N (· = dx) s₁.heap h' := ChgH.of_but hbut
  have ntup : ∀ z, z = dx → NotTup s₁.heap z := fun z hz => May.notTup S₁ z (.inr (.inr ⟨x, hz ▸ e3⟩))
  have xr : env.kindOf x ≠ none := fun q => by rcases l with ⟨kk, _⟩ | ⟨kk, _⟩ <;> rw [q] at kk <;> cases kk
  obtain ⟨S₃, p₃⟩ := S₂.mutateG (x := x) (g := x) (a := dx) (h' := h') hm e3 (.inl rfl) hp hbut hput ⟨⟨rfl, fun vs q => by cases q⟩, by simp [dictOf], by simp [dictOf]⟩ (fun v' r' => by
    obtain ⟨C'', fs'', dx', es', k', f1, f2, f3, f4, f5, f6, f7⟩ := InstOwn.inst r'
    cases f1
    rw [e3] at f3; cases f3
    have f6' : s₁.heap.get? dx = some { cls := .type "dict", data := .dict (List.toArray es') k' } := f6
    have : ({ cls := .type "dict", data := .dict (List.toArray es) k } : Obj) = { cls := .type "dict", data := .dict (List.toArray es') k' } := Option.some.inj (e6.symm.trans f6')
    simp only [Obj.mk.injEq, Data.dict.injEq, true_and, and_true] at this
    obtain ⟨q1, q2⟩ := this
    have q1' : es = es' := by simpa using q1
    subst q1'; subst q2
    refine .inl ⟨C, _, dx, _, _, rfl, f2, e3, f4, chg.plain e5 (fun q => f4.2.2.2 x (q ▸ e3)) (by simp), hput, ?_⟩
    have e8 : FldO T d₀ env own' s₁.heap o' es fs := by
      rcases ho with ⟨rfl, _⟩ | ⟨rfl, rfl, _⟩
      · exact e7
      · exact e7.mark hl
    exact FldO.chg (N := T.N) chg ntup (fun v d as r hd hr b hb q => by
      rcases hr b hb with hr | ⟨hg, hr⟩
      · exact hr.2.2.2 x (q ▸ e3)
      · have := S₁.ownInj gN x dx (q ▸ hr) e3
        exact xr (this ▸ hg)) (fun b hb _ => hb) (fun b _ hb => hb) (FldO.put hval e8 hl))
  have p₂ : Pres T.N env own s { s₁ with toks := s₁.toks + 2 } := .of_kp (k₁.trans (.tok _ _))
  exact h _ .next _ Γ' own' S₃ (p₂.trans hle p₃) hle trivial hq⟩
where
  mem_unique : ∀ {Γ : Gm} {x : Str} {u v : Slot}, (Γ.map (·.1)).Nodup → (x, u) ∈ Γ → (x, v) ∈ Γ → u = v
    | [], _, _, _, _, h, _ => nomatch h
    | (y, w) :: Γ, x, u, v, hn, h1, h2 => by
      simp only [List.map_cons, List.nodup_cons] at hn
      rcases List.mem_cons.mp h1 with e | h1 <;> rcases List.mem_cons.mp h2 with e' | h2
      · cases e; cases e'; rfl
      · cases e; exact absurd (List.mem_map_of_mem (f := fun p : Str × Slot => p.1) h2) hn.1
      · cases e'; exact absurd (List.mem_map_of_mem (f := fun p : Str × Slot => p.1) h1) hn.1
      · exact mem_unique hn.2 h1 h2
  fldO_none {T : St} {env : Env} {d₀ : Addr → Prop} {own own' : Own} {h h' : Heap} (hR : ∀ b, regOf d₀ env own .c b → h.get? b ≠ none → regOf d₀ env own' .c b) (hk : KpH T.N h h') : ∀ {es : List DictEntry} {fs : List (Str × PyData)}, FldO T d₀ env own h none es fs → FldO T d₀ env own' h' none es fs
    | [], [], _ => trivial
    | e :: es, (x, d) :: fs, ⟨h1, h2, h3⟩ => by
      refine ⟨h1, .inl ⟨by simp, ?_⟩, fldO_none hR hk h3⟩
      rcases h2 with h2 | h2
      · exact (Rep.mono (Rep.there h2.2) fun b hb => hR b hb.1 hb.2).keeps hk
      · exact absurd h2.1 (by simp)
theorem Ex1.setA {x f : Str} {p₁ p₂ p₃ : Pos} {e : PySem.Expr} {d : PyData} {a : Addr} {o : Option Str} (c : ClsOk T C) (he : EvF T n env Γ e d) (ho : o ≠ some f) (hm : (x, some (.i C fs, .s (a, o))) ∈ Γ) (hl : fs.lookup f = none) (ht : takerIn T.K C f = some none) (hz : fs.length < 1000)
    (hp : Put Γ x (some (.i C (fs ++ [(f, d)]), .s (a, o))) Γ') (hs : swapsWith e (some (.Attribute (.Name x p₁) f p₂)) p₃.line env = pure false) (hq : Q .next Γ') : Ex1 T n env Γ (.Assign [.Attribute (.Name x p₁) f p₂] e p₃) Q :=
  Ex1.setG c he (.inl ⟨rfl, ho⟩) hm hl ht hz hp hs hq

structure Inits (T : St) (n : Nat) (fa C : Addr) (xs : List Vl) (fs : List (Str × PyData)) : Prop where
  run : ∀ {A : Around} {s : Shared} {R : Result → Shared → Prop} {vals : List Value} {x dx : Addr} {g : Heap} (D : Addr → Prop), Amb n A → Wd T s.heap → Wd T g → (∀ b o, g.get? b = some o → s.heap.get? b = some o) → (∀ a, D a → g.get? a ≠ none) → RepAs T.w g vals xs →
    g.get? x = none → g.get? dx = none → x ≠ dx → s.heap.get? x = some { cls := .ref C, dict := some dx } → s.heap.get? dx = some { cls := .type "dict", data := .dict #[] 0 } →
    (∀ s', (∃ h tk, s' = { s with heap := h, toks := tk }) → KpH T.N g s'.heap → InstRep T.w (fun a => ¬ D a) s'.heap (.ref x) C fs → R (.ok (.ret .none)) s') → codeAny T.M A (.call (.ref fa) ⟨.ref x :: vals, []⟩) R s
theorem Amb.make {A : Around} (x : Amb (n + 1) A) (C : Addr) (rest : List Value) (kw : List (Str × Value)) : Amb n (A.under (.builtin "type.__call__" ⟨.ref C :: rest, kw⟩)) := by
  have h1 : (Code.builtin "type.__call__" ⟨.ref C :: rest, kw⟩).weight = 1 := by kernel_rfl
  have h2 : (Code.builtin "type.__call__" ⟨.ref C :: rest, kw⟩).cUnits = 1 := by kernel_rfl
  refine ⟨x.handled, ?_, ?_⟩
  · have := x.depth
    show A.depth + (Code.builtin "type.__call__" ⟨.ref C :: rest, kw⟩).weight + n < _
    rw [h1]; omega
  · have := x.units
    show A.units + (Code.builtin "type.__call__" ⟨.ref C :: rest, kw⟩).cUnits + 10 * n + 100 < _
    rw [h2]; omega

theorem Ev.make {m : Nat} {f : Str} {p pos : Pos} {args : List PySem.Expr} {xs : List (Vl × Fl)} {fa : Addr} (hx : env.kindOf f = some .globalImplicit) (hd : (f == ("__debug__" : Str)) = false) (hg : T.mg f = some (.ref C)) (hmk : makesIn T.K C = true) (hkp : keepIn T.K (.ref C) = true)
    (hi : findIn T.K (.ref C) "__init__" = some (some (.ref fa))) (hf : typeIn T.K (.ref fa) = some (.type "function"))
    (ha : EvA T n env Γ args xs) (hc : Inits T m fa C (xs.map (·.1)) fs) (hm : m + 1 ≤ n) : Ev T n env Γ (.Call (.Name f p) args [] pos) (.i C fs) .c := ⟨fun {A reg s E Q} hA R h => by
  refine Call_Name rfl (ld_global R hx hd hg (callWith_of (P := fun h => Frag.In T.K h) (by rw [ha.plain]; rfl) (keeps_K hkp) (evalArgs_any (ha.plain pos) (ha.run hA R fun vals s₁ k₁ r₁ => ⟨(R.wd.kp k₁.h).frag, ?_⟩))))
  have w₁ := R.wd.kp k₁.h
  refine wpAny_call ?_
  obtain ⟨hh, gg, dd, tt, oo⟩ := s₁
  refine make_core (makes_of w₁.frag hmk) (looks_findIn w₁.frag hi) (fun self => bind_fn w₁.frag self hf) (.inl rfl) ?_
  have keep : ∀ b o, hh.get? b = some o → ((hh.push emptyDict).push (instObj C hh.objs.size)).get? b = some o := fun b o e => Heap.get?_push_of_some _ (Heap.get?_push_of_some _ e)
  have hn1 : hh.get? (hh.objs.size + 1) = none := Heap.get?_none_of_le (Nat.le_succ _)
  have hn2 : hh.get? hh.objs.size = none := Heap.get?_none_of_le (Nat.le_refl _)
  refine (hc.run (g := hh) (x := hh.objs.size + 1) (dx := hh.objs.size) (fun b => ¬ reg .c b) ((hA.le hm).make _ _ _) (w₁.kp (.of keep)) w₁ keep (fun b hb e => hb ((R.regs.kp k₁.h).fresh .c b e)) r₁.any hn1 hn2 (Nat.succ_ne_self _) ?_ ?_ fun s' hs' hk' hr' => ?_)
  · heap_get
  · heap_get
  · refine ⟨rfl, ?_⟩
    obtain ⟨h', tk, rfl⟩ := hs'
    exact h _ _ (k₁.trans ⟨h', tk, rfl, hk'⟩) (RepV.mono (x := .i C fs) hr' fun b hb => Classical.byContradiction hb)⟩

theorem Inits.def {fa : Addr} {xs : List Vl} {self : Str} {name qual : Str} {params : Arguments} {body : List Stmt} {scope : Scope} {dV kV doc pm cdv ct oc : Value} {an od : Option Addr} {osl : Array (Option Value)} {ps ls : List Str} {Γp : Gm}
    (ho : T.K.lookup fa = some ⟨oc, od, .func (fnOf name qual params body scope dV kV doc pm an cdv ct), osl⟩) (hcd : codeIn T.K cdv qual = true)
    (hb : Binds (fnOf name qual params body scope dV kV doc pm an cdv ct) (self :: ps)) (hp : Prm ps xs Γp) (hok : GmOk ((self :: ps) ++ ls)) (hk : ∀ x ∈ self :: ps, scope.names.lookup x = some .local ∨ scope.names.lookup x = some .cell)
    (hsc : scope.kind = .function ∧ scope.isCoroutine = false ∧ scope.isGenerator = false)
    (h : ∀ (a : Addr) (env : Env), env.scope = scope → Ex T n env ((self, some (.i C [], .s (a, none))) :: Γp ++ ls.map fun x => (x, none)) body (fun f Γ' => f = .next ∧ ∃ o, (self, some (.i C fs, .s (a, o))) ∈ Γ')) : Inits T (n + 1) fa C xs fs :=
  ⟨fun {A s R vals x dx g} D hA hw hwg hgs hD hr hgx hgd hne hox hod hq => by
    have hsx : ∀ b, g.get? b ≠ none → s.heap.get? b ≠ none := fun b q => by
      cases e : g.get? b with
      | none => exact absurd e q
      | some o => rw [hgs b o e]; simp
    refine codeAny_mono (call_enterC (Γp := (self, some (.i C [], .s (x, none))) :: Γp) (own := fun y => if y = self then some dx else none) (g := g) (D := D) (Q := fun v s' => v = .none ∧ R (.ok (.ret .none)) s') (E := fun _ _ => False) ho hcd hb (by rw [List.map_cons, hp.names]) hok hk hsc (by have := hA.depth; omega) hw hgs hwg hD (by simp [hr.length, hp.length]) (fun y a e => ?_) (fun y z a e1 e2 => ?_) (fun env hL hC hkd y v fl hm => ?_) fun env s₁ he _ _ S _ => ?_) (fun r s' z => ?_)
    · by_cases hy : y = self
      · simp [hy] at e; subst e
        exact ⟨hgd, _, hod, ⟨rfl, fun vs q => by cases q⟩, by simp, by simp⟩
      · simp [hy] at e
    · by_cases hy : y = self <;> by_cases hz : z = self
      · rw [hy, hz]
      · simp [hz] at e2
      · simp [hy] at e1
      · simp [hy] at e1
    · have xL : x ≠ env.locals := fun q => by rw [q, hL] at hox; cases hox
      have xC : ∀ y c, env.cells.lookup y = some c → x ≠ c := fun y c hc q => by rw [q, hC y c hc] at hox; cases hox
      rcases List.mem_cons.mp hm with e | hm
      · cases e
        refine ⟨.ref x, .head _, .inl ⟨C, [], dx, [], 0, rfl, rfl, by simp, ⟨fun hd => hD x hd hgx, xL, xC, fun y q => ?_⟩, hox, hod, trivial⟩⟩
        by_cases hy : y = self
        · simp [hy] at q; exact hne q.symm
        · simp [hy] at q
      · obtain ⟨val, h1, h2, h3, h4⟩ := hp.get hr y v fl hm
        refine ⟨val, .tail _ h1, ?_⟩
        cases fl with
        | o => exact absurd rfl h3.1
        | s z => exact absurd rfl (h3.2 z)
        | c =>
          obtain ⟨d', rfl, hs⟩ := h4 rfl
          exact Rep.keeps (N := T.N) (Rep.still h2 hs) (.of hgs)
        | b =>
          refine RepV.keeps (N := T.N) (RepV.mono (RepV.there h2) fun b hb => ⟨fun q => hsx b hb.2 (q ▸ hL), fun y c hc q => hsx b hb.2 (q ▸ hC y c hc), fun y q => ?_⟩) (.of hgs)
          by_cases hy : y = self
          · simp [hy] at q; exact hb.2 (q ▸ hgd)
          · simp [hy] at q
    · refine (h x env he).run (hA.deeper _) S (fun f f' s' Γ' own' S' p o fr q => ?_) fun k e s' Γ' own' S' p o er q => er.elim
      obtain ⟨rfl, o', hm⟩ := q
      cases f <;> first | exact fr.elim | skip
      obtain ⟨m, cm, F', hn⟩ := S'.frm
      obtain ⟨val, l, r₀⟩ := hn _ _ _ hm
      obtain ⟨C', fs', dx', es, k, e1, e2, e3, e4, e5, e6, e7⟩ := InstOwn.inst r₀
      cases e1
      refine ⟨rfl, hq s' ?_ F'.keep ⟨x, dx', es, k, rfl, e4.1, fun hd => hD _ hd (S'.ownNew _ _ e3).1, e5, e6, e7.rep (fun b hb => hb.1) fun b hb hd => hD _ hd (S'.ownNew _ _ hb).1⟩⟩
      · obtain ⟨h', tk, e⟩ := F'.same; exact ⟨h', tk, e⟩
    · rcases r with e | (v | _ | _ | _) <;> first | exact z.elim | skip
      obtain ⟨rfl, z⟩ := z
      exact z⟩
end
end Mine
namespace Mine
theorem Calls.defK {T : St} {K : Frag} {n : Nat} {a : Addr} {xs : List Vl} {d : PyData} {name qual : Str} {params : Arguments} {body : List Stmt} {scope : Scope} {dV kV doc pm cdv ct oc : Value} {an od : Option Addr} {osl : Array (Option Value)} {Γp : Gm}
    (G : GdK T K) (ps ls : List Str) (ho : K.lookup a = some ⟨oc, od, .func (fnOf name qual params body scope dV kV doc pm an cdv ct), osl⟩) (hcd : codeIn K cdv qual = true)
    (hb : Binds (fnOf name qual params body scope dV kV doc pm an cdv ct) ps) (hp : Prm ps xs Γp) (hok : okNames (ps ++ ls) = true) (hk : okPrm scope ps = true)
    (hsc : scope.kind = .function ∧ scope.isCoroutine = false ∧ scope.isGenerator = false)
    (h : ∀ env : Env, env.scope = scope → Ex T n env (Γp ++ ls.map fun x => (x, none)) body (Ends d)) : Calls T (n + 1) a xs d ∧ ∃ fd, FnAt T a fd :=
  ⟨Calls.def (by rw [G.k]; exact ho) (by rw [G.k]; exact hcd) hb hp (okNames_ok hok) (okPrm_ok hk) hsc h, _, _, by rw [G.k]; exact ho, rfl⟩
theorem Inits.defK {T : St} {K : Frag} {n : Nat} {fa C : Addr} {fs : List (Str × PyData)} {xs : List Vl} {name qual : Str} {params : Arguments} {body : List Stmt} {scope : Scope} {dV kV doc pm cdv ct oc : Value} {an od : Option Addr} {osl : Array (Option Value)} {Γp : Gm}
    (G : GdK T K) (self : Str) (ps ls : List Str) (ho : K.lookup fa = some ⟨oc, od, .func (fnOf name qual params body scope dV kV doc pm an cdv ct), osl⟩) (hcd : codeIn K cdv qual = true)
    (hb : Binds (fnOf name qual params body scope dV kV doc pm an cdv ct) (self :: ps)) (hp : Prm ps xs Γp) (hok : okNames ((self :: ps) ++ ls) = true) (hk : okPrm scope (self :: ps) = true)
    (hsc : scope.kind = .function ∧ scope.isCoroutine = false ∧ scope.isGenerator = false)
    (h : ∀ (a : Addr) (env : Env), env.scope = scope → Ex T n env ((self, some (.i C [], .s (a, none))) :: Γp ++ ls.map fun x => (x, none)) body (fun f Γ' => f = .next ∧ ∃ o, (self, some (.i C fs, .s (a, o))) ∈ Γ')) : Inits T (n + 1) fa C xs fs :=
  Inits.def (by rw [G.k]; exact ho) (by rw [G.k]; exact hcd) hb hp (okNames_ok hok) (okPrm_ok hk) hsc h
end Mine
end
section
open PySem PySem.Calls PyProof.Rows PySem.W
set_option linter.all false
namespace Mine
section
variable {prog : Program} {w : World} {R : Addr → Prop} {h h' : Heap}
theorem dict_parts {m : List (List Nat × PyData)} {a : Addr} {as : List Addr} (r : Reads h (.ref a) (dictD m) (a :: as)) (hd : Dok w h (a :: as)) (hn : (m.map (·.1)).Nodup) :
    a ≠ sysModules ∧ ∃ vs, h.DictOf (strKind prog w) a ((m.map fun p => mkS p.1).zip vs) ∧ ReadsAll h vs (m.map (·.2)) as := by
  generalize hc : a :: as = cs at r hd
  cases r with
  | @dict a' o es n _ as' bs ho hc' hdat hks hvs =>
    have e1 : (m.map fun p => ((.str (mkS p.1), p.2) : PyData × PyData)).map (·.1) = m.map fun p => .str (mkS p.1) := by rw [List.map_map]; rfl
    have e2 : (m.map fun p => ((.str (mkS p.1), p.2) : PyData × PyData)).map (·.2) = m.map (·.2) := by rw [List.map_map]; rfl
    rw [e1] at hks; rw [e2] at hvs
    have hz := readsAll_nil hks
    subst hz
    simp only [List.cons_append, List.nil_append, List.cons.injEq, true_and] at hc
    subst hc
    obtain ⟨o', ho', hdk⟩ := hd a (by simp)
    rw [ho] at ho'; cases ho'
    obtain ⟨h1, h2, h3⟩ := hdk _ _ hdat
    have hP := pairs_of (prog := prog) (w := w) hks hvs
    have hlen : (es.toList.map (·.val)).length = m.length := by
      have hA : RepAll w (fun _ => True) h (es.toList.map (·.val)) (m.map (·.2)) := ⟨as, hvs, fun _ _ => trivial, fun b hb => hd b (by simp [hb])⟩
      rw [hA.length, List.length_map]
    refine ⟨h1, es.toList.map (·.val), ⟨o, es, n, ho, ⟨h2.1, h2.2.1, h2.2.2⟩, hdat, fun e he => ?_, hP, ?_⟩, hvs⟩
    · obtain ⟨y, t, q1, q2⟩ := h3 e (by simpa using he)
      exact ⟨y, by show Value.isStrOf y e.key = true; rw [q1]; show (y == y) = true; simp, q2⟩
    · rw [zip_keys hlen]
      exact List.pairwise_map.mpr ((List.pairwise_map.mp hn).imp fun h e => h (mkS_inj.mp e))
theorem keys_reads {h : Heap} : ∀ {es : List DictEntry} {m : List (List Nat × PyData)} {vs : List Value}, vs.length = m.length → Pairs (strKind prog w) es ((m.map fun p => mkS p.1).zip vs) → ReadsAll h (es.map (·.key)) (m.map fun p => .str (mkS p.1)) [] ∧ es.map (·.val) = vs
  | [], [], [], _, _ => ⟨.nil, rfl⟩
  | [], [], _ :: _, h, _ => by simp at h
  | _, _ :: _, [], h, _ => by simp at h
  | [], _ :: _, _ :: _, _, p => nomatch p
  | _ :: _, [], [], _, p => nomatch p
  | _ :: _, [], _ :: _, h, _ => by simp at h
  | e :: es, q :: m, v :: vs, h, .cons h1 h2 h3 => by
    obtain ⟨i1, i2⟩ := keys_reads (m := m) (vs := vs) (by simpa using h) h3
    obtain ⟨t, ht⟩ := Value.isStrOf_shape h1
    refine ⟨?_, ?_⟩
    · rw [List.map_cons, ht]; exact ReadsAll.cons (as := []) (bs := []) (.str _ _) i1
    · rw [List.map_cons, i2]; exact congrArg (· :: vs) h2
theorem dict_reads {m : List (List Nat × PyData)} {a : Addr} {vs : List Value} {as : List Addr} (hs : a ≠ sysModules) (hd : h.DictOf (strKind prog w) a ((m.map fun p => mkS p.1).zip vs)) (hv : ReadsAll h vs (m.map (·.2)) as) (hk : Dok w h as) :
    Reads h (.ref a) (dictD m) (a :: as) ∧ Dok w h (a :: as) ∧ ∃ o, h.get? a = some o ∧ (o.dict = none ∧ ∀ vs, o.data ≠ .fields vs) ∧ o.cls ≠ .type "tuple" ∧ o.cls ≠ .type "frame" := by
  obtain ⟨o, es, ep, ho, hx, hdat, hks, hP, hnd⟩ := hd
  have hlen : vs.length = m.length := by
    have hA : RepAll w (fun _ => True) h vs (m.map (·.2)) := ⟨as, hv, fun _ _ => trivial, hk⟩
    rw [hA.length, List.length_map]
  obtain ⟨k1, k2⟩ := keys_reads hlen hP
  have e1 : (m.map fun p => ((.str (mkS p.1), p.2) : PyData × PyData)).map (·.1) = m.map fun p => .str (mkS p.1) := by rw [List.map_map]; rfl
  have e2 : (m.map fun p => ((.str (mkS p.1), p.2) : PyData × PyData)).map (·.2) = m.map (·.2) := by rw [List.map_map]; rfl
  refine ⟨Reads.dict (as := []) (bs := as) ho hx.1 hdat (by rw [e1]; exact k1) (by rw [e2, k2]; exact hv), fun b hb => ?_, o, ho, ⟨hx.2.1, fun vs q => by rw [hdat] at q; cases q⟩, by rw [hx.1]; simp, by rw [hx.1]; simp⟩
  rcases List.mem_cons.mp hb with rfl | hb
  · refine ⟨o, ho, fun es' n' q => ⟨hs, ⟨hx.1, hx.2.1, hx.2.2⟩, fun e he => ?_⟩⟩
    rw [hdat] at q; cases q
    obtain ⟨y, q1, q2⟩ := hks e (by simpa using he)
    obtain ⟨t, ht⟩ := Value.isStrOf_shape q1
    exact ⟨y, t, ht, q2⟩
  · exact hk b hb
theorem stored_new : ∀ {m : List (List Nat × PyData)} {vs : List Value} {k : List Nat} {d : PyData} {v : Value}, vs.length = m.length → m.lookup k = none →
    stored ((m.map fun p => mkS p.1).zip vs) (mkS k) v = ((m ++ [(k, d)]).map fun p => mkS p.1).zip (vs ++ [v]) := by
  intro m vs k d v hlen hl
  have hno : ((m.map fun p => mkS p.1).zip vs).any (fun kv => kv.1 = mkS k) = false := by
    rw [List.any_eq_false]
    intro kv hkv
    have h1 := List.of_mem_zip hkv
    obtain ⟨p, hp, e⟩ := List.mem_map.mp h1.1
    simp only [decide_eq_true_eq]
    intro q
    have : p.1 = k := mkS_inj.mp (e.trans q)
    have hlk : m.lookup k ≠ none := by
      clear hl hlen hkv h1 e q
      induction m with
      | nil => cases hp
      | cons r m ih =>
        rw [show r = (r.1, r.2) from rfl, List.lookup_cons]
        by_cases hr : k = r.1
        · simp [hr]
        · have : (k == r.1) = false := by simpa using hr
          rw [this]
          rcases List.mem_cons.mp hp with rfl | hp
          · exact absurd ‹p.1 = k›.symm hr
          · exact ih hp
    exact hlk hl
  unfold stored
  rw [hno, if_neg (by decide), List.map_append, List.zip_append (by rw [List.length_map]; exact hlen.symm)]
  rfl
end
section
variable {T : St} {n : Nat} {env : Env} {Γ Γ' : Gm} {Q : Fw → Gm → Prop} {m : List (List Nat × PyData)}
theorem dict_store {A : Around} {E : Value → Shared → Prop} {QQ : Unit → Shared → Prop} {s : Shared} {R : Addr → Prop} {a : Addr} {as : List Addr} {k : List Nat} {t : Tok} {v : Value} {d : PyData}
    (r : Reads s.heap (.ref a) (dictD m) (a :: as)) (hd : Dok T.w s.heap (a :: as)) (hr : ∀ b ∈ as, R b) (hv : Rep T.w R s.heap v d) (hRa : ∀ b, R b → b ≠ a) (hn : (m.map (·.1)).Nodup) (hl : m.lookup k = none) (hz : m.length ≤ sizeLine)
    (h : ∀ h' o', Heap.SameBut a s.heap h' → h'.get? a = some o' → ((o'.dict = none ∧ ∀ vs, o'.data ≠ .fields vs) ∧ o'.cls ≠ .type "tuple" ∧ o'.cls ≠ .type "frame") →
      (∃ as', Reads h' (.ref a) (dictD (m ++ [(k, d)])) (a :: as') ∧ (∀ b ∈ as', R b) ∧ Dok T.w h' (a :: as')) → QQ () { s with heap := h', toks := s.toks + 1 }) : wpAny T.M A (setItem (.ref a) (.str (mkS k) t) v) QQ E s := by
  obtain ⟨hs, vs, hdo, hvs⟩ := dict_parts (prog := T.prog) r hd hn
  have hall : RepAll T.w R s.heap vs (m.map (·.2)) := ⟨as, hvs, hr, fun b hb => hd b (.tail _ hb)⟩
  have hlen : vs.length = m.length := by rw [hall.length, List.length_map]
  refine wpAny_setItem_pairs (knd := strKind T.prog T.w) (k := mkS k) (by show (mkS k == mkS k) = true; simp) hdo (fun h' hd' hb => ?_) (by rw [List.length_zip, List.length_map, hlen, Nat.min_self]; exact hz)
  rw [stored_new (d := d) hlen hl] at hd'
  have chg : ChgH T.N (· = a) s.heap h' := ChgH.of_but hb
  have ntup : ∀ z, z = a → NotTup s.heap z := fun z hz o vs k e hc hdat => by
    obtain ⟨o', _, _, ho, hx, _⟩ := hdo
    rw [hz, ho] at e; cases e
    rw [hx.1] at hc; simp at hc
  obtain ⟨bs, q1, q2, q3⟩ := RepAll.chg (hall.append (RepAll.cons hv RepAll.nil)) chg ntup fun b hb q => hRa b hb q
  have q1' : ReadsAll h' (vs ++ [v]) ((m ++ [(k, d)]).map (·.2)) bs := by rw [List.map_append]; exact q1
  obtain ⟨z1, z2, o, z3, z4⟩ := dict_reads hs hd' q1' q3
  exact h h' o hb z3 z4 ⟨bs, z1, q2, z2⟩
theorem Ex1.setNew {x : Str} {p₁ p₂ p₃ : Pos} {e ke : PySem.Expr} {k : List Nat} {d : PyData} {fk : Fl} (hm : (x, some (.d (dictD m), .o)) ∈ Γ) (he : Ev T n env Γ e (.d d) .c) (hk : Ev T n env Γ ke (.d (.str (mkS k))) fk) (hn : (m.map (·.1)).Nodup) (hl : m.lookup k = none) (hz : m.length ≤ sizeLine)
    (hp : Put Γ x (some (.d (dictD (m ++ [(k, d)])), .o)) Γ') (hs : swapsWith e (some (.Subscript (.Name x p₁) ke p₂)) p₃.line env = pure false) (hq : Q .next Γ') : Ex1 T n env Γ (.Assign [.Subscript (.Name x p₁) ke p₂] e p₃) Q := ⟨fun {A s₀ d₀ own s E QQ} hA S h hx => by
  refine wpAny_Assign_Subscript (he.run hA S.rd fun val s₁ k₁ r₁ => ?_) hs
  have S₁ := S.kp k₁
  obtain ⟨m₁, cm₁, F₁, hn₁⟩ := S₁.frm
  obtain ⟨vx, l, dd, a, as, e1, e2, e3, e4, e5, e6⟩ := hn₁ x _ _ hm
  cases e1
  subst e2
  have hdb := S.ok.nodebug x (List.mem_map_of_mem (f := fun p : Str × Slot => p.1) hm)
  refine ld_name S.eok.kind (l.is F₁) hdb (hk.run hA S₁.rd fun kv s₂ k₂ r₂ => ?_)
  obtain ⟨t, rfl⟩ := Rep.str_inv r₂
  have S₂ := S₁.kp k₂
  refine dict_store (R := regOf d₀ env own .c) (reads_kp k₂.h e4) (e6.keeps k₂.h) e5 (Rep.keeps r₁ k₂.h) (fun b hb q => hb.2.2.2 x (q ▸ e3)) hn hl hz fun h' o' hb ho' hok hrep => ?_
  obtain ⟨S₃, p₃⟩ := (S₂.kp (.tok s₂ (s₂.toks + 1))).mutate hm e3 hp hb ho' hok hrep
  exact h _ .next _ Γ' own S₃ ((Pres.of_kp ((k₁.trans k₂).trans (.tok _ _))).trans (.refl _ _) p₃) (.refl _ _) trivial hq⟩
end
end Mine
end
section
open PySem PySem.Calls PyProof.Rows PySem.W
set_option linter.all false
namespace Mine
inductive FSet (f : Str) (d' : PyData) : List (Str × PyData) → List (Str × PyData) → Prop where
  | here {d : PyData} {r : List (Str × PyData)} : FSet f d' ((f, d) :: r) ((f, d') :: r)
  | there {x : Str} {d : PyData} {r r' : List (Str × PyData)} : x ≠ f → FSet f d' r r' → FSet f d' ((x, d) :: r) ((x, d) :: r')
section
variable {T : St} {n : Nat} {env : Env} {Γ Γ' : Gm} {Q : Fw → Gm → Prop} {m : List (List Nat × PyData)} {C : Addr} {d₀ : Addr → Prop} {own : Own} {h h' : Heap} {f : Str}
theorem FldO.get {d : PyData} : ∀ {es : List DictEntry} {fs : List (Str × PyData)}, FldO T d₀ env own h (some f) es fs → fs.lookup f = some d →
    env.kindOf gN = none ∧ ∃ pd as, getL f es = some (some (.ref pd)) ∧ own gN = some pd ∧ Reads h (.ref pd) d (pd :: as) ∧ (∀ b ∈ as, regOf d₀ env own .c b) ∧ Dok T.w h (pd :: as)
  | [], [], _, e => by simp at e
  | e :: es, (x, d') :: fs, ⟨⟨⟨t, hk⟩, hh⟩, hv, r⟩, hl => by
    rw [List.lookup_cons] at hl
    by_cases hx : f = x
    · subst hx
      simp at hl
      subst hl
      rcases hv with hv | ⟨_, q', pd, as, e1, e2, e3, e4, e5⟩
      · exact absurd rfl hv.1
      · exact ⟨q', pd, as, by simp [getL, hk, Value.isStr, e1], e2, e1 ▸ e3, e4, e5⟩
    · have hx' : (f == x) = false := by simpa using hx
      rw [hx'] at hl
      obtain ⟨h0, pd, as, h1, h2⟩ := FldO.get r hl
      refine ⟨h0, pd, as, ?_, h2⟩
      have hne : e.key.isStr f = false := by rw [hk]; show (x == f) = false; simpa using Ne.symm hx
      unfold getL at h1 ⊢
      rw [List.find?_cons_of_neg (by rw [hne]; decide)]
      cases q : es.find? (·.key.isStr f) with
      | some e' => rw [q] at h1; exact h1
      | none => rw [q] at h1; simp only at h1; split at h1 <;> cases h1
theorem FldO.keep {pd : Addr} (hg : own gN = some pd) (hb : Heap.SameBut pd h h') (hnt : NotTup h pd) : ∀ {es : List DictEntry} {fs : List (Str × PyData)}, FldO T d₀ env own h (some f) es fs → f ∉ fs.map (·.1) → FldO T d₀ env own h' (some f) es fs
  | [], [], _, _ => trivial
  | e :: es, (x, d') :: fs, ⟨h1, hv, r⟩, hn => by
    simp only [List.map_cons, List.mem_cons, not_or] at hn
    refine ⟨h1, ?_, FldO.keep hg hb hnt r hn.2⟩
    rcases hv with hv | hv
    · exact .inl ⟨hv.1, Rep.chg (N := T.N) hv.2 (ChgH.of_but hb) (fun z hz => hz ▸ hnt) fun b hb' q => hb'.2.2.2 gN (by rw [show b = pd from q]; exact hg)⟩
    · exact absurd (Option.some.inj hv.1) hn.1
theorem FldO.upd {pd : Addr} {d' : PyData} (hg : own gN = some pd) (hb : Heap.SameBut pd h h') (hnt : NotTup h pd) (hrep : ∃ as, Reads h' (.ref pd) d' (pd :: as) ∧ (∀ b ∈ as, regOf d₀ env own .c b) ∧ Dok T.w h' (pd :: as)) :
    ∀ {es : List DictEntry} {fs fs' : List (Str × PyData)}, FldO T d₀ env own h (some f) es fs → (fs.map (·.1)).Nodup → FSet f d' fs fs' → FldO T d₀ env own h' (some f) es fs'
  | [], [], _, _, _, hs => nomatch hs
  | e :: es, (x, d) :: fs, _, ⟨h1, hv, r⟩, hn, .there hx hs => by
    simp only [List.map_cons, List.nodup_cons] at hn
    refine ⟨h1, ?_, FldO.upd hg hb hnt hrep r hn.2 hs⟩
    rcases hv with hv | hv
    · exact .inl ⟨hv.1, Rep.chg (N := T.N) hv.2 (ChgH.of_but hb) (fun z hz => hz ▸ hnt) fun b hb' q => hb'.2.2.2 gN (by rw [show b = pd from q]; exact hg)⟩
    · exact absurd (Option.some.inj hv.1).symm hx
  | e :: es, (_, d) :: fs, _, ⟨h1, hv, r⟩, hn, .here => by
    simp only [List.map_cons, List.nodup_cons] at hn
    refine ⟨h1, ?_, FldO.keep hg hb hnt r hn.1⟩
    rcases hv with hv | ⟨_, q', pd', as, e1, e2, _⟩
    · exact absurd rfl hv.1
    · rw [hg] at e2; cases e2
      obtain ⟨as', r1, r2, r3⟩ := hrep
      exact .inr ⟨rfl, q', pd, as', e1, hg, e1 ▸ r1, r2, r3⟩
theorem SI.drop {s₀ s : Shared} {x : Str} (S : SI T s₀ d₀ env own Γ s) (hp : Put Γ x none Γ') : SI T s₀ d₀ env own Γ' s := by
  obtain ⟨m, cm, F, hn⟩ := S.frm
  refine ⟨S.eok, S.cok, by rw [hp.names]; exact S.ok, S.wd0, S.d0, S.ownNew, S.ownInj, m, cm, F, fun y v fl hm' => ?_⟩
  rcases hp.cases S.ok.nodup y _ hm' with ⟨rfl, e⟩ | ⟨_, hm''⟩
  · cases e
  · exact hn y v fl hm''
theorem Ex.drop {x : Str} {ss : List Stmt} (hp : Put Γ x none Γ') (h : Ex T n env Γ' ss Q) : Ex T n env Γ ss Q := ⟨fun {A s₀ d₀ own s E QQ} hA S hq hx => h.run hA (S.drop hp) hq hx⟩
theorem Ex1.setSelf {x : Str} {p₀ p₁ p₂ p₃ : Pos} {e ke : PySem.Expr} {k : List Nat} {d : PyData} {fk : Fl} {a : Addr} {fs fs' : List (Str × PyData)} (c : ClsOk T C) (hm : (x, some (.i C fs, .s (a, some f))) ∈ Γ) (hf : fs.lookup f = some (dictD m)) (hfn : (fs.map (·.1)).Nodup) (hfs : FSet f (dictD (m ++ [(k, d)])) fs fs')
    (ha : findIn T.K (.ref C) f = some none) (hone : ∀ y v z, (y, some (v, .s z)) ∈ Γ → y = x) (he : Ev T n env Γ e (.d d) .c) (hk : Ev T n env Γ ke (.d (.str (mkS k))) fk) (hn : (m.map (·.1)).Nodup) (hl : m.lookup k = none) (hz : m.length ≤ sizeLine)
    (hp : Put Γ x (some (.i C fs', .s (a, some f))) Γ') (hs : swapsWith e (some (.Subscript (.Attribute (.Name x p₀) f p₁) ke p₂)) p₃.line env = pure false) (hq : Q .next Γ') : Ex1 T n env Γ (.Assign [.Subscript (.Attribute (.Name x p₀) f p₁) ke p₂] e p₃) Q := ⟨fun {A s₀ d₀ own s E QQ} hA S h hx => by
  refine wpAny_Assign_Subscript (he.run hA S.rd fun val s₁ k₁ r₁ => ?_) hs
  have S₁ := S.kp k₁
  obtain ⟨m₁, cm₁, F₁, hn₁⟩ := S₁.frm
  obtain ⟨vx, l, r₀⟩ := hn₁ x _ _ hm
  obtain ⟨C', fs1, dx, es, kk, e1, e2, e3, e4, e5, e6, e7⟩ := InstOwn.inst r₀
  cases e1
  subst e2
  have hdb := S.ok.nodebug x (List.mem_map_of_mem (f := fun p : Str × Slot => p.1) hm)
  obtain ⟨hgk, pd, as, g1, g2, g3, g4, g5⟩ := e7.get hf
  refine Attribute_name (ld_name S.eok.kind (l.is F₁) hdb (get_value S₁.wd.frag (inst_at e5 e6) c.ga (findObj_own c.dict ha rfl (by rw [lookIn_dict]; exact g1)) rfl ?_))
  have k₁' : Kp T.N s₁ { s₁ with toks := s₁.toks + 1 } := .tok _ _
  refine hk.run hA (S₁.kp k₁').rd fun kv s₂ k₂ r₂ => ?_
  obtain ⟨t, rfl⟩ := Rep.str_inv r₂
  have k₂' := k₁'.trans k₂
  have S₂ := S₁.kp k₂'
  refine dict_store (R := regOf d₀ env own .c) (reads_kp k₂'.h g3) (g5.keeps k₂'.h) g4 (Rep.keeps r₁ k₂'.h) (fun b hb q => hb.2.2.2 gN (q ▸ g2)) hn hl hz fun h' o' hb ho' hok hrep => ?_
  have S₃ := S₂.kp (.tok s₂ (s₂.toks + 1))
  have hnt : NotTup s₂.heap pd := May.notTup S₂ pd (.inr (.inr ⟨gN, g2⟩))
  obtain ⟨S₄, p₄⟩ := S₃.mutateG (x := x) (g := gN) (a := pd) (h' := h') hm g2 (.inr ⟨hgk, hone⟩) hp hb ho' hok (fun v' r' => by
    obtain ⟨C'', fs'', dx', es', k', f1, f2, f3, f4, f5, f6, f7⟩ := InstOwn.inst r'
    cases f1
    have hdp : dx' ≠ pd := fun q => by
      have := S₂.ownInj x gN pd (q ▸ f3) g2
      rw [← this] at hgk
      rcases l with ⟨kd, _⟩ | ⟨kd, _⟩ <;> rw [hgk] at kd <;> cases kd
    refine .inl ⟨C, fs', dx', es', k', rfl, f2, f3, f4, (hb.2 a fun q => f4.2.2.2 gN (q ▸ g2)).trans f5, (hb.2 dx' hdp).trans f6, ?_⟩
    exact FldO.upd g2 hb hnt hrep f7 hfn hfs)
  exact h _ .next _ Γ' own S₄ ((Pres.of_kp ((k₁.trans k₂').trans (.tok _ _))).trans (.refl _ _) p₄) (.refl _ _) trivial hq⟩
end
end Mine
end
section
open PySem PySem.Calls PyProof.Rows PySem.W
set_option linter.all false
set_option maxRecDepth 100000
namespace Mine
section
variable {T : St} {n : Nat} {m : List (List Nat × PyData)} {fl : Fl}
theorem readsAll_keys {h : Heap} : ∀ {vs : List Value} {m : List (List Nat × PyData)}, vs.length = m.length → (∀ (i : Nat) (v : Value), vs[i]? = some v → ∃ p t, m[i]? = some p ∧ v = Value.str (mkS p.1) t) → ReadsAll h vs (m.map fun p => .str (mkS p.1)) []
  | [], [], _, _ => .nil
  | [], _ :: _, h, _ => by simp at h
  | _ :: _, [], h, _ => by simp at h
  | v :: vs, p :: m, h, hv => by
    obtain ⟨p', t, e1, rfl⟩ := hv 0 v rfl
    cases e1
    exact ReadsAll.cons (as := []) (bs := []) (.str _ _) (readsAll_keys (by simpa using h) fun i v hi => by simpa using hv (i + 1) v (by simpa using hi))
theorem CallB.listD (hn : (m.map (·.1)).Nodup) (hz : m.length ≤ sizeLine) : CallB T n (.type "list") [(.d (dictD m), fl)] (.list (PL (m.map (·.1)))) := ⟨fun {A reg s E Q vals} hA R W r h => by
  cases r with
  | cons r1 r2 =>
    cases r2
    obtain ⟨a, vs, rfl, _, hsm, ⟨ep, hd⟩, hall⟩ := Rep.dict_inv (prog := T.prog) r1 hn
    have hlv : vs.length = m.length := by rw [hall.length, List.length_map]
    have hlen : ((m.map fun p => mkS p.1).zip vs).length = m.length := by simp [hlv]
    refine kdl_call (kdl_dict (knd := strKind T.prog T.w) (kvs := (m.map fun p => mkS p.1).zip vs) (ep := ep) (by simpa using hsm)) hA.handled hd (by rw [hlen]; exact hz) fun h' tk acc' c' hk hD hacc => ?_
    rw [show PL (m.map (·.1)) = m.map fun p => .str (mkS p.1) by rw [PL, List.map_map]; rfl] at h
    have hitems : RepAll T.w (reg .c) s.heap acc'.toList (m.map fun p => .str (mkS p.1)) := by
      refine ⟨[], readsAll_keys (by rw [Array.length_toList, hacc.1, hlen]) fun i v hi => ?_, fun _ h => (nomatch h), fun _ h => (nomatch h)⟩
      obtain ⟨k, x, hkx, hkv⟩ := hacc.2 i v (by rw [← Array.getElem?_toList]; exact hi)
      obtain ⟨t, rfl⟩ := Value.isStrOf_shape hkv
      have h1 := (List.getElem?_zip_eq_some.mp hkx).1
      rw [List.getElem?_map] at h1
      obtain ⟨p, q1, q2⟩ := Option.map_eq_some_iff.mp h1
      exact ⟨p, t, q1, by rw [show mkS p.1 = k from q2]⟩
    exact h _ _ (.of ⟨h', tk, rfl, hk⟩) (repF_list (N := T.N) (fun b hb => R.fresh .c b hb) (Heap.get?_none_of_le (Nat.le_refl _)) (by simpa using hD) rfl rfl rfl hitems (.of hk))⟩
end
section
variable {prog : Program} {w : World} {K : Type} [DecidableEq K] {knd : KeyKind prog w K} {A : Around} {E : Value → Shared → Prop} {s : Shared}
end
section
variable {prog : Program} {w : World} {A : Around} {E : Value → Shared → Prop} {s : Shared}
end
section
variable {prog : Program} {w : World} {K : Type} [DecidableEq K] {knd : KeyKind prog w K} {A : Around} {E : Value → Shared → Prop} {s : Shared}
end
section
variable {T : St} {n : Nat} {env : Env} {Γ Γ' : Gm} {Q Q' : Fw → Gm → Prop} {m : List (List Nat × PyData)} {fl : Fl}
end
end Mine
end
section
open PySem PySem.Calls PyProof.Rows PySem.W
set_option linter.all false
set_option maxRecDepth 100000
namespace Mine
section
variable {T : St} {n : Nat} {env : Env} {Γ Γ' : Gm} {C : Addr} {fs : List (Str × PyData)} {fl : Fl}
end
noncomputable def OutOk (T : St) (h : Heap) (l : List Env) : Prop := ∀ e ∈ l, e.scope.kind ≠ .module ∧ ∃ L o, e.frame = some L ∧ h.get? L = some o ∧ (∀ vs, o.data ≠ .fields vs) ∧ T.K.lookup L = none
theorem ff_of {T : St} {h base : Heap} : ∀ {l : List Env}, OutOk T h l → (∀ L ∈ l.filterMap (·.frame), base.get? L = none) → h.FunFrames base l
  | [], _, _ => trivial
  | e :: l, x, hb => by
    obtain ⟨h1, L, o, h2, h3, h4, _⟩ := x e (.head _)
    refine ⟨h1, ⟨L, o, h2, hb L ?_, h3, h4⟩, ff_of (fun e' he => x e' (.tail _ he)) fun L' hL' => hb L' ?_⟩
    · rw [List.filterMap_cons_some h2]; exact .head _
    · rw [List.filterMap_cons_some h2]; exact .tail _ hL'
noncomputable def groundO (N : Nat) (env : Env) (l : List Env) (h : Heap) : Heap := hideAll h (l.filterMap (·.frame) ++ hidden N env h)
theorem groundO_get {N : Nat} {env : Env} {l : List Env} {h : Heap} {b : Addr} {o : Obj} (e : h.get? b = some o) (hb : b ∉ l.filterMap (·.frame)) (hl : b ≠ env.locals) (hc : o.cls ≠ .type "frame" ∨ b < N ∨ ∃ vs, o.data = .fields vs) : (groundO N env l h).get? b = some o := by
  refine hideAll_get _ e fun q => ?_
  rcases List.mem_append.mp q with q | q
  · exact hb q
  rcases List.mem_cons.mp q with q | q
  · exact hl q
  · have := (List.mem_filter.mp q).2
    simp only [decide_eq_true_eq] at this
    obtain ⟨h1, o', h2, h3, h4⟩ := this
    rw [e] at h2; cases h2
    rcases hc with h | h | ⟨vs, h⟩
    · exact h h3
    · exact Nat.not_lt.mpr h1 h
    · exact h4 vs h
theorem groundO_ok {N : Nat} {env : Env} {l : List Env} {h : Heap} : BaseOk N (groundO N env l h) := fun b o e => by
  have e' := of_hideAll _ e
  by_cases hb : b < N
  · exact .inr (.inl hb)
  · by_cases hf : ∃ vs, o.data = .fields vs
    · exact .inr (.inr hf)
    refine .inl fun hc => ?_
    have : (groundO N env l h).get? b = none := hideAll_none _ (List.mem_append_right _ (.tail _ (List.mem_filter.mpr ⟨List.mem_range.mpr (Heap.lt_size e'), by simp only [decide_eq_true_eq]; exact ⟨Nat.not_lt.mp hb, o, e', hc, fun vs q => hf ⟨vs, q⟩⟩⟩)))
    rw [e] at this; cases this
theorem ns_up {h h' : Heap} {L : Addr} {m : Str → Option Value} (x : h.Ns L m) (u : h.UpToSlots h') : h'.Ns L m := by
  obtain ⟨o, es, ep, ho, hd, r⟩ := x
  obtain ⟨sl, e⟩ := u L o ho fun vs q => by rw [hd] at q; cases q
  exact ⟨_, es, ep, e, hd, r⟩
theorem Wd.up {T : St} {h h' : Heap} (x : Wd T h) (u : h.UpToSlots h') (hk : ∀ a o, T.K.lookup a = some o → h'.get? a = some o) : Wd T h' :=
  ⟨ns_up x.g u, ns_up x.b u, let ⟨mc, a, b⟩ := x.lim; ⟨mc, ns_up a u, b⟩, hk, x.kn⟩
end Mine
end
section
open PySem PySem.Calls PyProof.Rows PySem.W
set_option linter.all false
set_option maxRecDepth 100000
namespace Mine
section
variable {w : World} {R : Addr → Prop} {A : Around} {s : Shared}
end
section
variable {T : St} {n : Nat} {env : Env} {Γ Γ' : Gm} {Q : Fw → Gm → Prop} {m : List (List Nat × PyData)}
theorem lookup_nd {α : Type} {l : List (List Nat × α)} {p : List Nat × α} (hn : (l.map (·.1)).Nodup) (h : p ∈ l) : l.lookup p.1 = some p.2 := by
  induction l with
  | nil => cases h
  | cons q l ih =>
    simp only [List.map_cons, List.nodup_cons] at hn
    rw [show q = (q.1, q.2) from rfl, List.lookup_cons]
    rcases List.mem_cons.mp h with rfl | h
    · simp
    · have : (p.1 == q.1) = false := by
        simp only [beq_eq_false_iff_ne, ne_eq]
        intro e
        exact hn.1 (List.mem_map.mpr ⟨p, h, e⟩)
      rw [this]; exact ih hn.2 h
noncomputable def setM (m : List (List Nat × PyData)) (k : List Nat) (d : PyData) : List (List Nat × PyData) := if (m.lookup k).isSome then m.map fun p => if p.1 = k then (p.1, d) else p else m ++ [(k, d)]
theorem setM_keys (hn : (m.map (·.1)).Nodup) (k : List Nat) (d : PyData) : ((setM m k d).map (·.1)).Nodup := by
  unfold setM
  split
  · rw [List.map_map]
    have : ((fun p : List Nat × PyData => p.1) ∘ fun p => if p.1 = k then (p.1, d) else p) = fun p => p.1 := by funext p; simp only [Function.comp]; split <;> rfl
    rw [this]; exact hn
  · rename_i h
    rw [List.map_append, List.nodup_append]
    refine ⟨hn, by simp, fun x hx y hy => ?_⟩
    simp only [List.map_cons, List.map_nil, List.mem_singleton] at hy
    rw [hy]
    rintro rfl
    refine h ?_
    obtain ⟨p, hp, rfl⟩ := List.mem_map.mp hx
    rw [lookup_nd hn hp]; rfl
theorem setM_len (k : List Nat) (d : PyData) : (setM m k d).length ≤ m.length + 1 := by unfold setM; split <;> simp
theorem stored_old : ∀ {m : List (List Nat × PyData)} {vs : List Value} {k : List Nat} {d : PyData} {v : Value} {w : World} {R : Addr → Prop} {h : Heap}, RepAll w R h vs (m.map (·.2)) → Rep w R h v d →
    ∃ vs', ((m.map fun p => mkS p.1).zip vs).map (fun kv => if kv.1 = mkS k then (kv.1, v) else kv) = ((m.map fun p => if p.1 = k then (p.1, d) else p).map fun p => mkS p.1).zip vs' ∧ RepAll w R h vs' ((m.map fun p => if p.1 = k then (p.1, d) else p).map (·.2))
  | [], [], _, _, _, _, _, _, r, _ => ⟨[], rfl, r⟩
  | [], _ :: _, _, _, _, _, _, _, ⟨_, r, _⟩, _ => nomatch r
  | _ :: _, [], _, _, _, _, _, _, ⟨_, r, _⟩, _ => nomatch r
  | p :: m, u :: vs, k, d, v, w, R, h, r, hv => by
    obtain ⟨r1, r2⟩ := r.cons_inv
    obtain ⟨vs', e, ra⟩ := stored_old (k := k) r2 hv
    by_cases hp : p.1 = k
    · refine ⟨v :: vs', ?_, ?_⟩
      · simp only [List.map_cons, List.zip_cons_cons, e, if_pos hp, if_pos (congrArg mkS hp)]
      · simp only [List.map_cons, if_pos hp]; exact RepAll.cons hv ra
    · refine ⟨u :: vs', ?_, ?_⟩
      · simp only [List.map_cons, List.zip_cons_cons, e, if_neg hp, if_neg fun q => hp (mkS_inj.mp q)]
      · simp only [List.map_cons, if_neg hp]; exact RepAll.cons r1 ra
theorem dict_storeA {A : Around} {E : Value → Shared → Prop} {QQ : Unit → Shared → Prop} {s : Shared} {R : Addr → Prop} {a : Addr} {as : List Addr} {k : List Nat} {t : Tok} {v : Value} {d : PyData}
    (r : Reads s.heap (.ref a) (dictD m) (a :: as)) (hd : Dok T.w s.heap (a :: as)) (hr : ∀ b ∈ as, R b) (hv : Rep T.w R s.heap v d) (hRa : ∀ b, R b → b ≠ a) (hn : (m.map (·.1)).Nodup) (hz : m.length ≤ sizeLine)
    (h : ∀ h' o', Heap.SameBut a s.heap h' → h'.get? a = some o' → ((o'.dict = none ∧ ∀ vs, o'.data ≠ .fields vs) ∧ o'.cls ≠ .type "tuple" ∧ o'.cls ≠ .type "frame") →
      (∃ as', Reads h' (.ref a) (dictD (setM m k d)) (a :: as') ∧ (∀ b ∈ as', R b) ∧ Dok T.w h' (a :: as')) → QQ () { s with heap := h', toks := s.toks + 1 }) : wpAny T.M A (setItem (.ref a) (.str (mkS k) t) v) QQ E s := by
  by_cases hl : (m.lookup k).isSome = true
  · obtain ⟨hs, vs, hdo, hvs⟩ := dict_parts (prog := T.prog) r hd hn
    have hall : RepAll T.w R s.heap vs (m.map (·.2)) := ⟨as, hvs, hr, fun b hb => hd b (.tail _ hb)⟩
    have hlen : vs.length = m.length := by rw [hall.length, List.length_map]
    refine wpAny_setItem_pairs (knd := strKind T.prog T.w) (k := mkS k) (by show (mkS k == mkS k) = true; simp) hdo (fun h' hd' hb => ?_) (by rw [List.length_zip, List.length_map, hlen, Nat.min_self]; exact hz)
    obtain ⟨vs', e, ra⟩ := stored_old (k := k) hall hv
    have hany : ((m.map fun p => mkS p.1).zip vs).any (fun kv => kv.1 = mkS k) = true := by
      rw [List.any_eq_true]
      obtain ⟨d0, hd0⟩ := Option.isSome_iff_exists.mp hl
      obtain ⟨u, hu, _⟩ := (valueAt_zip (k := k) hall).1 d0 hd0
      unfold valueAt at hu
      obtain ⟨q, hq, _⟩ := Option.map_eq_some_iff.mp hu
      exact ⟨q, List.mem_of_find?_eq_some hq, by have := List.find?_some hq; exact this⟩
    have est : stored ((m.map fun p => mkS p.1).zip vs) (mkS k) v = ((setM m k d).map fun p => mkS p.1).zip vs' := by
      unfold stored setM
      rw [if_pos hany, if_pos hl]; exact e
    rw [est] at hd'
    have chg : ChgH T.N (· = a) s.heap h' := ChgH.of_but hb
    have ntup : ∀ z, z = a → NotTup s.heap z := fun z hz o vs k e hc hdat => by
      obtain ⟨o', _, _, ho, hx, _⟩ := hdo
      rw [hz, ho] at e; cases e
      rw [hx.1] at hc; simp at hc
    obtain ⟨bs, q1, q2, q3⟩ := RepAll.chg ra chg ntup fun b hb q => hRa b hb q
    have q1' : ReadsAll h' vs' ((setM m k d).map (·.2)) bs := by unfold setM; rw [if_pos hl]; exact q1
    obtain ⟨z1, z2, o, z3, z4⟩ := dict_reads hs hd' q1' q3
    exact h h' o hb z3 z4 ⟨bs, z1, q2, z2⟩
  · have hl' : m.lookup k = none := Option.not_isSome_iff_eq_none.mp hl
    refine dict_store r hd hr hv hRa hn hl' hz fun h' o' hb ho' hok hrep => h h' o' hb ho' hok ?_
    unfold setM
    rw [if_neg (by rw [hl']; simp)]; exact hrep
theorem Ex1.setAny {x : Str} {p₁ p₂ p₃ : Pos} {e ke : PySem.Expr} {k : List Nat} {d : PyData} {fk : Fl} (hm : (x, some (.d (dictD m), .o)) ∈ Γ) (he : Ev T n env Γ e (.d d) .c) (hk : Ev T n env Γ ke (.d (.str (mkS k))) fk) (hn : (m.map (·.1)).Nodup) (hz : m.length ≤ sizeLine)
    (hp : Put Γ x (some (.d (dictD (setM m k d)), .o)) Γ') (hs : swapsWith e (some (.Subscript (.Name x p₁) ke p₂)) p₃.line env = pure false) (hq : Q .next Γ') : Ex1 T n env Γ (.Assign [.Subscript (.Name x p₁) ke p₂] e p₃) Q := ⟨fun {A s₀ d₀ own s E QQ} hA S h hx => by
  refine wpAny_Assign_Subscript (he.run hA S.rd fun val s₁ k₁ r₁ => ?_) hs
  have S₁ := S.kp k₁
  obtain ⟨m₁, cm₁, F₁, hn₁⟩ := S₁.frm
  obtain ⟨vx, l, dd, a, as, e1, e2, e3, e4, e5, e6⟩ := hn₁ x _ _ hm
  cases e1
  subst e2
  have hdb := S.ok.nodebug x (List.mem_map_of_mem (f := fun p : Str × Slot => p.1) hm)
  refine ld_name S.eok.kind (l.is F₁) hdb (hk.run hA S₁.rd fun kv s₂ k₂ r₂ => ?_)
  obtain ⟨t, rfl⟩ := Rep.str_inv r₂
  have S₂ := S₁.kp k₂
  refine dict_storeA (R := regOf d₀ env own .c) (reads_kp k₂.h e4) (e6.keeps k₂.h) e5 (Rep.keeps r₁ k₂.h) (fun b hb q => hb.2.2.2 x (q ▸ e3)) hn hz fun h' o' hb ho' hok hrep => ?_
  obtain ⟨S₃, p₃⟩ := (S₂.kp (.tok s₂ (s₂.toks + 1))).mutate hm e3 hp hb ho' hok hrep
  exact h _ .next _ Γ' own S₃ ((Pres.of_kp ((k₁.trans k₂).trans (.tok _ _))).trans (.refl _ _) p₃) (.refl _ _) trivial hq⟩
end
end Mine
end
section
open PySem PySem.Calls PyProof.Rows PySem.W
set_option linter.all false
set_option maxRecDepth 100000
namespace Mine
section
variable {T : St} {n : Nat} {env : Env} {Γ Γ' : Gm} {Q : Fw → Gm → Prop}
end
end Mine
end
section
open PySem PySem.Calls PyProof.Rows PySem.W
set_option linter.all false
set_option maxRecDepth 100000
namespace Mine
section
variable {T : St} {n : Nat} {env : Env} {Q : Fw → Gm → Prop} {m : List (List Nat × PyData)}
end
end Mine
end
section
open PySem PySem.Calls PyProof.Rows PySem.W
set_option linter.all false
set_option maxRecDepth 100000
namespace Mine
section
variable {T : St} {n : Nat} {env : Env} {Γ Γ' : Gm} {Q : Fw → Gm → Prop} {m : List (List Nat × PyData)}
theorem Bin.repS {l : List Nat} {b : Bool} {f₁ f₂ : Fl} : Bin T n .Mult (.d (.str (mkS l))) f₁ (.d (.int (if b then 1 else 0))) f₂ (.str (mkS (if b then l else []))) := ⟨fun {A reg s E Q a c} hA R W r₁ r₂ h => by
  obtain ⟨t, rfl⟩ := Rep.str_inv r₁
  obtain ⟨u, rfl⟩ := Rep.int_inv r₂
  cases b with
  | false => exact P.mul_str_none (by decide) (by decide) (h _ _ (.tok _ _) (repF_str ..))
  | true => exact P.mul_str (by decide) (fun _ q => by simp at q) (fun _ q => by simp at q) (by
      rw [if_neg (by decide), if_pos (by simp)]
      exact h _ _ (.refl _) (repF_str ..))⟩
theorem Cmp.inData {a : PyData} {xs : List PyData} (hxs : PyData.canLayAll0 xs = true) (ha : a.canLay0 = true) (hd : a.depth ≤ 40) : Cmp T n .In (.d a) (.d (.list xs)) (xs.any fun y => PyData.eqv y a) := ⟨fun {A R₁ R₂ s E Q x y} hA W r₁ r₂ h => by
  obtain ⟨as, q1, _⟩ := r₁
  obtain ⟨bs, q2, _⟩ := r₂
  exact PySem.SeqAt.in_list_reads q2 q1 hxs ha (by have := hA.units; have : min (PyData.depthAll xs) a.depth ≤ 40 := Nat.le_trans (Nat.min_le_right _ _) hd; omega) (h _ (.refl _))⟩
theorem SI.mutateN {s₀ s : Shared} {d₀ : Addr → Prop} {own : Own} {g : Str} {a : Addr} {h' : Heap} {o' : Obj} (S : SI T s₀ d₀ env own Γ s) (hx : own g = some a) (hng : ∀ v fl, (g, some (v, fl)) ∉ Γ) (hns : ∀ y v z, (y, some (v, .s z)) ∉ Γ)
    (hs : Heap.SameBut a s.heap h') (ho' : h'.get? a = some o') (hok : (o'.dict = none ∧ ∀ vs, o'.data ≠ .fields vs) ∧ o'.cls ≠ .type "tuple" ∧ o'.cls ≠ .type "frame") :
    SI T s₀ d₀ env own Γ { s with heap := h' } ∧ Pres T.N env own s { s with heap := h' } := by
  obtain ⟨m, cm, F, hn⟩ := S.frm
  obtain ⟨h1, h2, h3, o, h4, h5, h6, h7⟩ := S.ownNew g a hx
  have F' := F.but hs h1 (Ne.symm h2) (fun y c hc q => h3 y c hc q.symm)
  have chg : ChgH T.N (· = a) s.heap h' := ChgH.of_but hs
  have ntup : ∀ z, z = a → NotTup s.heap z := fun z hz => May.notTup S z (.inr (.inr ⟨g, hz ▸ hx⟩))
  refine ⟨⟨S.eok, S.cok, S.ok, S.wd0, S.d0, fun y b e => ?_, S.ownInj, m, cm, F', fun y v fl hm => ?_⟩, ⟨⟨_, _, rfl⟩, chg.mono fun b hb => .inr (.inr ⟨g, by rw [show b = a from hb]; exact hx⟩), fun b e => ?_⟩⟩
  · obtain ⟨g1, g2, g3, o1, g4, g5, g6, g7⟩ := S.ownNew y b e
    by_cases hb : b = a
    · subst hb; exact ⟨g1, g2, g3, o', ho', hok⟩
    · exact ⟨g1, g2, g3, o1, (hs.2 b hb).trans g4, g5, g6, g7⟩
  · obtain ⟨val, l, r⟩ := hn y v fl hm
    refine ⟨val, l, ?_⟩
    cases fl with
    | c => exact RepV.chg r chg ntup fun b hb q => hb.2.2.2 g (by rw [show b = a from q]; exact hx)
    | b => exact RepV.chg r chg ntup fun b hb q => hb.2.2 g (by rw [show b = a from q]; exact hx)
    | o =>
      obtain ⟨d1, a1, as1, e1, e2, e3, e4, e5, e6⟩ := r
      have hna : ∀ b ∈ a1 :: as1, ¬ b = a := fun b hb q => by
        rcases List.mem_cons.mp hb with rfl | hb
        · have := S.ownInj y g a (q ▸ e3) hx
          subst this
          exact hng v _ hm
        · exact (e5 b hb).2.2.2 g (q ▸ hx)
      exact ⟨d1, a1, as1, e1, e2, e3, reads_chg chg ntup e4 hna, e5, e6.chg chg hna⟩
    | s z => exact absurd hm (hns y v z)
  · by_cases hb : b = a
    · subst hb
      have e' : h'.get? b = none := e
      rw [ho'] at e'; cases e'
    · exact (hs.2 b hb).symm.trans e
section
variable {d₀ : Addr → Prop} {own : Own} {h h' : Heap} {x : Str} {a b : Addr} {k : List Nat} {l : List PyData}
theorem NameIs.but {z : Addr} {v : Value} (r : NameIs env h x v) (hb : Heap.SameBut z h h') (h1 : env.locals ≠ z) (h2 : ∀ y c, env.cells.lookup y = some c → c ≠ z) : NameIs env h' x v := by
  rcases r with ⟨k, m, hn, hv⟩ | ⟨k, c, hc, hv⟩
  · exact .inl ⟨k, m, hn.sameBut hb h1, hv⟩
  · exact .inr ⟨k, c, hc, hv.sameBut hb (h2 _ _ hc)⟩
theorem Ns_one {h : Heap} {a : Addr} {m m' : Str → Option Value} (x : h.Ns a m) (y : h.Ns a m') (n : Str) : m n = m' n := by
  obtain ⟨o, es, ep, h1, h2, _, h3⟩ := x
  obtain ⟨o', es', ep', g1, g2, _, g3⟩ := y
  rw [h1] at g1; cases g1
  rw [h2] at g2; cases g2
  rw [← h3, g3]
end
end
end Mine
end
section
open PySem PySem.Calls PyProof.Rows PySem.W
set_option linter.all false
set_option maxRecDepth 100000
namespace Mine
section
variable {T : St} {n : Nat} {env : Env} {Γ Γd Γe Γf Γg : Gm} {Q : Fw → Gm → Prop} {m L : List (List Nat × PyData)}
end
end Mine
end
section
open PySem PySem.Calls PyProof.Rows PySem.W
set_option linter.all false
set_option maxRecDepth 100000
namespace Mine
structure InitsX (T : St) (n : Nat) (fa C : Addr) (xs : List Vl) (k : Addr) : Prop where
  run : ∀ {A : Around} {s : Shared} {R : Result → Shared → Prop} {vals : List Value} {x dx : Addr} {g : Heap} {base : Heap} {l : List Env}, Amb n A → A.frames = some l → BaseOk T.N base → base.StaysIn g → g.FunFrames base l → Wd T s.heap → Wd T g → (∀ b o, g.get? b = some o → s.heap.get? b = some o) → RepAs T.w g vals xs →
    g.get? x = none → g.get? dx = none → x ≠ dx → s.heap.get? x = some { cls := .ref C, dict := some dx } → s.heap.get? dx = some { cls := .type "dict", data := .dict #[] 0 } →
    (∀ ea s', XFl base l { s with heap := g } k ea s' → R (.error (.ref ea)) s') → codeAny T.M A (.call (.ref fa) ⟨.ref x :: vals, []⟩) R s
section
variable {T : St} {n : Nat} {env : Env} {Γ Γ' : Gm} {C : Addr} {Q : Fw → Gm → Prop}
theorem InitsX.def {fa k : Addr} {xs : List Vl} {self : Str} {name qual : Str} {params : Arguments} {body : List Stmt} {scope : Scope} {dV kV doc pm cdv ct oc : Value} {an od : Option Addr} {osl : Array (Option Value)} {ps ls : List Str} {Γp : Gm}
    (ho : T.K.lookup fa = some ⟨oc, od, .func (fnOf name qual params body scope dV kV doc pm an cdv ct), osl⟩) (hcd : codeIn T.K cdv qual = true)
    (hb : Binds (fnOf name qual params body scope dV kV doc pm an cdv ct) (self :: ps)) (hp : Prm ps xs Γp) (hok : GmOk ((self :: ps) ++ ls)) (hk : ∀ x ∈ self :: ps, scope.names.lookup x = some .local ∨ scope.names.lookup x = some .cell)
    (hsc : scope.kind = .function ∧ scope.isCoroutine = false ∧ scope.isGenerator = false)
    (h : ∀ (a : Addr) (env : Env) (outer : List Env), env.scope = scope → ExX T n env outer ((self, some (.i C [], .s (a, none))) :: Γp ++ ls.map fun x => (x, none)) body (EndsX k)) : InitsX T (n + 1) fa C xs k :=
  ⟨fun {A s R vals x dx g base l} hA hAf BO hst hff hw hwg hgs hr hgx hgd hne hox hod hq => by
    have hsx : ∀ b, g.get? b ≠ none → s.heap.get? b ≠ none := fun b q => by
      cases e : g.get? b with
      | none => exact absurd e q
      | some o => rw [hgs b o e]; simp
    refine codeAny_mono (call_enterC (Γp := (self, some (.i C [], .s (x, none))) :: Γp) (own := fun y => if y = self then some dx else none) (g := g) (D := fun _ => False) (Q := fun v s' => False) (E := fun e s' => R (.error e) s') ho hcd hb (by rw [List.map_cons, hp.names]) hok hk hsc (by have := hA.depth; omega) hw hgs hwg (fun _ h => h.elim) (by simp [hr.length, hp.length]) (fun y a e => ?_) (fun y z a e1 e2 => ?_) (fun env hL hC hkd y v fl hm => ?_) fun env s₁ he hfe _ S _ => ?_) (fun r s' z => ?_)
    · by_cases hy : y = self
      · simp [hy] at e; subst e
        exact ⟨hgd, _, hod, ⟨rfl, fun vs q => by cases q⟩, by simp, by simp⟩
      · simp [hy] at e
    · by_cases hy : y = self <;> by_cases hz : z = self
      · rw [hy, hz]
      · simp [hz] at e2
      · simp [hy] at e1
      · simp [hy] at e1
    · have xL : x ≠ env.locals := fun q => by rw [q, hL] at hox; cases hox
      have xC : ∀ y c, env.cells.lookup y = some c → x ≠ c := fun y c hc q => by rw [q, hC y c hc] at hox; cases hox
      rcases List.mem_cons.mp hm with e | hm
      · cases e
        refine ⟨.ref x, .head _, .inl ⟨C, [], dx, [], 0, rfl, rfl, by simp, ⟨fun hd => hd, xL, xC, fun y q => ?_⟩, hox, hod, trivial⟩⟩
        by_cases hy : y = self
        · simp [hy] at q; exact hne q.symm
        · simp [hy] at q
      · obtain ⟨val, h1, h2, h3, h4⟩ := hp.get hr y v fl hm
        refine ⟨val, .tail _ h1, ?_⟩
        cases fl with
        | o => exact absurd rfl h3.1
        | s z => exact absurd rfl (h3.2 z)
        | c =>
          obtain ⟨d', rfl, hs⟩ := h4 rfl
          exact Rep.keeps (N := T.N) (Rep.still h2 hs) (.of hgs)
        | b =>
          refine RepV.keeps (N := T.N) (RepV.mono (RepV.there h2) fun b hb => ⟨fun q => hsx b hb.2 (q ▸ hL), fun y c hc q => hsx b hb.2 (q ▸ hC y c hc), fun y q => ?_⟩) (.of hgs)
          by_cases hy : y = self
          · simp [hy] at q; exact hb.2 (q ▸ hgd)
          · simp [hy] at q
    · have B : Bl T (A.deeper env) env base l { s with heap := g } := ⟨Around.frames_deeper hAf, BO, hst, hff, hfe⟩
      refine (h x env l he).run (hA.deeper _) B S PassesOwn.leaving (fun g g' s' Γ' own' S' p o fr q => ?_) fun k' ea s' x q => ?_
      · cases g' with
        | exc k' => cases g <;> exact fr.elim
        | next => exact q.elim
        | brk => exact q.elim
        | cont => exact q.elim
        | ret d => exact q.elim
      · have q' : k' = k := q
        subst q'
        rcases x.fly with ⟨a0, hfl⟩ | ⟨h₁, vs, hm, hs, hf⟩
        · refine wpAny_leaves_onW B.fr B.own hfl fun h' hfl' hup => hq ea _ ⟨?_, x.up.trans hup, _, hfl'⟩
          obtain ⟨h₂, tk, rfl⟩ := x.same; exact ⟨_, _, rfl⟩
        · refine wpAny_leaves_madeW B.fr B.own hs hf hm fun h' t hfl' _ _ hup => hq ea _ ⟨?_, x.up.trans hup, _, hfl'⟩
          obtain ⟨h₂, tk, rfl⟩ := x.same; exact ⟨_, _, rfl⟩
    · rcases r with e | (v | _ | _ | _) <;> first | exact z.elim | exact z⟩
theorem InitsX.defK {K : Frag} {fa k : Addr} {xs : List Vl} {name qual : Str} {params : Arguments} {body : List Stmt} {scope : Scope} {dV kV doc pm cdv ct oc : Value} {an od : Option Addr} {osl : Array (Option Value)} {Γp : Gm}
    (G : GdK T K) (self : Str) (ps ls : List Str) (ho : K.lookup fa = some ⟨oc, od, .func (fnOf name qual params body scope dV kV doc pm an cdv ct), osl⟩) (hcd : codeIn K cdv qual = true)
    (hb : Binds (fnOf name qual params body scope dV kV doc pm an cdv ct) (self :: ps)) (hp : Prm ps xs Γp) (hok : okNames ((self :: ps) ++ ls) = true) (hk : okPrm scope (self :: ps) = true)
    (hsc : scope.kind = .function ∧ scope.isCoroutine = false ∧ scope.isGenerator = false)
    (h : ∀ (a : Addr) (env : Env) (outer : List Env), env.scope = scope → ExX T n env outer ((self, some (.i C [], .s (a, none))) :: Γp ++ ls.map fun x => (x, none)) body (EndsX k)) : InitsX T (n + 1) fa C xs k :=
  InitsX.def (by rw [G.k]; exact ho) (by rw [G.k]; exact hcd) hb hp (okNames_ok hok) (okPrm_ok hk) hsc h
theorem EvX.make {m : Nat} {f : Str} {p pos : Pos} {args : List PySem.Expr} {xs : List (Vl × Fl)} {fa k : Addr} (hx : env.kindOf f = some .globalImplicit) (hd : (f == ("__debug__" : Str)) = false) (hg : T.mg f = some (.ref C)) (hmk : makesIn T.K C = true) (hkp : keepIn T.K (.ref C) = true)
    (hi : findIn T.K (.ref C) "__init__" = some (some (.ref fa))) (hf : typeIn T.K (.ref fa) = some (.type "function"))
    (ha : EvA T n env Γ args xs) (hc : InitsX T m fa C (xs.map (·.1)) k) (hm : m + 1 ≤ n) : EvX T n env Γ (.Call (.Name f p) args [] pos) k := ⟨fun {A reg s E Q base l} hA hl B hb hff R h => by
  refine Call_Name rfl (ld_global R hx hd hg (callWith_of (P := fun h => Frag.In T.K h) (by rw [ha.plain]; rfl) (keeps_K hkp) (evalArgs_any (ha.plain pos) (ha.run hA R fun vals s₁ k₁ r₁ => ⟨(R.wd.kp k₁.h).frag, ?_⟩))))
  have w₁ := R.wd.kp k₁.h
  have hb₁ := stays_kp B hb k₁.h
  have hff₁ := ff_kp hff k₁.h
  refine wpAny_call ?_
  obtain ⟨hh, gg, dd, tt, oo⟩ := s₁
  refine make_core (makes_of w₁.frag hmk) (looks_findIn w₁.frag hi) (fun self => bind_fn w₁.frag self hf) (.inl rfl) ?_
  have keep : ∀ b o, hh.get? b = some o → ((hh.push emptyDict).push (instObj C hh.objs.size)).get? b = some o := fun b o e => Heap.get?_push_of_some _ (Heap.get?_push_of_some _ e)
  have hn1 : hh.get? (hh.objs.size + 1) = none := Heap.get?_none_of_le (Nat.le_succ _)
  have hn2 : hh.get? hh.objs.size = none := Heap.get?_none_of_le (Nat.le_refl _)
  refine (hc.run (g := hh) (x := hh.objs.size + 1) (dx := hh.objs.size) ((hA.le hm).make _ _ _) (l := l) ?_ B hb₁ hff₁ (w₁.kp (.of keep)) w₁ keep r₁.any hn1 hn2 (Nat.succ_ne_self _) ?_ ?_ fun ea s' X => ?_)
  · unfold Around.under
    simp only [hl]
    simp [Code.envs, Code.isFrame, pushEnvs]
  · heap_get
  · heap_get
  · exact h ea s' (X.kp k₁)⟩
variable {outer : List Env}
theorem ExX1.exprX {p : Pos} {e : PySem.Expr} {k : Addr} (he : EvX T n env Γ e k) (hs : swapsWith e none p.line env = pure false) (hq : Q (.exc k) []) : ExX1 T n env outer Γ (.Expr e p) Q := ⟨fun {A s₀ d₀ own s E QQ base} hA B S hE h hx => by
  have hb := B.at S
  exact wpAny_Expr_any (he.run hA B.fr B.ok hb.1 hb.2 S.rd fun ea s' x => hx k ea s' (S.older x.at) hq) (by unfold interactive; rw [S.eok.kind]; rfl) hs⟩
theorem ExX.drop {x : Str} {ss : List Stmt} (hp : Put Γ x none Γ') (h : ExX T n env outer Γ' ss Q) : ExX T n env outer Γ ss Q := ⟨fun hA B S hE hq hx => h.run hA B (S.drop hp) hE hq hx⟩
theorem ExX.freeze {x : Str} {d : PyData} {ss : List Stmt} (hm : (x, some (.d d, .o)) ∈ Γ) (hp : Put Γ x (some (.d d, .c)) Γ') (h : ExX T n env outer Γ' ss Q) : ExX T n env outer Γ ss Q := ⟨fun {A s₀ d₀ own s E QQ base} hA B S hE hq hx => by
  have sub : ∀ y a, (if y = x then none else own y) = some a → own y = some a := fun y a e => by
    by_cases hy : y = x
    · simp [hy] at e
    · rw [if_neg hy] at e; exact e
  have hP : ∀ {s'}, Pres T.N env (fun y => if y = x then none else own y) s s' → Pres T.N env own s s' := fun p =>
    ⟨p.1, p.2.1.mono fun b hb => hb.elim .inl fun hb => .inr (hb.elim .inl fun ⟨y, q⟩ => .inr ⟨y, sub y b q⟩), p.2.2⟩
  have hO : ∀ {own'}, OwnLe (fun y => if y = x then none else own y) own' s → OwnLe own own' s := fun o y a e => (o y a e).elim (fun ⟨z, q⟩ => .inl ⟨z, sub z a q⟩) .inr
  exact h.run hA B (S.freeze hm hp) hE (fun f f' s' Γ'' own'' S'' p o fr q => hq f f' s' Γ'' own'' S'' (hP p) (hO o) fr q) hx⟩
end
end Mine
end
section
open PySem PySem.Calls PyProof.Rows PySem.W
set_option linter.all false
set_option maxRecDepth 100000
namespace Mine
section
variable {prog : Program} {w : World} {A : Around} {E : Value → Shared → Prop} {h : Heap} {g : Array GenState} {d : Drawn} {t : Nat} {os : OsState} {K : Frag} {x D : Addr} {ox : Obj}
structure ExcAt (h : Heap) (x : Addr) (ox : Obj) (C : Addr) : Prop where
  at_ : h.get? x = some ox
  cls : ox.cls = .ref C
theorem ExcAt.type {M : Model} {C : Addr} (I : ExcAt h x ox C) : Looks M h (typeOf (.ref x)) (.ref C) := I.cls ▸ (Looks.ld I.at_).andThen .now
theorem looks_data {M : Model} {C : Addr} {a gg : Value} {name : Str} (X : K.In h) (ha : findIn K (.ref C) name = some (some a)) (hg : specialIn K a "__get__" = some (some gg)) (ht : takesIn K a = some true) : Looks M h (Builtin.ObjectAttr.find (.ref x) (.ref C) name) (Builtin.ObjectAttr.Found.bind gg a) := by
  have L1 := looks_findIn (M := M) X ha
  have L2 : Looks M h (Builtin.ObjectAttr.getOf (some a)) (some gg) := looks_specialIn X hg
  refine L1.andThen (L2.andThen ?_)
  have L3 := looks_takesIn (M := M) X ht
  exact (show Looks M h (Builtin.ObjectAttr.dataDescriptor? (some a) (some gg)) (some (gg, a)) from L3.andThen .now).andThen (Looks.tag .now)
theorem exc_get {C : Addr} {tp : Value} {R : Result → Shared → Prop} (X : K.In h) (I : ExcAt h x ox C) (hm : mroIn K C (.type "object") = some true)
    (hq : R (.ok (.ret (.ref C))) ⟨h, g, d, t, os⟩) : codeAny (model prog w) A (.call (.builtin "getset_descriptor.__get__") ⟨[.builtin "object.__class__", .ref x, tp], []⟩) R ⟨h, g, d, t, os⟩ := by
  have L0 := I.type (M := model prog w)
  have L1 := looks_mroIn (M := model prog w) X hm
  refine codeAny_call_builtin KF.slot_gs.plain KF.entry_gs (KF.slot_gs.check _ _ _ _ _ _ _ _ KF.type_class (KF.args_gs _ _ _) ?_)
  unfold Builtin.«getset_descriptor.__get__» Builtin.Getset_descriptor.descrGet
  rw [dga_obj]
  refine wpAny_bind (wpAny_pure ?_)
  unfold Builtin.Getset_descriptor.descrGetter Builtin.Getset_descriptor.descrCheckInstance Builtin.Getset_descriptor.descrNameAndClass isInstance
  simp only [KF.owner_class]
  repeat lk
  refine ⟨Code.quiet_builtin _ (by decide +kernel), codeAny_builtin KF.entry_class ?_⟩
  unfold Builtin.«object.__class__» shownTypeOf
  repeat lk
  exact hq
structure ExcIn (K : Frag) (D : Addr) : Prop where
  ga : findIn K (.ref D) "__getattribute__" = some (some (.builtin "BaseException.__getattribute__"))
  gn : findIn K (.ref D) "__getattr__" = some none
  fc : findIn K (.ref D) "__class__" = some (some (.builtin "object.__class__"))
  sp : specialIn K (.builtin "object.__class__") "__get__" = some (some (.builtin "getset_descriptor.__get__"))
  tk : takesIn K (.builtin "object.__class__") = some true
  mo : mroIn K D (.type "object") = some true
  mb : mroIn K D (.type "BaseException") = some true
theorem exc_entry {tk : Tok} {Q : PySem.Fin → Shared → Prop} (X : K.In h) (I : ExcAt h x ox D) (B : ExcIn K D) (hq : Q (.done (.ret (.ref D))) ⟨h, g, d, t, os⟩) :
    wpAny (model prog w) A (Builtin.«object.__getattribute__» ⟨[.ref x, .str "__class__" tk], []⟩) Q E ⟨h, g, d, t, os⟩ := by
  have L0 := I.type (M := model prog w)
  have L1 := looks_data (x := x) (M := model prog w) X B.fc B.sp B.tk
  unfold Builtin.«object.__getattribute__»
  refine wpAny_bind (wpAny_pure (wpAny_bind (wpAny_pure (wpAny_bind (L0.at (wpAny_bind (L1.at ?_)))))))
  dsimp only
  k_delta "bindTo"
  repeat (any_goals (first | assumption | wp_step))
  refine exc_get X I B.mo ?_
  repeat (any_goals (first | assumption | wp_step))
theorem exc_check {M : Model} {nameV : Value} {Q : Unit → Shared → Prop} (X : K.In h) (I : ExcAt h x ox D) (B : ExcIn K D) (hq : Q () ⟨h, g, d, t, os⟩) : wpAny M A (checkBuiltinCall "BaseException.__getattribute__" ⟨[.ref x, nameV], []⟩) Q E ⟨h, g, d, t, os⟩ := by
  have hk : builtinKind "BaseException.__getattribute__" = some .slot := by decide +kernel
  have hsplit : splitId "BaseException.__getattribute__" = some ("BaseException", "__getattribute__") := by decide +kernel
  have L0 := I.type (M := M)
  have L2 := looks_mroIn (M := M) X B.mb
  have ha := F.args_bexc_ga (.ref x) nameV
  simp only [checkBuiltinCall, hk, hsplit]
  refine wpAny_bind ?_
  unfold isInstance
  refine wpAny_bind (L0.at ?_)
  refine L2.at ?_
  repeat (first | assumption | wp_step)
theorem exc_by {tk : Tok} {Q : Value → Shared → Prop} (X : K.In h) (I : ExcAt h x ox D) (B : ExcIn K D) (hq : Q (.ref D) ⟨h, g, d, t, os⟩) : wpAny (model prog w) A (getAttrBy (.ref x) (.str "__class__" tk) false) Q E ⟨h, g, d, t, os⟩ := by
  have L0 := I.type (M := model prog w)
  have L1 := looks_findIn (M := model prog w) X B.ga
  have L2 := looks_findIn (M := model prog w) X B.gn
  have f3 := F.excAttr_ValueError.ga.bind (.ref x)
  have hx2 : (Value.builtin "BaseException.__getattribute__" == Value.builtin "object.__getattribute__") = false := by decide +kernel
  have hx1 : (onTheHeap (Value.ref D) && Value.builtin "BaseException.__getattribute__" == Value.builtin "object.__getattribute__") = false := by rw [hx2]; rfl
  unfold getAttrBy
  refine wpAny_holding (wpAny_bind (L0.at (wpAny_bind (L1.at ?_))))
  repeat (any_goals (first | assumption | (with_reducible refine L2.at ?_) | wp_step))
  refine codeAny_call_builtin F.excAttr_ValueError.ga.plain F.entry_bexc_ga (exc_check X I B (exc_entry X I B ?_))
  repeat (any_goals (first | assumption | wp_step))
theorem exc_attr {Q : Option Value → Shared → Prop} (X : K.In h) (I : ExcAt h x ox D) (B : ExcIn K D) (hq : Q (some (.ref D)) ⟨h, g, d, t + 1, os⟩) : wpAny (model prog w) A (getAttr? (.ref x) "__class__") Q E ⟨h, g, d, t, os⟩ := by
  unfold getAttr? getAttrBy?
  repeat (any_goals (first | assumption | with_reducible apply exc_by X I B | wp_step))
theorem exc_nested {c : Value} {b : Bool} {dep : Int} {tk : Tok} {Q : PySem.Fin → Shared → Prop} (X : K.In h) (I : ExcAt h x ox D) (B : ExcIn K D) (hD : kitCls K (.ref D) (.ref D) = some true) (he : kitCls K (.ref D) c = some b) (hne : (Value.ref D == c) = false)
    (hq : ∀ t', Q (.done (.ret (.bool b))) ⟨h, g, d, t', os⟩) : wpAny (model prog w) A (Builtin.«isinstance.nested» ⟨[.ref x, c, .int dep tk], []⟩) Q E ⟨h, g, d, t, os⟩ := by
  obtain ⟨hty, his, hsub⟩ := kit_cls (M := model prog w) X he
  obtain ⟨_, hisD, _⟩ := kit_cls (M := model prog w) X hD
  have L0 := I.type (M := model prog w)
  have LI : Looks (model prog w) h (isInstance (.ref x) c) b := L0.andThen hsub
  unfold Builtin.«isinstance.nested»
  refine wpAny_bind (L0.at ?_)
  rw [if_neg (fun q => by rw [hne] at q; exact Bool.noConfusion q)]
  refine wpAny_bind (hty.at ?_)
  rw [if_pos (by decide)]
  k_delta "plainIsInstance"
  refine wpAny_bind (wpAny_bind (his.at ?_))
  simp only [Bool.not_true, Bool.false_eq_true, if_false]
  refine wpAny_bind (LI.at ?_)
  cases b with
  | true =>
    simp only [if_true]
    exact wpAny_pure (wpAny_pure (hq _))
  | false =>
    simp only [Bool.false_eq_true, if_false]
    refine wpAny_bind (exc_attr X I B ?_)
    refine wpAny_bind (hisD.at ?_)
    simp only [Bool.not_true, Bool.false_eq_true, if_false]
    refine wpAny_bind (wpAny_rule ?_)
    refine hsub.at ?_
    first
      | exact wpAny_pure (hq _)
      | exact wpAny_pure (wpAny_pure (hq _))
      | exact wpAny_bind (wpAny_pure (wpAny_pure (hq _)))
theorem exc_same {dep : Int} {tk : Tok} {Q : PySem.Fin → Shared → Prop} (I : ExcAt h x ox D) (hq : Q (.done (.ret (.bool true))) ⟨h, g, d, t, os⟩) : wpAny (model prog w) A (Builtin.«isinstance.nested» ⟨[.ref x, .ref D, .int dep tk], []⟩) Q E ⟨h, g, d, t, os⟩ := by
  have L0 := I.type (M := model prog w)
  unfold Builtin.«isinstance.nested»
  refine wpAny_bind (L0.at ?_)
  rw [if_pos (by simp)]
  exact wpAny_bind (wpAny_rule (wpAny_bind (wpAny_pure (wpAny_pure hq))))
theorem exc_isi {c : Value} {b : Bool} {Q : Value → Shared → Prop} {s : Shared} (X : K.In s.heap) (I : ExcAt s.heap x ox D) (B : ExcIn K D) (hD : kitCls K (.ref D) (.ref D) = some true) (he : kitOne K (.ref D) c = some b)
    (hq : ∀ t', Q (.bool b) { s with toks := t' }) : wpAny (model prog w) A (call (.builtin "isinstance") [.ref x, c]) Q E s :=
  call_isinstance (S := fun _ R s => (K.In s.heap ∧ ExcAt s.heap x ox D) ∧ ∀ t', R (.ok (.ret (.bool b))) { s with toks := t' })
    (fun _ _ _ _ s hs => isinstance_outer (by
      obtain ⟨hh, gg, dd, tt, oo⟩ := s
      unfold kitOne at he
      split at he
      · rename_i q
        have q' : Value.ref D = c := beq_iff_eq.mp q
        subst q'
        cases he
        exact exc_same hs.1.2 (hs.2 _)
      · rename_i q
        exact exc_nested hs.1.1 hs.1.2 B hD he (Bool.eq_false_iff.mpr q) hs.2) (by intro q; cases q)) ⟨⟨X, I⟩, hq⟩
end
end Mine
end
section
open PySem PySem.Calls PyProof.Rows PySem.W
set_option linter.all false
set_option maxRecDepth 100000
namespace Mine
structure EvE (T : St) (env : Env) (Γt : List (Str × List Nat)) (nm : Str) (k : Addr) (e : PySem.Expr) (x : List Nat) : Prop where
  run : ∀ {A : Around} {s : Shared} {E : Value → Shared → Prop} {Q : Value → Shared → Prop} {ea : Addr} {ox : Obj}, EnvOk env → Wd T s.heap → NameIs env s.heap nm (.ref ea) → ExcAt s.heap ea ox k → (∀ p ∈ Γt, ∃ t, NameIs env s.heap p.1 (.str (mkS p.2) t)) →
    (∀ t tk, Q (.str (mkS x) t) { s with toks := tk }) → wpAny T.M A (eval e env) Q E s
section
variable {T : St} {env : Env} {Γt : List (Str × List Nat)} {nm : Str} {k : Addr}
theorem EvE.name {y : Str} {x : List Nat} {pos : Pos} (hm : (y, x) ∈ Γt) (hd : (y == ("__debug__" : Str)) = false) : EvE T env Γt nm k (.Name y pos) x := ⟨fun {A s E Q ea ox} eok W N I hn h => by
  obtain ⟨t, ht⟩ := hn _ hm
  exact ld_name eok.kind ht hd (h t s.toks)⟩
theorem EvE.cat {l r : PySem.Expr} {pos : Pos} {x y : List Nat} (h₁ : EvE T env Γt nm k l x) (h₂ : EvE T env Γt nm k r y) (hz : x.length + y.length ≤ sizeLine) : EvE T env Γt nm k (.BinOp l .Add r pos) (x ++ y) := ⟨fun {A s E Q ea ox} eok W N I hn h =>
  wpAny_BinOp (h₁.run eok W N I hn fun t tk => h₂.run (s := { s with toks := tk }) eok W N I hn fun t' tk' => by
    rw [← mkS_app] at h
    exact SB.add (fun t'' k => h _ _) (by rw [mkS_len, mkS_len]; exact hz))⟩
theorem EvE.term {K : Frag} {x c : Str} {v : Value} {b : Bool} {kk : Nat} {p₀ p₁ p₂ p₃ p₄ p₅ p₆ pos : Pos} (G : GdK T K) (B : ExcIn K k) (hD : kitCls K (.ref k) (.ref k) = some true) (he : kitOne K (.ref k) v = some b)
    (hi : env.kindOf "isinstance" = some .globalImplicit) (hig : T.mg "isinstance" = none) (hib : T.mb "isinstance" = some (.builtin "isinstance")) (hnd : (nm == ("__debug__" : Str)) = false)
    (hc : env.kindOf c = some .globalImplicit) (hcd : (c == ("__debug__" : Str)) = false) (hv : T.mg c = some v ∨ (T.mg c = none ∧ T.mb c = some v))
    (hn : env.kindOf "int" = some .globalImplicit) (hng : T.mg "int" = none) (hnb : T.mb "int" = some (.type "int")) :
    EvE T env Γt nm k (.BinOp (.Constant (.str x) kk p₀) .Mult (.Call (.Name "int" p₅) [.Call (.Name "isinstance" p₁) [.Name nm p₂, .Name c p₃] [] p₄] [] p₆) pos) (if b then x.cps.toList else []) := ⟨fun {A s E Q ea ox} eok W N I hnn h => by
  have inK : K.In s.heap := fun b o e => W.k b o (by rw [G.k]; exact e)
  have ldB : ∀ {s : Shared} {E' : Value → Shared → Prop} {QQ' : Value → Shared → Prop} {y : Str} {ps : Pos} {v : Value}, Wd T s.heap → env.kindOf y = some .globalImplicit → (y == ("__debug__" : Str)) = false → T.mg y = none → T.mb y = some v → QQ' v s → wpAny T.M A (eval (.Name y ps) env) QQ' E' s := fun W hy hyd hyg hyb hq =>
    Name_function_global eok.kind hy (loadGlobal_builtin (by rw [eok.g]; exact W.g) hyg (by rw [eok.b]; exact W.b) hyb hq) hyd
  have ldG : ∀ {s : Shared} {E' : Value → Shared → Prop} {QQ' : Value → Shared → Prop} {y : Str} {ps : Pos} {v : Value}, Wd T s.heap → env.kindOf y = some .globalImplicit → (y == ("__debug__" : Str)) = false → T.mg y = some v → QQ' v s → wpAny T.M A (eval (.Name y ps) env) QQ' E' s := fun W hy hyd hyg hq =>
    Name_function_global eok.kind hy (loadGlobal_global (by rw [eok.g]; exact W.g) hyg hq) hyd
  refine wpAny_BinOp (wpAny_mkText ?_)
  refine Call_Name rfl (ldB W hn (by decide +kernel) hng hnb (callWith_machine (.inr ⟨_, rfl⟩) (by rfl) (evalArgs_any (by rfl) ?_)))
  show wpAny T.M A (spliced ((false, eval (.Call (.Name "isinstance" p₁) [.Name nm p₂, .Name c p₃] [] p₄) env) :: [])) _ _ { s with toks := s.toks + 1 }
  refine spliced_cons (Call_Name rfl (ldB W hi (by decide +kernel) hig hib (callWith_machine (.inl ⟨_, rfl⟩) (by rfl) (evalArgs_any (by rfl) ?_))))
  show wpAny T.M A (spliced ((false, eval (.Name nm p₂) env) :: (false, eval (.Name c p₃) env) :: [])) _ _ { s with toks := s.toks + 1 }
  refine spliced_cons (ld_name (s := { s with toks := s.toks + 1 }) eok.kind N hnd (spliced_cons ?_))
  have fin : ∀ {Q' : Value → Shared → Prop}, (∀ t', Q' (.bool b) { s with toks := t' }) → wpAny T.M A (call (.builtin "isinstance") [.ref ea, v]) Q' E { s with toks := s.toks + 1 } := fun hq => exc_isi (s := { s with toks := s.toks + 1 }) inK I B hD he fun t' => hq t'
  have tail : ∀ t', wpAny T.M A (call (.type "int") ([] ++ [.bool b])) (fun b' s₂ => wpAny T.M A (binaryOp .Mult (.str x s.toks) b') Q E s₂) E { s with toks := t' } := fun t' => by
    refine call_int_bool ?_
    cases b with
    | false => exact P.mul_str_none (by decide) (by decide) (h _ _)
    | true => exact P.mul_str (by decide) (fun _ q => by simp at q) (fun _ q => by simp at q) (by
        rw [if_neg (by decide), if_pos (by simp)]
        exact h _ _)
  rcases hv with hv | ⟨hv1, hv2⟩
  · exact ldG (s := { s with toks := s.toks + 1 }) W hc hcd hv (spliced_nil (fin fun t' => spliced_nil (tail t')))
  · exact ldB (s := { s with toks := s.toks + 1 }) W hc hcd hv1 hv2 (spliced_nil (fin fun t' => spliced_nil (tail t')))⟩
end
structure CallsS (T : St) (n : Nat) (f : Addr) (xs : List Vl) (x : Str) : Prop where
  run : ∀ {A : Around} {s : Shared} {E : Value → Shared → Prop} {Q : Value → Shared → Prop} {vals : List Value} {l : List Env}, Amb n A → A.frames = some l → OutOk T s.heap l → Wd T s.heap → RepAs T.w s.heap vals xs →
    (∀ s' tk, (∃ h t, s' = { s with heap := h, toks := t }) → ChgH T.N (· ∈ l.filterMap (·.frame)) s.heap s'.heap → s.heap.UpToSlots s'.heap → Q (.str x tk) s') → wpAny T.M A (call (.ref f) vals) Q E s
theorem CallsS.le {T : St} {n m : Nat} {f : Addr} {xs : List Vl} {x : Str} (c : CallsS T m f xs x) (h : m ≤ n) : CallsS T n f xs x := ⟨fun hA => c.run (hA.le h)⟩
theorem CallsS.ofF {T : St} {n : Nat} {f : Addr} {xs : List Vl} {x : Str} (c : Calls T n f xs (.str x)) : CallsS T n f xs x := ⟨fun {A s E Q vals l} hA _ _ W r h => c.run (fun _ => False) hA W (fun _ q => q.elim) r fun val s' k rv => by
  obtain ⟨t, rfl⟩ := Rep.str_inv rv.rep
  refine h s' t ?_ (.of_kp k.h) (slots_kp k.h)
  obtain ⟨h', tk, rfl, _⟩ := k
  exact ⟨h', tk, rfl⟩⟩
theorem Ns_ne {h : Heap} {a L : Addr} {m : Str → Option Value} (x : h.Ns a m) (hL : h.get? L = none) : a ≠ L := fun q => by
  obtain ⟨o, _, _, e, _⟩ := x
  rw [q, hL] at e; cases e
theorem Wd.but {T : St} {h₀ h h' : Heap} {L : Addr} (x : Wd T h) (y : Wd T h₀) (hL : h₀.get? L = none) (hs : Heap.SameBut L h h') : Wd T h' := by
  obtain ⟨mc, a, b⟩ := x.lim
  obtain ⟨mc', a', _⟩ := y.lim
  exact ⟨x.g.sameBut hs (Ns_ne y.g hL), x.b.sameBut hs (Ns_ne y.b hL), ⟨mc, a.sameBut hs (Ns_ne a' hL), b⟩, fun c o e => (hs.2 c fun q => by have := y.k c o e; rw [q, hL] at this; cases this).trans (x.k c o e), x.kn⟩
theorem CallsS.def {T : St} {K : Frag} {n : Nat} {a : Addr} {xs : List Vl} {name qual : Str} {params : Arguments} {rest : List Stmt} {scope : Scope} {dV kV doc pm cdv ct oc : Value} {an od : Option Addr} {osl : Array (Option Value)} {ps ls : List Str} {Γp : Gm} {cn nm kn : Str} {e e1 e2 : PySem.Expr} {p₀ p np pos a₁ a₂ a₃ a₄ r₁ r₂ : Pos} {k C : Addr} {t1 t2 : List Nat} {body : List Stmt}
    (G : GdK T K) (hbody : body = .Try [.Expr e p₀] [.ExceptHandler (some (.Name cn np)) (some nm) [.Assign [.Name kn a₁] e1 a₂, .Assign [.Name kn a₃] e2 a₄, .Return (some (.Name kn r₁)) r₂] p] [] [] pos :: rest)
    (ho : T.K.lookup a = some ⟨oc, od, .func (fnOf name qual params body scope dV kV doc pm an cdv ct), osl⟩) (hcd : codeIn T.K cdv qual = true)
    (hb : Binds (fnOf name qual params body scope dV kV doc pm an cdv ct) ps) (hp : Prm ps xs Γp) (hok : GmOk (ps ++ ls)) (hk : ∀ x ∈ ps, scope.names.lookup x = some .local ∨ scope.names.lookup x = some .cell)
    (hsc : scope.kind = .function ∧ scope.isCoroutine = false ∧ scope.isGenerator = false) (hcn : scope.names.lookup cn = some .globalImplicit) (hcd' : (cn == ("__debug__" : Str)) = false) (hcg : T.mg cn = some (.ref C)) (hex : exmOne K (.ref k) (.ref C) = some true)
    (hnm : scope.names.lookup nm = some .local) (hkn : scope.names.lookup kn = some .local) (hknd : (kn == ("__debug__" : Str)) = false) (hne : nm ≠ kn)
    (hsw : ∀ env : Env, env.scope = scope → swapsWith e none p₀.line env = pure false) (hsw1 : ∀ env : Env, env.scope = scope → swapsWith e1 (some (.Name kn a₁)) a₂.line env = pure false) (hsw2 : ∀ env : Env, env.scope = scope → swapsWith e2 (some (.Name kn a₃)) a₄.line env = pure false)
    (h : ∀ env : Env, env.scope = scope → EvX T n env (Γp ++ ls.map fun x => (x, none)) e k) (h1 : ∀ env : Env, env.scope = scope → EvE T env [] nm k e1 t1) (h2 : ∀ env : Env, env.scope = scope → EvE T env [(kn, t1)] nm k e2 t2) : CallsS T (n + 1) a xs (mkS t2) := by
  subst hbody
  exact ⟨fun {A s E Q vals l} hA hAf hO hw hr hq => call_enter (g := s.heap) (D := fun _ => False) ho hcd hb hp hok hk hsc (by have := hA.depth; omega) hw (fun _ _ e => e) hw (fun _ h => h.elim) hr fun env s₁ he hfe hLn S keep => by
    have hfr : (A.deeper env).frames = some (env :: l) := Around.frames_deeper hAf
    obtain ⟨m, cm, F, _⟩ := S.frm
    have hO₁ : OutOk T s₁.heap l := fun e' he' => by
      obtain ⟨h1, L, o, h2, h3, h4⟩ := hO e' he'
      exact ⟨h1, L, o, h2, keep L o h3, h4⟩
    have hff : s₁.heap.FunFrames (groundO T.N env l s₁.heap) (env :: l) := .cons (by rw [S.eok.kind]; decide) hfe F.ns (hideAll_none _ (List.mem_append_right _ (.head _))) (ff_of hO₁ fun L hL => hideAll_none _ (List.mem_append_left _ hL))
    have hnK : ∀ b ∈ l.filterMap (·.frame), T.K.lookup b = none := fun b hb => by
      obtain ⟨e', he', hf⟩ := List.mem_filterMap.mp hb
      obtain ⟨_, L, o, h2, _, _, h5⟩ := hO e' he'
      rw [h2] at hf; cases hf; exact h5
    have hLK : T.K.lookup env.locals = none := by
      cases q : T.K.lookup env.locals with
      | none => rfl
      | some o => have := hw.k _ _ q; rw [hLn] at this; cases this
    have wd : ∀ {h' : Heap} {ea : Addr} {a0 : Value} {l' : List Env}, s₁.heap.UpToSlots h' → Heap.FlyingW (groundO T.N env l s₁.heap) l' ea (.ref k) a0 h' → Wd T h' := fun {h' ea a0 l'} u hfl => S.wd.up u fun b o e => hfl.1 b o (groundO_get (S.wd.k b o e) (fun q => by rw [hnK b q] at e; cases e) (fun q => by rw [q, hLK] at e; cases e) (.inr (.inl (S.wd.kn b o e))))
    have inK : ∀ {h : Heap}, Wd T h → K.In h := fun W b o e => W.k b o (by rw [G.k]; exact e)
    refine wpAny_execs_cons (wpAny_Try_except (wpAny_execs_cons (wpAny_Expr_any ((h env he).run (hA.deeper _) hfr groundO_ok (fun _ _ e => of_hideAll _ e) hff S.rd fun ea s' X => ?_) (by unfold interactive; rw [S.eok.kind]; rfl) (hsw env he))))
    obtain ⟨a0, hfl⟩ := X.fly
    refine wpAny_looks_onW hfr hfe hfl fun h₄ hheld₄ hsm₄ => ?_
    refine wpAny_landsW hheld₄ fun h₅ hfl₅ hsm₅ => ?_
    have up₅ := (X.up.trans hsm₄).trans hsm₅
    have W₅ : Wd T h₅ := wd up₅ hfl₅
    obtain ⟨ob, hob, hobc⟩ := hfl₅.there
    have hkd : ∀ {y : Str} {kd : NameKind}, scope.names.lookup y = some kd → env.kindOf y = some kd := fun hy => by show env.scope.names.lookup _ = _; rw [he]; exact hy
    refine wpAny_handleBy_cons (codeAny_handlers_test (Name_function_global S.eok.kind (hkd hcn) (loadGlobal_global (by rw [S.eok.g]; exact W₅.g) hcg ?_) hcd')) (by intro q; cases q)
    refine exm_one (inK W₅) ((show Looks _ h₅ (typeOf (.ref ea)) (.ref k) from hobc ▸ (Looks.ld hob).andThen .now)) hex _ _ _ _ (fun _ _ e => e) ?_
    refine codeAny_handlers_suite_as (lands_againW hfl₅ fun h₆ hfl₆ hsm₆ => ?_)
    have up₆ := up₅.trans hsm₆
    have W₆ : Wd T h₆ := wd up₆ hfl₆
    have up₀ : s.heap.UpToSlots h₆ := fun b o e hn => up₆ b o (keep b o e) hn
    have chg₆ : ChgH T.N (· ∈ l.filterMap (·.frame)) s.heap h₆ := fun b o e hb => by
      have hbL : b ≠ env.locals := fun q => by rw [q, hLn] at e; cases e
      by_cases hc : o.cls ≠ .type "frame" ∨ b < T.N ∨ ∃ vs, o.data = .fields vs
      · exact ⟨o.slots, hfl₆.1 b o (groundO_get (keep b o e) hb hbL hc), fun _ => rfl⟩
      · obtain ⟨sl, e'⟩ := up₀ b o e fun vs q => hc (.inr (.inr ⟨vs, q⟩))
        exact ⟨sl, e', fun q => absurd q hc⟩
    obtain ⟨oe, ws, hoe, hoec, hoed, _⟩ := hfl₆.first
    have ns₆ := ns_up F.ns up₆
    have heL : ea ≠ env.locals := fun q => by
      obtain ⟨o, es, ep, ho', hd', _⟩ := ns₆
      rw [q, ho'] at hoe; cases hoe; rw [hd'] at hoed; cases hoed
    have hfn : (env.scope.kind == .class || (env.scope.kind == .module && env.locals != env.globals)) = false := by rw [S.eok.kind]; rfl
    -- the exception's name
    refine wpAny_storeName_local (hkd hnm) ns₆ (fun h₇ ns₇ hs₇ => ?_) hfn
    have W₇ : Wd T h₇ := W₆.but hw hLn hs₇
    have I₇ : ExcAt h₇ ea oe k := ⟨(hs₇.2 ea heL).trans hoe, hoec⟩
    have N₇ : NameIs env h₇ nm (.ref ea) := .inl ⟨hkd hnm, _, ns₇, by simp⟩
    refine wpAny_execs_cons (wpAny_Assign_Name ((h1 env he).run S.eok W₇ N₇ I₇ (by simp) fun u₈ k₈ => ?_) (hsw1 env he))
    refine wpAny_storeName_local (hkd hkn) ns₇ (fun h₉ ns₉ hs₉ => ?_) hfn
    have W₉ : Wd T h₉ := W₇.but hw hLn hs₉
    have I₉ : ExcAt h₉ ea oe k := ⟨(hs₉.2 ea heL).trans I₇.at_, hoec⟩
    have N₉ : NameIs env h₉ nm (.ref ea) := .inl ⟨hkd hnm, _, ns₉, by simp [hne]⟩
    refine wpAny_execs_cons (wpAny_Assign_Name ((h2 env he).run S.eok W₉ N₉ I₉ (fun q hq => ?_) fun u₁₀ k₁₀ => ?_) (hsw2 env he))
    · rw [List.mem_singleton.mp hq]
      exact ⟨u₈, .inl ⟨hkd hkn, _, ns₉, by simp⟩⟩
    refine wpAny_storeName_local (hkd hkn) ns₉ (fun h₁₁ ns₁₁ hs₁₁ => ?_) hfn
    refine wpAny_execs_cons (wpAny_Return_some (ld_name (v := .str (mkS t2) u₁₀) S.eok.kind (.inl ⟨hkd hkn, _, ns₁₁, by simp⟩) hknd ?_))
    refine wpAny_nameGoes (hkd hnm) ns₁₁ hfn fun h₁₂ m₁₂ ns₁₂ hs₁₂ => ?_
    have tail : ∀ b, b ≠ env.locals → h₁₂.get? b = h₆.get? b := fun b hb => (((hs₁₂.2 b hb).trans (hs₁₁.2 b hb)).trans (hs₉.2 b hb)).trans (hs₇.2 b hb)
    refine hq _ _ ?_ (fun b o e hb => ?_) (fun b o e hn => ?_)
    · obtain ⟨h', tk, rfl⟩ := X.same
      obtain ⟨h'', tk'', e''⟩ := F.same
      subst e''
      exact ⟨_, _, rfl⟩
    · have hbL : b ≠ env.locals := fun q => by rw [q, hLn] at e; cases e
      obtain ⟨sl, e', f⟩ := chg₆ b o e hb
      exact ⟨sl, (tail b hbL).trans e', f⟩
    · have hbL : b ≠ env.locals := fun q => by rw [q, hLn] at e; cases e
      obtain ⟨sl, e'⟩ := up₀ b o e hn
      exact ⟨sl, (tail b hbL).trans e'⟩⟩
end Mine
end
section
open PySem PySem.Calls PyProof.Rows PySem.W
set_option linter.all false
set_option maxRecDepth 100000
namespace Mine
section
variable {T : St} {n : Nat} {env : Env} {Γ Γ' : Gm} {Q : Fw → Gm → Prop}
theorem said_wp {m : Nat} {f : Str} {p pos : Pos} {args : List PySem.Expr} {xs : List (Vl × Fl)} {x : Str} {a : Addr} {fd : FuncData} {A : Around} {s₀ s : Shared} {d₀ : Addr → Prop} {own : Own} {E : Value → Shared → Prop} {QQ : Value → Shared → Prop} {base : Heap} (hx : env.kindOf f = some .globalImplicit) (hd : (f == ("__debug__" : Str)) = false) (hg : T.mg f = some (.ref a)) (hf : FnAt T a fd)
    (ha : EvA T n env Γ args xs) (hc : CallsS T m a (xs.map (·.1)) x) (hm : m ≤ n) (hA : Amb n A) (B : Bl T A env base [] s₀) (S : SI T s₀ d₀ env own Γ s)
    (h : ∀ s' t, SI T s₀ d₀ env own Γ s' → Pres T.N env own s s' → QQ (.str x t) s') : wpAny T.M A (eval (.Call (.Name f p) args [] pos) env) QQ E s := by
  obtain ⟨o, ho, hdat⟩ := hf
  refine Call_Name rfl (ld_global S.rd hx hd hg (callWith_function (o := o) (fd := fd) (evalArgs_any (ha.plain pos) (ha.run hA S.rd fun vals s₁ k₁ r₁ => ⟨⟨(S.wd.kp k₁.h).k a o ho, hdat⟩, ?_⟩))))
  have S₁ := S.kp k₁
  obtain ⟨m₁, cm₁, F₁, _⟩ := S₁.frm
  have hK : T.K.lookup env.locals = none := by
    cases q : T.K.lookup env.locals with
    | none => rfl
    | some o => have := S.wd0.k _ _ q; rw [F₁.newL] at this; cases this
  obtain ⟨ol, esl, epl, hol, hdl, _⟩ := F₁.ns
  have hnf : ∀ vs, ol.data ≠ .fields vs := fun vs q => by rw [hdl] at q; cases q
  have hfm : [env].filterMap (·.frame) = [env.locals] := by rw [List.filterMap_cons_some B.own]; rfl
  refine (hc.le hm).run hA B.fr (fun e' he' => ?_) S₁.wd r₁.any fun s' tk hs' hch hup => ?_
  · rw [List.mem_singleton.mp he']
    exact ⟨by rw [S.eok.kind]; decide, env.locals, ol, B.own, hol, hnf, hK⟩
  · obtain ⟨S₂, P₂⟩ := S₁.slots hs' (hch.mono fun b hb => by rw [hfm] at hb; exact List.mem_singleton.mp hb) (fun o' e' => by rw [hol] at e'; cases e'; exact hup _ _ hol hnf)
    exact h s' tk S₂ ((Pres.of_kp k₁).trans (.refl _ _) P₂)
theorem ExX1.retS {m : Nat} {f : Str} {p p' pos q : Pos} {args : List PySem.Expr} {xs : List (Vl × Fl)} {e₂ : PySem.Expr} {fl : Fl} {x y : List Nat} {a : Addr} {fd : FuncData} (hx : env.kindOf f = some .globalImplicit) (hd : (f == ("__debug__" : Str)) = false) (hg : T.mg f = some (.ref a)) (hf : FnAt T a fd)
    (ha : EvA T n env Γ args xs) (hc : CallsS T m a (xs.map (·.1)) (mkS x)) (hm : m ≤ n) (he : Ev T n env Γ e₂ (.d (.str (mkS y))) fl) (hmk : behindInMarks .Eq e₂ = false) (hq : Q (.ret (.bool (decide (x = y)))) Γ) :
    ExX1 T n env [] Γ (.Return (some (.Compare (.Call (.Name f p) args [] pos) [.Eq] [e₂] p')) q) Q := ⟨fun {A s₀ d₀ own s E QQ base} hA B S hE h hx' => by
  refine wpAny_Return_some (wpAny_Compare1 (said_wp hx hd hg hf ha hc hm hA B S fun s₂ t S₂ P₂ => ?_) hmk)
  refine he.run hA S₂.rd fun z s₃ k₃ r₃ => ?_
  obtain ⟨t', rfl⟩ := Rep.str_inv r₃
  refine Cmp.eqL.run hA (S₂.kp k₃).wd (rep_str (R := fun _ => True) (mkS x) t) (rep_str (R := fun _ => True) (mkS y) t') fun s₄ k₄ => ?_
  exact h _ (.ret (.bool (decide (x = y)))) s₄ Γ own (S₂.kp (k₃.trans k₄)) (P₂.trans (.refl _ _) (.of_kp (k₃.trans k₄))) (.refl _ _) (repF_bool _) hq⟩
theorem ExX1.iteS {m : Nat} {f : Str} {p p' pos q : Pos} {args : List PySem.Expr} {xs : List (Vl × Fl)} {e₂ : PySem.Expr} {fl : Fl} {x y : List Nat} {a : Addr} {fd : FuncData} {body orelse : List Stmt} (hx : env.kindOf f = some .globalImplicit) (hd : (f == ("__debug__" : Str)) = false) (hg : T.mg f = some (.ref a)) (hf : FnAt T a fd)
    (ha : EvA T n env Γ args xs) (hc : CallsS T m a (xs.map (·.1)) (mkS x)) (hm : m ≤ n) (he : Ev T n env Γ e₂ (.d (.str (mkS y))) fl) (hmk : behindInMarks .NotEq e₂ = false) (hxy : x = y) (hno : ExX T n env [] Γ orelse Q) :
    ExX1 T n env [] Γ (.If (.Compare (.Call (.Name f p) args [] pos) [.NotEq] [e₂] p') body orelse q) Q := ⟨fun {A s₀ d₀ own s E QQ base} hA B S hE h hx' => by
  refine wpAny_If (wpAny_isTrue_Compare1 (said_wp hx hd hg hf ha hc hm hA B S fun s₂ t S₂ P₂ => ?_) hmk)
  refine he.run hA S₂.rd fun z s₃ k₃ r₃ => ?_
  obtain ⟨t', rfl⟩ := Rep.str_inv r₃
  refine Cmp.neL.run hA (S₂.kp k₃).wd (rep_str (R := fun _ => True) (mkS x) t) (rep_str (R := fun _ => True) (mkS y) t') fun s₄ k₄ => truthy_b ?_
  have e : (!decide (x = y)) = false := by simp [hxy]
  rw [e]
  have P₄ : Pres T.N env own s s₄ := P₂.trans (.refl _ _) (.of_kp (k₃.trans k₄))
  exact hno.run hA B (S₂.kp (k₃.trans k₄)) hE (fun f f' s' Γ' own' S' p o fr q => h f f' s' Γ' own' S' (P₄.trans (.refl _ _) p) ((OwnLe.refl own s).trans o P₄) fr q) hx'⟩
end
theorem CallsS.defK {T : St} {K : Frag} {n : Nat} {a : Addr} {xs : List Vl} {name qual : Str} {params : Arguments} {rest : List Stmt} {scope : Scope} {dV kV doc pm cdv ct oc : Value} {an od : Option Addr} {osl : Array (Option Value)} {Γp : Gm} {cn nm kn : Str} {e e1 e2 : PySem.Expr} {p₀ p np pos a₁ a₂ a₃ a₄ r₁ r₂ : Pos} {k C : Addr} {t1 t2 : List Nat} {body : List Stmt}
    (G : GdK T K) (ps ls : List Str) (ho : K.lookup a = some ⟨oc, od, .func (fnOf name qual params body scope dV kV doc pm an cdv ct), osl⟩) (hcd : codeIn K cdv qual = true)
    (hb : Binds (fnOf name qual params body scope dV kV doc pm an cdv ct) ps) (hbody : body = .Try [.Expr e p₀] [.ExceptHandler (some (.Name cn np)) (some nm) [.Assign [.Name kn a₁] e1 a₂, .Assign [.Name kn a₃] e2 a₄, .Return (some (.Name kn r₁)) r₂] p] [] [] pos :: rest)
    (hp : Prm ps xs Γp) (hok : okNames (ps ++ ls) = true) (hk : okPrm scope ps = true)
    (hsc : scope.kind = .function ∧ scope.isCoroutine = false ∧ scope.isGenerator = false) (hcn : scope.names.lookup cn = some .globalImplicit) (hcd' : (cn == ("__debug__" : Str)) = false) (hcg : T.mg cn = some (.ref C)) (hex : exmOne K (.ref k) (.ref C) = some true)
    (hnm : scope.names.lookup nm = some .local) (hkn : scope.names.lookup kn = some .local) (hknd : (kn == ("__debug__" : Str)) = false) (hne : nm ≠ kn)
    (hsw : ∀ env : Env, env.scope = scope → swapsWith e none p₀.line env = pure false) (hsw1 : ∀ env : Env, env.scope = scope → swapsWith e1 (some (.Name kn a₁)) a₂.line env = pure false) (hsw2 : ∀ env : Env, env.scope = scope → swapsWith e2 (some (.Name kn a₃)) a₄.line env = pure false)
    (h : ∀ env : Env, env.scope = scope → EvX T n env (Γp ++ ls.map fun x => (x, none)) e k) (h1 : ∀ env : Env, env.scope = scope → EvE T env [] nm k e1 t1) (h2 : ∀ env : Env, env.scope = scope → EvE T env [(kn, t1)] nm k e2 t2) : CallsS T (n + 1) a xs (mkS t2) ∧ ∃ fd, FnAt T a fd :=
  ⟨CallsS.def G hbody (by rw [G.k]; exact ho) (by rw [G.k]; exact hcd) hb hp (okNames_ok hok) (okPrm_ok hk) hsc hcn hcd' hcg hex hnm hkn hknd hne hsw hsw1 hsw2 h h1 h2, _, _, by rw [G.k]; exact ho, rfl⟩
theorem Ex1.exprV {T : St} {n : Nat} {env : Env} {Γ : Gm} {Q : Fw → Gm → Prop} {e : PySem.Expr} {p : Pos} {v : Vl} {fl : Fl} (he : Ev T n env Γ e v fl) (hs : swapsWith e none p.line env = pure false) (hq : Q .next Γ) : Ex1 T n env Γ (.Expr e p) Q := ⟨fun {A s₀ d₀ own s E QQ} hA S h hx => by
  refine wpAny_Expr_any (he.run hA S.rd fun val s₁ k₁ r₁ => h _ .next s₁ Γ own (S.kp k₁) (.of_kp k₁) (.refl _ _) trivial hq) ?_ hs
  unfold interactive; rw [S.eok.kind]; rfl⟩
end Mine
end
section
open PySem PySem.Calls PyProof.Rows PySem.W
set_option linter.all false
set_option maxRecDepth 100000
namespace Mine
theorem gI_inj {i j : Nat} (h : gI i = gI j) : i = j := by
  have h1 := congrArg (fun x : Str => x.cps.toList.length) h
  simp [gI] at h1
  exact h1
theorem look_mem {α : Type} {l : List (List Nat × α)} {x : List Nat} {a : α} (h : l.lookup x = some a) : (x, a) ∈ l := by
  induction l with
  | nil => simp at h
  | cons p l ih =>
    rw [show p = (p.1, p.2) from rfl, List.lookup_cons] at h
    by_cases hx : x = p.1
    · simp [hx] at h; subst h; rw [hx]; exact .head _
    · have : (x == p.1) = false := by simpa using hx
      rw [this] at h; exact .tail _ (ih h)
theorem look_some {α : Type} {l : List (List Nat × α)} {x : List Nat} (h : x ∈ l.map (·.1)) : (l.lookup x).isSome = true := by
  induction l with
  | nil => cases h
  | cons p l ih =>
    rw [show p = (p.1, p.2) from rfl, List.lookup_cons]
    by_cases hx : x = p.1
    · simp [hx]
    · have : (x == p.1) = false := by simpa using hx
      rw [this]
      rw [List.map_cons] at h
      exact ih ((List.mem_cons.mp h).resolve_left hx)
noncomputable def deepD (m : List (List Nat × List (List Nat × PyData))) : List (List Nat × PyData) := m.map fun p => (p.1, dictD p.2)
theorem deepD_keys (m : List (List Nat × List (List Nat × PyData))) : (deepD m).map (·.1) = m.map (·.1) := by unfold deepD; rw [List.map_map]; rfl
noncomputable def stillM (m : List (List Nat × PyData)) : Prop := stillAll (m.map (·.2)) = true
theorem reads_inner {h : Heap} {v : Value} {m : List (List Nat × PyData)} {as : List Addr} (hm : stillM m) (r : Reads h v (dictD m) as) : ∃ b, v = .ref b ∧ as = [b] := by
  generalize hd : dictD m = d at r
  cases r with
  | @dict a o es n kvs as bs ho hc hdat hks hvs =>
    unfold dictD at hd
    injection hd with hd
    subst hd
    have e1 : (m.map fun p => ((.str (mkS p.1), p.2) : PyData × PyData)).map (·.1) = m.map fun p => .str (mkS p.1) := by rw [List.map_map]; rfl
    have e2 : (m.map fun p => ((.str (mkS p.1), p.2) : PyData × PyData)).map (·.2) = m.map (·.2) := by rw [List.map_map]; rfl
    rw [e1] at hks; rw [e2] at hvs
    have z1 := readsAll_nil hks
    have z2 := still_readsAll hm hvs
    subst z1; subst z2
    exact ⟨a, rfl, rfl⟩
  | _ => cases hd
theorem deep_parts {h : Heap} : ∀ {m : List (List Nat × List (List Nat × PyData))} {vs : List Value} {as : List Addr}, (∀ p ∈ m, stillM p.2) → ReadsAll h vs ((deepD m).map (·.2)) as → vs = as.map .ref ∧ as.length = m.length ∧ ∀ (i : Nat) (p : List Nat × List (List Nat × PyData)) (b : Addr), m[i]? = some p → as[i]? = some b → Reads h (.ref b) (dictD p.2) [b]
  | [], _, _, _, .nil => ⟨rfl, rfl, fun i p b e => by simp at e⟩
  | p :: m, _, _, hs, .cons r1 r2 => by
    obtain ⟨b, rfl, rfl⟩ := reads_inner (hs p (.head _)) r1
    obtain ⟨h1, h2, h3⟩ := deep_parts (m := m) (fun q hq => hs q (.tail _ hq)) r2
    refine ⟨by rw [h1]; rfl, by simp [h2], fun i q c e1 e2 => ?_⟩
    cases i with
    | zero => simp at e1 e2; subst e1; subst e2; exact r1
    | succ i => exact h3 i q c (by simpa using e1) (by simpa using e2)
theorem deep_all {h : Heap} : ∀ {m : List (List Nat × List (List Nat × PyData))} {as : List Addr}, as.length = m.length → (∀ (i : Nat) (p : List Nat × List (List Nat × PyData)) (b : Addr), m[i]? = some p → as[i]? = some b → Reads h (.ref b) (dictD p.2) [b]) → ReadsAll h (as.map .ref) ((deepD m).map (·.2)) as
  | [], [], _, _ => .nil
  | [], _ :: _, h, _ => by simp at h
  | _ :: _, [], h, _ => by simp at h
  | p :: m, b :: as, hl, h => ReadsAll.cons (as := [b]) (h 0 p b rfl rfl) (deep_all (m := m) (by simpa using hl) fun i q c e1 e2 => h (i + 1) q c (by simpa using e1) (by simpa using e2))
section
variable {T : St} {n : Nat} {env : Env} {Γ Γ' Γd : Gm} {Q : Fw → Gm → Prop} {m : List (List Nat × List (List Nat × PyData))}
theorem SI.deepen {s₀ s : Shared} {d₀ : Addr → Prop} {own : Own} {x : Str} (S : SI T s₀ d₀ env own Γ s) (hm : (x, some (.d (dictD []), .o)) ∈ Γ) (hp : Put Γ x (some (.d (dictD (deepD [])), .s (0, none))) Γ') : SI T s₀ d₀ env own Γ' s := by
  obtain ⟨mm, cm, F, hn⟩ := S.frm
  refine ⟨S.eok, S.cok, by rw [hp.names]; exact S.ok, S.wd0, S.d0, S.ownNew, S.ownInj, mm, cm, F, fun y v fl hm' => ?_⟩
  rcases hp.cases S.ok.nodup y _ hm' with ⟨rfl, e⟩ | ⟨hyx, hm''⟩
  · cases e
    obtain ⟨val, l, d, a, as, e1, e2, e3, e4, e5, e6⟩ := hn _ _ _ hm
    cases e1
    have hz : as = [] := by
      obtain ⟨b, _, h⟩ := reads_inner (m := []) rfl e4
      cases h; rfl
    subst hz
    exact ⟨val, l, .inr ⟨_, a, [], rfl, e2, e3, e4, fun i b e => by simp at e, e6⟩⟩
  · exact hn y v fl hm''
theorem Ex.deepen {x : Str} {ss : List Stmt} (hm : (x, some (.d (dictD []), .o)) ∈ Γ) (hp : Put Γ x (some (.d (dictD (deepD [])), .s (0, none))) Γ') (h : Ex T n env Γ' ss Q) : Ex T n env Γ ss Q := ⟨fun {A s₀ d₀ own s E QQ} hA S hq hx => h.run hA (S.deepen hm hp) hq hx⟩
theorem SI.ghostG {s₀ s s₁ : Shared} {d₀ : Addr → Prop} {own : Own} {b : Addr} {g : Str} (S : SI T s₀ d₀ env own Γ s) (k : Kp T.N s s₁) (hb : s.heap.get? b = none) (ho : ∃ o, s₁.heap.get? b = some o ∧ (o.dict = none ∧ ∀ vs, o.data ≠ .fields vs) ∧ o.cls ≠ .type "tuple" ∧ o.cls ≠ .type "frame")
    (hg : env.kindOf g = none) (hns : ∀ y v z, (y, some (v, .s z)) ∉ Γ) : SI T s₀ d₀ env (fun y => if y = g then some b else own y) Γ s₁ := by
  have S₁ := S.kp k
  have hfr := S.fresh hb
  obtain ⟨m₀, cm₀, F₀, hn₀⟩ := S.frm
  have hcase : ∀ y a, (if y = g then some b else own y) = some a → (y = g ∧ a = b) ∨ (y ≠ g ∧ own y = some a) := fun y a e => by
    by_cases hy : y = g
    · rw [if_pos hy] at e; cases e; exact .inl ⟨hy, rfl⟩
    · rw [if_neg hy] at e; exact .inr ⟨hy, e⟩
  have hle : ∀ a, s.heap.get? a ≠ none → (∀ y, own y ≠ some a) → ∀ y, (if y = g then some b else own y) ≠ some a := fun a ha hy y q => by
    rcases hcase y a q with ⟨_, rfl⟩ | ⟨_, q⟩
    · exact ha hb
    · exact hy y q
  have upC : ∀ a, (regOf d₀ env own .c a ∧ s.heap.get? a ≠ none) → regOf d₀ env (fun y => if y = g then some b else own y) .c a := fun a r => ⟨r.1.1, r.1.2.1, r.1.2.2.1, hle a r.2 r.1.2.2.2⟩
  have upB : ∀ a, (regOf d₀ env own .b a ∧ s.heap.get? a ≠ none) → regOf d₀ env (fun y => if y = g then some b else own y) .b a := fun a r => ⟨r.1.1, r.1.2.1, hle a r.2 r.1.2.2⟩
  refine ⟨S.eok, S.cok, S.ok, S.wd0, S.d0, fun y a e => ?_, fun x y a e1 e2 => ?_, m₀, cm₀, F₀.kp k, fun y v fl hm => ?_⟩
  · rcases hcase y a e with ⟨_, rfl⟩ | ⟨_, e⟩
    · exact ⟨F₀.keep.none hb, hfr.2.1, hfr.2.2.1, ho⟩
    · exact S₁.ownNew y a e
  · rcases hcase x a e1 with ⟨q1, q2⟩ | ⟨_, e1'⟩ <;> rcases hcase y a e2 with ⟨q3, q4⟩ | ⟨_, e2'⟩
    · rw [q1, q3]
    · obtain ⟨_, _, _, o, h4, _⟩ := S.ownNew y a e2'; rw [q2, hb] at h4; cases h4
    · obtain ⟨_, _, _, o, h4, _⟩ := S.ownNew x a e1'; rw [q4, hb] at h4; cases h4
    · exact S.ownInj x y a e1' e2'
  · obtain ⟨val, l, r⟩ := hn₀ y v fl hm
    refine ⟨val, l, ?_⟩
    have hyg : y ≠ g := by
      rintro rfl
      rcases l with ⟨q, _⟩ | ⟨q, _⟩ <;> rw [hg] at q <;> cases q
    cases fl with
    | c => exact ((RepV.there r).mono upC).keeps k.h
    | b => exact ((RepV.there r).mono upB).keeps k.h
    | o =>
      obtain ⟨d, a, as, e1, e2, e3, e4, e5, e6⟩ := r
      exact ⟨d, a, as, e1, e2, by show (if y = g then some b else own y) = some a; rw [if_neg hyg]; exact e3, reads_kp k.h e4, fun z hz => upC z ⟨e5 z hz, by obtain ⟨o, e, _⟩ := e6 z (.tail _ hz); rw [e]; simp⟩, e6.keeps k.h⟩
    | s z => exact absurd hm (hns y v z)
theorem SI.putDeep {s₀ s : Shared} {d₀ : Addr → Prop} {own : Own} {x : Str} {a : Addr} {d : PyData} {z : Addr × Option Str} (S : SI T s₀ d₀ env own Γ s) (hnm : NameIs env s.heap x (.ref a)) (hd : DeepOwn T d₀ env own s.heap x (.ref a) (.d d)) (hp : Put Γ x (some (.d d, .s z)) Γ') : SI T s₀ d₀ env own Γ' s := by
  obtain ⟨mm, cm, F, hn⟩ := S.frm
  have lk : Look env mm cm x (.ref a) := by
    rcases hnm with ⟨kd, m', hn', hv⟩ | ⟨kd, c, hc, hv⟩
    · exact .inl ⟨kd, (Ns_one F.ns hn' x).trans hv⟩
    · obtain ⟨o1, q1, q2⟩ := hv
      obtain ⟨o2, q3, q4⟩ := F.cell x c hc
      rw [q1] at q3; cases q3
      rw [q2] at q4
      exact .inr ⟨kd, ⟨c, hc⟩, by injection q4 with q4; exact q4.symm⟩
  refine ⟨S.eok, S.cok, by rw [hp.names]; exact S.ok, S.wd0, S.d0, S.ownNew, S.ownInj, mm, cm, F, fun y v fl hm' => ?_⟩
  rcases hp.cases S.ok.nodup y _ hm' with ⟨rfl, e⟩ | ⟨hyx, hm''⟩
  · cases e
    exact ⟨_, lk, .inr hd⟩
  · exact hn y v fl hm''
theorem Ex1.setDeep {x : Str} {p₁ p₂ p₃ : Pos} {e ke : PySem.Expr} {k : List Nat} {mi : List (List Nat × PyData)} {fk : Fl} {z : Addr × Option Str} (hm : (x, some (.d (dictD (deepD m)), .s z)) ∈ Γ) (hone : ∀ y v z', (y, some (v, .s z')) ∈ Γ → y = x) (hgI : ∀ i, env.kindOf (gI i) = none) (hpd : Put Γ x none Γd)
    (he : EvF T n env Γ e (dictD mi)) (hmi : stillM mi) (hsm : ∀ p ∈ m, stillM p.2) (hk : Ev T n env Γd ke (.d (.str (mkS k))) fk) (hn : (m.map (·.1)).Nodup) (hl : m.lookup k = none) (hz : m.length ≤ sizeLine)
    (hp : Put Γd x (some (.d (dictD (deepD (m ++ [(k, mi)]))), .s z)) Γ') (hs : swapsWith e (some (.Subscript (.Name x p₁) ke p₂)) p₃.line env = pure false) (hq : Q .next Γ') : Ex1 T n env Γ (.Assign [.Subscript (.Name x p₁) ke p₂] e p₃) Q := ⟨fun {A s₀ d₀ own s E QQ} hA S h hx => by
  refine wpAny_Assign_Subscript (he.run hA S.rd fun val s₁ k₁ r₁ => ?_) hs
  obtain ⟨b, bs, rfl, b2, b3, b4, b5, b6, ob, b7, b8⟩ := r₁.top rfl
  obtain ⟨_, _, hbs⟩ := reads_inner hmi b2
  cases hbs
  have hdb := S.ok.nodebug x (List.mem_map_of_mem (f := fun p : Str × Slot => p.1) hm)
  have hnsd : ∀ y v z, (y, some (v, .s z)) ∉ Γd := fun y v z h => by
    rcases hpd.cases S.ok.nodup y _ h with ⟨_, e⟩ | ⟨hy, h⟩
    · cases e
    · exact hy (hone y v z h)
  have hngd : ∀ v fl, (x, some (v, fl)) ∉ Γd := fun v fl h => by
    rcases hpd.cases S.ok.nodup x _ h with ⟨_, e⟩ | ⟨h, _⟩
    · cases e
    · exact h rfl
  obtain ⟨m₁, cm₁, F₁, hn₁⟩ := (S.kp k₁).frm
  obtain ⟨vx, lx, r₀⟩ := hn₁ x _ _ hm
  obtain ⟨dd, a, as, e1, e2, e3, e4, e5, e6⟩ := InstOwn.deep r₀
  cases e1
  subst e2
  have hxr : ∀ i, x ≠ gI i := fun i q => by
    rw [q] at lx
    rcases lx with ⟨q, _⟩ | ⟨q, _⟩ <;> rw [hgI i] at q <;> cases q
  have S₁ := (S.drop hpd).ghostG k₁ b5 ⟨ob, b7, b8⟩ (hgI as.length) hnsd
  have ho' : OwnLe own (fun y => if y = gI as.length then some b else own y) s := fun y a e => by
    have e : (if y = gI as.length then some b else own y) = some a := e
    by_cases hy : y = gI as.length
    · rw [if_pos hy] at e; cases e; exact .inr b5
    · rw [if_neg hy] at e; exact .inl ⟨y, e⟩
  have oX : (fun y => if y = gI as.length then some b else own y) x = some a := by show (if x = gI as.length then some b else own x) = some a; rw [if_neg (hxr _)]; exact e3
  have oB : (fun y => if y = gI as.length then some b else own y) (gI as.length) = some b := if_pos rfl
  have oI : ∀ i c, as[i]? = some c → (fun y => if y = gI as.length then some b else own y) (gI i) = some c := fun i c hi => by
    have : i < as.length := (List.getElem?_eq_some_iff.mp hi).1
    show (if gI i = gI as.length then some b else own (gI i)) = some c
    rw [if_neg fun q => by have := gI_inj q; omega]
    exact (e5 i c hi).1
  generalize (fun y => if y = gI as.length then some b else own y) = own' at S₁ ho' oX oB oI
  refine ld_name S.eok.kind (lx.is F₁) hdb (hk.run hA S₁.rd fun kv s₂ k₂ r₂ => ?_)
  obtain ⟨t, rfl⟩ := Rep.str_inv r₂
  have S₂ := S₁.kp k₂
  have hnD : ((deepD m).map (·.1)).Nodup := by rw [deepD_keys]; exact hn
  have hlD : (deepD m).lookup k = none := by
    cases q : (deepD m).lookup k with
    | none => rfl
    | some d0 =>
      exfalso
      have h1 : k ∈ (deepD m).map (·.1) := List.mem_map_of_mem (f := fun q : List Nat × PyData => q.1) (look_mem q)
      rw [deepD_keys] at h1
      have h2 := look_some h1
      rw [hl] at h2; cases h2
  obtain ⟨hsm', vs, hdo, hvs⟩ := dict_parts (prog := T.prog) (reads_kp k₂.h e4) (e6.keeps k₂.h) hnD
  obtain ⟨hvr, hal, hin⟩ := deep_parts hsm hvs
  have hlen : vs.length = (deepD m).length := by rw [hvr, List.length_map, hal]; simp [deepD]
  refine wpAny_setItem_pairs (knd := strKind T.prog T.w) (k := mkS k) (by show (mkS k == mkS k) = true; simp) hdo (fun h' hd' hb => ?_) (by rw [List.length_zip, List.length_map, hlen, Nat.min_self]; simpa [deepD] using hz)
  rw [stored_new (d := dictD mi) hlen hlD] at hd'
  obtain ⟨o₁, es₁, ep₁, g1, g2, g3⟩ := id hd'
  obtain ⟨S₃, p₃⟩ := (S₂.kp (.tok s₂ (s₂.toks + 1))).mutateN (g := x) oX hngd hnsd hb g1 ⟨⟨g2.2.1, fun vs q => by rw [g3.1] at q; cases q⟩, by rw [g2.1]; simp, by rw [g2.1]; simp⟩
  obtain ⟨w1, w2, w3, _⟩ := S₂.ownNew x a oX
  have hia : ∀ c ∈ as, c ≠ a := fun c hc q => by
    obtain ⟨i, hi⟩ := List.getElem?_of_mem hc
    exact hxr i (S₂.ownInj x (gI i) a oX (q ▸ oI i c hi))
  have hba : b ≠ a := fun q => hxr _ (S₂.ownInj x _ a oX (q ▸ oB))
  have chg : ChgH T.N (· = a) s₂.heap h' := ChgH.of_but hb
  have ntup : ∀ z, z = a → NotTup s₂.heap z := fun z hz => May.notTup S₂ z (.inr (.inr ⟨x, hz ▸ oX⟩))
  have b2' := reads_kp k₂.h b2
  have hall : ReadsAll h' ((as ++ [b]).map .ref) ((deepD (m ++ [(k, mi)])).map (·.2)) (as ++ [b]) := deep_all (by simp [hal]) fun i q c q1 q2 => by
    by_cases hi : i < m.length
    · rw [List.getElem?_append_left hi] at q1
      rw [List.getElem?_append_left (by omega)] at q2
      exact reads_chg chg ntup (hin i q c q1 q2) fun z hz => by rw [List.mem_singleton.mp hz]; exact hia c (List.mem_of_getElem? q2)
    · rw [List.getElem?_append_right (by omega)] at q1 q2
      have hi0 : i - m.length = 0 := by
        have := (List.getElem?_eq_some_iff.mp q1).1
        simp at this; omega
      rw [hi0] at q1
      rw [hal, hi0] at q2
      cases q1; cases q2
      exact reads_chg chg ntup b2' fun z hz => by rw [List.mem_singleton.mp hz]; exact hba
  have hdok : Dok T.w h' (as ++ [b]) := by
    have d1 : Dok T.w h' as := Dok.chg (fun c hc => (e6.keeps k₂.h) c (.tail _ hc)) chg hia
    have d2 : Dok T.w h' [b] := (b4.keeps k₂.h).chg chg fun c hc => by rw [List.mem_singleton.mp hc]; exact hba
    exact d1.append d2
  have hd'' : h'.DictOf (strKind T.prog T.w) a (((deepD (m ++ [(k, mi)])).map fun p => mkS p.1).zip ((as ++ [b]).map .ref)) := by
    rw [List.map_append, ← hvr, show deepD (m ++ [(k, mi)]) = deepD m ++ [(k, dictD mi)] by simp [deepD]]
    exact hd'
  obtain ⟨z1, z2, _⟩ := dict_reads hsm' hd'' hall hdok
  have S₄ := SI.putDeep (s := { s₂ with heap := h', toks := s₂.toks + 1 }) S₃ (((lx.is F₁).kp k₂.h).but hb (Ne.symm w2) (fun y' c hc q => w3 y' c hc q.symm)) ⟨_, a, as ++ [b], rfl, rfl, oX, z1, fun i c hi => ?_, z2⟩ hp
  · exact h _ .next _ Γ' own' S₄ ((((Pres.of_kp k₁).trans ho' (.of_kp k₂)).trans ho' (.of_kp (.tok s₂ (s₂.toks + 1)))).trans ho' p₃) ho' trivial hq
  · refine ⟨?_, hgI i⟩
    by_cases hlt : i < as.length
    · rw [List.getElem?_append_left hlt] at hi; exact oI i c hi
    · rw [List.getElem?_append_right (by omega)] at hi
      have hi0 : i - as.length = 0 := by
        have := (List.getElem?_eq_some_iff.mp hi).1
        simp at this; omega
      rw [hi0] at hi
      cases hi
      have : i = as.length := by omega
      rw [this]; exact oB⟩
end
end Mine
end
section
open PySem PySem.Calls PyProof.Rows PySem.W
set_option linter.all false
set_option maxRecDepth 100000
namespace Mine
noncomputable abbrev DM := List (List Nat × List (List Nat × PyData))
noncomputable def setIn (m : DM) (k k2 : List Nat) (d : PyData) : DM := m.map fun p => if p.1 = k then (p.1, setM p.2 k2 d) else p
theorem setIn_keys (m : DM) (k k2 : List Nat) (d : PyData) : (setIn m k k2 d).map (·.1) = m.map (·.1) := by
  unfold setIn
  rw [List.map_map]
  congr 1
  funext p
  simp only [Function.comp]
  split <;> rfl
theorem stillAll_iff : ∀ {l : List PyData}, stillAll l = true ↔ ∀ d ∈ l, still d = true
  | [] => by simp [stillAll]
  | d :: l => by simp [stillAll, stillAll_iff (l := l)]
theorem stillM_set {m : List (List Nat × PyData)} {k : List Nat} {d : PyData} (hm : stillM m) (hd : still d = true) : stillM (setM m k d) := by
  unfold stillM at hm ⊢
  rw [stillAll_iff] at hm ⊢
  intro q hq
  unfold setM at hq
  split at hq
  · rw [List.map_map] at hq
    obtain ⟨p, hp, rfl⟩ := List.mem_map.mp hq
    simp only [Function.comp]
    split
    · exact hd
    · exact hm _ (List.mem_map_of_mem (f := fun p : List Nat × PyData => p.2) hp)
  · rw [List.map_append] at hq
    rcases List.mem_append.mp hq with hq | hq
    · exact hm q hq
    · simp only [List.map_cons, List.map_nil, List.mem_singleton] at hq
      rw [hq]; exact hd
theorem nodup_idx {α : Type} : ∀ {l : List α} {i j : Nat} {x : α}, l.Nodup → l[i]? = some x → l[j]? = some x → i = j
  | [], _, _, _, _, h, _ => by simp at h
  | y :: l, 0, 0, _, _, _, _ => rfl
  | y :: l, i + 1, j + 1, x, hn, h1, h2 => by
    rw [nodup_idx (l := l) (i := i) (j := j) (List.nodup_cons.mp hn).2 (by simpa using h1) (by simpa using h2)]
  | y :: l, 0, j + 1, x, hn, h1, h2 => by
    simp at h1 h2
    subst h1
    exact absurd (List.mem_of_getElem? h2) (List.nodup_cons.mp hn).1
  | y :: l, i + 1, 0, x, hn, h1, h2 => by
    simp at h1 h2
    subst h2
    exact absurd (List.mem_of_getElem? h1) (List.nodup_cons.mp hn).1
theorem key_at : ∀ {m : DM} {k : List Nat} {mi : List (List Nat × PyData)} {as : List Addr}, as.length = m.length → m.lookup k = some mi → ∃ (i : Nat) (b : Addr), m[i]? = some (k, mi) ∧ as[i]? = some b ∧ valueAt (((deepD m).map fun p => mkS p.1).zip (as.map .ref)) (mkS k) = some (.ref b)
  | [], _, _, _, _, e => by simp at e
  | _ :: _, _, _, [], h, _ => by simp at h
  | (x, mx) :: m, k, mi, b :: as, h, e => by
    rw [List.lookup_cons] at e
    by_cases hx : k = x
    · subst hx
      simp at e
      subst e
      exact ⟨0, b, rfl, rfl, by simp [valueAt, deepD]⟩
    · have h1 : (k == x) = false := by simpa using hx
      rw [h1] at e
      obtain ⟨i, c, q1, q2, q3⟩ := key_at (m := m) (as := as) (by simpa using h) e
      refine ⟨i + 1, c, by simpa using q1, by simpa using q2, ?_⟩
      have h2 : decide (mkS x = mkS k) = false := decide_eq_false fun e => hx (mkS_inj.mp e).symm
      unfold valueAt at q3 ⊢
      unfold deepD at q3 ⊢
      simp only [List.map_cons, List.zip_cons_cons, List.find?_cons, h2]
      exact q3
section
variable {T : St} {n : Nat} {env : Env} {Γ Γ' Γd : Gm} {Q : Fw → Gm → Prop} {m : DM}
theorem Ex1.setIn {x : Str} {p₀ p₁ p₂ p₃ : Pos} {e ke k2e : PySem.Expr} {k k2 : List Nat} {mi : List (List Nat × PyData)} {d : PyData} {fk fk2 : Fl} {z : Addr × Option Str} (hm : (x, some (.d (dictD (deepD m)), .s z)) ∈ Γ) (hone : ∀ y v z', (y, some (v, .s z')) ∈ Γ → y = x) (hgI : ∀ i, env.kindOf (gI i) = none)
    (he : EvF T n env Γ e d) (hd : still d = true) (hsm : ∀ p ∈ m, stillM p.2) (hk : Ev T n env Γ ke (.d (.str (mkS k))) fk) (hk2 : Ev T n env Γ k2e (.d (.str (mkS k2))) fk2) (hn : (m.map (·.1)).Nodup) (hl : m.lookup k = some mi) (hni : (mi.map (·.1)).Nodup) (hz : mi.length ≤ sizeLine)
    (hsub : ∀ o i, subscripted ke false o i = operate [o, i] (getItem o i)) (hp : Put Γ x (some (.d (dictD (deepD (setIn m k k2 d))), .s z)) Γ') (hs : swapsWith e (some (.Subscript (.Subscript (.Name x p₀) ke p₁) k2e p₂)) p₃.line env = pure false) (hq : Q .next Γ') :
    Ex1 T n env Γ (.Assign [.Subscript (.Subscript (.Name x p₀) ke p₁) k2e p₂] e p₃) Q := ⟨fun {A s₀ d₀ own s E QQ} hA S h hx => by
  refine wpAny_Assign_Subscript (he.run hA S.rd fun val s₁ k₁ r₁ => ?_) hs
  have S₁ := S.kp k₁
  have hdb := S.ok.nodebug x (List.mem_map_of_mem (f := fun p : Str × Slot => p.1) hm)
  obtain ⟨m₁, cm₁, F₁, hn₁⟩ := S₁.frm
  obtain ⟨vx, lx, r₀⟩ := hn₁ x _ _ hm
  obtain ⟨dd, a, as, e1, e2, e3, e4, e5, e6⟩ := InstOwn.deep r₀
  cases e1
  subst e2
  have hxr : ∀ i, x ≠ gI i := fun i q => by
    rw [q] at lx
    rcases lx with ⟨q, _⟩ | ⟨q, _⟩ <;> rw [hgI i] at q <;> cases q
  have hnD : ((deepD m).map (·.1)).Nodup := by rw [deepD_keys]; exact hn
  refine Subscript_ (ld_name S.eok.kind (lx.is F₁) hdb (hk.run hA S₁.rd fun kv s₂ k₂ r₂ => ?_))
  obtain ⟨t, rfl⟩ := Rep.str_inv r₂
  have S₂ := S₁.kp k₂
  obtain ⟨hsm', vs, hdo, hvs⟩ := dict_parts (prog := T.prog) (reads_kp k₂.h e4) (e6.keeps k₂.h) hnD
  obtain ⟨hvr, hal, hin⟩ := deep_parts hsm hvs
  obtain ⟨i, b, hi1, hi2, hva⟩ := key_at hal hl
  rw [hvr] at hdo
  refine tail_any hdo.typeIs slot_dict_getitem.lookup (wpAny_getItem_of (knd := strKind T.prog T.w) (k := mkS k) (by show (mkS k == mkS k) = true; simp) hdo.mapOf hva ?_) (hsub _ _)
  have k₂' : Kp T.N s₂ { s₂ with toks := s₂.toks + 1 } := .tok _ _
  refine hk2.run hA (S₂.kp k₂').rd fun kv2 s₃ k₃ r₃ => ?_
  obtain ⟨t3, rfl⟩ := Rep.str_inv r₃
  have kk := k₂'.trans k₃
  have S₃ := S₂.kp kk
  have hbo : own (gI i) = some b := (e5 i b hi2).1
  have hrb : Reads s₃.heap (.ref b) (dictD mi) (b :: []) := reads_kp kk.h (hin i (k, mi) b hi1 hi2)
  have hdk : Dok T.w s₃.heap (b :: []) := fun c hc => ((e6.keeps k₂.h).keeps kk.h) c (by rw [List.mem_singleton.mp hc]; exact .tail _ (List.mem_of_getElem? hi2))
  refine dict_storeA (d := d) (R := fun q => q ≠ b) hrb hdk (by simp) (Rep.still (Rep.keeps (Rep.keeps r₁.rep k₂.h) kk.h) hd) (fun c hc => hc) hni hz fun h' o' hb ho' hok hrep => ?_
  have hrep' : Reads h' (.ref b) (dictD (setM mi k2 d)) [b] ∧ Dok T.w h' [b] := by
    obtain ⟨as', q1, _, q3⟩ := hrep
    obtain ⟨_, _, q4⟩ := reads_inner (stillM_set (hsm _ (List.mem_of_getElem? hi1)) hd) q1
    cases q4
    exact ⟨q1, q3⟩
  have S₄ := S₃.kp (.tok s₃ (s₃.toks + 1))
  obtain ⟨S₅, p₅⟩ := S₄.mutateG (x := x) (g := gI i) (a := b) (h' := h') hm hbo (.inr ⟨hgI i, hone⟩) hp hb ho' hok (fun v' r' => by
    obtain ⟨dd', a', as', f1, f2, f3, f4, f5, f6⟩ := InstOwn.deep r'
    cases f1
    subst f2
    have chg : ChgH T.N (· = b) s₃.heap h' := ChgH.of_but hb
    have ntup : ∀ z, z = b → NotTup s₃.heap z := fun z hz => May.notTup S₃ z (.inr (.inr ⟨gI i, hz ▸ hbo⟩))
    have hab : a' ≠ b := fun q => hxr i (S₃.ownInj x (gI i) b (q ▸ f3) hbo)
    obtain ⟨g0, vs', gdo, gvs⟩ := dict_parts (prog := T.prog) f4 f6 hnD
    obtain ⟨gvr, gal, gin⟩ := deep_parts hsm gvs
    have gdo' : h'.DictOf (strKind T.prog T.w) a' (((deepD (Mine.setIn m k k2 d)).map fun p => mkS p.1).zip (as'.map .ref)) := by
      obtain ⟨o, es, ep, q1, q2, q3⟩ := gdo
      have e : ((deepD (Mine.setIn m k k2 d)).map fun p => mkS p.1) = ((deepD m).map fun p => mkS p.1) := by
        have h1 : ∀ l : List (List Nat × PyData), (l.map fun p => mkS p.1) = (l.map (·.1)).map mkS := fun l => by rw [List.map_map]; rfl
        rw [h1, h1, deepD_keys, deepD_keys, setIn_keys]
      rw [e, ← gvr]
      exact ⟨o, es, ep, (hb.2 a' hab).trans q1, q2, q3⟩
    have hii : ∀ j, as'[j]? = some b → j = i := fun j hj => gI_inj (S₃.ownInj _ _ b (f5 j b hj).1 hbo)
    have hib : as'[i]? = some b := by
      have hlt : i < as'.length := by rw [gal]; exact (List.getElem?_eq_some_iff.mp hi1).1
      obtain ⟨c, hc⟩ : ∃ c, as'[i]? = some c := ⟨_, List.getElem?_eq_getElem hlt⟩
      have := (f5 i c hc).1
      rw [hbo] at this; cases this; exact hc
    have gall : ReadsAll h' (as'.map .ref) ((deepD (Mine.setIn m k k2 d)).map (·.2)) as' := deep_all (by rw [gal]; simp [Mine.setIn]) fun j q c q1 q2 => by
      unfold Mine.setIn at q1
      rw [List.getElem?_map] at q1
      obtain ⟨p, hpj, rfl⟩ := Option.map_eq_some_iff.mp q1
      by_cases hj : j = i
      · subst hj
        rw [hi1] at hpj; cases hpj
        rw [hib] at q2; cases q2
        rw [if_pos rfl]
        exact hrep'.1
      · have hpk : p.1 ≠ k := fun q => hj (by
          have h1 : (m.map (·.1))[j]? = some k := by rw [List.getElem?_map, hpj, ← q]; rfl
          have h2 : (m.map (·.1))[i]? = some k := by rw [List.getElem?_map, hi1]; rfl
          exact nodup_idx hn h1 h2)
        rw [if_neg hpk]
        exact reads_chg chg ntup (gin j p c hpj q2) fun y hy => by
          rw [List.mem_singleton.mp hy]
          intro q
          have q : c = b := q
          exact hj (hii j (q ▸ q2))
    have gdok : Dok T.w h' as' := fun c hc => by
      by_cases hcb : c = b
      · rw [hcb]; exact hrep'.2 b (.head _)
      · exact Dok.chg (as := [c]) (fun y hy => by rw [List.mem_singleton.mp hy]; exact f6 c (.tail _ hc)) chg (fun y hy => by rw [List.mem_singleton.mp hy]; exact hcb) c (.head _)
    obtain ⟨z1, z2, _⟩ := dict_reads g0 gdo' gall gdok
    exact .inr ⟨_, a', as', rfl, rfl, f3, z1, f5, z2⟩)
  exact h _ .next _ Γ' own S₅ ((Pres.of_kp (((k₁.trans k₂).trans kk).trans (.tok _ _))).trans (.refl _ _) p₅) (.refl _ _) trivial hq⟩
end
end Mine
end
section
open PySem PySem.Calls PyProof.Rows PySem.W
set_option linter.all false
set_option maxRecDepth 100000
namespace Mine
namespace F
theorem miss_list_keys : typeLookup (.type "list") "keys" = pure none := by rw [typeLookup_type, builtinLookup_eq_fast]; kernel_rfl
theorem plain_upd_loop : plainId "dict.update.loop" = true := by decide +kernel
theorem entry_upd_loop : entryFor table "dict.update.loop" = some Builtin.«dict.update.loop» := entryFor_of_fast (by kernel_rfl)
end F
theorem keys_miss {prog : Program} {w : World} {A : Around} {E : Value → Shared → Prop} {s : Shared} {a : Addr} {o : Obj} {xs : Array Value} {k : Nat} {Q : Option Value → Shared → Prop}
    (hx : s.heap.get? a = some o) (hc : o.cls = .type "list") (hdat : o.data = .seq xs k) (hd : o.dict = none) (hA : A.handled = none)
    (h : ∀ h' tk, (∀ b o, s.heap.get? b = some o → h'.get? b = some o) → Q none { s with heap := h', toks := tk }) : wpAny (model prog w) A (getAttr? (.ref a) "keys") Q E s := by
  obtain ⟨c, dct, dat, sl⟩ := o
  simp only at hc hdat hd
  subst hc hdat hd
  obtain ⟨hp, g, d, tk, os⟩ := s
  have hT : ∀ tk', (⟨hp, g, d, tk', os⟩ : Shared).TypeIs (.ref a) "list" := fun _ => ⟨_, hx, rfl⟩
  have f1 := sub_AttributeError
  have f3 := PySem.F.slot_list_getattribute.lookup
  have f4 := PySem.F.slot_list_getattribute.bind (.ref a)
  have f5 := am_list_getattr_none
  unfold getAttr? getAttrBy? getAttrBy
  repeat (any_goals (first | assumption | exact hT _ | ((with_reducible show wpAny _ _ (call (Value.builtin "list.__getattribute__") _ _) _ _ _); refine call_meets PySem.F.slot_list_getattribute (hT _) am_entry_list_getattribute (PySem.F.args_list_getattribute_2 _ _) (meets_getattribute_miss_list a xs k sl "keys" _ F.miss_list_keys (by decide +kernel) (by decide +kernel)) ⟨hx, hA, fun h' tk' e hx' => ?_⟩) | wp_step))
  obtain ⟨t', u', he⟩ := hx'.there
  show wpAny _ _ (getattributeRaised _ _ _ _ _ _ _) _ _ _
  unfold getattributeRaised
  repeat (any_goals (first | assumption | wp_step))
  exact h h' tk' hx'.of.keeps
theorem stored_setM {m : List (List Nat × PyData)} {us : List Value} {k : List Nat} {d : PyData} {v : Value} {w : World} {R : Addr → Prop} {h : Heap} (hall : RepAll w R h us (m.map (·.2))) (hv : Rep w R h v d) :
    ∃ us', stored ((m.map fun p => mkS p.1).zip us) (mkS k) v = ((setM m k d).map fun p => mkS p.1).zip us' ∧ RepAll w R h us' ((setM m k d).map (·.2)) := by
  have hlen : us.length = m.length := by rw [hall.length, List.length_map]
  by_cases hl : (m.lookup k).isSome = true
  · obtain ⟨us', e, ra⟩ := stored_old (k := k) hall hv
    have hany : ((m.map fun p => mkS p.1).zip us).any (fun kv => kv.1 = mkS k) = true := by
      rw [List.any_eq_true]
      obtain ⟨d0, hd0⟩ := Option.isSome_iff_exists.mp hl
      obtain ⟨u, hu, _⟩ := (valueAt_zip (k := k) hall).1 d0 hd0
      unfold valueAt at hu
      obtain ⟨q, hq, _⟩ := Option.map_eq_some_iff.mp hu
      exact ⟨q, List.mem_of_find?_eq_some hq, by have := List.find?_some hq; exact this⟩
    refine ⟨us', ?_, ?_⟩
    · unfold stored setM
      rw [if_pos hany, if_pos hl]; exact e
    · unfold setM; rw [if_pos hl]; exact ra
  · have hl' : m.lookup k = none := Option.not_isSome_iff_eq_none.mp hl
    refine ⟨us ++ [v], ?_, ?_⟩
    · rw [stored_new (d := d) hlen hl']
      unfold setM
      rw [if_neg (by rw [hl']; simp)]
    · unfold setM
      rw [if_neg (by rw [hl']; simp), List.map_append]
      exact hall.append (RepAll.cons hv RepAll.nil)
noncomputable abbrev pairD (p : List Nat × PyData) : PyData := .tuple [.str (mkS p.1), p.2]
noncomputable def fromP (ps : List (List Nat × PyData)) : List (List Nat × PyData) := ps.foldl (fun m p => setM m p.1 p.2) []
theorem setM_le {m : List (List Nat × PyData)} (k : List Nat) (d : PyData) : (setM m k d).length ≤ m.length + 1 := setM_len k d
theorem fromP_len : ∀ (ps : List (List Nat × PyData)) (m : List (List Nat × PyData)), (ps.foldl (fun m p => setM m p.1 p.2) m).length ≤ m.length + ps.length
  | [], m => by simp
  | p :: ps, m => by
    have h1 := fromP_len ps (setM m p.1 p.2)
    have h2 := setM_le (m := m) p.1 p.2
    rw [List.foldl_cons, List.length_cons]; omega
theorem upd_loop {T : St} {A : Around} {R : Result → Shared → Prop} {D I l : Addr} {vs : List Value} {ps : List (List Nat × PyData)} (W : Walks T.prog T.w A.in1 I [I, l] [I] vs.toArray.size (fun i v => vs.toArray[i]? = some v) (fun i h => h.IsListIter I l i ∧ h.IsList l vs.toArray))
    (hDI : D ≠ I) (hDl : D ≠ l) (hz : ps.length ≤ 1000) (hlen : vs.length = ps.length) : ∀ (k i : Nat) (s : Shared) (m : List (List Nat × PyData)) (us : List Value), ps.length - i = k → i ≤ ps.length → (s.heap.IsListIter I l i ∧ s.heap.IsList l vs.toArray) →
    s.heap.DictOf (strKind T.prog T.w) D ((m.map fun p => mkS p.1).zip us) → RepAll T.w (fun b => b ≠ D ∧ b ≠ I) s.heap us (m.map (·.2)) → m.length ≤ i → RepAll T.w (fun b => b ≠ D ∧ b ≠ I) s.heap vs (ps.map pairD) →
    (∀ h' tk us', h'.DictOf (strKind T.prog T.w) D ((((ps.drop i).foldl (fun m p => setM m p.1 p.2) m).map fun p => mkS p.1).zip us') → RepAll T.w (fun b => b ≠ D ∧ b ≠ I) h' us' (((ps.drop i).foldl (fun m p => setM m p.1 p.2) m).map (·.2)) → (∀ b o, b ≠ D → b ≠ I → s.heap.get? b = some o → h'.get? b = some o) → R (.ok (.ret .none)) { s with heap := h', toks := tk }) →
    codeAny T.M A (.builtin "dict.update.loop" ⟨[.ref D, .ref I, rawInt i, .none], []⟩) R s := by
  intro k
  induction k with
  | zero =>
    intro i s m us hk hi hst hd hall hm hvs hR
    have hin : i = ps.length := by omega
    refine codeAny_builtin F.entry_upd_loop ?_
    rw [Around.under_plainId F.plain_upd_loop _]
    show wpAny _ A.in1 (pyNext (.ref I) >>= _) _ _ s
    have hst' : s.heap.IsListIter I l vs.toArray.size ∧ s.heap.IsList l vs.toArray := by rw [List.size_toArray, hlen, ← hin]; exact hst
    refine wpAny_bind (W.done s _ _ hst' fun h' tk hk' => ?_)
    have kp : ∀ b o, b ≠ D → b ≠ I → s.heap.get? b = some o → h'.get? b = some o := fun b o _ hb e => hk' b o (by simpa using hb) e
    have hd' : h'.DictOf (strKind T.prog T.w) D ((m.map fun p => mkS p.1).zip us) := by
      obtain ⟨o, es, ep, q1, q2⟩ := hd
      exact ⟨o, es, ep, hk' D o (by simpa using hDI) q1, q2⟩
    have chg : ChgH T.N (· = I) s.heap h' := fun b o e hb => ⟨o.slots, hk' b o (by simpa using hb) e, fun _ => rfl⟩
    have ntup : ∀ z, z = I → NotTup s.heap z := fun z hz o vs n e hc hdd => by
      obtain ⟨o', q1, q2, _⟩ := hst.1
      rw [hz, q1] at e; cases e; rw [q2] at hc; simp at hc
    have hall' := RepAll.chg hall chg ntup fun b hb q => hb.2 q
    have hfin := hR h' tk us
    rw [hin, List.drop_length] at hfin
    exact wpAny_bind (wpAny_pure (wpAny_pure (hfin hd' hall' kp)))
  | succ k ih =>
    intro i s m us hk hi hst hd hall hm hvs hR
    have hlt : i < ps.length := by omega
    obtain ⟨p, hp⟩ : ∃ p, ps[i]? = some p := ⟨_, List.getElem?_eq_getElem hlt⟩
    have hdr : ps.drop i = p :: ps.drop (i + 1) := by
      obtain ⟨hi', e⟩ := List.getElem?_eq_some_iff.mp hp
      rw [List.drop_eq_getElem_cons hi', e]
    refine codeAny_builtin F.entry_upd_loop ?_
    rw [Around.under_plainId F.plain_upd_loop _]
    show wpAny _ A.in1 (pyNext (.ref I) >>= _) _ _ s
    refine wpAny_bind (W.item i s _ _ (by rw [List.size_toArray, hlen]; exact hlt) hst fun v h' tk hP hst' hk' => ?_)
    have chg : ChgH T.N (· = I) s.heap h' := fun b o e hb => ⟨o.slots, hk' b o (by simpa using hb) e, fun _ => rfl⟩
    have ntup : ∀ z, z = I → NotTup s.heap z := fun z hz o vs n e hc hdd => by
      obtain ⟨o', q1, q2, _⟩ := hst.1
      rw [hz, q1] at e; cases e; rw [q2] at hc; simp at hc
    have hall' := RepAll.chg hall chg ntup fun b hb q => hb.2 q
    have hvs' := RepAll.chg hvs chg ntup fun b hb q => hb.2 q
    have hd' : h'.DictOf (strKind T.prog T.w) D ((m.map fun p => mkS p.1).zip us) := by
      obtain ⟨o, es, ep, q1, q2⟩ := hd
      exact ⟨o, es, ep, hk' D o (by simpa using hDI) q1, q2⟩
    have hv' : vs[i]? = some v := by simpa using hP
    obtain ⟨v', hv2, hr⟩ := hvs'.get i (pairD p) (by rw [List.getElem?_map, hp]; rfl)
    rw [hv'] at hv2; cases hv2
    obtain ⟨ta, to, tvs, tn, rfl, t1, t2, t3, t4⟩ := Rep.tuple_inv hr
    obtain ⟨kv, vv, htv⟩ : ∃ kv vv, tvs = [kv, vv] := by
      have := t4.length
      match tvs, this with
      | [a, b], _ => exact ⟨a, b, rfl⟩
    subst htv
    obtain ⟨r1, r2⟩ := t4.cons_inv
    obtain ⟨r2, _⟩ := r2.cons_inv
    obtain ⟨kt, rfl⟩ := Rep.str_inv r1
    have hT : ∀ tk', ({ s with heap := h', toks := tk' } : Shared).TypeIs (.ref ta) "tuple" := fun _ => ⟨_, t1, t2⟩
    have hit : wpAny T.M A.in1 (Builtin.Dict.pairItems (.ref ta)) (fun a s' => a = [.str (mkS p.1) kt, vv] ∧ s' = { s with heap := h', toks := tk }) (fun _ _ => False) { s with heap := h', toks := tk } := by
      unfold Builtin.Dict.pairItems
      refine wpAny_bind (wpAny_typeOf (hT tk) ?_)
      rw [if_pos (by decide)]
      refine wpAny_bind (wpAny_seqItems t1 t3 (wpAny_pure ⟨?_, rfl⟩))
      simp
    refine wpAny_bind (wpAny_holding (wpAny_bind (wpAny_tryCatch (wpAny_mono hit (fun a s' q => ?_) fun _ _ q => q.elim))))
    obtain ⟨rfl, rfl⟩ := q
    have hmz : ((m.map fun p => mkS p.1).zip us).length ≤ sizeLine := by
      rw [List.length_zip, List.length_map, sizeLine_is]; omega
    refine wpAny_holding (wpAny_dictSet_pairs (knd := strKind T.prog T.w) (k := mkS p.1) (hsz := hmz) (by show (mkS p.1 == mkS p.1) = true; simp) hd' fun h'' hd'' hs'' => ?_)
    have ntD : ∀ z, z = D → NotTup h' z := fun z hz o vs n e hc hdd => by
      obtain ⟨o', _, _, q1, q2, _⟩ := hd'
      rw [hz, q1] at e; cases e; rw [q2.1] at hc; simp at hc
    have chD : ChgH T.N (· = D) h' h'' := ChgH.of_but hs''
    obtain ⟨us', e1, ra⟩ := stored_setM (k := p.1) hall' r2
    rw [e1] at hd''
    have ra' := RepAll.chg ra chD ntD fun b hb q => hb.1 q
    have hvs'' := RepAll.chg hvs' chD ntD fun b hb q => hb.1 q
    have hst'' : h''.IsListIter I l (i + 1) ∧ h''.IsList l vs.toArray := W.frame (i + 1) h' h'' hst' fun b hb o e => by
      simp only [List.mem_cons, List.not_mem_nil, or_false] at hb
      exact (hs''.2 b (by rcases hb with rfl | rfl; exact Ne.symm hDI; exact Ne.symm hDl)).trans e
    have hml := setM_le (m := m) p.1 p.2
    rw [hdr] at hR
    refine wpAny_pure ⟨plainId_quiet F.plain_upd_loop _, ?_⟩
    refine ih (i + 1) { s with heap := h'', toks := tk + 1 } (setM m p.1 p.2) us' (by omega) hlt hst'' hd'' ra' (by omega) hvs'' fun h3 tk3 us3 q1 q2 q3 => ?_
    exact hR h3 tk3 us3 q1 q2 fun b o hb1 hb2 e => q3 b o hb1 hb2 ((hs''.2 b hb1).trans (hk' b o (by simpa using hb2) e))
end Mine
end
section
open PySem PySem.Calls PyProof.Rows PySem.W
set_option linter.all false
set_option maxRecDepth 100000
namespace Mine
section
variable {T : St} {n : Nat} {env : Env} {Γ Γ' : Gm} {Q : Fw → Gm → Prop}
theorem fromP_keys : ∀ (ps : List (List Nat × PyData)) (m : List (List Nat × PyData)), (m.map (·.1)).Nodup → ((ps.foldl (fun m p => setM m p.1 p.2) m).map (·.1)).Nodup
  | [], _, h => h
  | p :: ps, m, h => fromP_keys ps _ (setM_keys h p.1 p.2)
theorem fromP_still : ∀ (ps : List (List Nat × PyData)) (m : List (List Nat × PyData)), stillM m → (∀ p ∈ ps, still p.2 = true) → stillM (ps.foldl (fun m p => setM m p.1 p.2) m)
  | [], _, h, _ => h
  | p :: ps, m, h, hp => fromP_still ps _ (stillM_set h (hp p (.head _))) fun q hq => hp q (.tail _ hq)
theorem dictP_call {A : Around} {s : Shared} {E : Value → Shared → Prop} {Q : Value → Shared → Prop} {reg : Fl → Addr → Prop} {l : Addr} {o : Obj} {vs : List Value} {kk : Nat} {ps : List (List Nat × PyData)} (hst : ∀ p ∈ ps, still p.2 = true) (hz : ps.length ≤ 1000) (hA : Amb n A) (W : Wd T s.heap) (R : Regs reg s.heap)
    (ho : s.heap.get? l = some o) (hc : o.cls = .type "list") (hdi : o.dict = none) (hdat : o.data = .seq (List.toArray vs) kk) (hall : RepAll T.w (fun _ => True) s.heap vs (ps.map pairD))
    (h : ∀ val s', Kp T.N s s' → RepF T.w (reg .c) s.heap s'.heap val (dictD (fromP ps)) → Q val s') : wpAny T.M A (call (.type "dict") [.ref l]) Q E s := by
  have hstA : stillAll (ps.map pairD) = true := by
    rw [stillAll_iff]
    intro d hd
    obtain ⟨p, hp, rfl⟩ := List.mem_map.mp hd
    simp [still, stillAll, hst p hp]
  have hl : s.heap.IsList l (List.toArray vs) := ⟨o, ho, hc, kk, hdat⟩
  have hllt : l < s.heap.objs.size := Heap.lt_size ho
  have hDs : s.heap.objs.size ≠ sysModules := by
    obtain ⟨mc, ⟨o, _, _, ho, _⟩, _⟩ := W.lim
    have : cStatics < s.heap.objs.size := Heap.lt_size ho
    exact Ne.symm (Nat.ne_of_lt (Nat.lt_trans (by decide : sysModules < cStatics) this))
  refine callType_codes (Q₁ := fun obj s₁ => obj = .ref s.heap.objs.size ∧ s₁ = { s with heap := s.heap.push { cls := .type "dict", data := .dict #[] } }) PySem.F.kt_called_dict (PySem.F.kt_typeCall_dict_1 _) PySem.F.entry_dict_init (kt_code_dict_new _ ⟨rfl, rfl⟩) ?_
  rintro obj s₁ ⟨rfl, rfl⟩
  have hnew : (s.heap.push { cls := .type "dict", data := .dict #[] }).DictOf (strKind T.prog T.w) s.heap.objs.size [] := Heap.DictOf.new s.heap
  refine ⟨hnew.typeIs, PySem.F.args_dict_init_2 _ _, ?_⟩
  unfold Builtin.«dict.__init__»
  refine wpAny_bind ?_
  unfold Builtin.Dict.selfAndRest
  refine wpAny_bind (wpAny_notOrdered_dict hnew.typeIs ?_)
  show wpAny _ _ (pure (s.heap.objs.size, [Value.ref l])) _ _ _
  refine wpAny_pure ?_
  show wpAny _ _ (Builtin.Dict.updateFrom "dict.__init__" s.heap.objs.size (.ref l) [] .none) _ _ _
  unfold Builtin.Dict.updateFrom
  have ho1 : (s.heap.push { cls := .type "dict", data := .dict #[] }).get? l = some o := Heap.get?_push_of_some _ ho
  refine wpAny_bind (wpAny_typeOf (T := "list") ⟨_, ho1, hc⟩ ?_)
  rw [if_pos (by decide)]
  refine wpAny_bind (keys_miss ho1 hc hdat hdi hA.handled fun h₂ tk₂ hk₂ => ?_)
  rw [if_pos (show (none : Option Value).isNone = true from rfl)]
  refine wpAny_bind (wpAny_rule ?_)
  have ho2 : h₂.get? l = some o := hk₂ l o ho1
  have hl2 : h₂.IsList l (List.toArray vs) := ⟨o, ho2, hc, kk, hdat⟩
  refine wpAny_bind (wpAny_pyIter_list hl2 ?_)
  have hD2 : h₂.DictOf (strKind T.prog T.w) s.heap.objs.size [] := by
    obtain ⟨o, es, ep, q1, q2⟩ := hnew
    exact ⟨o, es, ep, hk₂ _ o q1, q2⟩
  have hDlt : s.heap.objs.size < h₂.objs.size := by obtain ⟨o, _, _, q1, _⟩ := hD2; exact Heap.lt_size q1
  have kp2 : ∀ b o, s.heap.get? b = some o → h₂.get? b = some o := fun b o e => hk₂ b o (Heap.get?_push_of_some _ e)
  have hne1 : h₂.objs.size ≠ l := Ne.symm (Nat.ne_of_lt (Heap.lt_size ho2))
  have W0 := Walks.list (prog := T.prog) (w := T.w) (A := A.in1.in1) hA.handled h₂.objs.size l (Ne.symm hne1) (List.toArray vs)
  have hpsz : (fromP ps).length ≤ ps.length := by have := fromP_len ps []; simpa [fromP] using this
  refine wpAny_pure ⟨plainId_quiet F.plain_upd_loop _, ?_⟩
  refine upd_loop (D := s.heap.objs.size) (I := h₂.objs.size) (l := l) (vs := vs) (ps := ps) W0 (Nat.ne_of_lt hDlt) (Ne.symm (Nat.ne_of_lt hllt)) hz (by rw [hall.length, List.length_map]) ps.length 0 _ [] [] (by omega) (Nat.zero_le _) ⟨⟨_, Heap.get?_push_size _ rfl, rfl, rfl⟩, hl2.push _⟩ ?_ RepAll.nil (Nat.le_refl _) ?_ fun h₄ tk₄ us d4 r4 k4 => ?_
  · obtain ⟨o, es, ep, q1, q2⟩ := hD2
    exact ⟨o, es, ep, Heap.get?_push_of_some _ q1, q2⟩
  · exact (hall.still hstA).keeps (N := 0) (.of fun b o e => Heap.get?_push_of_some _ (kp2 b o e))
  rw [List.drop_zero] at d4 r4
  have keep : ∀ b o, s.heap.get? b = some o → h₄.get? b = some o := fun b o e => k4 b o (Nat.ne_of_lt (Heap.lt_size e)) (Nat.ne_of_lt (Heap.lt_size (kp2 b o e))) (Heap.get?_push_of_some _ (kp2 b o e))
  have hnk : ((fromP ps).map (·.1)).Nodup := fromP_keys ps [] (by simp)
  have hstM : stillM (fromP ps) := fromP_still ps [] rfl hst
  obtain ⟨as, q1, _, q3⟩ := r4
  have hz0 : as = [] := still_readsAll hstM q1
  subst hz0
  obtain ⟨z1, z2, od, z3, z4, _⟩ := dict_reads hDs d4 q1 q3
  have hDn : s.heap.get? s.heap.objs.size = none := Heap.get?_none_of_le (Nat.le_refl _)
  refine ⟨rfl, h _ _ (.mk (.of keep)) ⟨[s.heap.objs.size], z1, fun b hb => ?_, z2, s.heap.objs.size, [], rfl, rfl, hDn, by simp, od, z3, z4.1⟩⟩
  rw [List.mem_singleton.mp hb]
  exact R.fresh .c _ hDn
theorem EvF.dictP {e : PySem.Expr} {p pos : Pos} {ps : List (List Nat × PyData)} (hx : env.kindOf "dict" = some .globalImplicit) (hg : T.mg "dict" = none) (hb : T.mb "dict" = some (.type "dict")) (he : EvF T n env Γ e (.list (ps.map pairD))) (hs : starEach [e] env = [(false, eval e env)]) (hst : ∀ p ∈ ps, still p.2 = true) (hz : ps.length ≤ 1000) :
    EvF T n env Γ (.Call (.Name "dict" p) [e] [] pos) (dictD (fromP ps)) := ⟨fun {A reg s E Q} hA R h => by
  have hpl : (backTo pos (starEach [e] env)).any (·.1) = false := by rw [hs]; rfl
  refine Call_Name rfl (ld_builtin R hx (by decide +kernel) hg hb (callWith_machine (.inr ⟨_, rfl⟩) hpl (evalArgs_any hpl ?_)))
  rw [hs]
  show wpAny T.M _ (spliced ((false, eval e env) :: [])) _ _ s
  refine spliced_cons (he.run hA R fun val s₁ k₁ r₁ => spliced_nil ?_)
  obtain ⟨l, as, rfl, b2, b3, b4, b5, b6, ob, b7, b8⟩ := r₁.top rfl
  have b4' : Dok T.w s₁.heap as := fun b hb => b4 b (.tail _ hb)
  cases b2 with
  | @list _ o' vs kk _ _ q1 q2 q3 q4 =>
    rw [q1] at b7; cases b7
    exact dictP_call hst hz hA (R.wd.kp k₁.h) (R.regs.kp k₁.h) q1 q2 b8.1.1 (by simpa using q3) ⟨as, q4, fun _ _ => trivial, b4'⟩ fun val s₂ k₂ r₂ => h val s₂ (k₁.trans k₂) (r₂.older k₁.h)⟩
end
end Mine
end
section
open PySem PySem.Calls PyProof.Rows PySem.W
set_option linter.all false
set_option maxRecDepth 100000
namespace Mine
section
variable {T : St} {n : Nat} {env : Env} {Γ Γ' : Gm} {Q : Fw → Gm → Prop}
theorem Cmp.ninData {a : PyData} {xs : List PyData} (hxs : PyData.canLayAll0 xs = true) (ha : a.canLay0 = true) (hd : a.depth ≤ 40) : Cmp T n .NotIn (.d a) (.d (.list xs)) (!xs.any fun y => PyData.eqv y a) := ⟨fun {A R₁ R₂ s E Q x y} hA W r₁ r₂ h => by
  obtain ⟨as, q1, _⟩ := r₁
  obtain ⟨bs, q2, _⟩ := r₂
  exact PySem.SeqAt.notIn_list_reads q2 q1 hxs ha (by have := hA.units; have : min (PyData.depthAll xs) a.depth ≤ 40 := Nat.le_trans (Nat.min_le_right _ _) hd; omega) (h _ (.refl _))⟩
theorem EvF.ifExp {t a b : PySem.Expr} {pos : Pos} {c : Bool} {d : PyData} (ht : IsT T n env Γ t c) (h₁ : c = true → EvF T n env Γ a d) (h₂ : c = false → EvF T n env Γ b d) : EvF T n env Γ (.IfExp t a b pos) d := ⟨fun {A reg s E Q} hA R h => by
  refine IfExp_ (ht.run hA R fun s₁ k₁ => ?_)
  cases c with
  | true => exact (h₁ rfl).run hA (R.kp k₁) fun v s₂ k₂ r₂ => h v s₂ (k₁.trans k₂) (r₂.older k₁.h)
  | false => exact (h₂ rfl).run hA (R.kp k₁) fun v s₂ k₂ r₂ => h v s₂ (k₁.trans k₂) (r₂.older k₁.h)⟩
theorem CallB.allB {bs : List Bool} {fl : Fl} : CallB T n (.builtin "all") [(.d (.list (bs.map .bool)), fl)] (.bool (bs.all id)) := ⟨fun {A reg s E Q vals} hA R W r h => by
  cases r with
  | cons r1 r2 =>
    cases r2
    obtain ⟨a, vs, rfl, _, hl, hall⟩ := Rep.list_inv r1
    have hlt : a < s.heap.objs.size := by obtain ⟨_, e, _⟩ := hl; exact Heap.lt_size e
    have hvl : vs.length = bs.length := by rw [hall.length, List.length_map]
    refine call_all_walk (wpAny_pyIter_list hl ⟨s.heap.objs.size, [s.heap.objs.size, a], [s.heap.objs.size], vs.toArray.size, fun i v => vs.toArray[i]? = some v, fun i h => h.IsListIter s.heap.objs.size a i ∧ h.IsList a vs.toArray, fun i => bs.getD i true, rfl,
      Walks.list (A := A.in1) hA.handled _ _ (Nat.ne_of_lt hlt) vs.toArray, ⟨⟨_, Heap.get?_push_size _ rfl, rfl, rfl⟩, hl.push _⟩, fun i v => ?_, fun h' tk hk => ?_⟩)
    · intro s' Q' E' hv hq
      have hv' : vs[i]? = some v := by simpa using hv
      have hi : i < bs.length := by rw [← hvl]; exact (List.getElem?_eq_some_iff.mp hv').1
      obtain ⟨v', hv2, hr⟩ := hall.get i (.bool bs[i]) (by rw [List.getElem?_map, List.getElem?_eq_getElem hi]; rfl)
      rw [hv'] at hv2; cases hv2
      rw [Rep.bool_inv hr]
      have hq : Q' (bs.getD i true) s' := hq
      rw [show bs.getD i true = bs[i] by simp [List.getD, hi]] at hq
      exact truthy_b hq
    · have e : ((List.range vs.toArray.size).all fun i => bs.getD i true) = bs.all id := by
        rw [List.size_toArray, hvl, Bool.eq_iff_iff, List.all_eq_true, List.all_eq_true]
        constructor
        · intro q x hx
          obtain ⟨i, hi⟩ := List.getElem?_of_mem hx
          have := q i (List.mem_range.mpr (List.getElem?_eq_some_iff.mp hi).1)
          simpa [List.getD, hi] using this
        · intro q i hi
          have hi' := List.mem_range.mp hi
          have := q bs[i] (List.getElem_mem hi')
          simpa [List.getD, hi'] using this
      rw [e]
      refine h _ _ (.mk (.of fun b o eb => hk b o ?_ (Heap.get?_push_of_some _ eb))) (repF_bool _)
      simp only [List.mem_singleton]
      exact Nat.ne_of_lt (Heap.lt_size eb)⟩
theorem CallB.anyB {bs : List Bool} {fl : Fl} : CallB T n (.builtin "any") [(.d (.list (bs.map .bool)), fl)] (.bool (bs.any id)) := ⟨fun {A reg s E Q vals} hA R W r h => by
  cases r with
  | cons r1 r2 =>
    cases r2
    obtain ⟨a, vs, rfl, _, hl, hall⟩ := Rep.list_inv r1
    have hlt : a < s.heap.objs.size := by obtain ⟨_, e, _⟩ := hl; exact Heap.lt_size e
    have hvl : vs.length = bs.length := by rw [hall.length, List.length_map]
    refine call_any_walk (wpAny_pyIter_list hl ⟨s.heap.objs.size, [s.heap.objs.size, a], [s.heap.objs.size], vs.toArray.size, fun i v => vs.toArray[i]? = some v, fun i h => h.IsListIter s.heap.objs.size a i ∧ h.IsList a vs.toArray, fun i => bs.getD i true, rfl,
      Walks.list (A := A.in1) hA.handled _ _ (Nat.ne_of_lt hlt) vs.toArray, ⟨⟨_, Heap.get?_push_size _ rfl, rfl, rfl⟩, hl.push _⟩, fun i v => ?_, fun h' tk hk => ?_⟩)
    · intro s' Q' E' hv hq
      have hv' : vs[i]? = some v := by simpa using hv
      have hi : i < bs.length := by rw [← hvl]; exact (List.getElem?_eq_some_iff.mp hv').1
      obtain ⟨v', hv2, hr⟩ := hall.get i (.bool bs[i]) (by rw [List.getElem?_map, List.getElem?_eq_getElem hi]; rfl)
      rw [hv'] at hv2; cases hv2
      rw [Rep.bool_inv hr]
      have hq : Q' (bs.getD i true) s' := hq
      rw [show bs.getD i true = bs[i] by simp [List.getD, hi]] at hq
      exact truthy_b hq
    · have e : ((List.range vs.toArray.size).any fun i => bs.getD i true) = bs.any id := by
        rw [List.size_toArray, hvl, Bool.eq_iff_iff, List.any_eq_true, List.any_eq_true]
        constructor
        · rintro ⟨i, hi, q⟩
          have hi' := List.mem_range.mp hi
          exact ⟨bs[i], List.getElem_mem hi', by simpa [List.getD, hi'] using q⟩
        · rintro ⟨x, hx, q⟩
          obtain ⟨i, hi⟩ := List.getElem?_of_mem hx
          exact ⟨i, List.mem_range.mpr (List.getElem?_eq_some_iff.mp hi).1, by simpa [List.getD, hi] using q⟩
      rw [e]
      refine h _ _ (.mk (.of fun b o eb => hk b o ?_ (Heap.get?_push_of_some _ eb))) (repF_bool _)
      simp only [List.mem_singleton]
      exact Nat.ne_of_lt (Heap.lt_size eb)⟩
theorem Bin.rep60 {f₁ f₂ : Fl} : Bin T n .Mult (.d (.str (mkS (Str.ofString "s").cps.toList))) f₁ (.d (.int 60)) f₂ (.str (mkS (List.replicate 60 115))) := ⟨fun {A reg s E Q a c} hA R W r₁ r₂ h => by
  obtain ⟨t, rfl⟩ := Rep.str_inv r₁
  obtain ⟨u, rfl⟩ := Rep.int_inv r₂
  refine P.mul_str (by decide) (fun _ _ => by decide +kernel) (fun _ _ => by decide +kernel) ?_
  rw [if_neg (by decide), if_neg (by decide +kernel)]
  have e : (⟨(List.replicate (60 : Int).toNat (mkS (Str.ofString "s").cps.toList).cps).foldl (· ++ ·) #[]⟩ : Str) = mkS (List.replicate 60 115) := by decide +kernel
  rw [e]
  exact ⟨by decide +kernel, h _ _ (.tok _ _) (repF_str ..)⟩⟩
theorem meets_extend (l : Addr) (items : Array Value) (n : Nat) (dd : Option Addr) (sl : Array (Option Value)) (b : Addr) (items2 : Array Value) (n2 : Nat) (dd2 : Option Addr) (sl2 : Array (Option Value)) (hc0 : ¬(!items.isEmpty && Builtin.List.listTooLong (items.size + items2.size)) = true) (hc1 : items.size ≤ sizeLine) (hs2 : items.size + items2.size ≤ sizeLine + 1) :
    Meets (Builtin.«list.extend» ⟨[.ref l, .ref b], []⟩) (fun _ R s => s.heap.get? l = some { cls := .type "list", dict := dd, data := .seq items n, slots := sl } ∧ s.heap.get? b = some { cls := .type "list", dict := dd2, data := .seq items2 n2, slots := sl2 } ∧ R (.ok (.ret Value.none)) { s with heap := s.heap.update l (Obj.mapSeq fun x => x ++ items2), toks := s.toks }) :=
  .of_wp fun prog w A R s h => by
    obtain ⟨hp, g, d, tk, os⟩ := s; obtain ⟨hl, hb, h⟩ := h; have f1 := AutoSeq1.idx_int; have f2 := AutoSeq1.sub_tuple_tuple; have f3 := AutoSeq1.sub_list_list; have f4 := AutoSeq1.sub_tuple_list; have f5 := AutoSeq1.sub_list_tuple;
    have hz' : (items ++ items2).size ≤ sizeLine + 1 := by rw [Array.size_append]; exact hs2
    wp_walk using (wpAny_updateSeq hl rfl (hz := hc1) (_hz' := hz')), AutoSeq1.wpAny_loadPart' hl, AutoSeq1.wpAny_loadPart' hb; exact ⟨_, rfl, h⟩
theorem Ex1.extend {x : Str} {p₁ p₂ p₃ p₄ : Pos} {e : PySem.Expr} {xs ys : List PyData} (hm : (x, some (.d (.list xs), .o)) ∈ Γ) {fl : Fl} (he : Ev T n env Γ e (.d (.list ys)) fl) (hst : stillAll ys = true) (hp : Put Γ x (some (.d (.list (xs ++ ys)), .o)) Γ') (hz : xs.length + ys.length ≤ 1000)
    (hbase : attributeBase (.Name x p₁) "extend" env (eval (.Name x p₁) env) = eval (.Name x p₁) env) (hstar : starEach [e] env = [(false, eval e env)]) (hline : (p₂.endLine == p₃.line) = true)
    (hsw : swapsWith (.Call (.Attribute (.Name x p₁) "extend" p₂) [e] [] p₃) none p₄.line env = pure false) (hq : Q .next Γ') :
    Ex1 T n env Γ (.Expr (.Call (.Attribute (.Name x p₁) "extend" p₂) [e] [] p₃) p₄) Q := ⟨fun {A s₀ d₀ own s E QQ} hA S h hx => by
  refine wpAny_Expr (wpAny_Call_method_lateS hbase ?_ hline ?_) (by unfold interactive; rw [S.eok.kind]; rfl) hsw
  · have h1 : (backTo p₃ (starEach [e] env)).all (fun x => !x.1) = true := by rw [hstar]; rfl
    rw [h1]; rfl
  obtain ⟨a, vs, o, k, l, hxa, ho, hc, hdi, hdat, hall⟩ := own_list S hm
  refine ld_name S.eok.kind l (S.ok.nodebug x (List.mem_map_of_mem (f := fun p : Str × Slot => p.1) hm)) ?_
  have hpl : (backTo p₃ (starEach [e] env)).any (·.1) = false := by rw [hstar]; rfl
  refine ⟨"list", "list.extend", PySem.F.plainAttrs_list, PySem.F.slot_list_extend, PySem.F.type_list_extend, ⟨o, ho, hc⟩, fun b e => by cases e; exact ⟨o, ho, hdi⟩, callWith_machine (.inl ⟨_, rfl⟩) hpl (evalArgs_any hpl ?_)⟩
  rw [hstar]
  show wpAny T.M _ (spliced ((false, eval e env) :: [])) _ _ s
  refine spliced_cons (he.run hA S.rd fun val s₂ k₂ r₂ => spliced_nil ?_)
  obtain ⟨b, us, rfl, _, ⟨ob, hob, hobc, kb, hobd⟩, hall2⟩ := Rep.list_inv r₂
  have hall2 : RepAll T.w (regOf d₀ env own .c) s₂.heap us ys := hall2.still hst
  have S₂ := S.kp k₂
  have ho₂ := k₂.h.get ho (by rw [hc]; simp)
  obtain ⟨oc, od, odt, osl⟩ := o
  simp only at hc hdi hdat
  subst hc hdi hdat
  obtain ⟨bc, bd, bdt, bsl⟩ := ob
  simp only at hobc hobd
  subst hobc hobd
  have hlen := hall.length
  have hlen2 := hall2.length
  have hz24 : sizeLine = 16777216 := rfl
  refine call_meets PySem.F.slot_list_extend ⟨_, ho₂, rfl⟩ PySem.F.entry_list_extend (PySem.F.args_list_extend_2 _ _) (meets_extend a vs.toArray k none osl b us.toArray kb bd bsl (by
    have : Builtin.List.listTooLong (vs.toArray.size + us.toArray.size) = false := by simp [Builtin.List.listTooLong, sizeLine, List.size_toArray]; omega
    rw [this]; simp) (by rw [List.size_toArray, hlen]; omega) (by rw [List.size_toArray, List.size_toArray, hlen, hlen2]; omega)) ⟨ho₂, hob, ?_⟩
  obtain ⟨n', hd'⟩ := Obj.data_mapSeq (o := { cls := .type "list", dict := none, data := .seq vs.toArray k, slots := osl }) rfl (fun x : Array Value => x ++ us.toArray)
  obtain ⟨S', P'⟩ := S₂.relist (vs' := vs ++ us) hm hxa hp (Heap.SameBut.update ..) (Heap.get?_update_self _ ho₂ (Obj.isFreed_of_seq hd')) (Obj.cls_mapSeq ..) (by rfl) (by rw [hd']; rw [← List.append_toArray]) ((hall.keeps k₂.h).append hall2)
  exact h _ .next _ Γ' own S' ((Pres.of_kp k₂).trans (.refl _ _) P') (.refl _ _) trivial hq⟩
end
end Mine
end
section
open PySem PySem.Calls PyProof.Rows PySem.W
set_option linter.all false
set_option maxRecDepth 100000
namespace Mine
theorem CallB.lenD {T : St} {n : Nat} {m : List (List Nat × PyData)} {fl : Fl} (hn : (m.map (·.1)).Nodup) (hz : m.length ≤ 100000) : CallB T n (.builtin "len") [(.d (dictD m), fl)] (.int m.length) := ⟨fun {A reg s E Q vals} hA R W r h => by
  cases r with
  | cons r1 r2 =>
    cases r2
    obtain ⟨a, vs, rfl, hR, hsm, ⟨ep, hd⟩, hall⟩ := Rep.dict_inv (prog := T.prog) r1 hn
    have hl : ((m.map fun p => mkS p.1).zip vs).length = m.length := by
      have := hall.length
      rw [List.length_map] at this
      rw [List.length_zip, List.length_map, this, Nat.min_self]
    refine call_len_dict (knd := strKind T.prog T.w) (by simpa using hsm) hd.dictOf (by rw [hl]; omega) ?_
    rw [hl]
    exact h _ _ (.tok _ _) (repF_int ..)⟩
end Mine
end
open PySem PySem.W PySem.W.X PyProof.Rows
namespace Mine
theorem one_s : ∀ (v1 v3 v4 v5 v6 : Slot) (q : Vl × Fl), (∀ v z, v1 ≠ some (v, .s z)) → (∀ v z, v3 ≠ some (v, .s z)) → (∀ v z, v4 ≠ some (v, .s z)) → (∀ v z, v5 ≠ some (v, .s z)) → (∀ v z, v6 ≠ some (v, .s z)) → ∀ y v z, (y, some (v, .s z)) ∈ ([("self", some q), ("table", v1), ("rows", v3), ("name", v4), ("row", v5), ("left", v6)] : Gm) → y = "self" := by
  intro v1 v3 v4 v5 v6 q h1 h3 h4 h5 h6 y v z h
  simp only [List.mem_cons, Prod.mk.injEq, List.not_mem_nil, or_false] at h
  rcases h with h | h | h | h | h | h
  · exact h.1
  · exact absurd h.2.symm (h1 v z)
  · exact absurd h.2.symm (h3 v z)
  · exact absurd h.2.symm (h4 v z)
  · exact absurd h.2.symm (h5 v z)
  · exact absurd h.2.symm (h6 v z)
noncomputable def vw : Program := { PySem.Challenge.pw_uf060013_06 with main := { PySem.Challenge.pw_uf060013_06.main with body := (((((PySem.Challenge.pw_uf060013_06.main.body.eraseIdx 19).eraseIdx 16).eraseIdx 12).eraseIdx 6).eraseIdx 1) } }
theorem said : OpenLaw.wellSaid PySem.Challenge.rw_uf060013_06 = true := by kernel_rfl
local macro_rules | `(tactic| o_law) => `(tactic| refine holds_law Mine.said fun said => ?_)
set_option hygiene false in
local macro_rules | `(tactic| o_head $H:term) => `(tactic| (
  refine holds_open (q := Mine.vw) (loose := []) (Xt := fun s => xlAt Mine.vw [] s && recOk (RowW.records PySem.Challenge.rw_uf060013_06.row.toRowW) s) (XP := XL Mine.vw []) (Yf := Hook.obs $H) (Ya := Hook.val $H) (YP := Hook.says $H) (N := 3836) ?hl (Hook.of $H) (Hook.keeps $H) (fun s e => xl_of s (Bool.and_eq_true_iff.mp e).1) XL.keeps (by rfl) (by rfl) (by rfl) (fun s e => recFacts_of (Bool.and_eq_true_iff.mp e).2) (by rfl) (by assumption) (by decide +kernel) ⟨rfl, rfl, rfl, rfl, rfl, by decide +kernel⟩ ?hw ?hc
  (case hl =>
    show LeftO PySem.Challenge.pw_uf060013_06 Mine.vw [] _ _ _ _
    intro w
    unfold openEnds fencedOpening
    delta topFrom Mine.vw
    rw [PySem.W.Fast.te14364793385576792824, PySem.W.Fast.te10274390034422433532, PySem.W.Fast.te14082659384304107361, PySem.W.Fast.te1435165496053646825, PySem.W.Fast.te14289696077712309145, PySem.W.Fast.te4187177175401517315]
    kernel_rfl)))
open_top hd for PySem.Challenge.rw_uf060013_06
local macro_rules | `(tactic| walk_at "mMem") => `(tactic| with_reducible ((repeat (first | exact List.mem_cons_self | apply List.mem_cons_of_mem)); done))
local macro_rules | `(tactic| walk_at "mPut") => `(tactic| with_reducible repeat (first | exact Put.here | apply Put.there))
local macro_rules | `(tactic| walk_at "mKd") => `(tactic| first | exact kd (by assumption) rfl | exact rfl)
local macro_rules | `(tactic| walk_at "mLoc") => `(tactic| first | exact Or.inl (kd (by assumption) rfl) | exact Or.inr (kd (by assumption) rfl))
local macro_rules | `(tactic| walk_at "mG") => `(tactic| (refine (GdK.g (by assumption)) _ _ ?_; k_is))
local macro_rules | `(tactic| walk_at "mB") => `(tactic| exact (GdK.bi (by assumption)) rfl rfl)
local macro_rules | `(tactic| walk_at "mR") => `(tactic| with_unfolding_all rfl)
local macro_rules | `(tactic| walk_at "mThn") => `(tactic| first | (with_reducible show Thn _ _ _ _ _ _ _); dsimp only [Thn] | (with_reducible show TurnF _ _ _ _ _); dsimp only [TurnF] | (with_reducible show Turn _ _ _ _ _); dsimp only [Turn])
local macro_rules | `(tactic| walk_at "mIt") => `(tactic| with_reducible assumption)
local macro_rules | `(tactic| walk_at "m") => `(tactic| repeat' (first
  | with_reducible first
    | apply Ev.name; walk_at "mMem"
    | apply Ev.ofF; apply EvF.cut
    | apply Ev.sub | apply Ev.ofF
    | exact EvF.kInt | exact EvF.kS | exact EvF.kBool | exact EvF.dict0 | apply EvF.neg
    | apply EvF.bin | apply EvF.cmp | apply EvF.bo1 | apply EvF.or | apply EvF.cut
    | apply Ev.still; apply Ev.sub
    | apply EvF.meth | apply EvF.listL | apply EvF.tupleL
    | exact Bin.addI | exact Bin.subI | apply Bin.catS | apply Bin.catL
    | exact Cmp.eqI | exact Cmp.neI | exact Cmp.ltI | exact Cmp.gtI | exact Cmp.geI | exact Cmp.eqL | exact Cmp.neL
    | apply Sub.strL | apply Sub.list | apply Sub.tuple
    | exact EvA.nil | apply EvA.cons | exact EvL.nil | apply EvL.cons
    | apply IsT.cmp | apply IsT.not | exact IsT.andNil | exact IsT.orNil | apply IsT.and | apply IsT.or | apply IsT.bool
    | exact Opt.none | apply Opt.some | apply Cut.s | apply Cut.l
    | apply Meth.index | apply Meth.join | apply Meth.split | exact Meth.startswith
    | exact Put.here | apply Put.there | exact Fst.nil | apply Fst.cons
    | apply Ex.cons | apply Ex.nil | apply Ex1.ite | apply Ex1.ret | apply Ex1.cont | apply Ex1.assign
    | apply Ex1.append; focus (walk_at "mMem")
  | (with_reducible apply Ev.still; focus (apply Ev.name; walk_at "mMem")); with_unfolding_all rfl
  | (with_reducible apply EvF.globS); (focus (walk_at "mKd")); (focus (walk_at "mG")); with_unfolding_all rfl
  | (with_reducible apply EvF.isi); rotate_left; (focus (walk_at "mKd")); (focus (walk_at "mG")); (focus (walk_at "mB")); (focus (walk_at "mKd")); (focus (with_unfolding_all rfl)); (focus (walk_at "mG")); (focus (walk_at "mB")); rotate_right
  | (with_reducible apply EvF.callB); (focus (walk_at "mKd")); (focus (with_unfolding_all rfl)); (focus (walk_at "mG")); (focus (walk_at "mB")); (focus (first | exact Or.inl ⟨_, rfl⟩ | exact Or.inr ⟨_, rfl⟩))
  | (with_reducible apply EvF.fnL); (focus (walk_at "mKd")); (focus (with_unfolding_all rfl))
  | (with_reducible apply Bin.modP); omega
  | (with_reducible apply Bin.divP) <;> omega
  | (with_reducible apply Bin.mulR) <;> omega
  | exact Cmp.inL rfl | exact Cmp.ninL rfl
  | with_reducible apply Cmp.nePL
  | apply CallB.lenS | apply CallB.lenL | apply CallB.strI | exact CallB.intB | apply CallB.intS | apply CallB.listL
  | exact IsA.list
  | (with_reducible show Fun _ _ _ _ _); walk_at "mC"
  | walk_at "mThn"
  | (with_reducible show _ = _ → _); (intro)
  | (with_reducible first | show behindInMarks _ _ = false | show starEach _ _ = _ | show swapsWith _ _ _ _ = _ | show attributeBase _ _ _ _ = _ | show decide (List.length _ < 30) = true | show (_ == _) = true | show still _ = true); with_unfolding_all rfl
  | intro _ _; (with_reducible show subscripted _ _ _ _ = _); with_unfolding_all rfl
  | intro _; (with_reducible show isTrue _ _ _ = _); with_unfolding_all rfl
  | (with_reducible show Env.kindOf _ _ = some .local ∨ _); walk_at "mLoc"
  | (with_reducible show Fl.c = Fl.c ∨ _); exact Or.inl rfl
  | (with_reducible show _ = Fl.c ∨ stillAll (List.map PyData.int _) = true); exact Or.inr (stillAll_ints _)
  | (with_reducible show _ = Fl.c ∨ stillAll (List.map (fun x => PyData.str (mkS x)) _) = true); exact Or.inr (still_PL _)
  | (with_reducible show _ ≤ sizeLine); first | (rw [sizeLine_is]; (try simp only [List.length_append, List.length_map, List.length_cons, List.length_nil, rangeD_length, List.length_range, List.length_singleton]); omega) | decide +kernel
  | (with_reducible first | show (_ : Nat) ≤ _ | show (_ : Int) ≤ _ | show (_ : Int) < _); omega
  | (with_reducible show _[_]? = some _); walk_at "mIt"))
local macro_rules | `(tactic| walk_at "mDef") => `(tactic| try simp only [List.map_nil, List.map_cons, List.cons_append, List.nil_append])
local macro_rules | `(tactic| walk_at "mItr") => `(tactic| first
  | refine Itr.range (fl := Fl.c) (by walk_at "mKd") (by walk_at "mG") (by walk_at "mB") ?_ (by omega) (by omega) (by walk_at "mR"); walk_at "m"
  | refine Itr.list ?_ (by intro _; walk_at "mR"); walk_at "m")
local macro_rules | `(tactic| walk_at "mPrm") => `(tactic| ((repeat (first | with_reducible exact Prm.nil | apply Prm.c; focus (walk_at "mR") | with_reducible apply Prm.b)); done))
local macro_rules | `(tactic| walk_at "mBinds") => `(tactic| first | exact Binds.of1 (fun _ => rfl) | exact Binds.of2 (fun _ _ => rfl) | exact Binds.of0 rfl | exact Binds.of3 (fun _ _ _ => rfl))

noncomputable abbrev GK (T : St) : Prop := GdK T (hd.heap_1 T.w.params)
theorem s1 : (Str.ofString "~").cps.toList = [126] := by decide +kernel
theorem s2 : (Str.ofString "/").cps.toList = [47] := by decide +kernel
theorem s3 : (Str.ofString "@").cps.toList = [64] := by decide +kernel
theorem s4 : (Str.ofString ".").cps.toList = [46] := by decide +kernel
theorem s5 : (Str.ofString "..").cps.toList = [46, 46] := by decide +kernel
theorem s6 : (Str.ofString "").cps.toList = [] := by decide +kernel
noncomputable def FRONT : List Nat := (Str.ofString " !\"#$&'()*+,-./0123456789:;<=>?@ABCDEFGHIJKLMNOPQRSTUVWXYZ[\\]^_`").cps.toList
noncomputable def SIGNS : List Nat := (Str.ofString "abcdefghijklmnopqrstuvwxyz{|}~").cps.toList
section
variable {T : St} (G : GK T)
include G
theorem law_of_spec {ns : List Int} {k : Int} (hns : ns.length ≤ 63) (h0 : 0 ≤ k) : Fun T 1 "_law_of" [.d (.list (ns.map .int)), .d (.int k)] (.int (ns.getD k.toNat 0)) := by
  refine Fun.defK G ["_law_script", "_law_k"] [] (by k_is) (by k_is) (by k_is) (by walk_at "mBinds") (by walk_at "mPrm") (by rfl) (by rfl) ⟨rfl, rfl, rfl⟩ (fun env he => ?_)
  walk_at "mDef"
  have hc := pyCut_le (some k) (some (k + 1)) (ns.map PyData.int)
  rw [List.length_map] at hc
  walk_at "m"
  · exact of_item ns k h0
  · rfl
  · rfl
theorem law_signs_spec : Fun T 1 "_law_signs" [] (.str (mkS signsL)) := by
  refine Fun.defK G [] ["_law_some"] (by k_is) (by k_is) (by k_is) (by walk_at "mBinds") (by walk_at "mPrm") (by rfl) (by rfl) ⟨rfl, rfl, rfl⟩ (fun env he => ?_)
  walk_at "mDef"
  walk_at "m"
  exact Ends.str (by decide +kernel)
end
local macro_rules | `(tactic| walk_at "mC") => `(tactic| exact law_signs_spec (by assumption))
local macro_rules | `(tactic| walk_at "mC") => `(tactic| exact law_of_spec (by assumption) (by assumption) (by omega))
section
variable {T : St} (G : GK T)
include G
theorem law_escape_spec {c : Nat} (hc : IsSgn c) : Fun T 2 "_law_escape" [.d (.str (mkS [c]))] (.str (mkS (escG c))) := by
  refine Fun.defK G ["_law_sign"] ["_law_number"] (by k_is) (by k_is) (by k_is) (by walk_at "mBinds") (by walk_at "mPrm") (by rfl) (by rfl) ⟨rfl, rfl, rfl⟩ (fun env he => ?_)
  walk_at "mDef"
  obtain ⟨hi, h1, h2⟩ := signs_at hc
  have d1 := decS_one (i := ((idx c : Nat) : Int) / 10) (by omega) (by omega)
  have d2 := decS_one (i := ((idx c : Nat) : Int) % 10) (by omega) (by omega)
  have l1 : (decS (((idx c : Nat) : Int) / 10)).length = 1 := by rw [d1]; rfl
  have l2 : (decS (((idx c : Nat) : Int) % 10)).length = 1 := by rw [d2]; rfl
  walk_at "m"
  · exact h2
  · rw [s1, sizeLine_is]; simp; omega
  · rw [s1, sizeLine_is]; simp; omega
  · refine Ends.str ?_
    rw [s1, d1, d2]
    unfold escG
    show [126] ++ [_] ++ [_] = _
    simp only [List.singleton_append, List.cons_append, List.nil_append]
    congr 2
end
abbrev CB : Addr := 44
noncomputable def Good (l : List Nat) (p q : Nat) : Prop := l = [p, q] ∧ isDig p = true ∧ isDig q = true ∧ val2 p q ≤ 93
theorem front_len : FRONT.length = 64 := by decide +kernel
theorem signs_len : SIGNS.length = 30 := by decide +kernel
theorem front_signs : FRONT ++ SIGNS = signsL := by decide +kernel
theorem dig_all {p q : Nat} (h1 : isDig p = true) (h2 : isDig q = true) : NumText.AllDigits [p, q] := by
  simp only [isDig, Bool.and_eq_true, decide_eq_true_eq] at h1 h2
  intro c hc
  simp only [List.mem_cons, List.not_mem_nil, or_false] at hc
  rcases hc with rfl | rfl <;> omega
theorem dig_val (p q : Nat) : NumText.digitsVal [p, q] = val2 p q := by
  show (0 * 10 + (p - 48)) * 10 + (q - 48) = val2 p q
  unfold val2; omega
theorem fig_test (p q : Nat) : (!(isDig p && isDig q)) = (((([p, q].length : Nat) : Int) != 2) || (!decide (p ∈ (Str.ofString "0123456789").cps.toList) || (!decide (q ∈ (Str.ofString "0123456789").cps.toList) || false))) := by
  rw [digits_is, digits_is]
  cases isDig p <;> cases isDig q <;> rfl
section
variable {T : St} (G : GK T)
include G
theorem bad_cls : ExcCls T "BadEscape" CB := excCls_of G (by k_is) (by with_unfolding_all rfl)
theorem sign_of_ok {p q : Nat} (h1 : isDig p = true) (h2 : isDig q = true) (h3 : val2 p q ≤ 93) : Fun T 1 "sign_of" [.d (.str (mkS [p, q]))] (.str (mkS [sgn (val2 p q)])) := by
  refine Fun.defK G ["figures"] ["number"] (by k_is) (by k_is) (by k_is) (by walk_at "mBinds") (by walk_at "mPrm") (by rfl) (by rfl) ⟨rfl, rfl, rfl⟩ (fun env he => ?_)
  walk_at "mDef"
  have hd := dig_all h1 h2
  have hv := dig_val p q
  have i0 : [p, q][Int.toNat 0]? = some p := rfl
  have i1 : [p, q][Int.toNat 1]? = some q := rfl
  have hF := front_len
  have hS := signs_len
  have hit : (FRONT ++ SIGNS)[val2 p q]? = some (sgn (val2 p q)) := by rw [front_signs]; exact signsL_at (by omega)
  generalize val2 p q = v at h3 hv hit ⊢
  have j0 : v < 64 → FRONT[Int.toNat (v : Int)]? = some (sgn v) := fun h => by
    rw [Int.toNat_natCast, ← hit, List.getElem?_append_left (by omega)]
  have j1 : ¬ v < 64 → SIGNS[Int.toNat ((v : Int) - (FRONT.length : Int))]? = some (sgn v) := fun h => by
    rw [← hit, List.getElem?_append_right (by omega)]
    congr 1; omega
  unfold FRONT at hF j0 j1
  unfold SIGNS at hS j1
  refine Ex.cons (Ex1.ite (b := !(isDig p && isDig q)) (by rw [fig_test]; walk_at "m") (fun h => by rw [h1, h2] at h; cases h) (fun _ => ?_))
  refine Ex.nil (show Ex _ _ _ _ _ _ from ?_)
  refine Ex.cons (Ex1.assign (d := .int v) (by rw [← hv]; walk_at "m" <;> first | exact hd | (exfalso; contradiction) | exact (show 2 ≤ 640 by decide)) (by walk_at "mPut") (by walk_at "mLoc") (by walk_at "mR") (show Ex _ _ _ _ _ _ from ?_))
  refine Ex.cons (Ex1.ite (b := false) (by rw [show false = decide ((v : Int) ≥ 64 + 30) from (decide_eq_false (by omega)).symm, ← show ((64 : Nat) : Int) = 64 from rfl, ← show ((30 : Nat) : Int) = 30 from rfl, ← hF, ← hS]; walk_at "m") (fun h => nomatch h) (fun _ => ?_))
  refine Ex.nil (show Ex _ _ _ _ _ _ from ?_)
  refine Ex.cons (Ex1.ite (b := decide ((v : Int) < ((64 : Nat) : Int))) (by rw [← hF]; walk_at "m") (fun h => ?_) (fun h => ?_))
  · have j := j0 (by have := of_decide_eq_true h; omega)
    clear j0 j1
    walk_at "m"
    exact Ends.str rfl
  · have h' : ¬ v < 64 := by have := of_decide_eq_false h; omega
    have j := j1 h'
    clear j0 j1
    walk_at "m"
    exact Ends.str rfl
theorem sign_of_bad {l : List Nat} (hl : l.length ≤ 2) (hb : ∀ p q, ¬ Good l p q) : FunX T 1 "sign_of" [.d (.str (mkS l))] CB := by
  refine FunX.defK G ["figures"] ["number"] (by k_is) (by k_is) (by k_is) (by walk_at "mBinds") (by walk_at "mPrm") (by rfl) (by rfl) ⟨rfl, rfl, rfl⟩ (fun env outer he => ?_)
  walk_at "mDef"
  have hF := front_len
  have hS := signs_len
  unfold FRONT at hF
  unfold SIGNS at hS
  by_cases h2 : l.length = 2
  · obtain ⟨p, q, rfl⟩ : ∃ p q, l = [p, q] := by
      match l, h2 with
      | [p, q], _ => exact ⟨p, q, rfl⟩
    have i0 : [p, q][Int.toNat 0]? = some p := rfl
    have i1 : [p, q][Int.toNat 1]? = some q := rfl
    refine ExX.cons (ExX1.ite (b := !(isDig p && isDig q)) (by rw [fig_test]; walk_at "m") (fun h => ?_) (fun h => ?_))
    · exact ExX.cons (ExX1.raise (bad_cls G) (xs := [(.d _, .c)]) (EvA.cons (Ev.ofF EvF.kS) EvA.nil (by walk_at "mR")) (by simp) (by walk_at "mKd") (by walk_at "mR") rfl)
    · have hd2 : isDig p = true ∧ isDig q = true := by
        cases hp : isDig p <;> cases hq : isDig q <;> rw [hp, hq] at h <;> simp at h
        exact ⟨rfl, rfl⟩
      have hd := dig_all hd2.1 hd2.2
      have hv := dig_val p q
      have h94 : ¬ val2 p q ≤ 93 := fun h => hb p q ⟨rfl, hd2.1, hd2.2, h⟩
      generalize val2 p q = v at hv h94
      refine ExX.nil (show ExX _ _ _ _ _ _ _ from ?_)
      refine ExX.cons1 (Ex1.assign (d := .int v) (by rw [← hv]; walk_at "m" <;> first | exact hd | (exfalso; contradiction) | exact (show 2 ≤ 640 by decide)) (by walk_at "mPut") (by walk_at "mLoc") (by walk_at "mR") (show ExX _ _ _ _ _ _ _ from ?_))
      refine ExX.cons (ExX1.ite (b := true) (by rw [show true = decide ((v : Int) ≥ 64 + 30) from (decide_eq_true (by omega)).symm, ← show ((64 : Nat) : Int) = 64 from rfl, ← show ((30 : Nat) : Int) = 30 from rfl, ← hF, ← hS]; walk_at "m") (fun _ => ?_) (fun h => nomatch h))
      exact ExX.cons (ExX1.raise (bad_cls G) (xs := [(.d _, .c)]) (EvA.cons (Ev.ofF EvF.kS) EvA.nil (by walk_at "mR")) (by simp) (by walk_at "mKd") (by walk_at "mR") rfl)
  · refine ExX.cons (ExX1.ite (b := true) ?_ (fun _ => ?_) (fun h => nomatch h))
    · have e : ((l.length : Int) != 2) = true := by simp; omega
      rw [show true = (((l.length : Int) != 2) || true) by rw [Bool.or_true]]
      exact IsT.or (by walk_at "m") (fun h => by rw [e] at h; cases h)
    · exact ExX.cons (ExX1.raise (bad_cls G) (xs := [(.d _, .c)]) (EvA.cons (Ev.ofF EvF.kS) EvA.nil (by walk_at "mR")) (by simp) (by walk_at "mKd") (by walk_at "mR") rfl)
end
local macro_rules | `(tactic| walk_at "mC") => `(tactic| (with_reducible assumption))
section
variable {T : St} (G : GK T)
include G
theorem name_of_ok {l x : List Nat} (hx : readL l = some x) (hz : l.length ≤ 1000000) : Fun T 2 "name_of" [.d (.str (mkS l))] (.str (mkS x)) := by
  refine Fun.defK G ["part"] ["found", "at"] (by k_is) (by k_is) (by k_is) (by walk_at "mBinds") (by walk_at "mPrm") (by rfl) (by rfl) ⟨rfl, rfl, rfl⟩ (fun env he => ?_)
  walk_at "mDef"
  walk_at "m"
  rw [s6]
  refine Ex1.whil (fun m Γ => ∃ (k : Nat) (acc : List Nat), k ≤ l.length ∧ m = l.length - k ∧ acc.length ≤ k ∧ readL l = (readL (l.drop k)).map (acc ++ ·) ∧
    Γ = ([("part", some (.d (.str (mkS l)), .c)), ("found", some (.d (.str (mkS acc)), .c)), ("at", some (.d (.int (k : Int)), .c))] : Gm)) l.length ⟨0, [], by omega, by omega, by simp, by simp, rfl⟩ (fun m Γ hΓ => ?_)
  obtain ⟨k, acc, hk, rfl, hacc, hread, rfl⟩ := hΓ
  refine ⟨decide ((k : Int) < (l.length : Int)), by walk_at "m", fun hb => ?_, fun hb => ?_⟩
  · have hb' : k < l.length := by have := of_decide_eq_true hb; omega
    clear hb
    have hat : l[Int.toNat (k : Int)]? = some (l.getD k 0) := by simp [List.getD, hb']
    have hdrop : l.drop k = l.getD k 0 :: l.drop (k + 1) := by
      rw [List.drop_eq_getElem_cons hb']; simp [List.getD, hb']
    generalize l.getD k 0 = c at hat hdrop
    have hsz : ∀ y : Nat, acc.length + [y].length ≤ sizeLine := fun y => by rw [sizeLine_is, List.length_singleton]; omega
    refine Ex.cons (Ex1.ite (b := decide (c = 126)) ?_ (fun hm => ?_) (fun hm => ?_))
    · have e : decide (c = 126) = decide ([c] = (Str.ofString "~").cps.toList) := by rw [s1]; simp
      rw [e]
      walk_at "m"
    · have hc : c = 126 := of_decide_eq_true hm
      subst hc
      clear hm
      have hcut : pyCut (some ((k : Int) + 1)) (some ((k : Int) + 3)) l = (l.drop (k + 1)).take 2 := by
        rw [pyCut_ab _ _ _ (by omega) (by omega)]
        rw [show ((k : Int) + 1).toNat = k + 1 by omega, show ((k : Int) + 3).toNat - (k + 1) = 2 by omega]
      rcases Classical.em (∃ p q r, l.drop (k + 1) = p :: q :: r ∧ isDig p = true ∧ isDig q = true ∧ val2 p q ≤ 93) with ⟨p, q, r, hr, g1, g2, g3⟩ | hbad
      · have hso := sign_of_ok G g1 g2 g3
        have hf : Fun T 1 "sign_of" [.d (.str (mkS (pyCut (some ((k : Int) + 1)) (some ((k : Int) + 3)) l)))] (.str (mkS [sgn (val2 p q)])) := by
          rw [hcut, hr]; exact hso
        have hl3 : k + 3 ≤ l.length := by
          have := congrArg List.length hr
          simp only [List.length_drop, List.length_cons] at this
          omega
        have hdr : l.drop (k + 3) = r := by
          rw [show k + 3 = (k + 1) + 2 by omega, ← List.drop_drop, hr]; rfl
        walk_at "m"
        refine ⟨l.length - (k + 3), by omega, k + 3, acc ++ [sgn (val2 p q)], by omega, rfl, by simp; omega, ?_, rfl⟩
        rw [hread, hdrop, hr, hdr, readL_esc r g1 g2 g3]
        cases readL r <;> simp
      · exfalso
        rw [hread, hdrop, readL_bad] at hx
        · cases hx
        · intro p q r e h1 h2 h3
          exact hbad ⟨p, q, r, e, h1, h2, h3⟩
    · have hc : c ≠ 126 := of_decide_eq_false hm
      clear hm
      walk_at "m"
      refine ⟨l.length - (k + 1), by omega, k + 1, acc ++ [c], by omega, rfl, by simp; omega, ?_, rfl⟩
      rw [hread, hdrop, readL_plain hc]
      cases readL (l.drop (k + 1)) <;> simp
  · have hb' : ¬ k < l.length := by have := of_decide_eq_false hb; omega
    have hk' : k = l.length := by omega
    subst hk'
    walk_at "m"
    refine Ends.str ?_
    rw [hread, List.drop_length] at hx
    have := Option.some.inj hx
    rw [← this]; simp
theorem name_of_bad {l : List Nat} (hx : readL l = none) (hz : l.length ≤ 1000000) : FunX T 2 "name_of" [.d (.str (mkS l))] CB := by
  refine FunX.defK G ["part"] ["found", "at"] (by k_is) (by k_is) (by k_is) (by walk_at "mBinds") (by walk_at "mPrm") (by rfl) (by rfl) ⟨rfl, rfl, rfl⟩ (fun env outer he => ?_)
  walk_at "mDef"
  refine ExX.cons1 (Ex1.assign (d := .str (mkS [])) (by rw [← s6]; walk_at "m") (by walk_at "mPut") (by walk_at "mLoc") (by walk_at "mR") (show ExX _ _ _ _ _ _ _ from ?_))
  refine ExX.cons1 (Ex1.assign (d := .int 0) (by walk_at "m") (by walk_at "mPut") (by walk_at "mLoc") (by walk_at "mR") (show ExX _ _ _ _ _ _ _ from ?_))
  refine ExX.cons (ExX1.whil (fun m Γ => ∃ (k : Nat) (acc : List Nat), k ≤ l.length ∧ m = l.length - k ∧ acc.length ≤ k ∧ readL (l.drop k) = none ∧
    Γ = ([("part", some (.d (.str (mkS l)), .c)), ("found", some (.d (.str (mkS acc)), .c)), ("at", some (.d (.int (k : Int)), .c))] : Gm)) l.length ⟨0, [], by omega, by omega, by simp, by simpa using hx, rfl⟩ (fun m Γ hΓ => ?_))
  obtain ⟨k, acc, hk, rfl, hacc, hread, rfl⟩ := hΓ
  refine ⟨decide ((k : Int) < (l.length : Int)), by walk_at "m", fun hb => ?_, fun hb => ?_⟩
  · have hb' : k < l.length := by have := of_decide_eq_true hb; omega
    clear hb
    have hat : l[Int.toNat (k : Int)]? = some (l.getD k 0) := by simp [List.getD, hb']
    have hdrop : l.drop k = l.getD k 0 :: l.drop (k + 1) := by
      rw [List.drop_eq_getElem_cons hb']; simp [List.getD, hb']
    generalize l.getD k 0 = c at hat hdrop
    have hsz : ∀ y : Nat, acc.length + [y].length ≤ sizeLine := fun y => by rw [sizeLine_is, List.length_singleton]; omega
    refine ExX.cons (ExX1.ite (b := decide (c = 126)) ?_ (fun hm => ?_) (fun hm => ?_))
    · have e : decide (c = 126) = decide ([c] = (Str.ofString "~").cps.toList) := by rw [s1]; simp
      rw [e]
      walk_at "m"
    · have hc : c = 126 := of_decide_eq_true hm
      subst hc
      clear hm
      have hcut : pyCut (some ((k : Int) + 1)) (some ((k : Int) + 3)) l = (l.drop (k + 1)).take 2 := by
        rw [pyCut_ab _ _ _ (by omega) (by omega)]
        rw [show ((k : Int) + 1).toNat = k + 1 by omega, show ((k : Int) + 3).toNat - (k + 1) = 2 by omega]
      rcases Classical.em (∃ p q r, l.drop (k + 1) = p :: q :: r ∧ isDig p = true ∧ isDig q = true ∧ val2 p q ≤ 93) with ⟨p, q, r, hr, g1, g2, g3⟩ | hbad
      · have hso := sign_of_ok G g1 g2 g3
        have hf : Fun T 1 "sign_of" [.d (.str (mkS (pyCut (some ((k : Int) + 1)) (some ((k : Int) + 3)) l)))] (.str (mkS [sgn (val2 p q)])) := by
          rw [hcut, hr]; exact hso
        have hl3 : k + 3 ≤ l.length := by
          have := congrArg List.length hr
          simp only [List.length_drop, List.length_cons] at this
          omega
        have hdr : l.drop (k + 3) = r := by
          rw [show k + 3 = (k + 1) + 2 by omega, ← List.drop_drop, hr]; rfl
        refine ExX.of ?_
        walk_at "m"
        refine (show ExX T 1 env outer _ [] _ from ExX.nil ?_)
        dsimp only [Turn]
        refine ⟨l.length - (k + 3), by omega, k + 3, acc ++ [sgn (val2 p q)], by omega, rfl, by simp; omega, ?_, rfl⟩
        rw [hdrop, hr, readL_esc r g1 g2 g3] at hread
        rw [hdr]
        cases h : readL r with
        | none => rfl
        | some y => rw [h] at hread; cases hread
      · have hso := sign_of_bad G (l := pyCut (some ((k : Int) + 1)) (some ((k : Int) + 3)) l) (by rw [hcut]; simp; omega) (fun p q hg => by
          obtain ⟨e, g1, g2, g3⟩ := hg
          rw [hcut] at e
          rcases hr : l.drop (k + 1) with _ | ⟨p', _ | ⟨q', r⟩⟩
          · rw [hr] at e; cases e
          · rw [hr] at e; cases e
          · rw [hr] at e
            cases e
            exact hbad ⟨_, _, r, hr, g1, g2, g3⟩)
        refine ExX.cons (ExX1.assignX (EvX.binR (Ev.name (by walk_at "mMem")) (EvX.call (m := 1) (xs := [(_, .c)]) (by walk_at "mKd") (by walk_at "mR") ?_ (.cons .nil) hso (by omega))) (by walk_at "mR") rfl)
        exact EvA.cons (Ev.ofF (EvF.cut (Ev.name (by walk_at "mMem")) (by walk_at "m") (by walk_at "m") (Cut.s (by rw [sizeLine_is]; omega)))) EvA.nil (by walk_at "mR")
    · have hc : c ≠ 126 := of_decide_eq_false hm
      clear hm
      refine ExX.of ?_
      walk_at "m"
      refine (show ExX T 1 env outer _ [] _ from ExX.nil ?_)
      dsimp only [Turn]
      refine ⟨l.length - (k + 1), by omega, k + 1, acc ++ [c], by omega, rfl, by simp; omega, ?_, rfl⟩
      rw [hdrop, readL_plain hc] at hread
      cases h : readL (l.drop (k + 1)) with
      | none => rfl
      | some y => rw [h] at hread; cases hread
  · have hb' : ¬ k < l.length := by have := of_decide_eq_false hb; omega
    exfalso
    rw [List.drop_eq_nil_of_le (by omega)] at hread
    cases hread
end
theorem stepOf_cases (p : List Nat) : ((p = [] ∨ p = [46]) ∧ stepOf p = some []) ∨ (p = [46, 46] ∧ stepOf p = some [.up]) ∨ (∃ r, p = 64 :: r ∧ stepOf p = (readL r).map fun x => [.sh x]) ∨
    ∃ c r, p = c :: r ∧ c ≠ 64 ∧ p ≠ [46] ∧ p ≠ [46, 46] ∧ stepOf p = (readL p).map fun x => [.nm x] := by
  by_cases h1 : p = [] ∨ p = [46]
  · exact .inl ⟨h1, by unfold stepOf; rw [if_pos h1]⟩
  by_cases h2 : p = [46, 46]
  · exact .inr (.inl ⟨h2, by unfold stepOf; rw [if_neg h1, if_pos h2]⟩)
  rw [not_or] at h1
  match p, h1 with
  | [], h1 => exact absurd rfl h1.1
  | c :: r, h1 =>
    by_cases h3 : c = 64
    · subst h3
      refine .inr (.inr (.inl ⟨r, rfl, ?_⟩))
      unfold stepOf
      rw [if_neg (by simp), if_neg h2, if_pos (by rfl)]; rfl
    · refine .inr (.inr (.inr ⟨c, r, rfl, h3, h1.2, h2, ?_⟩))
      unfold stepOf
      rw [if_neg (by simpa using h1.2), if_neg h2, if_neg (by simpa using h3)]
noncomputable def accD (path : List Nat) (i : Nat) : List PyData := (rootOf path ++ ((splitC 47 path).take i).flatMap fun p => (stepOf p).getD []).map stD
theorem accD_snoc {path p : List Nat} {i : Nat} {ss : List Stp} (hp : (splitC 47 path)[i]? = some p) (hs : stepOf p = some ss) : accD path (i + 1) = accD path i ++ ss.map stD := by
  unfold accD
  rw [List.take_succ, hp]
  simp [hs]
theorem accD_len (path : List Nat) : ∀ i, (accD path i).length ≤ i + 1
  | 0 => by unfold accD rootOf; split <;> simp
  | i + 1 => by
    have ih := accD_len path i
    cases hp : (splitC 47 path)[i]? with
    | none =>
      have : accD path (i + 1) = accD path i := by
        unfold accD
        rw [List.take_of_length_le (by have := List.getElem?_eq_none_iff.mp hp; omega), List.take_of_length_le (by have := List.getElem?_eq_none_iff.mp hp; omega)]
      rw [this]; omega
    | some p =>
      rcases stepOf_cases p with ⟨_, h⟩ | ⟨_, h⟩ | ⟨r, _, h⟩ | ⟨c, r, _, _, _, _, h⟩
      · rw [accD_snoc hp h]; simp; omega
      · rw [accD_snoc hp h]; simp; omega
      · cases hr : readL r with
        | none =>
          have : accD path (i + 1) = accD path i := by unfold accD; rw [List.take_succ, hp]; simp [h, hr]
          rw [this]; omega
        | some x => rw [accD_snoc (ss := [.sh x]) hp (by rw [h, hr]; rfl)]; simp; omega
      · cases hr : readL p with
        | none =>
          have : accD path (i + 1) = accD path i := by unfold accD; rw [List.take_succ, hp]; simp [h, hr]
          rw [this]; omega
        | some x => rw [accD_snoc (ss := [.nm x]) hp (by rw [h, hr]; rfl)]; simp; omega
local macro_rules | `(tactic| walk_at "mC") => `(tactic| (with_reducible assumption))
section
variable {T : St} (G : GK T)
include G
theorem steps_of_ok {path : List Nat} (hz : path.length ≤ 1000000) (hall : ∀ p ∈ splitC 47 path, (stepOf p).isSome = true) : Fun T 3 "steps_of" [.d (.str (mkS path))] (.list ((rootOf path ++ (splitC 47 path).flatMap fun p => (stepOf p).getD []).map stD)) := by
  refine Fun.defK G ["path"] ["found", "part"] (by k_is) (by k_is) (by k_is) (by walk_at "mBinds") (by walk_at "mPrm") (by rfl) (by rfl) ⟨rfl, rfl, rfl⟩ (fun env he => ?_)
  walk_at "mDef"
  have hps := splitC_len 47 path
  refine Ex.cons (Ex1.assignO (d := .list []) (EvF.listL EvL.nil (by decide)) rfl (by walk_at "mPut") (by walk_at "mLoc") (by walk_at "mR") (show Ex _ _ _ _ _ _ from ?_))
  refine Ex.cons (Ex1.mono (Q := fun f Γ => f = .next ∧ Γ = ([("path", some (.d (.str (mkS path)), .c)), ("found", some (.d (.list (accD path 0)), .o)), ("part", none)] : Gm)) (Ex1.ite (b := decide (path[0]? = some 47)) ?_ (fun h => ?_) (fun h => ?_)) ?_)
  · refine IsT.bool (Ev.ofF (EvF.meth (xs := [(.d (.str (mkS [47])), .c)]) (Ev.name (by walk_at "mMem")) (EvA.cons (Ev.ofF (EvF.cast EvF.kS (by rw [s2]))) EvA.nil (by walk_at "mR")) Meth.startswith (by walk_at "mR") (by walk_at "mR") (by walk_at "mR"))) (by intro _; walk_at "mR")
  · have h' := of_decide_eq_true h
    refine Ex.cons (Ex1.append (d := stD .root) (by walk_at "mMem") (Ev.ofF ?_) (by walk_at "mPut") (by decide) (by walk_at "mR") (by walk_at "mR") (by walk_at "mR") (by walk_at "mR") ?_)
    · show EvF _ _ _ _ _ (.tuple [.str (mkS (Str.ofString "root").cps.toList)])
      walk_at "m"
    · walk_at "mThn"
      refine Ex.nil ?_
      refine ⟨rfl, ?_⟩
      have : accD path 0 = [stD .root] := by unfold accD rootOf; rw [if_pos h']; rfl
      rw [this]; rfl
  · have h' := of_decide_eq_false h
    refine Ex.nil ⟨rfl, ?_⟩
    have : accD path 0 = [] := by unfold accD rootOf; rw [if_neg h']; rfl
    rw [this]
  rintro f Γ ⟨rfl, rfl⟩
  refine (show Ex _ _ _ _ _ _ from ?_)
  refine Ex.cons (Ex1.forI (items := PL (splitC 47 path)) (fl := .c) ?_ (by simp) (by walk_at "mLoc")
    (fun i Γ => ∃ sl, Γ = ([("path", some (.d (.str (mkS path)), .c)), ("found", some (.d (.list (accD path i)), .o)), ("part", sl)] : Gm)) ⟨_, rfl⟩ (fun i d Γ hd hΓ => ?_) (fun Γ hΓ => ?_))
  · skip
    refine Itr.list (Ev.ofF (EvF.meth (xs := [(.d (.str (mkS [47])), .c)]) (Ev.name (by walk_at "mMem")) (EvA.cons (Ev.ofF (EvF.cast EvF.kS (by rw [s2]))) EvA.nil (by walk_at "mR")) (Meth.split (by rw [sizeLine_is]; omega)) (by walk_at "mR") (by walk_at "mR") (by walk_at "mR"))) (by intro _; walk_at "mR")
  · obtain ⟨sl, rfl⟩ := hΓ
    obtain ⟨p, hpi, rfl⟩ : ∃ p, (splitC 47 path)[i]? = some p ∧ d = .str (mkS p) := get_map hd
    refine ⟨.c, _, .inl rfl, by walk_at "mPut", ?_⟩
    have hi : i < (splitC 47 path).length := (List.getElem?_eq_some_iff.mp hpi).1
    have hal := accD_len path i
    have hsl : (accD path i).length ≤ sizeLine := by rw [sizeLine_is]; omega
    have hpl : p.length ≤ 1000000 := Nat.le_trans (splitC_part 47 path p (List.mem_of_getElem? hpi)) hz
    have hok := hall p (List.mem_of_getElem? hpi)
    rcases stepOf_cases p with ⟨hp0, h⟩ | ⟨rfl, h⟩ | ⟨r, rfl, h⟩ | ⟨c, r, rfl, hc64, n1, n2, h⟩
    · have hts := accD_snoc hpi h
      refine Ex.cons (Ex1.ite (b := true) ?_ (fun _ => ?_) (fun h => nomatch h))
      · rw [show true = (decide (p = (Str.ofString "").cps.toList) || (decide (p = (Str.ofString ".").cps.toList) || false)) by rw [s6, s4, Bool.or_false]; rcases hp0 with rfl | rfl <;> rfl]
        walk_at "m"
      · refine Ex.cons (Ex1.cont ?_)
        exact ⟨_, by rw [hts]; first | rfl | (rw [List.map_nil, List.append_nil])⟩
    · have hts := accD_snoc hpi h
      refine Ex.cons (Ex1.ite (b := false) ?_ (fun h => nomatch h) (fun _ => ?_))
      · rw [show false = (decide ([46, 46] = (Str.ofString "").cps.toList) || (decide ([46, 46] = (Str.ofString ".").cps.toList) || false)) by rw [s6, s4]; rfl]
        walk_at "m"
      refine Ex.nil (show Ex _ _ _ _ _ _ from ?_)
      refine Ex.cons (Ex1.ite (b := true) ?_ (fun _ => ?_) (fun h => nomatch h))
      · rw [show true = decide ([46, 46] = (Str.ofString "..").cps.toList) from (decide_eq_true s5.symm).symm]
        walk_at "m"
      refine Ex.cons (Ex1.append (d := stD .up) (by walk_at "mMem") (Ev.ofF ?_) (by walk_at "mPut") hsl (by walk_at "mR") (by walk_at "mR") (by walk_at "mR") (by walk_at "mR") ?_)
      · show EvF _ _ _ _ _ (.tuple [.str (mkS (Str.ofString "up").cps.toList)])
        walk_at "m"
      · refine (show Ex _ _ _ _ _ _ from Ex.nil ?_)
        refine (show Ex _ _ _ _ _ _ from Ex.nil ?_)
        exact ⟨_, by rw [hts]; first | rfl | (rw [List.map_nil, List.append_nil])⟩
    · have n1 : (64 :: r) ≠ [46] := by simp
      have n2 : (64 :: r) ≠ [46, 46] := by simp
      cases hr : readL r with
      | none => rw [h, hr] at hok; cases hok
      | some x =>
        rw [hr] at h
        have hts := accD_snoc (ss := [.sh x]) hpi h
        have h0 : (64 :: r)[Int.toNat 0]? = some 64 := rfl
        have hrl : r.length + 1 ≤ 1000000 := hpl
        have hcut : pyCut (some 1) none (64 :: r) = r := by rw [pyCut_from _ _ (by omega)]; rfl
        have hf : Fun T 2 "name_of" [.d (.str (mkS (pyCut (some 1) none (64 :: r))))] (.str (mkS x)) := by rw [hcut]; exact name_of_ok G hr (by simp at hpl; omega)
        refine Ex.cons (Ex1.ite (b := false) ?_ (fun h => nomatch h) (fun _ => ?_))
        · rw [show false = (decide ((64 :: r) = (Str.ofString "").cps.toList) || (decide ((64 :: r) = (Str.ofString ".").cps.toList) || false)) by rw [s6, s4, decide_eq_false (by simp), decide_eq_false n1]; rfl]
          walk_at "m"
        refine Ex.nil (show Ex _ _ _ _ _ _ from ?_)
        refine Ex.cons (Ex1.ite (b := false) ?_ (fun h => nomatch h) (fun _ => ?_))
        · rw [show false = decide ((64 :: r) = (Str.ofString "..").cps.toList) from (decide_eq_false (by rw [s5]; exact n2)).symm]
          walk_at "m"
        refine Ex.cons (Ex1.ite (b := true) ?_ (fun _ => ?_) (fun h => nomatch h))
        · rw [show true = decide ([64] = (Str.ofString "@").cps.toList) from (decide_eq_true s3.symm).symm]
          walk_at "m"
        refine Ex.cons (Ex1.append (d := stD (.sh x)) (by walk_at "mMem") (Ev.ofF ?_) (by walk_at "mPut") hsl (by walk_at "mR") (by walk_at "mR") (by walk_at "mR") (by walk_at "mR") ?_)
        · show EvF _ _ _ _ _ (.tuple [.str (mkS (Str.ofString "share").cps.toList), .str (mkS x)])
          walk_at "m"
        · refine (show Ex _ _ _ _ _ _ from Ex.nil ?_)
          refine (show Ex _ _ _ _ _ _ from Ex.nil ?_)
          refine (show Ex _ _ _ _ _ _ from Ex.nil ?_)
          exact ⟨_, by rw [hts]; first | rfl | (rw [List.map_nil, List.append_nil])⟩
    · cases hr : readL (c :: r) with
      | none => rw [h, hr] at hok; cases hok
      | some x =>
        rw [hr] at h
        have hts := accD_snoc (ss := [.nm x]) hpi h
        have h0 : (c :: r)[Int.toNat 0]? = some c := rfl
        have hrl : r.length + 1 ≤ 1000000 := hpl
        have hf : Fun T 2 "name_of" [.d (.str (mkS (c :: r)))] (.str (mkS x)) := name_of_ok G hr (by omega)
        refine Ex.cons (Ex1.ite (b := false) ?_ (fun h => nomatch h) (fun _ => ?_))
        · rw [show false = (decide ((c :: r) = (Str.ofString "").cps.toList) || (decide ((c :: r) = (Str.ofString ".").cps.toList) || false)) by rw [s6, s4, decide_eq_false (by simp), decide_eq_false n1]; rfl]
          walk_at "m"
        refine Ex.nil (show Ex _ _ _ _ _ _ from ?_)
        refine Ex.cons (Ex1.ite (b := false) ?_ (fun h => nomatch h) (fun _ => ?_))
        · rw [show false = decide ((c :: r) = (Str.ofString "..").cps.toList) from (decide_eq_false (by rw [s5]; exact n2)).symm]
          walk_at "m"
        refine Ex.cons (Ex1.ite (b := false) ?_ (fun h => nomatch h) (fun _ => ?_))
        · rw [show false = decide ([c] = (Str.ofString "@").cps.toList) from (decide_eq_false (by rw [s3]; simpa using hc64)).symm]
          walk_at "m"
        refine Ex.cons (Ex1.append (d := stD (.nm x)) (by walk_at "mMem") (Ev.ofF ?_) (by walk_at "mPut") hsl (by walk_at "mR") (by walk_at "mR") (by walk_at "mR") (by walk_at "mR") ?_)
        · show EvF _ _ _ _ _ (.tuple [.str (mkS (Str.ofString "name").cps.toList), .str (mkS x)])
          walk_at "m"
        · refine (show Ex _ _ _ _ _ _ from Ex.nil ?_)
          refine (show Ex _ _ _ _ _ _ from Ex.nil ?_)
          refine (show Ex _ _ _ _ _ _ from Ex.nil ?_)
          exact ⟨_, by rw [hts]; first | rfl | (rw [List.map_nil, List.append_nil])⟩
  · obtain ⟨sl, rfl⟩ := hΓ
    walk_at "mThn"
    refine Ex.cons (Ex1.retO (by walk_at "mMem") ?_)
    rw [List.length_map]
    show PyData.list (accD path _) = _
    unfold accD
    rw [List.take_length]
theorem steps_of_bad {path : List Nat} (hz : path.length ≤ 1000000) (hbad : ∃ p ∈ splitC 47 path, stepOf p = none) : FunX T 3 "steps_of" [.d (.str (mkS path))] CB := by
  refine FunX.defK G ["path"] ["found", "part"] (by k_is) (by k_is) (by k_is) (by walk_at "mBinds") (by walk_at "mPrm") (by rfl) (by rfl) ⟨rfl, rfl, rfl⟩ (fun env outer he => ?_)
  walk_at "mDef"
  have hps := splitC_len 47 path
  refine ExX.cons1 (Ex1.assignO (d := .list []) (EvF.listL EvL.nil (by decide)) rfl (by walk_at "mPut") (by walk_at "mLoc") (by walk_at "mR") (show ExX _ _ _ _ _ _ _ from ?_))
  refine ExX.cons1 (Ex1.mono (Q := fun f Γ => f = .next ∧ Γ = ([("path", some (.d (.str (mkS path)), .c)), ("found", some (.d (.list (accD path 0)), .o)), ("part", none)] : Gm)) (Ex1.ite (b := decide (path[0]? = some 47)) ?_ (fun h => ?_) (fun h => ?_)) ?_)
  · refine IsT.bool (Ev.ofF (EvF.meth (xs := [(.d (.str (mkS [47])), .c)]) (Ev.name (by walk_at "mMem")) (EvA.cons (Ev.ofF (EvF.cast EvF.kS (by rw [s2]))) EvA.nil (by walk_at "mR")) Meth.startswith (by walk_at "mR") (by walk_at "mR") (by walk_at "mR"))) (by intro _; walk_at "mR")
  · have h' := of_decide_eq_true h
    refine Ex.cons (Ex1.append (d := stD .root) (by walk_at "mMem") (Ev.ofF ?_) (by walk_at "mPut") (by decide) (by walk_at "mR") (by walk_at "mR") (by walk_at "mR") (by walk_at "mR") ?_)
    · show EvF _ _ _ _ _ (.tuple [.str (mkS (Str.ofString "root").cps.toList)])
      walk_at "m"
    · walk_at "mThn"
      refine Ex.nil ?_
      refine ⟨rfl, ?_⟩
      have : accD path 0 = [stD .root] := by unfold accD rootOf; rw [if_pos h']; rfl
      rw [this]; rfl
  · have h' := of_decide_eq_false h
    refine Ex.nil ⟨rfl, ?_⟩
    have : accD path 0 = [] := by unfold accD rootOf; rw [if_neg h']; rfl
    rw [this]
  rintro f Γ ⟨rfl, rfl⟩
  refine (show ExX _ _ _ _ _ _ _ from ?_)
  refine ExX.cons (ExX1.forI (items := PL (splitC 47 path)) (fl := .c) ?_ (by simp) (by walk_at "mLoc")
    (fun i Γ => (∀ j, j < i → ∀ q, (splitC 47 path)[j]? = some q → (stepOf q).isSome = true) ∧ ∃ sl, Γ = ([("path", some (.d (.str (mkS path)), .c)), ("found", some (.d (.list (accD path i)), .o)), ("part", sl)] : Gm)) ⟨fun j hj => absurd hj (Nat.not_lt_zero j), _, rfl⟩ (fun i d Γ hd hΓ => ?_) (fun Γ hΓ => ?_))
  · skip
    refine Itr.list (Ev.ofF (EvF.meth (xs := [(.d (.str (mkS [47])), .c)]) (Ev.name (by walk_at "mMem")) (EvA.cons (Ev.ofF (EvF.cast EvF.kS (by rw [s2]))) EvA.nil (by walk_at "mR")) (Meth.split (by rw [sizeLine_is]; omega)) (by walk_at "mR") (by walk_at "mR") (by walk_at "mR"))) (by intro _; walk_at "mR")
  · obtain ⟨hbef, sl, rfl⟩ := hΓ
    obtain ⟨p, hpi, rfl⟩ : ∃ p, (splitC 47 path)[i]? = some p ∧ d = .str (mkS p) := get_map hd
    refine ⟨.c, _, .inl rfl, by walk_at "mPut", ?_⟩
    have hi : i < (splitC 47 path).length := (List.getElem?_eq_some_iff.mp hpi).1
    have hal := accD_len path i
    have hsl : (accD path i).length ≤ sizeLine := by rw [sizeLine_is]; omega
    have hpl : p.length ≤ 1000000 := Nat.le_trans (splitC_part 47 path p (List.mem_of_getElem? hpi)) hz
    cases hok : (stepOf p).isSome with
    | true =>
      have hnext : ∀ j, j < i + 1 → ∀ q, (splitC 47 path)[j]? = some q → (stepOf q).isSome = true := fun j hj q hq => by
        by_cases hji : j = i
        · subst hji; rw [hpi] at hq; cases hq; exact hok
        · exact hbef j (by omega) q hq
      refine ExX.of ?_
      rcases stepOf_cases p with ⟨hp0, h⟩ | ⟨rfl, h⟩ | ⟨r, rfl, h⟩ | ⟨c, r, rfl, hc64, n1, n2, h⟩
      · have hts := accD_snoc hpi h
        refine Ex.cons (Ex1.ite (b := true) ?_ (fun _ => ?_) (fun h => nomatch h))
        · rw [show true = (decide (p = (Str.ofString "").cps.toList) || (decide (p = (Str.ofString ".").cps.toList) || false)) by rw [s6, s4, Bool.or_false]; rcases hp0 with rfl | rfl <;> rfl]
          walk_at "m"
        · refine Ex.cons (Ex1.cont ?_)
          exact ⟨hnext, _, by rw [hts]; first | rfl | (rw [List.map_nil, List.append_nil])⟩
      · have hts := accD_snoc hpi h
        refine Ex.cons (Ex1.ite (b := false) ?_ (fun h => nomatch h) (fun _ => ?_))
        · rw [show false = (decide ([46, 46] = (Str.ofString "").cps.toList) || (decide ([46, 46] = (Str.ofString ".").cps.toList) || false)) by rw [s6, s4]; rfl]
          walk_at "m"
        refine Ex.nil (show Ex _ _ _ _ _ _ from ?_)
        refine Ex.cons (Ex1.ite (b := true) ?_ (fun _ => ?_) (fun h => nomatch h))
        · rw [show true = decide ([46, 46] = (Str.ofString "..").cps.toList) from (decide_eq_true s5.symm).symm]
          walk_at "m"
        refine Ex.cons (Ex1.append (d := stD .up) (by walk_at "mMem") (Ev.ofF ?_) (by walk_at "mPut") hsl (by walk_at "mR") (by walk_at "mR") (by walk_at "mR") (by walk_at "mR") ?_)
        · show EvF _ _ _ _ _ (.tuple [.str (mkS (Str.ofString "up").cps.toList)])
          walk_at "m"
        · refine (show Ex _ _ _ _ _ _ from Ex.nil ?_)
          refine (show Ex _ _ _ _ _ _ from Ex.nil ?_)
          exact ⟨hnext, _, by rw [hts]; first | rfl | (rw [List.map_nil, List.append_nil])⟩
      · have n1 : (64 :: r) ≠ [46] := by simp
        have n2 : (64 :: r) ≠ [46, 46] := by simp
        cases hr : readL r with
        | none => rw [h, hr] at hok; cases hok
        | some x =>
          rw [hr] at h
          have hts := accD_snoc (ss := [.sh x]) hpi h
          have h0 : (64 :: r)[Int.toNat 0]? = some 64 := rfl
          have hrl : r.length + 1 ≤ 1000000 := hpl
          have hcut : pyCut (some 1) none (64 :: r) = r := by rw [pyCut_from _ _ (by omega)]; rfl
          have hf : Fun T 2 "name_of" [.d (.str (mkS (pyCut (some 1) none (64 :: r))))] (.str (mkS x)) := by rw [hcut]; exact name_of_ok G hr (by simp at hpl; omega)
          refine Ex.cons (Ex1.ite (b := false) ?_ (fun h => nomatch h) (fun _ => ?_))
          · rw [show false = (decide ((64 :: r) = (Str.ofString "").cps.toList) || (decide ((64 :: r) = (Str.ofString ".").cps.toList) || false)) by rw [s6, s4, decide_eq_false (by simp), decide_eq_false n1]; rfl]
            walk_at "m"
          refine Ex.nil (show Ex _ _ _ _ _ _ from ?_)
          refine Ex.cons (Ex1.ite (b := false) ?_ (fun h => nomatch h) (fun _ => ?_))
          · rw [show false = decide ((64 :: r) = (Str.ofString "..").cps.toList) from (decide_eq_false (by rw [s5]; exact n2)).symm]
            walk_at "m"
          refine Ex.cons (Ex1.ite (b := true) ?_ (fun _ => ?_) (fun h => nomatch h))
          · rw [show true = decide ([64] = (Str.ofString "@").cps.toList) from (decide_eq_true s3.symm).symm]
            walk_at "m"
          refine Ex.cons (Ex1.append (d := stD (.sh x)) (by walk_at "mMem") (Ev.ofF ?_) (by walk_at "mPut") hsl (by walk_at "mR") (by walk_at "mR") (by walk_at "mR") (by walk_at "mR") ?_)
          · show EvF _ _ _ _ _ (.tuple [.str (mkS (Str.ofString "share").cps.toList), .str (mkS x)])
            walk_at "m"
          · refine (show Ex _ _ _ _ _ _ from Ex.nil ?_)
            refine (show Ex _ _ _ _ _ _ from Ex.nil ?_)
            refine (show Ex _ _ _ _ _ _ from Ex.nil ?_)
            exact ⟨hnext, _, by rw [hts]; first | rfl | (rw [List.map_nil, List.append_nil])⟩
      · cases hr : readL (c :: r) with
        | none => rw [h, hr] at hok; cases hok
        | some x =>
          rw [hr] at h
          have hts := accD_snoc (ss := [.nm x]) hpi h
          have h0 : (c :: r)[Int.toNat 0]? = some c := rfl
          have hrl : r.length + 1 ≤ 1000000 := hpl
          have hf : Fun T 2 "name_of" [.d (.str (mkS (c :: r)))] (.str (mkS x)) := name_of_ok G hr (by omega)
          refine Ex.cons (Ex1.ite (b := false) ?_ (fun h => nomatch h) (fun _ => ?_))
          · rw [show false = (decide ((c :: r) = (Str.ofString "").cps.toList) || (decide ((c :: r) = (Str.ofString ".").cps.toList) || false)) by rw [s6, s4, decide_eq_false (by simp), decide_eq_false n1]; rfl]
            walk_at "m"
          refine Ex.nil (show Ex _ _ _ _ _ _ from ?_)
          refine Ex.cons (Ex1.ite (b := false) ?_ (fun h => nomatch h) (fun _ => ?_))
          · rw [show false = decide ((c :: r) = (Str.ofString "..").cps.toList) from (decide_eq_false (by rw [s5]; exact n2)).symm]
            walk_at "m"
          refine Ex.cons (Ex1.ite (b := false) ?_ (fun h => nomatch h) (fun _ => ?_))
          · rw [show false = decide ([c] = (Str.ofString "@").cps.toList) from (decide_eq_false (by rw [s3]; simpa using hc64)).symm]
            walk_at "m"
          refine Ex.cons (Ex1.append (d := stD (.nm x)) (by walk_at "mMem") (Ev.ofF ?_) (by walk_at "mPut") hsl (by walk_at "mR") (by walk_at "mR") (by walk_at "mR") (by walk_at "mR") ?_)
          · show EvF _ _ _ _ _ (.tuple [.str (mkS (Str.ofString "name").cps.toList), .str (mkS x)])
            walk_at "m"
          · refine (show Ex _ _ _ _ _ _ from Ex.nil ?_)
            refine (show Ex _ _ _ _ _ _ from Ex.nil ?_)
            refine (show Ex _ _ _ _ _ _ from Ex.nil ?_)
            exact ⟨hnext, _, by rw [hts]; first | rfl | (rw [List.map_nil, List.append_nil])⟩
    | false =>
      rcases stepOf_cases p with ⟨hp0, h⟩ | ⟨rfl, h⟩ | ⟨r, rfl, h⟩ | ⟨c, r, rfl, hc64, n1, n2, h⟩
      · rw [h] at hok; cases hok
      · rw [h] at hok; cases hok
      · have n1 : (64 :: r) ≠ [46] := by simp
        have n2 : (64 :: r) ≠ [46, 46] := by simp
        cases hr : readL r with
        | some x => rw [h, hr] at hok; cases hok
        | none =>
          have h0 : (64 :: r)[Int.toNat 0]? = some 64 := rfl
          have hrl : r.length + 1 ≤ 1000000 := hpl
          have hcut : pyCut (some 1) none (64 :: r) = r := by rw [pyCut_from _ _ (by omega)]; rfl
          have hf : FunX T 2 "name_of" [.d (.str (mkS (pyCut (some 1) none (64 :: r))))] CB := by rw [hcut]; exact name_of_bad G hr (by simp at hpl; omega)
          refine ExX.cons (ExX1.ite (b := false) ?_ (fun h => nomatch h) (fun _ => ?_))
          · rw [show false = (decide ((64 :: r) = (Str.ofString "").cps.toList) || (decide ((64 :: r) = (Str.ofString ".").cps.toList) || false)) by rw [s6, s4, decide_eq_false (by simp), decide_eq_false n1]; rfl]
            walk_at "m"
          refine ExX.nil (show ExX _ _ _ _ _ _ _ from ?_)
          refine ExX.cons (ExX1.ite (b := false) ?_ (fun h => nomatch h) (fun _ => ?_))
          · rw [show false = decide ((64 :: r) = (Str.ofString "..").cps.toList) from (decide_eq_false (by rw [s5]; exact n2)).symm]
            walk_at "m"
          refine ExX.cons (ExX1.ite (b := true) ?_ (fun _ => ?_) (fun h => nomatch h))
          · rw [show true = decide ([64] = (Str.ofString "@").cps.toList) from (decide_eq_true s3.symm).symm]
            walk_at "m"
          refine ExX.cons (ExX1.appendX (by walk_at "mMem") (EvX.tuple2 (Ev.ofF EvF.kS) (EvX.call (m := 2) (xs := [(_, .c)]) (by walk_at "mKd") (by walk_at "mR") ?_ (.cons .nil) hf (by omega)) (by walk_at "mR")) (by walk_at "mR") (by walk_at "mR") (by walk_at "mR") (by walk_at "mR") rfl)
          exact EvA.cons (Ev.ofF (EvF.cut (Ev.name (by walk_at "mMem")) (by walk_at "m") Opt.none (Cut.s (by rw [sizeLine_is]; omega)))) EvA.nil (by walk_at "mR")
      · cases hr : readL (c :: r) with
        | some x => rw [h, hr] at hok; cases hok
        | none =>
          have h0 : (c :: r)[Int.toNat 0]? = some c := rfl
          have hrl : r.length + 1 ≤ 1000000 := hpl
          have hf : FunX T 2 "name_of" [.d (.str (mkS (c :: r)))] CB := name_of_bad G hr (by omega)
          refine ExX.cons (ExX1.ite (b := false) ?_ (fun h => nomatch h) (fun _ => ?_))
          · rw [show false = (decide ((c :: r) = (Str.ofString "").cps.toList) || (decide ((c :: r) = (Str.ofString ".").cps.toList) || false)) by rw [s6, s4, decide_eq_false (by simp), decide_eq_false n1]; rfl]
            walk_at "m"
          refine ExX.nil (show ExX _ _ _ _ _ _ _ from ?_)
          refine ExX.cons (ExX1.ite (b := false) ?_ (fun h => nomatch h) (fun _ => ?_))
          · rw [show false = decide ((c :: r) = (Str.ofString "..").cps.toList) from (decide_eq_false (by rw [s5]; exact n2)).symm]
            walk_at "m"
          refine ExX.cons (ExX1.ite (b := false) ?_ (fun h => nomatch h) (fun _ => ?_))
          · rw [show false = decide ([c] = (Str.ofString "@").cps.toList) from (decide_eq_false (by rw [s3]; simpa using hc64)).symm]
            walk_at "m"
          refine ExX.cons (ExX1.appendX (by walk_at "mMem") (EvX.tuple2 (Ev.ofF EvF.kS) (EvX.call (m := 2) (xs := [(_, .c)]) (by walk_at "mKd") (by walk_at "mR") ?_ (.cons .nil) hf (by omega)) (by walk_at "mR")) (by walk_at "mR") (by walk_at "mR") (by walk_at "mR") (by walk_at "mR") rfl)
          exact EvA.cons (Ev.name (by walk_at "mMem")) EvA.nil (by walk_at "mR")
  · obtain ⟨hbef, sl, rfl⟩ := hΓ
    exfalso
    obtain ⟨p, hp, hn⟩ := hbad
    obtain ⟨j, hj⟩ := List.getElem?_of_mem hp
    have := hbef j (by rw [List.length_map]; exact (List.getElem?_eq_some_iff.mp hj).1) p hj
    rw [hn] at this; cases this
end
section
variable {T : St} (G : GK T)
include G
theorem odd_item {k : Nat} (h : k < 14) : [PyData.str (mkS (Str.ofString ".").cps.toList), .str (mkS (Str.ofString "..").cps.toList), .str (mkS (Str.ofString "~").cps.toList), .str (mkS (Str.ofString "/").cps.toList), .str (mkS (Str.ofString "@").cps.toList), .str (mkS (Str.ofString "@a").cps.toList), .str (mkS (Str.ofString "a").cps.toList), .str (mkS (Str.ofString "b").cps.toList), .str (mkS (Str.ofString "...").cps.toList), .str (mkS (Str.ofString ".a").cps.toList), .str (mkS (Str.ofString "~13").cps.toList), .str (mkS (Str.ofString "a/b").cps.toList), .str (mkS (Str.ofString " ").cps.toList), .str (mkS (Str.ofString "..a").cps.toList)][k]? = some (.str (mkS (oddL.getD k []))) := by
  match k, h with
  | 0, _ | 1, _ | 2, _ | 3, _ | 4, _ | 5, _ | 6, _ | 7, _ | 8, _ | 9, _ | 10, _ | 11, _ | 12, _ | 13, _ => rfl
theorem law_name_by_spec {c : Int} : Fun T 2 "_law_name_by" [.d (.int c)] (.str (mkS (nameBy c))) := by
  refine Fun.defK G ["_law_cell"] ["_law_odd", "_law_size", "_law_name", "_law_k"] (by k_is) (by k_is) (by k_is) (by walk_at "mBinds") (by walk_at "mPrm") (by rfl) (by rfl) ⟨rfl, rfl, rfl⟩ (fun env he => ?_)
  walk_at "mDef"
  have hod := odd_item G (k := (c / 3 % 14).toNat) (by omega)
  refine Ex.cons (Ex1.assign (by walk_at "m") (by walk_at "mPut") (by walk_at "mLoc") (by walk_at "mR") (show Ex _ _ _ _ _ _ from ?_))
  refine Ex.cons (Ex1.ite (b := c % 3 == 0) (by walk_at "m") (fun h => ?_) (fun h => ?_))
  · walk_at "m"
    exact Ends.str (by unfold nameBy; rw [if_pos (by simpa using h)])
  have h3 : ¬ c % 3 = 0 := by simpa using h
  clear h
  refine Ex.nil (show Ex _ _ _ _ _ _ from ?_)
  refine Ex.cons (Ex1.assign (by walk_at "m") (by walk_at "mPut") (by walk_at "mLoc") (by walk_at "mR") (show Ex _ _ _ _ _ _ from ?_))
  have hsz := nmSize_le c
  clear hod
  generalize (Vl.d (PyData.list _), Fl.c) = odd
  refine Ex.cons (Ex1.mono (Q := fun f Γ => f = .next ∧ Γ = ([("_law_cell", some (.d (.int c), .c)), ("_law_odd", some odd), ("_law_size", some (.d (.int (nmSize c)), .c)), ("_law_name", none), ("_law_k", none)] : Gm)) (Ex1.ite (b := c / 12 % 9 == 4) (by walk_at "m") (fun h => ?_) (fun h => ?_)) ?_)
  · have h' : c / 12 % 9 = 4 := by simpa using h
    have e : nmSize c = 1 + c / 3 % 4 + c / 108 % 40 := if_pos h'
    rw [e]
    walk_at "m"
    exact ⟨rfl, rfl⟩
  · have h' : ¬ c / 12 % 9 = 4 := by simpa using h
    have e : nmSize c = 1 + c / 3 % 4 := if_neg h'
    rw [e]
    walk_at "m"
    exact ⟨rfl, rfl⟩
  rintro f Γ ⟨rfl, rfl⟩
  walk_at "mThn"
  refine Ex.cons (Ex1.assign (by walk_at "m") (by walk_at "mPut") (by walk_at "mLoc") (by walk_at "mR") (show Ex _ _ _ _ _ _ from ?_))
  rw [s6]
  refine Ex.cons (Ex1.forI (items := rangeD (nmSize c).toNat) (fl := .c) (by walk_at "mItr") (by simp) (by walk_at "mLoc")
    (fun i Γ => ∃ sl, Γ = ([("_law_cell", some (.d (.int c), .c)), ("_law_odd", some odd), ("_law_size", some (.d (.int (nmSize c)), .c)), ("_law_name", some (.d (.str (mkS ((List.range i).map (nmS c)))), .c)), ("_law_k", sl)] : Gm)) ⟨_, rfl⟩ (fun i d Γ hd hΓ => ?_) (fun Γ hΓ => ?_))
  · obtain ⟨sl, rfl⟩ := hΓ
    obtain ⟨hi, rfl⟩ := rangeD_get hd
    refine ⟨.c, _, .inl rfl, by walk_at "mPut", ?_⟩
    have h1 : signsL[Int.toNat ((c / 12 + 7 * (i : Int)) * 48271 % 65537 / 5 % 94)]? = some (nmS c i) := signsL_at (by omega)
    have hl := signsL_len
    walk_at "m"
    exact ⟨_, by rw [List.range_succ, List.map_append]; rfl⟩
  · obtain ⟨sl, rfl⟩ := hΓ
    rw [rangeD_length]
    walk_at "m"
    exact Ends.str (by unfold nameBy; rw [if_neg h3])
end
theorem sl2 : (Str.ofString "/~").cps.toList = [47, 126] := by decide +kernel
local macro_rules | `(tactic| walk_at "mC") => `(tactic| exact law_escape_spec (by assumption) (by assumption))
local macro_rules | `(tactic| walk_at "mC") => `(tactic| exact law_name_by_spec (by assumption))
local macro_rules | `(tactic| walk_at "mC") => `(tactic| (with_reducible assumption))
section
variable {T : St} (G : GK T)
include G
theorem law_part_by_spec {nm : List Nat} {cell : Int} (hs : ∀ c ∈ nm, IsSgn c) (hz : nm.length ≤ 1000) : Fun T 3 "_law_part_by" [.d (.str (mkS nm)), .d (.int cell)] (.str (mkS (partL nm cell))) := by
  refine Fun.defK G ["_law_name", "_law_cell"] ["_law_found", "_law_k"] (by k_is) (by k_is) (by k_is) (by walk_at "mBinds") (by walk_at "mPrm") (by rfl) (by rfl) ⟨rfl, rfl, rfl⟩ (fun env he => ?_)
  walk_at "mDef"
  refine Ex.cons (Ex1.assign (d := .str (mkS [])) (by rw [← s6]; walk_at "m") (by walk_at "mPut") (by walk_at "mLoc") (by walk_at "mR") (show Ex _ _ _ _ _ _ from ?_))
  refine Ex.cons (Ex1.forI (items := rangeD (nm.length : Int).toNat) (fl := .c) (by walk_at "mItr") (by simp) (by walk_at "mLoc")
    (fun i Γ => ∃ sl, Γ = ([("_law_name", some (.d (.str (mkS nm)), .c)), ("_law_cell", some (.d (.int (cel cell i)), .c)), ("_law_found", some (.d (.str (mkS (partTo nm cell i))), .c)), ("_law_k", sl)] : Gm)) ⟨_, rfl⟩ (fun i d Γ hd hΓ => ?_) (fun Γ hΓ => ?_))
  · obtain ⟨sl, rfl⟩ := hΓ
    obtain ⟨hi, rfl⟩ := rangeD_get hd
    rw [Int.toNat_natCast] at hi
    refine ⟨.c, _, .inl rfl, by walk_at "mPut", ?_⟩
    have h1 : nm[Int.toNat (i : Int)]? = some (nm.getD i 0) := by simp [List.getD, hi]
    have h2 : nm[Int.toNat 0]? = some (nm.getD 0 0) := by simp [List.getD, show 0 < nm.length by omega]
    have hsg : IsSgn (nm.getD i 0) := hs _ (by simp [List.getD, hi])
    have hl := partTo_len nm cell i
    have hp := pcG_len nm cell i
    refine Ex.cons (Ex1.mono (Q := fun f Γ => f = .next ∧ ∃ sl, Γ = ([("_law_name", some (.d (.str (mkS nm)), .c)), ("_law_cell", some (.d (.int (cel cell i)), .c)), ("_law_found", some (.d (.str (mkS (partTo nm cell (i + 1)))), .c)), ("_law_k", sl)] : Gm)) (Ex1.ite (b := mstG nm cell i) ?_ (fun hm => ?_) (fun hm => ?_)) ?_)
    · have e : mstG nm cell i = (decide (nm.getD i 0 ∈ (Str.ofString "/~").cps.toList) || ((((i : Int) == 0) && (decide ([nm.getD 0 0] = (Str.ofString "@").cps.toList) && true)) || ((cel cell i % 2 == 1) || false))) := by
        have e0 : ((i : Int) == 0) = decide (i = 0) := by rw [Bool.eq_iff_iff]; simp
        rw [sl2, s3, e0]
        unfold mstG
        simp
      rw [e]
      walk_at "m"
    · have hpc : pcG nm cell i = escG (nm.getD i 0) := if_pos hm
      rw [hpc] at hp
      walk_at "m"
      exact ⟨rfl, _, by rw [partTo_succ, hpc]⟩
    · have hpc : pcG nm cell i = [nm.getD i 0] := if_neg (by simp [hm])
      walk_at "m"
      exact ⟨rfl, _, by rw [partTo_succ, hpc]⟩
    rintro f Γ ⟨rfl, sl, rfl⟩
    walk_at "mThn"
    walk_at "m"
    exact ⟨_, rfl⟩
  · obtain ⟨sl, rfl⟩ := hΓ
    rw [rangeD_length, Int.toNat_natCast]
    walk_at "mThn"
    have hl := partTo_len nm cell nm.length
    have hp0 : part0 nm cell = partTo nm cell nm.length := rfl
    rw [← hp0] at hl ⊢
    have hesc : Fun T 2 "_law_escape" [.d (.str (mkS (Str.ofString ".").cps.toList))] (.str (mkS (escG 46))) := by rw [s4]; exact law_escape_spec G sgn46
    have hpL : partL nm cell = if part0 nm cell = [46] ∨ part0 nm cell = [46, 46] then escG 46 ++ (part0 nm cell).drop 1 else part0 nm cell := rfl
    generalize part0 nm cell = pp at hl hpL ⊢
    refine Ex.cons (Ex1.mono (Q := fun f Γ => f = .next ∧ ∃ c, Γ = ([("_law_name", some (.d (.str (mkS nm)), .c)), ("_law_cell", c), ("_law_found", some (.d (.str (mkS (partL nm cell))), .c)), ("_law_k", sl)] : Gm)) (Ex1.ite (b := (decide (pp = [46]) || (decide (pp = [46, 46]) || false))) ?_ (fun hm => ?_) (fun hm => ?_)) ?_)
    · rw [← s5, ← s4]
      walk_at "m"
    · have hm' : pp = [46] ∨ pp = [46, 46] := by simpa using hm
      rw [if_pos hm'] at hpL
      have hcut : pyCut (some 1) none pp = pp.drop 1 := by rw [pyCut_from _ _ (by omega)]; rfl
      have hcl := pyCut_le (some 1) none pp
      have hel : (escG 46).length = 3 := rfl
      walk_at "m"
      exact ⟨rfl, _, by rw [hpL, hcut]⟩
    · have hm' : ¬ (pp = [46] ∨ pp = [46, 46]) := by simpa using hm
      rw [if_neg hm'] at hpL
      refine Ex.nil ⟨rfl, _, by rw [hpL]⟩
    rintro f Γ ⟨rfl, c, rfl⟩
    walk_at "mThn"
    walk_at "m"
    exact Ends.str rfl
theorem law_share_by_spec {nm : List Nat} {cell : Int} (hs : ∀ c ∈ nm, IsSgn c) (hz : nm.length ≤ 1000) : Fun T 4 "_law_share_by" [.d (.str (mkS nm)), .d (.int cell)] (.str (mkS (shareL nm cell))) := by
  refine Fun.defK G ["_law_name", "_law_cell"] [] (by k_is) (by k_is) (by k_is) (by walk_at "mBinds") (by walk_at "mPrm") (by rfl) (by rfl) ⟨rfl, rfl, rfl⟩ (fun env he => ?_)
  walk_at "mDef"
  have hpb := law_part_by_spec G (cell := cell / 2) hs hz
  have hpl := partL_len nm (cell / 2)
  refine Ex.cons (Ex1.ite (b := ((cell % 2 == 1) && (!decide (47 ∈ nm) && (!decide (126 ∈ nm) && true)))) ?_ (fun h => ?_) (fun h => ?_))
  · refine IsT.and (by walk_at "m") (fun _ => IsT.and (IsT.cmp (v₁ := .d (.str (mkS [47]))) (Ev.ofF (EvF.cast EvF.kS (by rw [s2]))) (Ev.name (by walk_at "mMem")) (Cmp.ninL rfl) (by walk_at "mR")) (fun _ => IsT.and (IsT.cmp (v₁ := .d (.str (mkS [126]))) (Ev.ofF (EvF.cast EvF.kS (by rw [s1]))) (Ev.name (by walk_at "mMem")) (Cmp.ninL rfl) (by walk_at "mR")) (fun _ => IsT.andNil)))
  · have h' : cell % 2 = 1 ∧ 47 ∉ nm ∧ 126 ∉ nm := by simpa using h
    walk_at "m"
    · rw [s3, sizeLine_is]; simp; omega
    · exact Ends.str (by rw [s3]; unfold shareL; rw [if_pos h']; rfl)
  · have h' : ¬ (cell % 2 = 1 ∧ 47 ∉ nm ∧ 126 ∉ nm) := by
      intro q
      have : ((cell % 2 == 1) && (!decide (47 ∈ nm) && (!decide (126 ∈ nm) && true))) = true := by simp [q.1, q.2.1, q.2.2]
      rw [this] at h; cases h
    walk_at "m"
    · rw [s3, sizeLine_is]; simp; omega
    · exact Ends.str (by rw [s3]; unfold shareL; rw [if_neg h']; rfl)
end
theorem fold_snoc {P : List Nat → List (List Nat)} {ss : List Stp} {i : Nat} {s : Stp} {p : List (List Nat)} (h : ss[i]? = some s) : (ss.take (i + 1)).foldl (go P) p = go P ((ss.take i).foldl (go P) p) s := by
  rw [List.take_succ, h]; simp
theorem fold_lenB (P : List Nat → List (List Nat)) (B : Nat) : ∀ (ss : List Stp) (p : List (List Nat)), (∀ y, .sh y ∈ ss → (P y).length ≤ B) → ∀ k, p.length ≤ B + k → (ss.foldl (go P) p).length ≤ B + k + ss.length
  | [], p, _, k, hp => hp
  | s :: ss, p, h, k, hp => by
    have h1 : (go P p s).length ≤ B + (k + 1) := by
      cases s with
      | root => simp [go]
      | up => simp only [go, List.length_dropLast]; omega
      | sh y => have := h y (.head _); simp only [go]; omega
      | nm y => simp only [go, List.length_append, List.length_singleton]; omega
    have := fold_lenB P B ss (go P p s) (fun y hy => h y (.tail _ hy)) (k + 1) h1
    rw [List.foldl_cons, List.length_cons]; omega
noncomputable def lacks (m : List (List Nat × PyData)) : Stp → Bool
  | .sh x => !(m.lookup x).isSome
  | _ => false
noncomputable def plD (pm : PM) : List (List Nat × PyData) := pm.map fun q => (q.1, .list (PL q.2))
theorem plD_keys (pm : PM) : (plD pm).map (·.1) = pm.map (·.1) := by unfold plD; rw [List.map_map]; rfl
theorem lookup_map {α β : Type} (f : α → β) : ∀ (l : List (List Nat × α)) (y : List Nat), (l.map fun q => (q.1, f q.2)).lookup y = (l.lookup y).map f
  | [], _ => rfl
  | p :: l, y => by
    rw [List.map_cons, List.lookup_cons, show p = (p.1, p.2) from rfl, List.lookup_cons, lookup_map f l y]
    cases y == p.1 <;> rfl
theorem plD_look (pm : PM) (y : List Nat) : (plD pm).lookup y = (pm.lookup y).map fun p => .list (PL p) := lookup_map (fun p => PyData.list (PL p)) pm y
local macro_rules | `(tactic| walk_at "mC") => `(tactic| (with_reducible assumption))
section
variable {T : St} (G : GK T)
include G
theorem followed_spec {pm : PM} {p : List (List Nat)} {ss : List Stp} (hnd : (pm.map (·.1)).Nodup) (hsh : ready pm ss = true) (hB : ∀ y q, (y, q) ∈ pm → q.length ≤ 100000) (hp : p.length ≤ 100000) (hs : ss.length ≤ 100000) :
    Fun T 1 "followed" [.d (.list (PL p)), .d (.list (ss.map stD)), .d (dictD (plD pm))] (.list (PL (ss.foldl (go (PMf pm)) p))) := by
  refine Fun.defK G ["start", "steps", "places"] ["here", "step"] (by k_is) (by k_is) (by k_is) (by walk_at "mBinds") (Prm.b (Prm.b (Prm.b Prm.nil))) (by rfl) (by rfl) ⟨rfl, rfl, rfl⟩ (fun env he => ?_)
  walk_at "mDef"
  refine Ex.cons (Ex1.assignO (d := .list (PL p)) (by walk_at "m") rfl (by walk_at "mPut") (by walk_at "mLoc") (by walk_at "mR") (show Ex _ _ _ _ _ _ from ?_))
  refine Ex.cons (Ex1.forI (items := ss.map stD) (fl := .b) (by walk_at "mItr") (by simp) (by walk_at "mLoc")
    (fun i Γ => ∃ sl, Γ = ([("start", some (.d (.list (PL p)), .b)), ("steps", some (.d (.list (ss.map stD)), .b)), ("places", some (.d (dictD (plD pm)), .b)), ("here", some (.d (.list (PL ((ss.take i).foldl (go (PMf pm)) p))), .o)), ("step", sl)] : Gm)) ⟨_, rfl⟩ (fun i d Γ hd hΓ => ?_) (fun Γ hΓ => ?_))
  · obtain ⟨sl, rfl⟩ := hΓ
    obtain ⟨st, hst, rfl⟩ : ∃ st, ss[i]? = some st ∧ d = stD st := get_map hd
    refine ⟨.c, _, .inr ⟨rfl, still_st st⟩, by walk_at "mPut", ?_⟩
    have hi : i < ss.length := (List.getElem?_eq_some_iff.mp hst).1
    have hfs := fold_snoc (P := PMf pm) (p := p) hst
    have hPB : ∀ y, .sh y ∈ ss → (PMf pm y).length ≤ 100000 := fun y hy => by
      obtain ⟨q, hq⟩ := Option.isSome_iff_exists.mp (ready_sh hsh hy)
      unfold PMf; rw [hq]; exact hB y q (lookup_mem hq)
    have hfl := fold_lenB (PMf pm) 100000 (ss.take i) p (fun y hy => hPB y (List.mem_of_mem_take hy)) 0 (by omega)
    have hti : (ss.take i).length ≤ 100000 := by rw [List.length_take]; omega
    generalize (ss.take i).foldl (go (PMf pm)) p = q at hfs hfl ⊢
    have hql : (PL q).length = q.length := by simp
    have e1 : (decide (kRoot = (Str.ofString "root").cps.toList)) = true := by decide +kernel
    have e2 : (decide (kUp = (Str.ofString "root").cps.toList)) = false := by decide +kernel
    have e3 : (decide (kUp = (Str.ofString "up").cps.toList)) = true := by decide +kernel
    have e4 : (decide (kNm = (Str.ofString "root").cps.toList)) = false := by decide +kernel
    have e5 : (decide (kNm = (Str.ofString "up").cps.toList)) = false := by decide +kernel
    have e6 : (decide (kNm = (Str.ofString "share").cps.toList)) = false := by decide +kernel
    have e7 : (decide (kSh = (Str.ofString "root").cps.toList)) = false := by decide +kernel
    have e8 : (decide (kSh = (Str.ofString "up").cps.toList)) = false := by decide +kernel
    have e9 : (decide (kSh = (Str.ofString "share").cps.toList)) = true := by decide +kernel
    cases st with
    | sh x =>
      have t0 : [PyData.str (mkS kSh), PyData.str (mkS x)][Int.toNat 0]? = some (.str (mkS kSh)) := rfl
      have t1 : [PyData.str (mkS kSh), PyData.str (mkS x)][Int.toNat 1]? = some (.str (mkS x)) := rfl
      obtain ⟨pl, hpl⟩ := Option.isSome_iff_exists.mp (ready_sh hsh (List.mem_of_getElem? hst))
      have hplB := hB x pl (lookup_mem hpl)
      have hPL : (PL pl).length = pl.length := by simp
      show Ex _ _ _ [("start", _), ("steps", _), ("places", _), ("here", _), ("step", some (.d (.tuple [.str (mkS kSh), .str (mkS x)]), .c))] _ _
      refine Ex.cons (Ex1.ite (b := false) ?_ (fun h => nomatch h) (fun _ => ?_))
      · rw [← e7]
        walk_at "m"
      refine Ex.cons (Ex1.ite (b := false) ?_ (fun h => nomatch h) (fun _ => ?_))
      · rw [← e8]
        walk_at "m"
      refine Ex.cons (Ex1.ite (b := true) ?_ (fun _ => ?_) (fun h => nomatch h))
      · rw [← e9]
        walk_at "m"
      · refine Ex.cons (Ex1.assignO (d := .list (PL pl)) (EvF.callB (xs := [(.d (.list (PL pl)), .b)]) (by walk_at "mKd") (by walk_at "mR") (by walk_at "mG") (by walk_at "mB") (.inr ⟨_, rfl⟩) (EvA.cons (Ev.sub (Ev.name (by walk_at "mMem")) (Ev.sub (Ev.name (by walk_at "mMem")) (Ev.ofF EvF.kInt) (Sub.tuple (by omega) (by omega) t1) (by intro _ _; walk_at "mR")) (Sub.dict (by rw [plD_keys]; exact hnd) (by rw [plD_look, hpl]; rfl)) (by intro _ _; walk_at "mR")) EvA.nil (by walk_at "mR")) (CallB.listL (by rw [sizeLine_is]; omega) (.inr (still_PL _)))) rfl (by walk_at "mPut") (by walk_at "mLoc") (by walk_at "mR") (show Ex _ _ _ _ _ _ from ?_))
        walk_at "m"
        exact ⟨_, by rw [hfs, show go (PMf pm) q (.sh x) = pl by show (pm.lookup x).getD [] = pl; rw [hpl]; rfl]⟩
    | root =>
      have t0 : [PyData.str (mkS kRoot)][Int.toNat 0]? = some (.str (mkS kRoot)) := rfl
      refine Ex.cons (Ex1.ite (b := true) ?_ (fun _ => ?_) (fun h => nomatch h))
      · rw [← e1]
        show IsT _ _ _ [("start", _), ("steps", _), ("places", _), ("here", _), ("step", some (.d (.tuple [.str (mkS kRoot)]), .c))] _ _
        walk_at "m"
      · refine Ex.cons (Ex1.assignO (d := .list (PL [])) (EvF.listL EvL.nil (by decide)) rfl (by walk_at "mPut") (by walk_at "mLoc") (by walk_at "mR") (show Ex _ _ _ _ _ _ from ?_))
        walk_at "m"
        exact ⟨_, by rw [hfs]; rfl⟩
    | up =>
      have t0 : [PyData.str (mkS kUp)][Int.toNat 0]? = some (.str (mkS kUp)) := rfl
      show Ex _ _ _ [("start", _), ("steps", _), ("places", _), ("here", _), ("step", some (.d (.tuple [.str (mkS kUp)]), .c))] _ _
      refine Ex.cons (Ex1.ite (b := false) ?_ (fun h => nomatch h) (fun _ => ?_))
      · rw [← e2]
        walk_at "m"
      refine Ex.cons (Ex1.ite (b := true) ?_ (fun _ => ?_) (fun h => nomatch h))
      · rw [← e3]
        walk_at "m"
      · refine Ex.cons (Ex1.assignO (d := .list (PL q.dropLast)) ?_ rfl (by walk_at "mPut") (by walk_at "mLoc") (by walk_at "mR") (show Ex _ _ _ _ _ _ from ?_))
        · rw [show PL q.dropLast = pyCut none (some (-1)) (PL q) by rw [cut_last]; exact List.map_dropLast ..]
          walk_at "m"
        · walk_at "m"
          exact ⟨_, by rw [hfs]; rfl⟩
    | nm x =>
      have t0 : [PyData.str (mkS kNm), PyData.str (mkS x)][Int.toNat 0]? = some (.str (mkS kNm)) := rfl
      have t1 : [PyData.str (mkS kNm), PyData.str (mkS x)][Int.toNat 1]? = some (.str (mkS x)) := rfl
      show Ex _ _ _ [("start", _), ("steps", _), ("places", _), ("here", _), ("step", some (.d (.tuple [.str (mkS kNm), .str (mkS x)]), .c))] _ _
      refine Ex.cons (Ex1.ite (b := false) ?_ (fun h => nomatch h) (fun _ => ?_))
      · rw [← e4]
        walk_at "m"
      refine Ex.cons (Ex1.ite (b := false) ?_ (fun h => nomatch h) (fun _ => ?_))
      · rw [← e5]
        walk_at "m"
      refine Ex.cons (Ex1.ite (b := false) ?_ (fun h => nomatch h) (fun _ => ?_))
      · rw [← e6]
        walk_at "m"
      · refine Ex.cons (Ex1.assignO (d := .list (PL q ++ [.str (mkS x)])) (by walk_at "m") rfl (by walk_at "mPut") (by walk_at "mLoc") (by walk_at "mR") (show Ex _ _ _ _ _ _ from ?_))
        walk_at "m"
        exact ⟨_, by rw [hfs, show PL (go (PMf pm) q (.nm x)) = PL q ++ [.str (mkS x)] from List.map_append ..]⟩
  · obtain ⟨sl, rfl⟩ := hΓ
    rw [List.length_map, List.take_length]
    walk_at "mThn"
    exact Ex.cons (Ex1.retO (by walk_at "mMem") rfl)
theorem law_walk_spec {pm : PM} {p : List (List Nat)} {ss : List Stp} (hnd : (pm.map (·.1)).Nodup) (hsh : ready pm ss = true) (hB : ∀ y q, (y, q) ∈ pm → q.length ≤ 100000) (hp : p.length ≤ 100000) (hs : ss.length ≤ 100000) :
    Fun T 1 "_law_walk" [.d (.list (PL p)), .d (.list (ss.map stD)), .d (dictD (plD pm))] (.list (PL (ss.foldl (go (PMf pm)) p))) := by
  refine Fun.defK G ["_law_place", "_law_steps", "_law_places_here"] ["_law_step"] (by k_is) (by k_is) (by k_is) (by walk_at "mBinds") (Prm.b (Prm.b (Prm.b Prm.nil))) (by rfl) (by rfl) ⟨rfl, rfl, rfl⟩ (fun env he => ?_)
  walk_at "mDef"
  refine Ex.cons (Ex1.assignO (d := .list (PL p)) (by walk_at "m") rfl (by walk_at "mPut") (by walk_at "mLoc") (by walk_at "mR") (show Ex _ _ _ _ _ _ from ?_))
  refine Ex.cons (Ex1.forI (items := ss.map stD) (fl := .b) (by walk_at "mItr") (by simp) (by walk_at "mLoc")
    (fun i Γ => ∃ sl, Γ = ([("_law_place", some (.d (.list (PL ((ss.take i).foldl (go (PMf pm)) p))), .o)), ("_law_steps", some (.d (.list (ss.map stD)), .b)), ("_law_places_here", some (.d (dictD (plD pm)), .b)), ("_law_step", sl)] : Gm)) ⟨_, rfl⟩ (fun i d Γ hd hΓ => ?_) (fun Γ hΓ => ?_))
  · obtain ⟨sl, rfl⟩ := hΓ
    obtain ⟨st, hst, rfl⟩ : ∃ st, ss[i]? = some st ∧ d = stD st := get_map hd
    refine ⟨.c, _, .inr ⟨rfl, still_st st⟩, by walk_at "mPut", ?_⟩
    have hi : i < ss.length := (List.getElem?_eq_some_iff.mp hst).1
    have hfs := fold_snoc (P := PMf pm) (p := p) hst
    have hPB : ∀ y, .sh y ∈ ss → (PMf pm y).length ≤ 100000 := fun y hy => by
      obtain ⟨q, hq⟩ := Option.isSome_iff_exists.mp (ready_sh hsh hy)
      unfold PMf; rw [hq]; exact hB y q (lookup_mem hq)
    have hfl := fold_lenB (PMf pm) 100000 (ss.take i) p (fun y hy => hPB y (List.mem_of_mem_take hy)) 0 (by omega)
    have hti : (ss.take i).length ≤ 100000 := by rw [List.length_take]; omega
    generalize (ss.take i).foldl (go (PMf pm)) p = q at hfs hfl ⊢
    have hql : (PL q).length = q.length := by simp
    have e1 : (decide (kRoot = (Str.ofString "root").cps.toList)) = true := by decide +kernel
    have e2 : (decide (kUp = (Str.ofString "root").cps.toList)) = false := by decide +kernel
    have e3 : (decide (kUp = (Str.ofString "up").cps.toList)) = true := by decide +kernel
    have e4 : (decide (kNm = (Str.ofString "root").cps.toList)) = false := by decide +kernel
    have e5 : (decide (kNm = (Str.ofString "up").cps.toList)) = false := by decide +kernel
    have e6 : (decide (kNm = (Str.ofString "share").cps.toList)) = false := by decide +kernel
    have e7 : (decide (kSh = (Str.ofString "root").cps.toList)) = false := by decide +kernel
    have e8 : (decide (kSh = (Str.ofString "up").cps.toList)) = false := by decide +kernel
    have e9 : (decide (kSh = (Str.ofString "share").cps.toList)) = true := by decide +kernel
    cases st with
    | sh x =>
      have t0 : [PyData.str (mkS kSh), PyData.str (mkS x)][Int.toNat 0]? = some (.str (mkS kSh)) := rfl
      have t1 : [PyData.str (mkS kSh), PyData.str (mkS x)][Int.toNat 1]? = some (.str (mkS x)) := rfl
      obtain ⟨pl, hpl⟩ := Option.isSome_iff_exists.mp (ready_sh hsh (List.mem_of_getElem? hst))
      have hplB := hB x pl (lookup_mem hpl)
      have hPL : (PL pl).length = pl.length := by simp
      show Ex _ _ _ [("_law_place", _), ("_law_steps", _), ("_law_places_here", _), ("_law_step", some (.d (.tuple [.str (mkS kSh), .str (mkS x)]), .c))] _ _
      refine Ex.cons (Ex1.ite (b := false) ?_ (fun h => nomatch h) (fun _ => ?_))
      · rw [← e7]
        walk_at "m"
      refine Ex.cons (Ex1.ite (b := false) ?_ (fun h => nomatch h) (fun _ => ?_))
      · rw [← e8]
        walk_at "m"
      refine Ex.cons (Ex1.ite (b := true) ?_ (fun _ => ?_) (fun h => nomatch h))
      · rw [← e9]
        walk_at "m"
      · refine Ex.cons (Ex1.assignO (d := .list (PL pl)) (EvF.callB (xs := [(.d (.list (PL pl)), .b)]) (by walk_at "mKd") (by walk_at "mR") (by walk_at "mG") (by walk_at "mB") (.inr ⟨_, rfl⟩) (EvA.cons (Ev.sub (Ev.name (by walk_at "mMem")) (Ev.sub (Ev.name (by walk_at "mMem")) (Ev.ofF EvF.kInt) (Sub.tuple (by omega) (by omega) t1) (by intro _ _; walk_at "mR")) (Sub.dict (by rw [plD_keys]; exact hnd) (by rw [plD_look, hpl]; rfl)) (by intro _ _; walk_at "mR")) EvA.nil (by walk_at "mR")) (CallB.listL (by rw [sizeLine_is]; omega) (.inr (still_PL _)))) rfl (by walk_at "mPut") (by walk_at "mLoc") (by walk_at "mR") (show Ex _ _ _ _ _ _ from ?_))
        walk_at "m"
        exact ⟨_, by rw [hfs, show go (PMf pm) q (.sh x) = pl by show (pm.lookup x).getD [] = pl; rw [hpl]; rfl]⟩
    | root =>
      have t0 : [PyData.str (mkS kRoot)][Int.toNat 0]? = some (.str (mkS kRoot)) := rfl
      refine Ex.cons (Ex1.ite (b := true) ?_ (fun _ => ?_) (fun h => nomatch h))
      · rw [← e1]
        show IsT _ _ _ [("_law_place", _), ("_law_steps", _), ("_law_places_here", _), ("_law_step", some (.d (.tuple [.str (mkS kRoot)]), .c))] _ _
        walk_at "m"
      · refine Ex.cons (Ex1.assignO (d := .list (PL [])) (EvF.listL EvL.nil (by decide)) rfl (by walk_at "mPut") (by walk_at "mLoc") (by walk_at "mR") (show Ex _ _ _ _ _ _ from ?_))
        walk_at "m"
        exact ⟨_, by rw [hfs]; rfl⟩
    | up =>
      have t0 : [PyData.str (mkS kUp)][Int.toNat 0]? = some (.str (mkS kUp)) := rfl
      show Ex _ _ _ [("_law_place", _), ("_law_steps", _), ("_law_places_here", _), ("_law_step", some (.d (.tuple [.str (mkS kUp)]), .c))] _ _
      refine Ex.cons (Ex1.ite (b := false) ?_ (fun h => nomatch h) (fun _ => ?_))
      · rw [← e2]
        walk_at "m"
      refine Ex.cons (Ex1.ite (b := true) ?_ (fun _ => ?_) (fun h => nomatch h))
      · rw [← e3]
        walk_at "m"
      · refine Ex.cons (Ex1.assignO (d := .list (PL q.dropLast)) ?_ rfl (by walk_at "mPut") (by walk_at "mLoc") (by walk_at "mR") (show Ex _ _ _ _ _ _ from ?_))
        · rw [show PL q.dropLast = pyCut none (some (-1)) (PL q) by rw [cut_last]; exact List.map_dropLast ..]
          walk_at "m"
        · walk_at "m"
          exact ⟨_, by rw [hfs]; rfl⟩
    | nm x =>
      have t0 : [PyData.str (mkS kNm), PyData.str (mkS x)][Int.toNat 0]? = some (.str (mkS kNm)) := rfl
      have t1 : [PyData.str (mkS kNm), PyData.str (mkS x)][Int.toNat 1]? = some (.str (mkS x)) := rfl
      show Ex _ _ _ [("_law_place", _), ("_law_steps", _), ("_law_places_here", _), ("_law_step", some (.d (.tuple [.str (mkS kNm), .str (mkS x)]), .c))] _ _
      refine Ex.cons (Ex1.ite (b := false) ?_ (fun h => nomatch h) (fun _ => ?_))
      · rw [← e4]
        walk_at "m"
      refine Ex.cons (Ex1.ite (b := false) ?_ (fun h => nomatch h) (fun _ => ?_))
      · rw [← e5]
        walk_at "m"
      refine Ex.cons (Ex1.ite (b := false) ?_ (fun h => nomatch h) (fun _ => ?_))
      · rw [← e6]
        walk_at "m"
      · refine Ex.cons (Ex1.assignO (d := .list (PL q ++ [.str (mkS x)])) (by walk_at "m") rfl (by walk_at "mPut") (by walk_at "mLoc") (by walk_at "mR") (show Ex _ _ _ _ _ _ from ?_))
        walk_at "m"
        exact ⟨_, by rw [hfs, show PL (go (PMf pm) q (.nm x)) = PL q ++ [.str (mkS x)] from List.map_append ..]⟩
  · obtain ⟨sl, rfl⟩ := hΓ
    rw [List.length_map, List.take_length]
    walk_at "mThn"
    exact Ex.cons (Ex1.retO (by walk_at "mMem") rfl)
theorem ready_step {m : List (List Nat × PyData)} {env : Env} {n : Nat} {s : Stp} {Γ : Gm} {p₁ p₂ p₃ p₄ p₅ p₆ p₇ p₈ p₉ p₀ pb : Pos} {k1 k2 k3 : Nat} (hnd : (m.map (·.1)).Nodup) (hm : (("step" : Str), (some (.d (stD s), .c) : Slot)) ∈ Γ) (hp : (("places" : Str), (some (.d (dictD m), .b) : Slot)) ∈ Γ) :
    IsT T n env Γ (.BoolOp .And [.Compare (.Subscript (.Name "step" p₁) (.Constant (.int 0) k1 p₂) p₃) [.Eq] [.Constant (.str "share") k2 p₄] p₅, .Compare (.Subscript (.Name "step" p₆) (.Constant (.int 1) k3 p₇) p₈) [.NotIn] [.Name "places" p₉] p₀] pb) (lacks m s) := by
  have e9 : (decide (kSh = (Str.ofString "share").cps.toList)) = true := by decide +kernel
  have key : ∀ (k : List Nat) (its : List PyData), stD s = .tuple its → its[Int.toNat 0]? = some (.str (mkS k)) → IsT T n env Γ (.Compare (.Subscript (.Name "step" p₁) (.Constant (.int 0) k1 p₂) p₃) [.Eq] [.Constant (.str "share") k2 p₄] p₅) (decide (k = (Str.ofString "share").cps.toList)) := fun k its h1 h2 => by
    rw [h1] at hm
    exact IsT.cmp (Ev.sub (Ev.name hm) (Ev.ofF EvF.kInt) (Sub.tuple (by omega) (by omega) h2) (by intro _ _; walk_at "mR")) (Ev.ofF EvF.kS) Cmp.eqL (by walk_at "mR")
  cases s with
  | sh x =>
    have h := key kSh _ rfl rfl
    rw [e9] at h
    have e : lacks m (.sh x) = (true && (!(m.lookup x).isSome && true)) := by simp [lacks]
    rw [e]
    refine IsT.and h (fun _ => IsT.and ?_ fun _ => IsT.andNil)
    exact IsT.cmp (Ev.sub (Ev.name hm) (Ev.ofF EvF.kInt) (Sub.tuple (by omega) (by omega) rfl) (by intro _ _; walk_at "mR")) (Ev.name hp) (Cmp.ninD hnd) (by walk_at "mR")
  | root =>
    have h := key kRoot _ rfl rfl
    rw [show (decide (kRoot = (Str.ofString "share").cps.toList)) = false by decide +kernel] at h
    rw [show lacks m (Stp.root) = (false && true) from rfl]
    exact IsT.and h (fun h => nomatch h)
  | up =>
    have h := key kUp _ rfl rfl
    rw [show (decide (kUp = (Str.ofString "share").cps.toList)) = false by decide +kernel] at h
    rw [show lacks m (Stp.up) = (false && true) from rfl]
    exact IsT.and h (fun h => nomatch h)
  | nm x =>
    have h := key kNm _ rfl rfl
    rw [show (decide (kNm = (Str.ofString "share").cps.toList)) = false by decide +kernel] at h
    rw [show lacks m (Stp.nm x) = (false && true) from rfl]
    exact IsT.and h (fun h => nomatch h)
theorem need_shares_spec {ss : List Stp} {m : List (List Nat × PyData)} (hnd : (m.map (·.1)).Nodup) (hsh : ∀ y, .sh y ∈ ss → (m.lookup y).isSome = true) : Fun T 1 "need_shares" [.d (.list (ss.map stD)), .d (dictD m)] .none := by
  refine Fun.defK G ["steps", "places"] ["step"] (by k_is) (by k_is) (by k_is) (by walk_at "mBinds") (Prm.b (Prm.b Prm.nil)) (by rfl) (by rfl) ⟨rfl, rfl, rfl⟩ (fun env he => ?_)
  walk_at "mDef"
  refine Ex.cons (Ex1.forI (items := ss.map stD) (fl := .b) (by walk_at "mItr") (by simp) (by walk_at "mLoc")
    (fun i Γ => ∃ sl, Γ = ([("steps", some (.d (.list (ss.map stD)), .b)), ("places", some (.d (dictD m), .b)), ("step", sl)] : Gm)) ⟨_, rfl⟩ (fun i d Γ hd hΓ => ?_) (fun Γ hΓ => ?_))
  · obtain ⟨sl, rfl⟩ := hΓ
    obtain ⟨st, hst, rfl⟩ : ∃ st, ss[i]? = some st ∧ d = stD st := get_map hd
    refine ⟨.c, _, .inr ⟨rfl, still_st st⟩, by walk_at "mPut", ?_⟩
    refine Ex.cons (Ex1.ite (ready_step G (s := st) hnd (by walk_at "mMem") (by walk_at "mMem")) (fun h => ?_) (fun _ => ?_))
    · cases st with
      | sh x =>
        have h' : (!(m.lookup x).isSome) = true := h
        rw [hsh x (List.mem_of_getElem? hst)] at h'; cases h'
      | _ => cases h
    · refine Ex.nil (show Ex _ _ _ _ _ _ from Ex.nil ?_)
      exact ⟨_, rfl⟩
  · obtain ⟨sl, rfl⟩ := hΓ
    refine (show Ex _ _ _ _ _ _ from Ex.nil ?_)
    rfl
theorem is_ready_spec {ss : List Stp} {pm : PM} (hnd : (pm.map (·.1)).Nodup) : Fun T 1 "is_ready" [.d (.list (ss.map stD)), .d (dictD (plD pm))] (.bool (ready pm ss)) := by
  refine Fun.defK G ["steps", "places"] ["step"] (by k_is) (by k_is) (by k_is) (by walk_at "mBinds") (Prm.b (Prm.b Prm.nil)) (by rfl) (by rfl) ⟨rfl, rfl, rfl⟩ (fun env he => ?_)
  walk_at "mDef"
  refine Ex.cons (Ex1.forI (items := ss.map stD) (fl := .b) (by walk_at "mItr") (by simp) (by walk_at "mLoc")
    (fun i Γ => ready pm (ss.take i) = true ∧ ∃ sl, Γ = ([("steps", some (.d (.list (ss.map stD)), .b)), ("places", some (.d (dictD (plD pm)), .b)), ("step", sl)] : Gm)) ⟨rfl, _, rfl⟩ (fun i d Γ hd hΓ => ?_) (fun Γ hΓ => ?_))
  · obtain ⟨hr, sl, rfl⟩ := hΓ
    obtain ⟨st, hst, rfl⟩ : ∃ st, ss[i]? = some st ∧ d = stD st := get_map hd
    refine ⟨.c, _, .inr ⟨rfl, still_st st⟩, by walk_at "mPut", ?_⟩
    have hlk : ∀ x, ((plD pm).lookup x).isSome = (pm.lookup x).isSome := fun x => by rw [plD_look, Option.isSome_map]
    have hb : lacks (plD pm) st = !rdy pm st := by
      cases st with
      | sh x => show (!((plD pm).lookup x).isSome) = !(pm.lookup x).isSome; rw [hlk]
      | _ => rfl
    refine Ex.cons (Ex1.ite (ready_step G (s := st) (by rw [plD_keys]; exact hnd) (by walk_at "mMem") (by walk_at "mMem")) (fun h => ?_) (fun h => ?_))
    · rw [hb] at h
      refine Ex.cons (Ex1.ret (d := .bool false) EvF.kBool ?_)
      show PyData.bool false = PyData.bool (ready pm ss)
      congr 1
      refine (Bool.eq_false_iff.mpr fun q => ?_).symm
      have := List.all_eq_true.mp q st (List.mem_of_getElem? hst)
      rw [this] at h; cases h
    · rw [hb] at h
      refine Ex.nil (show Ex _ _ _ _ _ _ from Ex.nil ?_)
      refine ⟨?_, _, rfl⟩
      unfold ready at hr ⊢
      rw [List.take_succ, hst, List.all_append, hr]
      simpa using h
  · obtain ⟨hr, sl, rfl⟩ := hΓ
    rw [List.length_map, List.take_length] at hr
    refine (show Ex _ _ _ _ _ _ from Ex.cons (Ex1.ret (d := .bool true) EvF.kBool ?_))
    show PyData.bool true = PyData.bool (ready pm ss)
    rw [hr]
end
noncomputable abbrev rowD (r : Row) : PyData := .tuple [.str (mkS r.1), .list (r.2.map stD)]
noncomputable def tabD (tab : Tab) : List (List Nat × PyData) := tab.map fun q => (q.1, .str (mkS q.2))
theorem tabD_keys (tab : Tab) : (tabD tab).map (·.1) = tab.map (·.1) := by unfold tabD; rw [List.map_map]; rfl
theorem tabD_look (tab : Tab) (x : List Nat) : (tabD tab).lookup x = (tab.lookup x).map fun l => .str (mkS l) := lookup_map (fun l => PyData.str (mkS l)) tab x
noncomputable abbrev shF (names : List (List Nat)) (pm : PM) : List (Str × PyData) := [("order", .list (PL names)), ("places", dictD (plD pm))]
noncomputable def rowFst : PyData → PyData
  | .tuple (d :: _) => d
  | d => d
theorem rows_fst (rows : List Row) : List.map rowFst (List.filter (fun _ => true) (rows.map rowD)) = PL (rows.map (·.1)) := by
  rw [List.filter_eq_self.mpr (fun _ _ => rfl), List.map_map, PL, List.map_map]; rfl
theorem rowsOf_at {tab : Tab} {i : Nat} {q : List Nat × List Nat} (h : tab[i]? = some q) : (rowsOf (tab.take (i + 1))).map rowD = (rowsOf (tab.take i)).map rowD ++ [rowD (q.1, stepsOf q.2)] := by
  unfold rowsOf
  rw [List.take_succ, h]
  simp
local macro_rules | `(tactic| walk_at "mC") => `(tactic| (with_reducible assumption))
section
variable {T : St} (G : GK T)
include G
theorem shares_cls : ClsOk T 148 := by
  refine ⟨?_, ?_, ?_, ?_, ?_⟩ <;> rw [G.k] <;> k_is
theorem at_places {n : Nat} {env : Env} {Γ : Gm} {fl : Fl} {x : Str} {p₁ p₂ : Pos} {names : List (List Nat)} {pm : PM} (hm : (x, some (.i 148 (shF names pm), fl)) ∈ Γ) : Ev T n env Γ (.Attribute (.Name x p₁) "places" p₂) (.d (dictD (plD pm))) fl :=
  Ev.attr (shares_cls G) (Ev.name hm) (by rw [G.k]; k_is) rfl
theorem place_spec {names : List (List Nat)} {pm : PM} {x : List Nat} {p : List (List Nat)} (hnd : (pm.map (·.1)).Nodup) (hx : pm.lookup x = some p) (hp : p.length ≤ 100000) : Calls T 1 138 [.i 148 (shF names pm), .d (.str (mkS x))] (.list (PL p)) ∧ ∃ fd, FnAt T 138 fd := by
  have hnd' : ((plD pm).map (·.1)).Nodup := by rw [plD_keys]; exact hnd
  have hlk : (plD pm).lookup x = some (.list (PL p)) := by rw [plD_look, hx]; rfl
  refine Calls.defK G ["self", "name"] [] (by k_is) (by k_is) (by walk_at "mBinds") (Prm.b (Prm.c rfl Prm.nil)) (by rfl) (by rfl) ⟨rfl, rfl, rfl⟩ (fun env he => ?_)
  walk_at "mDef"
  refine Ex.cons (Ex1.ite (b := false) ?_ (fun h => nomatch h) (fun _ => ?_))
  · rw [show false = !((plD pm).lookup x).isSome by rw [hlk]; rfl]
    exact IsT.cmp (Ev.name (by walk_at "mMem")) (at_places G (by walk_at "mMem")) (Cmp.ninD hnd') (by walk_at "mR")
  refine Ex.nil (show Ex _ _ _ _ _ _ from ?_)
  refine Ex.cons (Ex1.ret (d := .list (PL p)) ?_ rfl)
  exact EvF.callB (xs := [(.d (.list (PL p)), .b)]) (by walk_at "mKd") (by walk_at "mR") (by walk_at "mG") (by walk_at "mB") (.inr ⟨_, rfl⟩) (EvA.cons (Ev.sub (at_places G (by walk_at "mMem")) (Ev.name (by walk_at "mMem")) (Sub.dict hnd' hlk) (by intro _ _; walk_at "mR")) EvA.nil (by walk_at "mR")) (CallB.listL (by rw [sizeLine_is, List.length_map]; omega) (.inr (still_PL _)))
theorem init_spec {tab : Tab} {ref : List Nat → List (List Nat)} {rk : List Nat → Nat} (hA : Acy ref rk (rowsOf tab)) (hl : ∀ x l, (x, l) ∈ tab → okLine l ∧ l.length ≤ 10000 ∧ (stepsOf l).length ≤ 1000) (hr : ∀ x ∈ tab.map (·.1), (ref x).length ≤ 10000) (ht : tab.length ≤ 1000) :
    Inits T 4 124 148 [.d (dictD (tabD tab))] (shF (tab.map (·.1)) (loopF tab.length (rowsOf tab) [])) := by
  have c := shares_cls G
  have hnd : (tab.map (·.1)).Nodup := by rw [← rowsOf_keys]; exact hA.nodup
  have hnd' : ((tabD tab).map (·.1)).Nodup := by rw [tabD_keys]; exact hnd
  have hrl : (rowsOf tab).length = tab.length := List.length_map ..
  refine Inits.defK G "self" ["table"] ["rows", "name", "row", "left"] (by k_is) (by k_is) (by walk_at "mBinds") (Prm.b Prm.nil) (by rfl) (by rfl) ⟨rfl, rfl, rfl⟩ (fun a env he => ?_)
  walk_at "mDef"
  refine Ex.cons (Ex1.assignO (d := .list []) (EvF.listL EvL.nil (by decide)) rfl (by walk_at "mPut") (by walk_at "mLoc") (by walk_at "mR") (show Ex _ _ _ _ _ _ from ?_))
  refine Ex.cons (Ex1.forI (items := (tabD tab).map fun p => .str (mkS p.1)) (fl := .b) (Itr.dict (Ev.name (by walk_at "mMem")) hnd' (by intro _; walk_at "mR")) (by simp) (by walk_at "mLoc")
    (fun i Γ => ∃ sl, Γ = ([("self", some (.i 148 [], .s (a, none))), ("table", some (.d (dictD (tabD tab)), .b)), ("rows", some (.d (.list ((rowsOf (tab.take i)).map rowD)), .o)), ("name", sl), ("row", none), ("left", none)] : Gm)) ⟨_, rfl⟩ (fun i d Γ hd hΓ => ?_) (fun Γ hΓ => ?_))
  · obtain ⟨sl, rfl⟩ := hΓ
    obtain ⟨q, hq, rfl⟩ : ∃ q, tab[i]? = some q ∧ d = .str (mkS q.1) := by
      unfold tabD at hd
      rw [List.map_map, List.getElem?_map] at hd
      obtain ⟨q, h1, h2⟩ := Option.map_eq_some_iff.mp hd
      exact ⟨q, h1, h2.symm⟩
    refine ⟨.c, _, .inr ⟨rfl, rfl⟩, by walk_at "mPut", ?_⟩
    have hqm := List.mem_of_getElem? hq
    obtain ⟨l1, l2, l3⟩ := hl q.1 q.2 hqm
    have hso := steps_of_ok G (path := q.2) (by omega) l1
    have hlk : (tabD tab).lookup q.1 = some (.str (mkS q.2)) := by rw [tabD_look, lookup_nodup hnd (a := q.2) hqm]; rfl
    refine Ex.cons (Ex1.append (d := rowD (q.1, stepsOf q.2)) (by walk_at "mMem") (Ev.ofF (EvF.tupleL (EvL.cons (Ev.name (by walk_at "mMem")) (EvL.cons (Ev.ofF (EvF.fn (xs := [(.d (.str (mkS q.2)), .b)]) (by walk_at "mKd") (by walk_at "mR") (EvA.cons (Ev.sub (Ev.name (by walk_at "mMem")) (Ev.name (by walk_at "mMem")) (Sub.dict hnd' hlk) (by intro _ _; walk_at "mR")) EvA.nil (by walk_at "mR")) hso (by omega))) EvL.nil (by walk_at "mR")) (by walk_at "mR")) (by rw [sizeLine_is]; simp))) (by walk_at "mPut") ?_ (by walk_at "mR") (by walk_at "mR") (by walk_at "mR") (by walk_at "mR") (show Ex _ _ _ _ _ _ from ?_))
    · rw [sizeLine_is, List.length_map]
      unfold rowsOf
      rw [List.length_map, List.length_take]; omega
    · exact Ex.nil ⟨_, by rw [rowsOf_at hq]⟩
  obtain ⟨sl, rfl⟩ := hΓ
  rw [show ((tabD tab).map fun p => PyData.str (mkS p.1)).length = tab.length by simp [tabD], List.take_length]
  refine (show Ex _ _ _ _ _ _ from ?_)
  refine Ex.drop (x := "name") (by walk_at "mPut") ?_
  refine Ex.freeze (x := "rows") (by walk_at "mMem") (by walk_at "mPut") ?_
  refine Ex.cons (Ex1.forI (items := (rowsOf tab).map rowD) (fl := .c) (Itr.list (Ev.name (by walk_at "mMem")) (by intro _; walk_at "mR")) (by simp) (by walk_at "mLoc")
    (fun i Γ => ∃ sl, Γ = ([("self", some (.i 148 [], .s (a, none))), ("table", some (.d (dictD (tabD tab)), .b)), ("rows", some (.d (.list ((rowsOf tab).map rowD)), .c)), ("name", none), ("row", sl), ("left", none)] : Gm)) ⟨_, rfl⟩ (fun i d Γ hd hΓ => ?_) (fun Γ hΓ => ?_))
  · obtain ⟨sl, rfl⟩ := hΓ
    obtain ⟨⟨x, ss⟩, hq, rfl⟩ : ∃ q, (rowsOf tab)[i]? = some q ∧ d = rowD q := get_map hd
    refine ⟨.c, _, .inl rfl, by walk_at "mPut", ?_⟩
    have hns := need_shares_spec G (m := tabD tab) (ss := ss) hnd' (fun y hy => by
      rw [tabD_look, Option.isSome_map]
      have := (hA.sh x ss (List.mem_of_getElem? hq) y hy).1
      rw [rowsOf_keys] at this
      exact lookup_some this)
    refine Ex.cons (Ex1.expr (d := .none) (EvF.fn (xs := [(.d (.list (ss.map stD)), .c), (_, .b)]) (by walk_at "mKd") (by walk_at "mR") (EvA.cons (Ev.sub (Ev.name (show _ ∈ _ from by walk_at "mMem")) (Ev.ofF EvF.kInt) (Sub.tuple (xs := [.str (mkS x), .list (ss.map stD)]) (by omega) (by omega) rfl) (by intro _ _; walk_at "mR")) (EvA.cons (Ev.name (by walk_at "mMem")) EvA.nil (by walk_at "mR")) (by walk_at "mR")) hns (by omega)) (by walk_at "mR") (show Ex _ _ _ _ _ _ from ?_))
    exact Ex.nil ⟨_, rfl⟩
  obtain ⟨sl, rfl⟩ := hΓ
  refine (show Ex _ _ _ _ _ _ from ?_)
  refine Ex.drop (x := "row") (by walk_at "mPut") ?_
  refine Ex.cons (Ex1.setA (o := none) (d := .list (PL (tab.map (·.1)))) c (EvF.cast (EvF.comp (Γv := []) (p := fun _ => true) (f := rowFst) (items := (rowsOf tab).map rowD) (fl := .c) (Itr.list (Ev.name (by walk_at "mMem")) (by intro _; walk_at "mR")) (okComp_ok he rfl rfl) (by intro q hq; cases hq) (okNames_ok rfl) (by rw [sizeLine_is, List.length_map]; omega) (fun _ _ _ _ => rfl) ?_) (congrArg PyData.list (by rw [rows_fst, rowsOf_keys]))) (by simp) (by walk_at "mMem") rfl (by rw [G.k]; k_is) (by simp) (by walk_at "mPut") (by walk_at "mR") (show Ex _ _ _ _ _ _ from ?_))
  · intro C cl d hd _
    obtain ⟨q, _, rfl⟩ := List.mem_map.mp hd
    exact Ev.still (Ev.sub (Ev.name List.mem_cons_self) (Ev.ofF EvF.kInt) (Sub.tuple (xs := [.str (mkS q.1), .list (q.2.map stD)]) (by omega) (by omega) rfl) (by intro _ _; walk_at "mR")) rfl
  have hgn : env.kindOf gN = none := by unfold Env.kindOf; rw [he]; rfl
  have one := one_s
  refine Ex.cons (Ex1.setG (d := .dict []) (o' := some "places") c EvF.dict0 (.inr ⟨rfl, rfl, rfl, hgn, one _ _ _ _ _ _ (by simp) (by simp) (by simp) (by simp) (by simp)⟩) (by walk_at "mMem") rfl (by rw [G.k]; k_is) (by simp) (by walk_at "mPut") (by walk_at "mR") (show Ex _ _ _ _ _ _ from ?_))
  refine Ex.cons (Ex1.whil (fun k Γ => ∃ rows pm, Inv ref (rowsOf tab) rows pm ∧ loopF k rows pm = loopF tab.length (rowsOf tab) [] ∧ rows.length ≤ k ∧
    Γ = ([("self", some (.i 148 (shF (tab.map (·.1)) pm), .s (a, some "places"))), ("table", some (.d (dictD (tabD tab)), .b)), ("rows", some (.d (.list (rows.map rowD)), .c)), ("name", none), ("row", none), ("left", none)] : Gm)) tab.length ⟨rowsOf tab, [], inv0 hA, rfl, by omega, rfl⟩ (fun k Γ hΓ => ?_))
  obtain ⟨rows, pm, I, hlf, hk, rfl⟩ := hΓ
  have hlen := I.len
  have hrows : (rows.map rowD).length = rows.length := List.length_map ..
  refine ⟨decide ((rows.map rowD).length > (0 : Int)), by walk_at "m", fun hb => ?_, fun hb => ?_⟩
  · have hne : rows ≠ [] := by
      rintro rfl
      simp at hb
    refine Ex.cons (Ex1.assignO (d := .list []) (EvF.listL EvL.nil (by decide)) rfl (by walk_at "mPut") (by walk_at "mLoc") (by walk_at "mR") (show Ex _ _ _ _ _ _ from ?_))
    refine Ex.cons (Ex1.forI (items := rows.map rowD) (fl := .c) (Itr.list (Ev.name (by walk_at "mMem")) (by intro _; walk_at "mR")) (by simp) (by walk_at "mLoc")
      (fun i Γ => ∃ pm' left sl, passF (rows.drop i) pm' left = passF rows pm [] ∧ Inv ref (rowsOf tab) (left ++ rows.drop i) pm' ∧ (∀ v z, sl ≠ some (v, .s z)) ∧
        Γ = ([("self", some (.i 148 (shF (tab.map (·.1)) pm'), .s (a, some "places"))), ("table", some (.d (dictD (tabD tab)), .b)), ("rows", some (.d (.list (rows.map rowD)), .c)), ("name", none), ("row", sl), ("left", some (.d (.list (left.map rowD)), .o))] : Gm)) ⟨pm, [], _, rfl, I, by simp, rfl⟩ (fun i d Γ hd hΓ => ?_) (fun Γ hΓ => ?_))
    · obtain ⟨pm', left, sl, hpf, I', hsl, rfl⟩ := hΓ
      obtain ⟨⟨x, ss⟩, hq, rfl⟩ : ∃ q, rows[i]? = some q ∧ d = rowD q := get_map hd
      have hdr : rows.drop i = (x, ss) :: rows.drop (i + 1) := by
        obtain ⟨hi, e⟩ := List.getElem?_eq_some_iff.mp hq
        rw [List.drop_eq_getElem_cons hi, e]
      rw [hdr] at hpf I'
      refine ⟨.c, _, .inl rfl, by walk_at "mPut", ?_⟩
      have hm0 : (x, ss) ∈ rowsOf tab := I'.sub _ (by simp)
      have hndp : (pm'.map (·.1)).Nodup := (List.nodup_append.mp I'.nodup).1
      have hndq : ((plD pm').map (·.1)).Nodup := by rw [plD_keys]; exact hndp
      have hssl : ss.length ≤ 1000 := by
        obtain ⟨q, hq', e⟩ := List.mem_map.mp hm0
        cases e
        exact (hl q.1 q.2 hq').2.2
      have hBp : ∀ y q, (y, q) ∈ pm' → q.length ≤ 100000 := fun y q hy => by
        have h1 := I'.keys y (List.mem_map_of_mem (f := fun q : List Nat × List (List Nat) => q.1) hy)
        rw [rowsOf_keys] at h1
        have := hr y h1
        rw [I'.val y q hy]; omega
      have hlen' := I'.len
      have hleft : (left.map rowD).length = left.length := List.length_map ..
      simp only [List.length_append, List.length_cons] at hlen'
      have hird := is_ready_spec G (ss := ss) (pm := pm') hndp
      have hro : ∀ p₁ p₂ p₃ k₁, Ev T 3 env [("self", some (.i 148 (shF (tab.map (·.1)) pm'), .s (a, some "places"))), ("table", some (.d (dictD (tabD tab)), .b)), ("rows", some (.d (.list (rows.map rowD)), .c)), ("name", none), ("row", some (.d (rowD (x, ss)), .c)), ("left", some (.d (.list (left.map rowD)), .o))] (.Subscript (.Name "row" p₁) (.Constant (.int 1) k₁ p₂) p₃) (.d (.list (ss.map stD))) .c := fun p₁ p₂ p₃ k₁ =>
        Ev.sub (Ev.name (by walk_at "mMem")) (Ev.ofF EvF.kInt) (Sub.tuple (xs := [.str (mkS x), .list (ss.map stD)]) (by omega) (by omega) rfl) (by intro _ _; walk_at "mR")
      refine Ex.cons (Ex1.ite (b := ready pm' ss) ?_ (fun hrd => ?_) (fun hrd => ?_))
      · exact IsT.bool (Ev.ofF (EvF.fn (xs := [(.d (.list (ss.map stD)), .c), (_, _)]) (by walk_at "mKd") (by walk_at "mR") (EvA.cons (hro _ _ _ _) (EvA.cons (at_places G (by walk_at "mMem")) EvA.nil (by walk_at "mR")) (by walk_at "mR")) hird (by omega))) (by intro _; walk_at "mR")
      · obtain ⟨hx, hv, I''⟩ := I'.put hA hrd
        have hf := followed_spec G (p := []) hndp hrd hBp (by simp) (by omega)
        refine Ex.cons (Ex1.setSelf (fk := .c) (m := plD pm') (k := x) (d := .list (PL (ss.foldl (go (PMf pm')) []))) (fs := shF (tab.map (·.1)) pm') (fs' := shF (tab.map (·.1)) (pm' ++ [(x, ss.foldl (go (PMf pm')) [])])) c (by walk_at "mMem") rfl (show (["order", "places"] : List Str).Nodup by decide +kernel) ?_ (by rw [G.k]; k_is) (one _ _ _ _ _ _ (by simp) (by simp) (by simp) (by simp) (by simp)) ?_ ?_ hndq ?_ ?_ (by walk_at "mPut") (by walk_at "mR") (show Ex _ _ _ _ _ _ from ?_))
        · rw [show plD pm' ++ [(x, PyData.list (PL (ss.foldl (go (PMf pm')) [])))] = plD (pm' ++ [(x, ss.foldl (go (PMf pm')) [])]) by unfold plD; rw [List.map_append]; rfl]
          exact .there (by decide) .here
        · exact Ev.ofF (EvF.fn (xs := [(.d (.list (PL [])), .c), (.d (.list (ss.map stD)), .c), (_, _)]) (by walk_at "mKd") (by walk_at "mR") (EvA.cons (Ev.ofF (EvF.listL EvL.nil (by decide))) (EvA.cons (hro _ _ _ _) (EvA.cons (at_places G (by walk_at "mMem")) EvA.nil (by walk_at "mR")) (by walk_at "mR")) (by walk_at "mR")) hf (by omega))
        · exact Ev.sub (Ev.name (show _ ∈ _ from by walk_at "mMem")) (Ev.ofF EvF.kInt) (Sub.tuple (xs := [.str (mkS x), .list (ss.map stD)]) (by omega) (by omega) rfl) (by intro _ _; walk_at "mR")
        · rw [plD_look, lookup_none hx]; rfl
        · rw [sizeLine_is]
          unfold plD
          rw [List.length_map]; omega
        · exact Ex.nil (show Ex _ _ _ _ _ _ from Ex.nil ⟨_, left, some (.d (rowD (x, ss)), .c), by rw [← hpf, passF_pos hrd], I'', by simp, rfl⟩)
      · refine Ex.cons (Ex1.append (d := rowD (x, ss)) (by walk_at "mMem") (Ev.name (by walk_at "mMem")) (by walk_at "mPut") (by rw [sizeLine_is]; omega) (by walk_at "mR") (by walk_at "mR") (by walk_at "mR") (by walk_at "mR") (show Ex _ _ _ _ _ _ from ?_))
        exact Ex.nil (show Ex _ _ _ _ _ _ from Ex.nil ⟨pm', left ++ [(x, ss)], some (.d (rowD (x, ss)), .c), by rw [← hpf, passF_neg hrd], I'.skip, by simp, by rw [List.map_append]; rfl⟩)
    obtain ⟨pm', left, sl, hpf, I', hsl, rfl⟩ := hΓ
    rw [hrows, List.drop_length] at hpf I'
    rw [List.append_nil] at I'
    have hpf' : (pm', left) = passF rows pm [] := hpf
    have hmv := pass_moves hA I hne
    rw [← hpf'] at hmv
    have hlen' := I'.len
    have hleft : (left.map rowD).length = left.length := List.length_map ..
    refine (show Ex _ _ _ _ _ _ from ?_)
    refine Ex.freeze (x := "left") (by walk_at "mMem") (by walk_at "mPut") ?_
    refine Ex.drop (x := "row") (by walk_at "mPut") ?_
    refine Ex.cons (Ex1.ite (b := (((left.map rowD).length : Int) == ((rows.map rowD).length : Int))) (by walk_at "m") (fun h => ?_) (fun _ => ?_))
    · rw [hleft, hrows] at h
      have : (left.length : Int) = rows.length := by simpa using h
      simp only at hmv; omega
    refine Ex.nil (show Ex _ _ _ _ _ _ from ?_)
    refine Ex.cons (Ex1.assignV (Ev.name (by walk_at "mMem")) (by simp) (by walk_at "mPut") (by walk_at "mLoc") (by walk_at "mR") (show Ex _ _ _ _ _ _ from ?_))
    refine Ex.drop (x := "left") (by walk_at "mPut") (Ex.nil ?_)
    simp only at hmv
    obtain ⟨k, rfl⟩ : ∃ k', k = k' + 1 := ⟨k - 1, by have := List.length_pos_iff.mpr hne; omega⟩
    refine ⟨k, by omega, left, pm', I', ?_, by omega, rfl⟩
    rw [← hlf, loopF, ← hpf']
  · have he : rows = [] := by
      cases rows with
      | nil => rfl
      | cons r rows => exact absurd hb (by simp)
    subst he
    rw [loopF_nil] at hlf
    subst hlf
    refine (show Ex _ _ _ _ _ _ from ?_)
    exact Ex.nil ⟨rfl, _, List.mem_cons_self⟩
end
abbrev CN : Addr := 56
abbrev CR : Addr := 68
structure Bad (tab : Tab) (k : Addr) : Prop where
  nd : (tab.map (·.1)).Nodup
  esc : (∃ x l, (x, l) ∈ tab ∧ ¬ okLine l) → k = CB
  sh : (∀ x l, (x, l) ∈ tab → okLine l) → (∃ x l y, (x, l) ∈ tab ∧ .sh y ∈ stepsOf l ∧ y ∉ tab.map (·.1)) → k = CN
  ring : (∀ x l, (x, l) ∈ tab → okLine l) → (∀ x l y, (x, l) ∈ tab → .sh y ∈ stepsOf l → y ∈ tab.map (·.1)) → k = CR ∧ ∀ rk : List Nat → Nat, ¬ ∀ x l, (x, l) ∈ tab → ∀ y, .sh y ∈ stepsOf l → rk y < rk x
theorem notOk {l : List Nat} (h : ¬ okLine l) : ∃ p ∈ splitC 47 l, stepOf p = none := by
  apply Classical.byContradiction
  intro hn
  refine h fun q hq => ?_
  cases e : stepOf q with
  | some _ => rfl
  | none => exact absurd ⟨q, hq, e⟩ hn
structure InvR (rows0 rows : List Row) (pm : PM) : Prop where
  sub : ∀ r ∈ rows, r ∈ rows0
  nodup : (pm.map (·.1) ++ rows.map (·.1)).Nodup
  all : ∀ x ∈ rows0.map (·.1), x ∈ pm.map (·.1) ++ rows.map (·.1)
  ord : ∀ x ss, (x, ss) ∈ rows0 → x ∈ pm.map (·.1) → ∀ y, .sh y ∈ ss → y ∈ pm.map (·.1) ∧ (pm.map (·.1)).idxOf y < (pm.map (·.1)).idxOf x
  keys : ∀ x ∈ pm.map (·.1), x ∈ rows0.map (·.1)
  len : pm.length + rows.length = rows0.length
  B : ∀ y q, (y, q) ∈ pm → q.length ≤ 61 * pm.length
theorem InvR.put {rows0 r left : List Row} {x : List Nat} {ss : List Stp} {pm : PM} (hnd : (rows0.map (·.1)).Nodup) (h61 : ∀ x ss, (x, ss) ∈ rows0 → ss.length ≤ 61) (I : InvR rows0 (left ++ (x, ss) :: r) pm) (hr : ready pm ss = true) :
    x ∉ pm.map (·.1) ∧ InvR rows0 (left ++ r) (pm ++ [(x, ss.foldl (go (PMf pm)) [])]) := by
  have hm : (x, ss) ∈ rows0 := I.sub _ (by simp)
  have hndp := I.nodup
  rw [List.map_append, List.map_cons] at hndp
  have hx : x ∉ pm.map (·.1) := fun hx => by
    have := (List.nodup_append.mp hndp).2.2 x hx x (by simp)
    exact this rfl
  have huniq : ∀ ss', (x, ss') ∈ rows0 → ss' = ss := fun ss' h => by
    have h1 := lookup_nodup hnd h
    have h2 := lookup_nodup hnd hm
    rw [h1] at h2; exact Option.some.inj h2
  have hmapk : (pm ++ [(x, ss.foldl (go (PMf pm)) [])]).map (·.1) = pm.map (·.1) ++ [x] := by rw [List.map_append]; rfl
  refine ⟨hx, ⟨fun q hq => I.sub q (by rcases List.mem_append.mp hq with h | h <;> simp [h]), ?_, fun y hy => ?_, fun y ss' hy hyp z hz => ?_, fun y hy => ?_, ?_, fun y q hq => ?_⟩⟩
  · rw [List.map_append, List.map_append]
    have hperm : (pm.map (·.1) ++ (left.map (·.1) ++ x :: r.map (·.1))).Perm (pm.map (·.1) ++ [x] ++ (left.map (·.1) ++ r.map (·.1))) := by
      rw [List.append_assoc]
      exact List.Perm.append_left _ (List.perm_middle.trans (by simp))
    exact hperm.nodup_iff.mp hndp
  · have := I.all y hy
    simp only [List.map_append, List.map_cons, List.mem_append, List.mem_cons, List.map_nil, List.not_mem_nil, or_false] at this ⊢
    rcases this with h | h | h | h <;> simp [h]
  · rw [hmapk] at hyp ⊢
    rcases List.mem_append.mp hyp with hyp | hyp
    · obtain ⟨h1, h2⟩ := I.ord y ss' hy hyp z hz
      rw [List.idxOf_append, if_pos h1, List.idxOf_append, if_pos hyp]
      exact ⟨List.mem_append_left _ h1, h2⟩
    · have hyx : y = x := List.mem_singleton.mp hyp
      subst hyx
      rw [huniq ss' hy] at hz
      have hzp : z ∈ pm.map (·.1) := by
        obtain ⟨p, hp⟩ := Option.isSome_iff_exists.mp (ready_sh hr hz)
        exact List.mem_map_of_mem (f := fun q : List Nat × List (List Nat) => q.1) (lookup_mem hp)
      rw [List.idxOf_append, if_pos hzp, List.idxOf_append, if_neg hx]
      have := List.idxOf_lt_length_iff.mpr hzp
      exact ⟨List.mem_append_left _ hzp, by omega⟩
  · rw [hmapk] at hy
    rcases List.mem_append.mp hy with hy | hy
    · exact I.keys y hy
    · rw [List.mem_singleton.mp hy]; exact List.mem_map_of_mem (f := fun q : Row => q.1) hm
  · have := I.len
    simp only [List.length_append, List.length_cons, List.length_nil] at this ⊢; omega
  · rw [List.length_append, List.length_singleton]
    rcases List.mem_append.mp hq with hq | hq
    · have := I.B y q hq; omega
    · simp only [List.mem_singleton, Prod.mk.injEq] at hq
      rw [hq.2]
      have h1 := fold_lenW (PMf pm) (61 * pm.length) ss [] (fun z hz => by
        obtain ⟨p, hp⟩ := Option.isSome_iff_exists.mp (ready_sh hr hz)
        unfold PMf; rw [hp]; exact I.B z p (lookup_mem hp)) 0 (by simp)
      have h2 := h61 x ss hm
      omega
theorem InvR.skip {rows0 r left : List Row} {x : List Nat} {ss : List Stp} {pm : PM} (I : InvR rows0 (left ++ (x, ss) :: r) pm) : InvR rows0 ((left ++ [(x, ss)]) ++ r) pm := by
  rw [List.append_assoc]; exact I
theorem invR0 {rows0 : List Row} (hnd : (rows0.map (·.1)).Nodup) : InvR rows0 rows0 [] := ⟨fun _ h => h, by simpa using hnd, fun x hx => by simpa using hx, fun _ _ _ h => (by cases h), fun _ h => (by cases h), by simp, fun _ _ h => (nomatch h)⟩
section
variable {T : St} (G : GK T)
include G
theorem nosh_cls : ExcCls T "NoShare" CN := excCls_of G (by k_is) (by with_unfolding_all rfl)
theorem ring_cls : ExcCls T "Ring" CR := excCls_of G (by k_is) (by with_unfolding_all rfl)
theorem need_shares_bad {ss : List Stp} {m : List (List Nat × PyData)} (hnd : (m.map (·.1)).Nodup) (hbad : ∃ y, .sh y ∈ ss ∧ (m.lookup y).isSome = false) : FunX T 1 "need_shares" [.d (.list (ss.map stD)), .d (dictD m)] CN := by
  refine FunX.defK G ["steps", "places"] ["step"] (by k_is) (by k_is) (by k_is) (by walk_at "mBinds") (Prm.b (Prm.b Prm.nil)) (by rfl) (by rfl) ⟨rfl, rfl, rfl⟩ (fun env outer he => ?_)
  walk_at "mDef"
  refine ExX.cons (ExX1.forI (items := ss.map stD) (fl := .b) (by walk_at "mItr") (by simp) (by walk_at "mLoc")
    (fun i Γ => (∀ y, .sh y ∈ ss.take i → (m.lookup y).isSome = true) ∧ ∃ sl, Γ = ([("steps", some (.d (.list (ss.map stD)), .b)), ("places", some (.d (dictD m), .b)), ("step", sl)] : Gm)) ⟨by simp, _, rfl⟩ (fun i d Γ hd hΓ => ?_) (fun Γ hΓ => ?_))
  · obtain ⟨hbef, sl, rfl⟩ := hΓ
    obtain ⟨st, hst, rfl⟩ : ∃ st, ss[i]? = some st ∧ d = stD st := get_map hd
    refine ⟨.c, _, .inr ⟨rfl, still_st st⟩, by walk_at "mPut", ?_⟩
    refine ExX.cons (ExX1.ite (ready_step G (s := st) hnd (by walk_at "mMem") (by walk_at "mMem")) (fun h => ?_) (fun h => ?_))
    · exact ExX.cons (ExX1.raise (nosh_cls G) (xs := [(.d _, .c)]) (EvA.cons (Ev.ofF EvF.kS) EvA.nil (by walk_at "mR")) (by simp) (by walk_at "mKd") (by walk_at "mR") rfl)
    · refine ExX.nil (show ExX _ _ _ _ _ _ _ from ExX.nil ⟨fun y hy => ?_, _, rfl⟩)
      rw [List.take_succ, hst] at hy
      rcases List.mem_append.mp hy with hy | hy
      · exact hbef y hy
      · have e : .sh y = st := by simpa using hy
        subst e
        have h' : (!(m.lookup y).isSome) = false := h
        simpa using h'
  · obtain ⟨hbef, sl, rfl⟩ := hΓ
    rw [List.length_map, List.take_length] at hbef
    obtain ⟨y, h1, h2⟩ := hbad
    rw [hbef y h1] at h2; cases h2
theorem init_bad {tab : Tab} {k₀ : Addr} (hB : Bad tab k₀) (hl : ∀ x l, (x, l) ∈ tab → l.length ≤ 10000 ∧ (okLine l → (stepsOf l).length ≤ 61)) (ht : tab.length ≤ 50) :
    InitsX T 4 124 148 [.d (dictD (tabD tab))] k₀ := by
  have c := shares_cls G
  have hnd : (tab.map (·.1)).Nodup := hB.nd
  have hnd0 : ((rowsOf tab).map (·.1)).Nodup := by rw [rowsOf_keys]; exact hnd
  have hnd' : ((tabD tab).map (·.1)).Nodup := by rw [tabD_keys]; exact hnd
  have hrl : (rowsOf tab).length = tab.length := List.length_map ..
  refine InitsX.defK G "self" ["table"] ["rows", "name", "row", "left"] (by k_is) (by k_is) (by walk_at "mBinds") (Prm.b Prm.nil) (by rfl) (by rfl) ⟨rfl, rfl, rfl⟩ (fun a env outer he => ?_)
  walk_at "mDef"
  refine ExX.cons1 (Ex1.assignO (d := .list []) (EvF.listL EvL.nil (by decide)) rfl (by walk_at "mPut") (by walk_at "mLoc") (by walk_at "mR") (show ExX _ _ _ _ _ _ _ from ?_))
  refine ExX.cons (ExX1.forI (items := (tabD tab).map fun p => .str (mkS p.1)) (fl := .b) (Itr.dict (Ev.name (by walk_at "mMem")) hnd' (by intro _; walk_at "mR")) (by simp) (by walk_at "mLoc")
    (fun i Γ => (∀ q ∈ tab.take i, okLine q.2) ∧ ∃ sl, Γ = ([("self", some (.i 148 [], .s (a, none))), ("table", some (.d (dictD (tabD tab)), .b)), ("rows", some (.d (.list ((rowsOf (tab.take i)).map rowD)), .o)), ("name", sl), ("row", none), ("left", none)] : Gm)) ⟨by simp, _, rfl⟩ (fun i d Γ hd hΓ => ?_) (fun Γ hΓ => ?_))
  · obtain ⟨hbef, sl, rfl⟩ := hΓ
    obtain ⟨q, hq, rfl⟩ : ∃ q, tab[i]? = some q ∧ d = .str (mkS q.1) := by
      unfold tabD at hd
      rw [List.map_map, List.getElem?_map] at hd
      obtain ⟨q, h1, h2⟩ := Option.map_eq_some_iff.mp hd
      exact ⟨q, h1, h2.symm⟩
    refine ⟨.c, _, .inr ⟨rfl, rfl⟩, by walk_at "mPut", ?_⟩
    have hqm := List.mem_of_getElem? hq
    obtain ⟨l2, l3⟩ := hl q.1 q.2 hqm
    have hlk : (tabD tab).lookup q.1 = some (.str (mkS q.2)) := by rw [tabD_look, lookup_nodup hnd (a := q.2) hqm]; rfl
    by_cases l1 : okLine q.2
    case neg =>
      have hso := steps_of_bad G (path := q.2) (by omega) (notOk l1)
      exact ExX.cons (ExX1.appendX (by walk_at "mMem") (EvX.tuple2 (Ev.name (by walk_at "mMem")) (EvX.call (xs := [(.d (.str (mkS q.2)), .b)]) (by walk_at "mKd") (by walk_at "mR") (EvA.cons (Ev.sub (Ev.name (by walk_at "mMem")) (Ev.name (by walk_at "mMem")) (Sub.dict hnd' hlk) (by intro _ _; walk_at "mR")) EvA.nil (by walk_at "mR")) (.cons .nil) hso (by omega)) (by walk_at "mR")) (by walk_at "mR") (by walk_at "mR") (by walk_at "mR") (by walk_at "mR") (show CB = k₀ from (hB.esc ⟨q.1, q.2, hqm, l1⟩).symm))
    have hso := steps_of_ok G (path := q.2) (by omega) l1
    refine ExX.cons1 (Ex1.append (d := rowD (q.1, stepsOf q.2)) (by walk_at "mMem") (Ev.ofF (EvF.tupleL (EvL.cons (Ev.name (by walk_at "mMem")) (EvL.cons (Ev.ofF (EvF.fn (xs := [(.d (.str (mkS q.2)), .b)]) (by walk_at "mKd") (by walk_at "mR") (EvA.cons (Ev.sub (Ev.name (by walk_at "mMem")) (Ev.name (by walk_at "mMem")) (Sub.dict hnd' hlk) (by intro _ _; walk_at "mR")) EvA.nil (by walk_at "mR")) hso (by omega))) EvL.nil (by walk_at "mR")) (by walk_at "mR")) (by rw [sizeLine_is]; simp))) (by walk_at "mPut") ?_ (by walk_at "mR") (by walk_at "mR") (by walk_at "mR") (by walk_at "mR") (show ExX _ _ _ _ _ _ _ from ?_))
    · rw [sizeLine_is, List.length_map]
      unfold rowsOf
      rw [List.length_map, List.length_take]; omega
    · refine ExX.nil ⟨fun r hr => ?_, some (.d (.str (mkS q.1)), .c), by rw [rowsOf_at hq]⟩
      rw [List.take_succ, hq] at hr
      rcases List.mem_append.mp hr with hr | hr
      · exact hbef r hr
      · have e : r = q := by simpa using hr
        rw [e]; exact l1
  obtain ⟨hok, sl, rfl⟩ := hΓ
  rw [show ((tabD tab).map fun p => PyData.str (mkS p.1)).length = tab.length by simp [tabD], List.take_length] at hok ⊢
  have hok' : ∀ x l, (x, l) ∈ tab → okLine l := fun x l h => hok (x, l) h
  refine (show ExX _ _ _ _ _ _ _ from ?_)
  refine ExX.drop (x := "name") (by walk_at "mPut") ?_
  refine ExX.freeze (x := "rows") (by walk_at "mMem") (by walk_at "mPut") ?_
  refine ExX.cons (ExX1.forI (items := (rowsOf tab).map rowD) (fl := .c) (Itr.list (Ev.name (by walk_at "mMem")) (by intro _; walk_at "mR")) (by simp) (by walk_at "mLoc")
    (fun i Γ => (∀ r ∈ (rowsOf tab).take i, ∀ y, .sh y ∈ r.2 → y ∈ tab.map (·.1)) ∧ ∃ sl, Γ = ([("self", some (.i 148 [], .s (a, none))), ("table", some (.d (dictD (tabD tab)), .b)), ("rows", some (.d (.list ((rowsOf tab).map rowD)), .c)), ("name", none), ("row", sl), ("left", none)] : Gm)) ⟨by simp, _, rfl⟩ (fun i d Γ hd hΓ => ?_) (fun Γ hΓ => ?_))
  · obtain ⟨hbef, sl, rfl⟩ := hΓ
    obtain ⟨⟨x, ss⟩, hq, rfl⟩ : ∃ q, (rowsOf tab)[i]? = some q ∧ d = rowD q := get_map hd
    refine ⟨.c, _, .inl rfl, by walk_at "mPut", ?_⟩
    obtain ⟨⟨x', l⟩, hlm, e⟩ := List.mem_map.mp (List.mem_of_getElem? hq)
    cases e
    by_cases hin : ∀ y, .sh y ∈ stepsOf l → y ∈ tab.map (·.1)
    case neg =>
      obtain ⟨y, hy⟩ := Classical.not_forall.mp hin
      obtain ⟨hy1, hy2⟩ := Classical.not_imp.mp hy
      have hns := need_shares_bad G (m := tabD tab) (ss := stepsOf l) hnd' ⟨y, hy1, by rw [tabD_look, Option.isSome_map, lookup_none hy2]; rfl⟩
      exact ExX.cons (ExX1.exprX (EvX.call (xs := [(.d (.list ((stepsOf l).map stD)), .c), (_, .b)]) (by walk_at "mKd") (by walk_at "mR") (EvA.cons (Ev.sub (Ev.name (show _ ∈ _ from by walk_at "mMem")) (Ev.ofF EvF.kInt) (Sub.tuple (xs := [.str (mkS x'), .list ((stepsOf l).map stD)]) (by omega) (by omega) rfl) (by intro _ _; walk_at "mR")) (EvA.cons (Ev.name (by walk_at "mMem")) EvA.nil (by walk_at "mR")) (by walk_at "mR")) (.cons (.cons .nil)) hns (by omega)) (by walk_at "mR") (show CN = k₀ from (hB.sh hok' ⟨x', l, y, hlm, hy1, hy2⟩).symm))
    have hns := need_shares_spec G (m := tabD tab) (ss := stepsOf l) hnd' (fun y hy => by
      rw [tabD_look, Option.isSome_map]; exact lookup_some (hin y hy))
    generalize hss : stepsOf l = ss at hns hin
    refine ExX.cons1 (Ex1.expr (d := .none) (EvF.fn (xs := [(.d (.list (ss.map stD)), .c), (_, .b)]) (by walk_at "mKd") (by walk_at "mR") (EvA.cons (Ev.sub (Ev.name (show _ ∈ _ from by walk_at "mMem")) (Ev.ofF EvF.kInt) (Sub.tuple (xs := [.str (mkS x'), .list (ss.map stD)]) (by omega) (by omega) rfl) (by intro _ _; walk_at "mR")) (EvA.cons (Ev.name (by walk_at "mMem")) EvA.nil (by walk_at "mR")) (by walk_at "mR")) hns (by omega)) (by walk_at "mR") (show ExX _ _ _ _ _ _ _ from ?_))
    refine ExX.nil ⟨fun r hr => ?_, some (.d (rowD (x', ss)), .c), rfl⟩
    rw [List.take_succ, hq] at hr
    rcases List.mem_append.mp hr with hr | hr
    · exact hbef r hr
    · have e : r = (x', stepsOf l) := by simpa using hr
      rw [e, hss]; exact hin
  obtain ⟨hsh, sl, rfl⟩ := hΓ
  rw [List.length_map, List.take_length] at hsh
  have hring := hB.ring hok' (fun x l y h hy => hsh (x, stepsOf l) (List.mem_map.mpr ⟨(x, l), h, rfl⟩) y hy)
  obtain ⟨rfl, hcyc⟩ := hring
  have h61 : ∀ x ss, (x, ss) ∈ rowsOf tab → ss.length ≤ 61 := fun x ss h => by
    obtain ⟨q, hq, e⟩ := List.mem_map.mp h
    cases e
    exact (hl q.1 q.2 hq).2 (hok' q.1 q.2 hq)
  refine (show ExX _ _ _ _ _ _ _ from ?_)
  refine ExX.drop (x := "row") (by walk_at "mPut") ?_
  refine ExX.cons1 (Ex1.setA (o := none) (d := .list (PL (tab.map (·.1)))) c (EvF.cast (EvF.comp (Γv := []) (p := fun _ => true) (f := rowFst) (items := (rowsOf tab).map rowD) (fl := .c) (Itr.list (Ev.name (by walk_at "mMem")) (by intro _; walk_at "mR")) (okComp_ok he rfl rfl) (by intro q hq; cases hq) (okNames_ok rfl) (by rw [sizeLine_is, List.length_map]; omega) (fun _ _ _ _ => rfl) ?_) (congrArg PyData.list (by rw [rows_fst, rowsOf_keys]))) (by simp) (by walk_at "mMem") rfl (by rw [G.k]; k_is) (by simp) (by walk_at "mPut") (by walk_at "mR") (show ExX _ _ _ _ _ _ _ from ?_))
  · intro C cl d hd _
    obtain ⟨q, _, rfl⟩ := List.mem_map.mp hd
    exact Ev.still (Ev.sub (Ev.name List.mem_cons_self) (Ev.ofF EvF.kInt) (Sub.tuple (xs := [.str (mkS q.1), .list (q.2.map stD)]) (by omega) (by omega) rfl) (by intro _ _; walk_at "mR")) rfl
  have hgn : env.kindOf gN = none := by unfold Env.kindOf; rw [he]; rfl
  have one := one_s
  refine ExX.cons1 (Ex1.setG (d := .dict []) (o' := some "places") c EvF.dict0 (.inr ⟨rfl, rfl, rfl, hgn, one _ _ _ _ _ _ (by simp) (by simp) (by simp) (by simp) (by simp)⟩) (by walk_at "mMem") rfl (by rw [G.k]; k_is) (by simp) (by walk_at "mPut") (by walk_at "mR") (show ExX _ _ _ _ _ _ _ from ?_))
  refine ExX.cons (ExX1.whil (fun k Γ => ∃ rows pm, InvR (rowsOf tab) rows pm ∧ rows.length ≤ k ∧
    Γ = ([("self", some (.i 148 (shF (tab.map (·.1)) pm), .s (a, some "places"))), ("table", some (.d (dictD (tabD tab)), .b)), ("rows", some (.d (.list (rows.map rowD)), .c)), ("name", none), ("row", none), ("left", none)] : Gm)) tab.length ⟨rowsOf tab, [], invR0 hnd0, by omega, rfl⟩ (fun k Γ hΓ => ?_))
  obtain ⟨rows, pm, I, hk, rfl⟩ := hΓ
  have hlen := I.len
  have hrows : (rows.map rowD).length = rows.length := List.length_map ..
  refine ⟨decide ((rows.map rowD).length > (0 : Int)), by walk_at "m", fun hb => ?_, fun hb => ?_⟩
  · have hne : rows ≠ [] := by
      rintro rfl
      simp at hb
    refine ExX.cons1 (Ex1.assignO (d := .list []) (EvF.listL EvL.nil (by decide)) rfl (by walk_at "mPut") (by walk_at "mLoc") (by walk_at "mR") (show ExX _ _ _ _ _ _ _ from ?_))
    refine ExX.cons (ExX1.forI (items := rows.map rowD) (fl := .c) (Itr.list (Ev.name (by walk_at "mMem")) (by intro _; walk_at "mR")) (by simp) (by walk_at "mLoc")
      (fun i Γ => ∃ pm' left sl, InvR (rowsOf tab) (left ++ rows.drop i) pm' ∧ left.length ≤ i ∧ (∀ v z, sl ≠ some (v, .s z)) ∧
        Γ = ([("self", some (.i 148 (shF (tab.map (·.1)) pm'), .s (a, some "places"))), ("table", some (.d (dictD (tabD tab)), .b)), ("rows", some (.d (.list (rows.map rowD)), .c)), ("name", none), ("row", sl), ("left", some (.d (.list (left.map rowD)), .o))] : Gm)) ⟨pm, [], _, I, by simp, by simp, rfl⟩ (fun i d Γ hd hΓ => ?_) (fun Γ hΓ => ?_))
    · obtain ⟨pm', left, sl, I', hli, hsl, rfl⟩ := hΓ
      obtain ⟨⟨x, ss⟩, hq, rfl⟩ : ∃ q, rows[i]? = some q ∧ d = rowD q := get_map hd
      have hdr : rows.drop i = (x, ss) :: rows.drop (i + 1) := by
        obtain ⟨hi, e⟩ := List.getElem?_eq_some_iff.mp hq
        rw [List.drop_eq_getElem_cons hi, e]
      rw [hdr] at I'
      refine ⟨.c, _, .inl rfl, by walk_at "mPut", ?_⟩
      have hm0 : (x, ss) ∈ rowsOf tab := I'.sub _ (by simp)
      have hndp : (pm'.map (·.1)).Nodup := (List.nodup_append.mp I'.nodup).1
      have hndq : ((plD pm').map (·.1)).Nodup := by rw [plD_keys]; exact hndp
      have hssl : ss.length ≤ 61 := h61 x ss hm0
      have hlen0 := I'.len
      have hBp : ∀ y q, (y, q) ∈ pm' → q.length ≤ 100000 := fun y q hy => by
        have := I'.B y q hy
        simp only [List.length_append, List.length_cons] at hlen0
        omega
      have hlen' := I'.len
      have hleft : (left.map rowD).length = left.length := List.length_map ..
      simp only [List.length_append, List.length_cons] at hlen'
      have hird := is_ready_spec G (ss := ss) (pm := pm') hndp
      have hro : ∀ p₁ p₂ p₃ k₁, Ev T 3 env [("self", some (.i 148 (shF (tab.map (·.1)) pm'), .s (a, some "places"))), ("table", some (.d (dictD (tabD tab)), .b)), ("rows", some (.d (.list (rows.map rowD)), .c)), ("name", none), ("row", some (.d (rowD (x, ss)), .c)), ("left", some (.d (.list (left.map rowD)), .o))] (.Subscript (.Name "row" p₁) (.Constant (.int 1) k₁ p₂) p₃) (.d (.list (ss.map stD))) .c := fun p₁ p₂ p₃ k₁ =>
        Ev.sub (Ev.name (by walk_at "mMem")) (Ev.ofF EvF.kInt) (Sub.tuple (xs := [.str (mkS x), .list (ss.map stD)]) (by omega) (by omega) rfl) (by intro _ _; walk_at "mR")
      refine ExX.cons (ExX1.ite (b := ready pm' ss) ?_ (fun hrd => ?_) (fun hrd => ?_))
      · exact IsT.bool (Ev.ofF (EvF.fn (xs := [(.d (.list (ss.map stD)), .c), (_, _)]) (by walk_at "mKd") (by walk_at "mR") (EvA.cons (hro _ _ _ _) (EvA.cons (at_places G (by walk_at "mMem")) EvA.nil (by walk_at "mR")) (by walk_at "mR")) hird (by omega))) (by intro _; walk_at "mR")
      · obtain ⟨hx, I''⟩ := I'.put hnd0 h61 hrd
        have hf := followed_spec G (p := []) hndp hrd hBp (by simp) (by omega)
        refine ExX.cons1 (Ex1.setSelf (fk := .c) (m := plD pm') (k := x) (d := .list (PL (ss.foldl (go (PMf pm')) []))) (fs := shF (tab.map (·.1)) pm') (fs' := shF (tab.map (·.1)) (pm' ++ [(x, ss.foldl (go (PMf pm')) [])])) c (by walk_at "mMem") rfl (show (["order", "places"] : List Str).Nodup by decide +kernel) ?_ (by rw [G.k]; k_is) (one _ _ _ _ _ _ (by simp) (by simp) (by simp) (by simp) (by simp)) ?_ ?_ hndq ?_ ?_ (by walk_at "mPut") (by walk_at "mR") (show ExX _ _ _ _ _ _ _ from ?_))
        · rw [show plD pm' ++ [(x, PyData.list (PL (ss.foldl (go (PMf pm')) [])))] = plD (pm' ++ [(x, ss.foldl (go (PMf pm')) [])]) by unfold plD; rw [List.map_append]; rfl]
          exact .there (by decide) .here
        · exact Ev.ofF (EvF.fn (xs := [(.d (.list (PL [])), .c), (.d (.list (ss.map stD)), .c), (_, _)]) (by walk_at "mKd") (by walk_at "mR") (EvA.cons (Ev.ofF (EvF.listL EvL.nil (by decide))) (EvA.cons (hro _ _ _ _) (EvA.cons (at_places G (by walk_at "mMem")) EvA.nil (by walk_at "mR")) (by walk_at "mR")) (by walk_at "mR")) hf (by omega))
        · exact Ev.sub (Ev.name (show _ ∈ _ from by walk_at "mMem")) (Ev.ofF EvF.kInt) (Sub.tuple (xs := [.str (mkS x), .list (ss.map stD)]) (by omega) (by omega) rfl) (by intro _ _; walk_at "mR")
        · rw [plD_look, lookup_none hx]; rfl
        · rw [sizeLine_is]
          unfold plD
          rw [List.length_map]; omega
        · exact ExX.nil (show ExX _ _ _ _ _ _ _ from ExX.nil ⟨_, left, some (.d (rowD (x, ss)), .c), I'', by omega, by simp, rfl⟩)
      · refine ExX.cons1 (Ex1.append (d := rowD (x, ss)) (by walk_at "mMem") (Ev.name (by walk_at "mMem")) (by walk_at "mPut") (by rw [sizeLine_is]; omega) (by walk_at "mR") (by walk_at "mR") (by walk_at "mR") (by walk_at "mR") (show ExX _ _ _ _ _ _ _ from ?_))
        exact ExX.nil (show ExX _ _ _ _ _ _ _ from ExX.nil ⟨pm', left ++ [(x, ss)], some (.d (rowD (x, ss)), .c), I'.skip, by rw [List.length_append, List.length_singleton]; omega, by simp, by rw [List.map_append]; rfl⟩)
    obtain ⟨pm', left, sl, I', hli, hsl, rfl⟩ := hΓ
    rw [hrows, List.drop_length] at I'
    rw [List.append_nil] at I'
    rw [hrows] at hli
    have hlen' := I'.len
    have hleft : (left.map rowD).length = left.length := List.length_map ..
    refine (show ExX _ _ _ _ _ _ _ from ?_)
    refine ExX.freeze (x := "left") (by walk_at "mMem") (by walk_at "mPut") ?_
    refine ExX.drop (x := "row") (by walk_at "mPut") ?_
    refine ExX.cons (ExX1.ite (b := (((left.map rowD).length : Int) == ((rows.map rowD).length : Int))) (by walk_at "m") (fun h => ?_) (fun h => ?_))
    · exact ExX.cons (ExX1.raise (ring_cls G) (xs := [(.d _, .c)]) (EvA.cons (Ev.ofF EvF.kS) EvA.nil (by walk_at "mR")) (by simp) (by walk_at "mKd") (by walk_at "mR") rfl)
    have hmv : left.length ≠ rows.length := by
      rw [hleft, hrows] at h
      have : ¬ (left.length : Int) = rows.length := by simpa using h
      omega
    refine ExX.nil (show ExX _ _ _ _ _ _ _ from ?_)
    refine ExX.cons1 (Ex1.assignV (Ev.name (by walk_at "mMem")) (by simp) (by walk_at "mPut") (by walk_at "mLoc") (by walk_at "mR") (show ExX _ _ _ _ _ _ _ from ?_))
    refine ExX.drop (x := "left") (by walk_at "mPut") (ExX.nil ?_)
    exact ⟨left.length, by omega, left, pm', I', Nat.le_refl _, rfl⟩
  · have he : rows = [] := by
      cases rows with
      | nil => rfl
      | cons r rows => exact absurd hb (by simp)
    subst he
    exfalso
    refine hcyc (fun x => (pm.map (·.1)).idxOf x) fun x l h y hy => ?_
    have hm : (x, stepsOf l) ∈ rowsOf tab := List.mem_map.mpr ⟨(x, l), h, rfl⟩
    have hx : x ∈ pm.map (·.1) := by
      have := I.all x (List.mem_map_of_mem (f := fun q : Row => q.1) hm)
      simpa using this
    exact (I.ord x (stepsOf l) hm hx y hy).2
end
noncomputable abbrev tMade : List Nat := (Str.ofString "made").cps.toList
noncomputable def tDue (k : Addr) : List Nat := ((if k = CB then (Str.ofString "escape ").cps.toList else []) ++ (if k = CN then (Str.ofString "share ").cps.toList else [])) ++ (if k = CR then (Str.ofString "ring ").cps.toList else []) ++ (Str.ofString "value").cps.toList
section
variable {T : St} (G : GK T)
include G
theorem said_of {tab : Tab} {k : Addr} {b1 b2 b3 : Bool} (hB : Bad tab k) (hl : ∀ x l, (x, l) ∈ tab → l.length ≤ 10000 ∧ (okLine l → (stepsOf l).length ≤ 61)) (ht : tab.length ≤ 50) (B : ExcIn (hd.heap_1 T.w.params) k) (hD : kitCls (hd.heap_1 T.w.params) (.ref k) (.ref k) = some true)
    (h1 : kitOne (hd.heap_1 T.w.params) (.ref k) (.ref CB) = some b1) (h2 : kitOne (hd.heap_1 T.w.params) (.ref k) (.ref CN) = some b2) (h3 : kitOne (hd.heap_1 T.w.params) (.ref k) (.ref CR) = some b3) (h4 : kitOne (hd.heap_1 T.w.params) (.ref k) (.type "ValueError") = some true)
    (hex : exmOne (hd.heap_1 T.w.params) (.ref k) (.ref 31) = some true) :
    CallsS T 6 194 [.d (dictD (tabD tab))] (mkS (((if b1 then (Str.ofString "escape ").cps.toList else []) ++ (if b2 then (Str.ofString "share ").cps.toList else [])) ++ (if b3 then (Str.ofString "ring ").cps.toList else []) ++ (if true then (Str.ofString "value").cps.toList else []))) ∧ ∃ fd, FnAt T 194 fd := by
  have hin := init_bad G hB hl ht
  have l1 : (if b1 then (Str.ofString "escape ").cps.toList else []).length ≤ 10 := by cases b1 <;> decide +kernel
  have l2 : (if b2 then (Str.ofString "share ").cps.toList else []).length ≤ 10 := by cases b2 <;> decide +kernel
  have l3 : (if b3 then (Str.ofString "ring ").cps.toList else []).length ≤ 10 := by cases b3 <;> decide +kernel
  have l4 : (if true then (Str.ofString "value").cps.toList else []).length ≤ 10 := by decide +kernel
  have g1 : T.mg "BadEscape" = some (.ref CB) := G.g _ _ (by k_is)
  have g2 : T.mg "NoShare" = some (.ref CN) := G.g _ _ (by k_is)
  have g3 : T.mg "Ring" = some (.ref CR) := G.g _ _ (by k_is)
  have g4 : T.mg "ValueError" = none := G.g _ _ (by k_is)
  have g5 : T.mb "ValueError" = some (.type "ValueError") := G.bi (by rfl) (by decide +kernel)
  have i1 : T.mg "isinstance" = none := G.g _ _ (by k_is)
  have i2 : T.mb "isinstance" = some (.builtin "isinstance") := G.bi (by rfl) (by decide +kernel)
  have n1 : T.mg "int" = none := G.g _ _ (by k_is)
  have n2 : T.mb "int" = some (.type "int") := G.bi (by rfl) (by decide +kernel)
  refine CallsS.defK (t1 := (if b1 then (Str.ofString "escape ").cps.toList else []) ++ (if b2 then (Str.ofString "share ").cps.toList else [])) G ["_law_table"] ["_law_kinds", "e"] (by k_is) (by k_is) (by walk_at "mBinds") rfl (Prm.b Prm.nil) (by rfl) (by rfl) ⟨rfl, rfl, rfl⟩ rfl (by decide +kernel) (G.g _ _ (by k_is)) hex rfl rfl (by decide +kernel) (by decide +kernel) (fun env he => by walk_at "mR") (fun env he => by walk_at "mR") (fun env he => by walk_at "mR") (fun env he => ?_) (fun env he => ?_) (fun env he => ?_)
  · show EvX T 5 env [("_law_table", some (.d (dictD (tabD tab)), .b)), ("_law_kinds", none), ("e", none)] _ _
    exact EvX.make (xs := [(.d (dictD (tabD tab)), .b)]) (by walk_at "mKd") (by walk_at "mR") (by walk_at "mG") (by rw [G.k]; k_is) (by rw [G.k]; k_is) (by rw [G.k]; k_is) (by rw [G.k]; k_is) (EvA.cons (Ev.name (by walk_at "mMem")) EvA.nil (by walk_at "mR")) hin (by omega)
  · exact EvE.cat (EvE.term G B hD h1 (by walk_at "mKd") i1 i2 (by decide +kernel) (by walk_at "mKd") (by decide +kernel) (.inl g1) (by walk_at "mKd") n1 n2) (EvE.term G B hD h2 (by walk_at "mKd") i1 i2 (by decide +kernel) (by walk_at "mKd") (by decide +kernel) (.inl g2) (by walk_at "mKd") n1 n2) (by rw [sizeLine_is]; omega)
  · exact EvE.cat (EvE.cat (EvE.name (List.mem_cons_self) (by decide +kernel)) (EvE.term G B hD h3 (by walk_at "mKd") i1 i2 (by decide +kernel) (by walk_at "mKd") (by decide +kernel) (.inl g3) (by walk_at "mKd") n1 n2) (by rw [sizeLine_is, List.length_append]; omega)) (EvE.term G B hD h4 (by walk_at "mKd") i1 i2 (by decide +kernel) (by walk_at "mKd") (by decide +kernel) (.inr ⟨g4, g5⟩) (by walk_at "mKd") n1 n2) (by rw [sizeLine_is, List.length_append, List.length_append]; omega)
theorem said_bad {tab : Tab} {k : Addr} (hB : Bad tab k) (hk : k = CB ∨ k = CN ∨ k = CR) (hl : ∀ x l, (x, l) ∈ tab → l.length ≤ 10000 ∧ (okLine l → (stepsOf l).length ≤ 61)) (ht : tab.length ≤ 50) : CallsS T 6 194 [.d (dictD (tabD tab))] (mkS (tDue k)) ∧ ∃ fd, FnAt T 194 fd := by
  rcases hk with rfl | rfl | rfl
  · exact said_of G (b1 := true) (b2 := false) (b3 := false) hB hl ht ⟨by k_is, by k_is, by k_is, by with_unfolding_all rfl, by with_unfolding_all rfl, by with_unfolding_all rfl, by with_unfolding_all rfl⟩ (by with_unfolding_all rfl) (by with_unfolding_all rfl) (by with_unfolding_all rfl) (by with_unfolding_all rfl) (by with_unfolding_all rfl) (by with_unfolding_all rfl)
  · exact said_of G (b1 := false) (b2 := true) (b3 := false) hB hl ht ⟨by k_is, by k_is, by k_is, by with_unfolding_all rfl, by with_unfolding_all rfl, by with_unfolding_all rfl, by with_unfolding_all rfl⟩ (by with_unfolding_all rfl) (by with_unfolding_all rfl) (by with_unfolding_all rfl) (by with_unfolding_all rfl) (by with_unfolding_all rfl) (by with_unfolding_all rfl)
  · exact said_of G (b1 := false) (b2 := false) (b3 := true) hB hl ht ⟨by k_is, by k_is, by k_is, by with_unfolding_all rfl, by with_unfolding_all rfl, by with_unfolding_all rfl, by with_unfolding_all rfl⟩ (by with_unfolding_all rfl) (by with_unfolding_all rfl) (by with_unfolding_all rfl) (by with_unfolding_all rfl) (by with_unfolding_all rfl) (by with_unfolding_all rfl)
theorem said_ok {tab : Tab} {ref : List Nat → List (List Nat)} {rk : List Nat → Nat} (hA : Acy ref rk (rowsOf tab)) (hl : ∀ x l, (x, l) ∈ tab → okLine l ∧ l.length ≤ 10000 ∧ (stepsOf l).length ≤ 1000) (hr : ∀ x ∈ tab.map (·.1), (ref x).length ≤ 10000) (ht : tab.length ≤ 1000) :
    CallsS T 6 194 [.d (dictD (tabD tab))] (mkS tMade) ∧ ∃ fd, FnAt T 194 fd := by
  have hin := init_spec G hA hl hr ht
  have h : Calls T 6 194 [.d (dictD (tabD tab))] (.str (mkS tMade)) ∧ ∃ fd, FnAt T 194 fd := by
    refine Calls.defK G ["_law_table"] ["_law_kinds", "e"] (by k_is) (by k_is) (by walk_at "mBinds") (Prm.b Prm.nil) (by rfl) (by rfl) ⟨rfl, rfl, rfl⟩ (fun env he => ?_)
    walk_at "mDef"
    refine Ex.cons (Ex1.mono (Q := fun f Γ => f = .next ∧ Γ = ([("_law_table", some (.d (dictD (tabD tab)), .b)), ("_law_kinds", none), ("e", none)] : Gm)) (Ex1.tryOk (Ex.cons (Ex1.exprV (Ev.make (xs := [(.d (dictD (tabD tab)), .b)]) (by walk_at "mKd") (by walk_at "mR") (by walk_at "mG") (by rw [G.k]; k_is) (by rw [G.k]; k_is) (by rw [G.k]; k_is) (by rw [G.k]; k_is) (EvA.cons (Ev.name (by walk_at "mMem")) EvA.nil (by walk_at "mR")) hin (by omega)) (by walk_at "mR") (show Ex _ _ _ _ _ _ from Ex.nil ⟨rfl, rfl⟩))) (fun f Γ h => by rw [h.1]; exact ⟨by simp, by simp⟩)) ?_)
    rintro f Γ ⟨rfl, rfl⟩
    refine (show Ex _ _ _ _ _ _ from ?_)
    exact Ex.cons (Ex1.ret EvF.kS rfl)
  exact ⟨.ofF h.1, h.2⟩
end
theorem stM : (Str.ofString "made").cps.toList = tM := by decide +kernel
theorem stS : (Str.ofString "share").cps.toList = tS := by decide +kernel
theorem stE : (Str.ofString "escape").cps.toList = tE := by decide +kernel
theorem poP_snoc (names : List (List Nat)) (c : Int) (k : Nat) : PL (poParts names c (k + 1)) = PL (poParts names c k) ++ [.str (mkS (poPart names c k))] := by unfold poParts PL; rw [List.range_succ]; simp
theorem poS_snoc (names : List (List Nat)) (c : Int) (k : Nat) : (poFlat names c (k + 1)).map stD = (poFlat names c k).map stD ++ (poSteps names c k).map stD := by unfold poFlat; rw [List.range_succ]; simp
local macro_rules | `(tactic| walk_at "mC") => `(tactic| (with_reducible assumption))
section
variable {T : St} (G : GK T)
include G
theorem law_path_of_spec {names : List (List Nat)} {c : Int} (hne : names ≠ []) (hg : ∀ x ∈ names, Gn x) (hnl : names.length ≤ 100) :
    Fun T 5 "_law_path_of" [.d (.int c), .d (.list (PL names))] (.tuple [.str (mkS (poLine names c)), .list ((poAll names c).map stD), .str (mkS (oddTo c (poN c)))]) := by
  have L1 : (PL names).length = names.length := by simp
  have hL0 := List.length_pos_iff.mpr hne
  have hflat : ∀ n, (poFlat names c n).length ≤ n := flat_le (fun k => (po_len hne hg c k).2.1)
  refine Fun.defK G ["_law_cell", "_law_names"] ["_law_parts", "_law_steps", "_law_odd", "_law_k", "_law_kind", "_law_name", "_law_line"] (by k_is) (by k_is) (by k_is) (by walk_at "mBinds") (Prm.c rfl (Prm.b Prm.nil)) (by rfl) (by rfl) ⟨rfl, rfl, rfl⟩ (fun env he => ?_)
  walk_at "mDef"
  refine Ex.cons (Ex1.assignO (d := .list []) (EvF.listL EvL.nil (by decide)) rfl (by walk_at "mPut") (by walk_at "mLoc") (by walk_at "mR") (show Ex _ _ _ _ _ _ from ?_))
  refine Ex.cons (Ex1.assignO (d := .list []) (EvF.listL EvL.nil (by decide)) rfl (by walk_at "mPut") (by walk_at "mLoc") (by walk_at "mR") (show Ex _ _ _ _ _ _ from ?_))
  refine Ex.cons (Ex1.assign (d := .str (mkS tM)) (by rw [← stM]; walk_at "m") (by walk_at "mPut") (by walk_at "mLoc") (by walk_at "mR") (show Ex _ _ _ _ _ _ from ?_))
  refine Ex.cons (Ex1.forI (items := rangeD (c % 6).toNat) (fl := .c) (by walk_at "mItr") (by simp) (by walk_at "mLoc")
    (fun i Γ => ∃ t1 t2 t3, Γ = ([("_law_cell", some (.d (.int c), .c)), ("_law_names", some (.d (.list (PL names)), .b)), ("_law_parts", some (.d (.list (PL (poParts names c i))), .o)), ("_law_steps", some (.d (.list ((poFlat names c i).map stD)), .o)), ("_law_odd", some (.d (.str (mkS (oddTo c i))), .c)), ("_law_k", t1), ("_law_kind", t2), ("_law_name", t3), ("_law_line", none)] : Gm)) ⟨_, _, _, rfl⟩ (fun i d Γ hd hΓ => ?_) (fun Γ hΓ => ?_))
  · obtain ⟨t1, t2, t3, rfl⟩ := hΓ
    obtain ⟨hi, rfl⟩ := rangeD_get hd
    have hi6 : i < 6 := by omega
    refine ⟨.c, _, .inl rfl, by walk_at "mPut", ?_⟩
    have hP := poP_snoc names c i
    have hS := poS_snoc names c i
    have hfl := hflat i
    have hpl := po_len hne hg c i
    have l1 : (PL (poParts names c i)).length ≤ sizeLine := by rw [sizeLine_is]; simp [poParts]; omega
    have l2 : ((poFlat names c i).map stD).length ≤ sizeLine := by rw [List.length_map, sizeLine_is]; omega
    have hkr := kind_range c i
    have hkd : (c / 6 + 5 * (i : Int) * (1 + c % 11)) % 23 = kindP c i := rfl
    refine Ex.cons (Ex1.assign (d := .int (kindP c i)) (by rw [← hkd]; walk_at "m") (by walk_at "mPut") (by walk_at "mLoc") (by walk_at "mR") (show Ex _ _ _ _ _ _ from ?_))
    have hp0 : poPart names c i = if kindP c i < 8 then shareL (poName names c i) (c / 7 % 128) else if oddS c i then 64 :: sixty c else if oddE c i then badL.getD (c / 138 % 3).toNat [] else plainL.getD (kindP c i % 4).toNat [] := rfl
    have hs0 : poSteps names c i = if kindP c i < 8 then [.sh (poName names c i)] else if oddS c i then [] else if oddE c i then [] else plainS.getD (kindP c i % 4).toNat [] := rfl
    have ho0 : oddTo c (i + 1) = if kindP c i < 8 then oddTo c i else if oddS c i then (if oddTo c i = tM then tS else oddTo c i) else if oddE c i then tE else oddTo c i := rfl
    have hoS : oddS c i = ((kindP c i == 8) && ((c % 4 == 1) && true)) := by unfold oddS; rw [Bool.eq_iff_iff]; simp
    have hoE : oddE c i = ((kindP c i == 9) && ((c % 4 == 2) && true)) := by unfold oddE; rw [Bool.eq_iff_iff]; simp
    generalize hkg : kindP c i = kd at hkr hp0 hs0 ho0 hoS hoE hkd ⊢
    refine Ex.cons (Ex1.ite (b := decide (kd < 8)) (by walk_at "m") (fun h => ?_) (fun h => ?_))
    · have h' := of_decide_eq_true h
      rw [if_pos h'] at hp0 hs0 ho0
      have hlt0 : (0 : Int) < ((PL names).length : Int) := by rw [L1]; omega
      have hq0 := Int.emod_nonneg (c / 138 + (i : Int)) (b := ((PL names).length : Int)) (by omega)
      have hq1 := Int.emod_lt_of_pos (c / 138 + (i : Int)) (b := ((PL names).length : Int)) (by omega)
      have hit : (PL names)[Int.toNat ((c / 138 + (i : Int)) % ((PL names).length : Int))]? = some (.str (mkS (poName names c i))) := by
        have hlt : ((c / 138 + (i : Int)) % ((PL names).length : Int)).toNat < names.length := by rw [L1] at hq1 hq0 ⊢; omega
        unfold poName
        rw [List.getElem?_map]
        rw [L1] at hlt ⊢
        simp [List.getD, hlt]
      have hgx := hg _ (poName_mem hne c i)
      generalize poName names c i = x at hit hgx hp0 hs0
      have hsb := law_share_by_spec G (nm := x) (cell := c / 7 % 128) hgx.2.2 (by have := hgx.2.1; omega)
      refine Ex.cons (Ex1.assign (d := .str (mkS x)) (by walk_at "m") (by walk_at "mPut") (by walk_at "mLoc") (by walk_at "mR") (show Ex _ _ _ _ _ _ from ?_))
      refine Ex.cons (Ex1.append (d := stD (.sh x)) (by walk_at "mMem") (Ev.ofF ?_) (by walk_at "mPut") l2 (by walk_at "mR") (by walk_at "mR") (by walk_at "mR") (by walk_at "mR") (show Ex _ _ _ _ _ _ from ?_))
      · show EvF _ _ _ _ _ (.tuple [.str (mkS (Str.ofString "share").cps.toList), .str (mkS x)])
        walk_at "m"
      refine Ex.cons (Ex1.append (d := .str (mkS (shareL x (c / 7 % 128)))) (by walk_at "mMem") (Ev.ofF ?_) (by walk_at "mPut") l1 (by walk_at "mR") (by walk_at "mR") (by walk_at "mR") (by walk_at "mR") (show Ex _ _ _ _ _ _ from ?_))
      · walk_at "m"
      refine Ex.nil (show Ex _ _ _ _ _ _ from Ex.nil ⟨some (.d (.int (i : Int)), .c), some (.d (.int kd), .c), some (.d (.str (mkS x)), .c), ?_⟩)
      rw [hP, hS, ho0, hp0, hs0]; rfl
    have h' := of_decide_eq_false h
    rw [if_neg h'] at hp0 hs0 ho0
    refine Ex.cons (Ex1.ite (b := oddS c i) (by rw [hoS]; walk_at "m") (fun h2 => ?_) (fun h2 => ?_))
    · rw [if_pos h2] at hp0 hs0 ho0
      have e60 : (64 :: sixty c) = (Str.ofString "@").cps.toList ++ (if decide (c / 138 % 2 = 1) then List.replicate 60 115 else []) := by
        rw [s3]; unfold sixty
        by_cases hh : c / 138 % 2 = 1 <;> simp [hh]
      have ei : c / 138 % 2 = (if decide (c / 138 % 2 = 1) then 1 else 0) := by
        by_cases hh : c / 138 % 2 = 1
        · simp [hh]
        · have : c / 138 % 2 = 0 := by omega
          simp [this]
      refine Ex.cons (Ex1.append (d := .str (mkS (64 :: sixty c))) (by walk_at "mMem") (Ev.ofF ?_) (by walk_at "mPut") l1 (by walk_at "mR") (by walk_at "mR") (by walk_at "mR") (by walk_at "mR") (show Ex _ _ _ _ _ _ from ?_))
      · rw [e60]
        refine EvF.bin (f₁ := .c) (f₂ := .c) (Ev.ofF EvF.kS) (Ev.ofF (EvF.bin (f₁ := .c) (f₂ := .c) (Ev.ofF (EvF.bin (f₁ := .c) (f₂ := .c) (Ev.ofF EvF.kS) (Ev.ofF EvF.kInt) Bin.rep60)) (Ev.ofF (d := .int (if decide (c / 138 % 2 = 1) then 1 else 0)) ?_) Bin.repS)) (Bin.catS ?_)
        · rw [← ei]; walk_at "m"
        · rw [sizeLine_is, s3]; split <;> simp
      refine Ex.cons (Ex1.assign (d := .str (mkS (if oddTo c i = tM then tS else oddTo c i))) (EvF.ifExp (c := decide (oddTo c i = tM)) (by rw [← stM]; walk_at "m") (fun q => ?_) (fun q => ?_)) (by walk_at "mPut") (by walk_at "mLoc") (by walk_at "mR") (show Ex _ _ _ _ _ _ from ?_))
      · rw [if_pos (of_decide_eq_true q), ← stS]; walk_at "m"
      · rw [if_neg (of_decide_eq_false q)]; exact Ev.still (Ev.name (by walk_at "mMem")) rfl
      refine Ex.nil (show Ex _ _ _ _ _ _ from Ex.nil (show Ex _ _ _ _ _ _ from Ex.nil ⟨some (.d (.int (i : Int)), .c), some (.d (.int kd), .c), t3, ?_⟩))
      rw [hP, hS, ho0, hp0, hs0]; simp
    rw [if_neg (by rw [h2]; decide)] at hp0 hs0 ho0
    refine Ex.cons (Ex1.ite (b := oddE c i) (by rw [hoE]; walk_at "m") (fun h3 => ?_) (fun h3 => ?_))
    · rw [if_pos h3] at hp0 hs0 ho0
      have hit : [PyData.str (mkS (Str.ofString "~").cps.toList), .str (mkS (Str.ofString "a~94").cps.toList), .str (mkS (Str.ofString "@~1").cps.toList)][Int.toNat (c / 138 % 3)]? = some (.str (mkS (badL.getD (c / 138 % 3).toNat []))) := by
        rw [show (Str.ofString "~").cps.toList = [126] by decide +kernel, show (Str.ofString "a~94").cps.toList = [97, 126, 57, 52] by decide +kernel, show (Str.ofString "@~1").cps.toList = [64, 126, 49] by decide +kernel]
        have : c / 138 % 3 = 0 ∨ c / 138 % 3 = 1 ∨ c / 138 % 3 = 2 := by omega
        rcases this with e | e | e <;> rw [e] <;> rfl
      refine Ex.cons (Ex1.append (d := .str (mkS (badL.getD (c / 138 % 3).toNat []))) (by walk_at "mMem") ?_ (by walk_at "mPut") l1 (by walk_at "mR") (by walk_at "mR") (by walk_at "mR") (by walk_at "mR") (show Ex _ _ _ _ _ _ from ?_))
      · walk_at "m"
      refine Ex.cons (Ex1.assign (d := .str (mkS tE)) (by rw [← stE]; walk_at "m") (by walk_at "mPut") (by walk_at "mLoc") (by walk_at "mR") (show Ex _ _ _ _ _ _ from ?_))
      refine Ex.nil (show Ex _ _ _ _ _ _ from Ex.nil (show Ex _ _ _ _ _ _ from Ex.nil (show Ex _ _ _ _ _ _ from Ex.nil ⟨some (.d (.int (i : Int)), .c), some (.d (.int kd), .c), t3, ?_⟩)))
      rw [hP, hS, ho0, hp0, hs0]; simp
    · rw [if_neg (by rw [h3]; decide)] at hp0 hs0 ho0
      have hit : [PyData.str (mkS (Str.ofString "").cps.toList), .str (mkS (Str.ofString "..").cps.toList), .str (mkS (Str.ofString "a").cps.toList), .str (mkS (Str.ofString "...").cps.toList)][Int.toNat (kd % 4)]? = some (.str (mkS (plainL.getD (kd % 4).toNat []))) := by
        rw [s6, s5, show (Str.ofString "a").cps.toList = [97] by decide +kernel, show (Str.ofString "...").cps.toList = [46, 46, 46] by decide +kernel]
        have : kd % 4 = 0 ∨ kd % 4 = 1 ∨ kd % 4 = 2 ∨ kd % 4 = 3 := by omega
        rcases this with e | e | e | e <;> rw [e] <;> rfl
      have hit2 : [PyData.list [], .list [.tuple [.str (mkS (Str.ofString "up").cps.toList)]], .list [.tuple [.str (mkS (Str.ofString "name").cps.toList), .str (mkS (Str.ofString "a").cps.toList)]], .list [.tuple [.str (mkS (Str.ofString "name").cps.toList), .str (mkS (Str.ofString "...").cps.toList)]]][Int.toNat (kd % 4)]? = some (.list ((plainS.getD (kd % 4).toNat []).map stD)) := by
        rw [show (Str.ofString "a").cps.toList = [97] by decide +kernel, show (Str.ofString "...").cps.toList = [46, 46, 46] by decide +kernel]
        have : kd % 4 = 0 ∨ kd % 4 = 1 ∨ kd % 4 = 2 ∨ kd % 4 = 3 := by omega
        rcases this with e | e | e | e <;> rw [e] <;> rfl
      have hpls := (plain_at (i := kd % 4) (by omega) (by omega)).2.2.2
      refine Ex.cons (Ex1.append (d := .str (mkS (plainL.getD (kd % 4).toNat []))) (by walk_at "mMem") ?_ (by walk_at "mPut") l1 (by walk_at "mR") (by walk_at "mR") (by walk_at "mR") (by walk_at "mR") (show Ex _ _ _ _ _ _ from ?_))
      · walk_at "m"
      refine Ex.cons (Ex1.extend (ys := (plainS.getD (kd % 4).toNat []).map stD) (fl := .c) (by walk_at "mMem") (Ev.sub (Ev.ofF (EvF.listL (EvL.cons (Ev.ofF (EvF.listL EvL.nil (by decide))) (EvL.cons (Ev.ofF (EvF.listL (EvL.cons (Ev.ofF (EvF.tupleL (EvL.cons (Ev.ofF EvF.kS) EvL.nil (by walk_at "mR")) (by rw [sizeLine_is]; simp))) EvL.nil (by walk_at "mR")) (by rw [sizeLine_is]; simp))) (EvL.cons (Ev.ofF (EvF.listL (EvL.cons (Ev.ofF (EvF.tupleL (EvL.cons (Ev.ofF EvF.kS) (EvL.cons (Ev.ofF EvF.kS) EvL.nil (by walk_at "mR")) (by walk_at "mR")) (by rw [sizeLine_is]; simp))) EvL.nil (by walk_at "mR")) (by rw [sizeLine_is]; simp))) (EvL.cons (Ev.ofF (EvF.listL (EvL.cons (Ev.ofF (EvF.tupleL (EvL.cons (Ev.ofF EvF.kS) (EvL.cons (Ev.ofF EvF.kS) EvL.nil (by walk_at "mR")) (by walk_at "mR")) (by rw [sizeLine_is]; simp))) EvL.nil (by walk_at "mR")) (by rw [sizeLine_is]; simp))) EvL.nil (by walk_at "mR")) (by walk_at "mR")) (by walk_at "mR")) (by walk_at "mR")) (by rw [sizeLine_is]; simp))) (Ev.ofF (d := .int (kd % 4)) (by walk_at "m")) (Sub.list (by omega) (by omega) hit2) (by intro _ _; walk_at "mR")) (still_sts _) (by walk_at "mPut") (by rw [List.length_map, List.length_map]; omega) (by walk_at "mR") (by walk_at "mR") (by walk_at "mR") (by walk_at "mR") (show Ex _ _ _ _ _ _ from ?_))
      refine Ex.nil (show Ex _ _ _ _ _ _ from Ex.nil (show Ex _ _ _ _ _ _ from Ex.nil (show Ex _ _ _ _ _ _ from Ex.nil ⟨some (.d (.int (i : Int)), .c), some (.d (.int kd), .c), t3, ?_⟩)))
      rw [hP, hS, ho0, hp0, hs0]
  · obtain ⟨t1, t2, t3, rfl⟩ := hΓ
    rw [rangeD_length]
    refine (show Ex _ _ _ _ _ _ from ?_)
    show Ex _ _ _ [("_law_cell", _), ("_law_names", _), ("_law_parts", some (.d (.list (PL (poParts names c (poN c)))), .o)), ("_law_steps", some (.d (.list ((poFlat names c (poN c)).map stD)), .o)), ("_law_odd", some (.d (.str (mkS (oddTo c (poN c)))), .c)), ("_law_k", t1), ("_law_kind", t2), ("_law_name", t3), ("_law_line", none)] _ _
    have hN : poN c ≤ 5 := by unfold poN; omega
    have hfl := hflat (poN c)
    have hsum := sum_le (B := 200) (poParts names c (poN c)) fun x hx => by
      obtain ⟨k, _, rfl⟩ := List.mem_map.mp hx
      exact (po_len hne hg c k).1
    have hplen : (poParts names c (poN c)).length = poN c := by simp [poParts]
    have hil := icat_len (poParts names c (poN c))
    have hpl : poLine names c = List.intercalate [47] (poParts names c (poN c)) := rfl
    have hal : poAll names c = rootOf (poLine names c) ++ poFlat names c (poN c) := rfl
    rw [hal]
    generalize oddTo c (poN c) = od
    refine Ex.cons (Ex1.assign (d := .str (mkS (poLine names c))) ?_ (by walk_at "mPut") (by walk_at "mLoc") (by walk_at "mR") (show Ex _ _ _ _ _ _ from ?_))
    · rw [hpl, ← s2]
      walk_at "m"
      rw [s2]; simp only [List.length_singleton, Nat.mul_one]; omega
    rw [← hpl] at hil
    generalize poLine names c = line at hil ⊢
    generalize (Vl.d (PyData.list (PL (poParts names c (poN c)))), Fl.o) = pts
    generalize poFlat names c (poN c) = ss at hfl ⊢
    refine Ex.cons (Ex1.mono (Q := fun f Γ => f = .next ∧ Γ = ([("_law_cell", some (.d (.int c), .c)), ("_law_names", some (.d (.list (PL names)), .b)), ("_law_parts", some pts), ("_law_steps", some (.d (.list ((rootOf line ++ ss).map stD)), .c)), ("_law_odd", some (.d (.str (mkS od)), .c)), ("_law_k", t1), ("_law_kind", t2), ("_law_name", t3), ("_law_line", some (.d (.str (mkS line)), .c))] : Gm)) (Ex1.ite (b := decide (line.take 1 = [47])) ?_ (fun h => ?_) (fun h => ?_)) ?_)
    · rw [← s2, ← cut_head]
      walk_at "m"
    · have h' := of_decide_eq_true h
      have hr : rootOf line = [.root] := by
        unfold rootOf
        cases line with
        | nil => cases h'
        | cons x r => simp at h'; subst h'; rfl
      refine Ex.cons (Ex1.assign (d := .list ([.tuple [.str (mkS (Str.ofString "root").cps.toList)]] ++ ss.map stD)) ?_ (by walk_at "mPut") (by walk_at "mLoc") (by walk_at "mR") (show Ex _ _ _ _ _ _ from ?_))
      · refine EvF.bin (f₁ := .c) (f₂ := .o) (Ev.ofF ?_) (Ev.name (by walk_at "mMem")) (Bin.catL (by rw [List.length_map, sizeLine_is]; simp; omega) (.inl rfl) (.inr (still_sts _)))
        walk_at "m"
      · refine Ex.nil ⟨rfl, ?_⟩
        rw [hr]; rfl
    · have h' := of_decide_eq_false h
      have hr : rootOf line = [] := by
        unfold rootOf
        rw [if_neg]
        intro q
        cases line with
        | nil => cases q
        | cons x r => simp at q; subst q; exact h' rfl
      refine Ex.freeze (x := "_law_steps") (by walk_at "mMem") (by walk_at "mPut") (Ex.nil ⟨rfl, ?_⟩)
      rw [hr, List.nil_append]
    rintro f Γ ⟨rfl, rfl⟩
    refine (show Ex _ _ _ _ _ _ from ?_)
    exact Ex.cons (Ex1.ret (EvF.tupleL (EvL.cons (Ev.name (by walk_at "mMem")) (EvL.cons (Ev.name (by walk_at "mMem")) (EvL.cons (Ev.name (by walk_at "mMem")) EvL.nil (by walk_at "mR")) (by walk_at "mR")) (by walk_at "mR")) (by rw [sizeLine_is]; simp)) rfl)
end
noncomputable def rowsD (rows : List Row) : List (List Nat × PyData) := rows.map fun r => (r.1, .list (r.2.map stD))
theorem rowsD_keys (rows : List Row) : (rowsD rows).map (·.1) = rows.map (·.1) := by unfold rowsD; rw [List.map_map]; rfl
theorem rowsD_look (rows : List Row) (x : List Nat) : (rowsD rows).lookup x = (rows.lookup x).map fun ss => .list (ss.map stD) := lookup_map (fun ss : List Stp => PyData.list (ss.map stD)) rows x
theorem rowsD_len (rows : List Row) : (rowsD rows).length = rows.length := by simp [rowsD]
theorem setPM_D (pm : PM) (x : Nm) (p : List (List Nat)) : setM (plD pm) x (.list (PL p)) = plD (setPM pm x p) := by
  unfold setM setPM
  have e : ((plD pm).lookup x).isSome = (pm.lookup x).isSome := by rw [plD_look, Option.isSome_map]
  rw [e]
  split
  · unfold plD
    rw [List.map_map, List.map_map]
    congr 1
    funext q
    simp only [Function.comp]
    split <;> rfl
  · unfold plD; rw [List.map_append]; rfl
noncomputable def rdyD (pm : PM) : PyData → PyData
  | .tuple [.str k, .str y] => .bool (if k.cps.toList = kSh then (pm.lookup y.cps.toList).isSome else true)
  | _ => .bool true
theorem rdyD_st (pm : PM) (s : Stp) : rdyD pm (stD s) = .bool (rdy pm s) := by
  cases s with
  | sh y => show PyData.bool (if kSh = kSh then (pm.lookup y).isSome else true) = _; rw [if_pos rfl]; rfl
  | nm y =>
    show PyData.bool (if kNm = kSh then (pm.lookup y).isSome else true) = _
    rw [if_neg (by decide +kernel)]; rfl
  | _ => rfl
local macro_rules | `(tactic| walk_at "mC") => `(tactic| (with_reducible assumption))
section
variable {T : St} (G : GK T)
include G
theorem law_places_spec {rows : List Row} {ref : Nm → List (List Nat)} {rk : Nm → Nat} (A : Acy ref rk rows) (hl : rows.length ≤ 100) (h61 : ∀ x ss, (x, ss) ∈ rows → ss.length ≤ 61) (href : ∀ x ∈ rows.map (·.1), (ref x).length ≤ 10000) :
    Fun T 2 "_law_places" [.d (dictD (rowsD rows))] (dictD (plD (psAll rows rows.length))) := by
  have hnD : ((rowsD rows).map (·.1)).Nodup := by rw [rowsD_keys]; exact A.nodup
  refine Fun.defK G ["_law_rows"] ["_law_places_here", "_law_turn", "_law_name"] (by k_is) (by k_is) (by k_is) (by walk_at "mBinds") (Prm.b Prm.nil) (by rfl) (by rfl) ⟨rfl, rfl, rfl⟩ (fun env he => ?_)
  walk_at "mDef"
  refine Ex.cons (Ex1.assignO (d := dictD []) EvF.dict0 rfl (by walk_at "mPut") (by walk_at "mLoc") (by walk_at "mR") (show Ex _ _ _ _ _ _ from ?_))
  refine Ex.cons (Ex1.forI (items := rangeD ((rowsD rows).length : Int).toNat) (fl := .c) (Itr.range (by walk_at "mKd") (by walk_at "mG") (by walk_at "mB") (Ev.ofF (EvF.callB (xs := [(.d (dictD (rowsD rows)), .b)]) (by walk_at "mKd") (by walk_at "mR") (by walk_at "mG") (by walk_at "mB") (.inl ⟨_, rfl⟩) (EvA.cons (Ev.name (by walk_at "mMem")) EvA.nil (by walk_at "mR")) (CallB.lenD hnD (by rw [rowsD_len]; omega)))) (by omega) (by rw [rowsD_len]; omega) (by walk_at "mR")) (by simp) (by walk_at "mLoc")
    (fun i Γ => ∃ t1 t2, Γ = ([("_law_rows", some (.d (dictD (rowsD rows)), .b)), ("_law_places_here", some (.d (dictD (plD (psAll rows i))), .o)), ("_law_turn", t1), ("_law_name", t2)] : Gm)) ⟨_, _, rfl⟩ (fun i d Γ hd hΓ => ?_) (fun Γ hΓ => ?_))
  · obtain ⟨t1, t2, rfl⟩ := hΓ
    obtain ⟨hi, rfl⟩ := rangeD_get hd
    refine ⟨.c, _, .inl rfl, by walk_at "mPut", ?_⟩
    have I0 := (psAll_inv A i).1
    have hT : psAll rows (i + 1) = rows.foldl psStep (psAll rows i) := psAll_succ rows i
    generalize psAll rows i = pm0 at I0 hT ⊢
    refine Ex.cons (Ex1.forI (items := (rowsD rows).map fun p => .str (mkS p.1)) (fl := .b) (Itr.dict (Ev.name (by walk_at "mMem")) hnD (by intro _; walk_at "mR")) (by simp) (by walk_at "mLoc")
      (fun j Γ => ∃ t2, Γ = ([("_law_rows", some (.d (dictD (rowsD rows)), .b)), ("_law_places_here", some (.d (dictD (plD ((rows.take j).foldl psStep pm0))), .o)), ("_law_turn", some (.d (.int (i : Int)), .c)), ("_law_name", t2)] : Gm)) ⟨_, rfl⟩ (fun j d Γ hd hΓ => ?_) (fun Γ hΓ => ?_))
    · obtain ⟨t2, rfl⟩ := hΓ
      obtain ⟨⟨x, ss⟩, hq, rfl⟩ : ∃ r, rows[j]? = some r ∧ d = .str (mkS r.1) := by
        unfold rowsD at hd
        rw [List.map_map, List.getElem?_map] at hd
        obtain ⟨q, h1, h2⟩ := Option.map_eq_some_iff.mp hd
        exact ⟨q, h1, h2.symm⟩
      have hrm := List.mem_of_getElem? hq
      refine ⟨.c, _, .inr ⟨rfl, rfl⟩, by walk_at "mPut", ?_⟩
      have hfs : (rows.take (j + 1)).foldl psStep pm0 = psStep ((rows.take j).foldl psStep pm0) (x, ss) := by rw [List.take_succ, hq]; simp
      have I := PI.fold A (rows.take j) (fun r hr => List.mem_of_mem_take hr) I0
      generalize (rows.take j).foldl psStep pm0 = pm at hfs I ⊢
      have hndq : ((plD pm).map (·.1)).Nodup := by rw [plD_keys]; exact I.nd
      have hlk : (rowsD rows).lookup x = some (.list (ss.map stD)) := by rw [rowsD_look, lookup_nodup A.nodup hrm]; rfl
      have hss := h61 x ss hrm
      have hall : ss.all (rdy pm) = ready pm ss := rfl
      have hpl : pm.length ≤ rows.length := by
        have := nodup_sub (l₁ := pm.map (·.1)) (l₂ := rows.map (·.1)) I.nd I.keys
        simpa using this
      refine Ex.cons (Ex1.ite (b := ready pm ss) ?_ (fun hrd => ?_) (fun hrd => ?_))
      · have e : ready pm ss = (ss.map (rdy pm)).all id := by rw [← hall, List.all_map]; rfl
        rw [e]
        refine IsT.bool (Ev.ofF (EvF.callB (xs := [(.d (.list ((ss.map (rdy pm)).map .bool)), .c)]) (by walk_at "mKd") (by walk_at "mR") (by walk_at "mG") (by walk_at "mB") (.inl ⟨_, rfl⟩) (EvA.cons (Ev.ofF (EvF.cast (EvF.comp (Γv := [("_law_places_here", some (.d (dictD (plD pm)), .o))]) (p := fun _ => true) (f := rdyD pm) (items := ss.map stD) (fl := .b) (Itr.list (Ev.sub (Ev.name (by walk_at "mMem")) (Ev.name (by walk_at "mMem")) (Sub.dict hnD hlk) (by intro _ _; walk_at "mR")) (by intro _; walk_at "mR")) (okComp_ok he rfl rfl) ?_ (okNames_ok rfl) (by rw [sizeLine_is, List.length_map]; omega) (fun _ _ _ _ => rfl) ?_) (congrArg PyData.list ?_))) EvA.nil (by walk_at "mR")) CallB.allB)) (by intro _; walk_at "mR")
        · intro q hq'
          simp only [List.mem_cons, List.not_mem_nil, or_false] at hq'
          subst hq'; exact ⟨by walk_at "mMem", rfl⟩
        · intro C cl d hd' _
          obtain ⟨s, _, rfl⟩ := List.mem_map.mp hd'
          rw [rdyD_st]
          have hcg : compG "_law_step" .b [("_law_places_here", some (.d (dictD (plD pm)), .o))] (stD s) = ([("_law_step", some (.d (stD s), .c)), ("_law_places_here", some (.d (dictD (plD pm)), .o))] : Gm) := by unfold compG itemFl; rw [still_st]; rfl
          rw [hcg]
          have key : ∀ (k : List Nat) (its : List PyData) (b : Bool), stD s = .tuple its → its[Int.toNat 0]? = some (.str (mkS k)) → (!decide (k = (Str.ofString "share").cps.toList)) = b → ∀ (env' : Env) p₁ p₂ p₃ p₄ p₅ k1 k2, EvF T 1 env' [("_law_step", some (.d (stD s), .c)), ("_law_places_here", some (.d (dictD (plD pm)), .o))] (.Compare (.Subscript (.Name "_law_step" p₁) (.Constant (.int 0) k1 p₂) p₃) [.NotEq] [.Constant (.str "share") k2 p₄] p₅) (.bool b) := fun k its b h1 h2 h3 env' p₁ p₂ p₃ p₄ p₅ k1 k2 => by
            rw [← h3]
            refine EvF.cmp (f₁ := .c) (f₂ := .c) (v₁ := .d (.str (mkS k))) (v₂ := .d (.str (mkS (Str.ofString "share").cps.toList))) (Ev.sub (v := .d (.tuple its)) (Ev.name (by rw [← h1]; exact .head _)) (Ev.ofF EvF.kInt) (Sub.tuple (by omega) (by omega) h2) (by intro _ _; walk_at "mR")) (Ev.ofF EvF.kS) Cmp.neL (by walk_at "mR")
          cases s with
          | sh y =>
            show EvF _ _ _ _ _ (.bool ((pm.lookup y).isSome))
            rw [show (pm.lookup y).isSome = (false || (pm.lookup y).isSome) by simp]
            refine EvF.or (key kSh _ false rfl rfl (by decide +kernel) _ _ _ _ _ _ _ _) (fun _ => EvF.bo1 ?_)
            rw [show (pm.lookup y).isSome = ((plD pm).lookup y).isSome by rw [plD_look, Option.isSome_map]]
            exact EvF.cmp (f₁ := .c) (f₂ := .o) (v₁ := .d (.str (mkS y))) (v₂ := .d (dictD (plD pm))) (Ev.sub (v := .d (.tuple [.str (mkS kSh), .str (mkS y)])) (Ev.name (.head _)) (Ev.ofF EvF.kInt) (Sub.tuple (by omega) (by omega) rfl) (by intro _ _; walk_at "mR")) (Ev.name (.tail _ (.head _))) (Cmp.inD hndq) (by walk_at "mR")
          | nm y => exact EvF.cast (EvF.or (q := true) (key kNm _ true rfl rfl (by decide +kernel) _ _ _ _ _ _ _ _) (fun h => nomatch h)) rfl
          | up => exact EvF.cast (EvF.or (q := true) (key _ _ true rfl rfl (by decide +kernel) _ _ _ _ _ _ _ _) (fun h => nomatch h)) rfl
          | root => exact EvF.cast (EvF.or (q := true) (key _ _ true rfl rfl (by decide +kernel) _ _ _ _ _ _ _ _) (fun h => nomatch h)) rfl
        · rw [List.filter_eq_self.mpr (fun _ _ => rfl), List.map_map, List.map_map]
          exact List.map_congr_left fun s _ => rdyD_st pm s
      · have hst : psStep pm (x, ss) = setPM pm x (ss.foldl (go (PMf pm)) []) := by unfold psStep; rw [if_pos hrd]
        rw [hst] at hfs
        have hBp : ∀ y q, (y, q) ∈ pm → q.length ≤ 100000 := fun y q hy => by
          rw [I.val y q hy]
          have := href y (I.keys y (List.mem_map_of_mem (f := fun q : List Nat × List (List Nat) => q.1) hy))
          omega
        have hlw := law_walk_spec G (p := []) I.nd hrd hBp (by simp) (by omega)
        refine Ex.cons (Ex1.setAny (m := plD pm) (k := x) (d := .list (PL (ss.foldl (go (PMf pm)) []))) (by walk_at "mMem") (Ev.ofF (EvF.fn (xs := [(.d (.list (PL [])), .c), (.d (.list (ss.map stD)), .b), (_, .o)]) (by walk_at "mKd") (by walk_at "mR") (EvA.cons (Ev.ofF (EvF.listL EvL.nil (by decide))) (EvA.cons (Ev.sub (Ev.name (by walk_at "mMem")) (Ev.name (by walk_at "mMem")) (Sub.dict hnD hlk) (by intro _ _; walk_at "mR")) (EvA.cons (Ev.name (by walk_at "mMem")) EvA.nil (by walk_at "mR")) (by walk_at "mR")) (by walk_at "mR")) hlw (by omega))) (Ev.name (by walk_at "mMem")) hndq ?_ (by walk_at "mPut") (by walk_at "mR") (show Ex _ _ _ _ _ _ from ?_))
        · rw [sizeLine_is]; unfold plD; rw [List.length_map]; omega
        exact Ex.nil (show Ex _ _ _ _ _ _ from Ex.nil ⟨_, by rw [hfs, setPM_D]⟩)
      · have hst : psStep pm (x, ss) = pm := by unfold psStep; rw [if_neg (by rw [hrd]; decide)]
        rw [hst] at hfs
        exact Ex.nil (show Ex _ _ _ _ _ _ from Ex.nil ⟨_, by rw [hfs]⟩)
    obtain ⟨t2, rfl⟩ := hΓ
    rw [show ((rowsD rows).map fun p => PyData.str (mkS p.1)).length = rows.length by simp [rowsD], List.take_length]
    exact (show Ex _ _ _ _ _ _ from Ex.nil ⟨_, _, by rw [hT]⟩)
  obtain ⟨t1, t2, rfl⟩ := hΓ
  rw [rangeD_length, Int.toNat_natCast, rowsD_len]
  refine (show Ex _ _ _ _ _ _ from ?_)
  exact Ex.cons (Ex1.retO (by walk_at "mMem") rfl)
end
local macro_rules | `(tactic| walk_at "mC") => `(tactic| (with_reducible assumption))
section
variable {T : St} (G : GK T)
include G
theorem law_stand_spec {tab : Tab} {ref : Nm → List (List Nat)} {rk : Nm → Nat} (A : Acy ref rk (rowsOf tab)) (hl : ∀ x l, (x, l) ∈ tab → okLine l ∧ l.length ≤ 10000 ∧ (stepsOf l).length ≤ 61) (href : ∀ x ∈ tab.map (·.1), (ref x).length ≤ 10000) (hg : ∀ x ∈ tab.map (·.1), ∀ y ∈ ref x, Asc y) (ht : tab.length ≤ 100) :
    Fun T 6 "_law_stand" [.d (dictD (tabD tab)), .d (dictD (rowsD (rowsOf tab)))] (.bool true) := by
  have hin := init_spec G A (fun x l h => ⟨(hl x l h).1, (hl x l h).2.1, by have := (hl x l h).2.2; omega⟩) href (by omega)
  have hk : (rowsOf tab).map (·.1) = tab.map (·.1) := rowsOf_keys tab
  have hrl : (rowsOf tab).length = tab.length := List.length_map ..
  have hps := law_places_spec G A (by omega) (fun x ss h => by
    obtain ⟨q, hq, e⟩ := List.mem_map.mp h
    cases e
    exact (hl q.1 q.2 hq).2.2) (by rw [hk]; exact href)
  obtain ⟨pn, plk⟩ := psAll_look A
  obtain ⟨k1, _, k3, _⟩ := loop_look A
  rw [hrl] at k1 k3
  generalize loopF tab.length (rowsOf tab) [] = pw at hin k1 k3
  generalize psAll (rowsOf tab) (rowsOf tab).length = ph at hps pn plk
  have hnD : ((rowsD (rowsOf tab)).map (·.1)).Nodup := by rw [rowsD_keys]; exact A.nodup
  have c := shares_cls G
  refine Fun.defK G ["_law_table", "_law_rows"] ["_law_shares", "_law_places_here", "_law_name", "_law_spot"] (by k_is) (by k_is) (by k_is) (by walk_at "mBinds") (Prm.b (Prm.b Prm.nil)) (by rfl) (by rfl) ⟨rfl, rfl, rfl⟩ (fun env he => ?_)
  walk_at "mDef"
  refine Ex.cons (Ex1.assignV (fl := .c) (Ev.make (xs := [(.d (dictD (tabD tab)), .b)]) (by walk_at "mKd") (by walk_at "mR") (by walk_at "mG") (by rw [G.k]; k_is) (by rw [G.k]; k_is) (by rw [G.k]; k_is) (by rw [G.k]; k_is) (EvA.cons (Ev.name (by walk_at "mMem")) EvA.nil (by walk_at "mR")) hin (by omega)) (by simp) (by walk_at "mPut") (by walk_at "mLoc") (by walk_at "mR") (show Ex _ _ _ _ _ _ from ?_))
  refine Ex.cons (Ex1.assign (d := dictD (plD ph)) (EvF.fn (xs := [(.d (dictD (rowsD (rowsOf tab))), .b)]) (by walk_at "mKd") (by walk_at "mR") (EvA.cons (Ev.name (by walk_at "mMem")) EvA.nil (by walk_at "mR")) hps (by omega)) (by walk_at "mPut") (by walk_at "mLoc") (by walk_at "mR") (show Ex _ _ _ _ _ _ from ?_))
  clear hin hps
  generalize hnms : tab.map (·.1) = nms at hk hg href
  refine Ex.cons (Ex1.forI (items := (rowsD (rowsOf tab)).map fun p => .str (mkS p.1)) (fl := .b) (Itr.dict (Ev.name (by walk_at "mMem")) hnD (by intro _; walk_at "mR")) (by simp) (by walk_at "mLoc")
    (fun i Γ => ∃ t1 t2, Γ = ([("_law_table", some (.d (dictD (tabD tab)), .b)), ("_law_rows", some (.d (dictD (rowsD (rowsOf tab))), .b)), ("_law_shares", some (.i 148 (shF nms pw), .c)), ("_law_places_here", some (.d (dictD (plD ph)), .c)), ("_law_name", t1), ("_law_spot", t2)] : Gm)) ⟨_, _, rfl⟩ (fun i d Γ hd hΓ => ?_) (fun Γ hΓ => ?_))
  · obtain ⟨t1, t2, rfl⟩ := hΓ
    obtain ⟨x, hx, rfl⟩ : ∃ x, x ∈ (rowsOf tab).map (·.1) ∧ d = .str (mkS x) := by
      have := List.mem_of_getElem? hd
      obtain ⟨p, hp, rfl⟩ := List.mem_map.mp this
      exact ⟨p.1, by rw [← rowsD_keys]; exact List.mem_map_of_mem (f := fun q : List Nat × PyData => q.1) hp, rfl⟩
    refine ⟨.c, _, .inr ⟨rfl, rfl⟩, by walk_at "mPut", ?_⟩
    have hxn : x ∈ nms := hk ▸ hx
    obtain ⟨hpl, fd', hplf⟩ := place_spec G (names := nms) k3 (k1 x hx) (by have := href x hxn; omega)
    have hlk : (plD ph).lookup x = some (.list (PL (ref x))) := by rw [plD_look, plk x hx]; rfl
    have hndq : ((plD ph).map (·.1)).Nodup := by rw [plD_keys]; exact pn
    have hasc := hg x hxn
    generalize ref x = p at hpl hlk hasc
    refine Ex.cons (Ex1.assign (d := .list (PL p)) (EvF.methI (xs := [(.d (.str (mkS x)), .c)]) (fl := .c) c (Ev.name (by walk_at "mMem")) (by rw [G.k]; k_is) (by rw [G.k]; k_is) hplf rfl (EvA.cons (Ev.name (by walk_at "mMem")) EvA.nil (by walk_at "mR")) hpl (by omega) (by walk_at "mR") (by walk_at "mR") (by walk_at "mR")) (by walk_at "mPut") (by walk_at "mLoc") (by walk_at "mR") (show Ex _ _ _ _ _ _ from ?_))
    refine Ex.cons (Ex1.ite (b := false) ?_ (fun h => nomatch h) (fun _ => ?_))
    · have e : false = ((!true) || ((!decide (p = p)) || false)) := by simp
      rw [e]
      refine IsT.or (by walk_at "m") (fun _ => IsT.or (IsT.cmp (f₁ := .c) (f₂ := .c) (v₁ := .d (.list (PL p))) (v₂ := .d (.list (PL p))) (Ev.name (by walk_at "mMem")) (Ev.sub (Ev.name (by walk_at "mMem")) (Ev.name (by walk_at "mMem")) (Sub.dict hndq hlk) (by intro _ _; walk_at "mR")) (Cmp.nePL hasc hasc) (by walk_at "mR")) fun _ => IsT.orNil)
    exact Ex.nil (show Ex _ _ _ _ _ _ from Ex.nil ⟨_, _, rfl⟩)
  obtain ⟨t1, t2, rfl⟩ := hΓ
  refine (show Ex _ _ _ _ _ _ from ?_)
  exact Ex.cons (Ex1.ret (d := .bool true) EvF.kBool rfl)
end
noncomputable def tD (ks : List Nm) : List (List Nat × PyData) := ks.map fun y => (y, .bool true)
theorem tD_keys (ks : List Nm) : (tD ks).map (·.1) = ks := by unfold tD; rw [List.map_map]; exact List.map_id _
theorem tD_still (ks : List Nm) : stillM (tD ks) := by
  unfold stillM tD
  rw [stillAll_iff]
  intro d hd
  rw [List.map_map] at hd
  obtain ⟨y, _, rfl⟩ := List.mem_map.mp hd
  rfl
theorem tD_look (ks : List Nm) (y : Nm) : ((tD ks).lookup y).isSome = decide (y ∈ ks) := by
  by_cases h : y ∈ ks
  · rw [decide_eq_true h]; exact lookup_some (by rw [tD_keys]; exact h)
  · rw [decide_eq_false h, lookup_none (by rw [tD_keys]; exact h)]; rfl
theorem tD_add (ks : List Nm) (y : Nm) : setM (tD ks) y (.bool true) = tD (addN ks y) := by
  unfold setM addN
  rw [tD_look]
  by_cases h : y ∈ ks
  · rw [decide_eq_true h, if_pos rfl, if_pos h]
    unfold tD
    rw [List.map_map]
    refine List.map_congr_left fun q _ => ?_
    simp only [Function.comp]
    split <;> rfl
  · rw [decide_eq_false h, if_neg (by decide), if_neg h]
    unfold tD; rw [List.map_append]; rfl
theorem fromP_t : ∀ (ws ks : List Nm), ((ws.map fun y => ((y, .bool true) : List Nat × PyData)).foldl (fun m p => setM m p.1 p.2) (tD ks)) = tD (addAll ks ws)
  | [], _ => rfl
  | w :: ws, ks => by
    rw [List.map_cons, List.foldl_cons]
    simp only
    rw [tD_add, fromP_t ws]; rfl
noncomputable def reachM (names : List Nm) (f : Nm → List Nm) : DM := names.map fun x => (x, tD (f x))
theorem reachM_keys (names : List Nm) (f : Nm → List Nm) : (reachM names f).map (·.1) = names := by unfold reachM; rw [List.map_map]; exact List.map_id _
theorem reachM_still (names : List Nm) (f : Nm → List Nm) : ∀ p ∈ reachM names f, stillM p.2 := fun p hp => by
  obtain ⟨x, _, rfl⟩ := List.mem_map.mp hp
  exact tD_still _
theorem reachM_look {names : List Nm} (f : Nm → List Nm) {x : Nm} (hn : names.Nodup) (h : x ∈ names) : (reachM names f).lookup x = some (tD (f x)) := lookup_nodup (by rw [reachM_keys]; exact hn) (List.mem_map.mpr ⟨x, h, rfl⟩)
noncomputable def upd (f : Nm → List Nm) (x : Nm) (v : List Nm) : Nm → List Nm := fun y => if y = x then v else f y
theorem upd_self (f : Nm → List Nm) (x : Nm) : upd f x (f x) = f := by funext y; unfold upd; split <;> simp_all
theorem upd_upd (f : Nm → List Nm) (x : Nm) (v w : List Nm) : upd (upd f x v) x w = upd f x w := by funext y; unfold upd; split <;> rfl
theorem upd_at (f : Nm → List Nm) (x : Nm) (v : List Nm) : upd f x v x = v := if_pos rfl
theorem setIn_reach (names : List Nm) (f : Nm → List Nm) (x y : Nm) : setIn (reachM names f) x y (.bool true) = reachM names (upd f x (addN (f x) y)) := by
  unfold Mine.setIn reachM
  rw [List.map_map]
  refine List.map_congr_left fun z _ => ?_
  simp only [Function.comp]
  unfold upd
  split
  · rename_i h; subst h; rw [tD_add]
  · rfl
noncomputable def nStep (W : Nm → List Nm) (f : Nm → List Nm) (x : Nm) : Nm → List Nm := upd f x (closeS W (f x))
noncomputable def turnF (W : Nm → List Nm) (names : List Nm) (f0 : Nm → List Nm) (t : Nat) : Nm → List Nm := (List.range t).foldl (fun f _ => names.foldl (nStep W) f) f0
theorem turnF_succ (W : Nm → List Nm) (names : List Nm) (f0 : Nm → List Nm) (t : Nat) : turnF W names f0 (t + 1) = names.foldl (nStep W) (turnF W names f0 t) := by unfold turnF; rw [List.range_succ, List.foldl_append]; rfl
theorem nFold (W : Nm → List Nm) : ∀ (names : List Nm) (f : Nm → List Nm) (y : Nm), names.Nodup → names.foldl (nStep W) f y = if y ∈ names then closeS W (f y) else f y
  | [], _, _, _ => by simp
  | x :: names, f, y, hn => by
    obtain ⟨h1, h2⟩ := List.nodup_cons.mp hn
    rw [List.foldl_cons, nFold W names _ y h2]
    unfold nStep upd
    by_cases hy : y = x
    · subst hy
      rw [if_neg h1, if_pos rfl, if_pos (.head _)]
    · simp [hy]
theorem closeN_last (W : Nm → List Nm) : ∀ (n : Nat) (ks : List Nm), closeN W n (closeS W ks) = closeS W (closeN W n ks)
  | 0, _ => rfl
  | n + 1, ks => closeN_last W n (closeS W ks)
theorem turnF_is (W : Nm → List Nm) {names : List Nm} (hn : names.Nodup) {x : Nm} (hx : x ∈ names) : ∀ t, turnF W names (fun x => addAll [] (W x)) t x = reachF W t x
  | 0 => rfl
  | t + 1 => by
    rw [turnF_succ, nFold W names _ x hn, if_pos hx, turnF_is W hn hx t]
    unfold reachF
    exact (closeN_last W t _).symm
structure FI (names : List Nm) (f : Nm → List Nm) : Prop where
  nd : ∀ x ∈ names, (f x).Nodup
  sub : ∀ x ∈ names, ∀ y ∈ f x, y ∈ names
theorem FI.upd {names : List Nm} {f : Nm → List Nm} (I : FI names f) {x : Nm} {v : List Nm} (h1 : v.Nodup) (h2 : ∀ y ∈ v, y ∈ names) : FI names (upd f x v) := by
  constructor
  · intro z hz
    unfold Mine.upd
    split
    · exact h1
    · exact I.nd z hz
  · intro z hz
    unfold Mine.upd
    split
    · exact h2
    · exact I.sub z hz
theorem FI.step {W : Nm → List Nm} {names : List Nm} (hW : ∀ s ∈ names, ∀ z ∈ W s, z ∈ names) {f : Nm → List Nm} (I : FI names f) {x : Nm} (hx : x ∈ names) : FI names (nStep W f x) := I.upd (closeS_nodup (I.nd x hx)) fun y hy => by
  rcases closeS_mem.mp hy with h | ⟨s, hs, h⟩
  · exact I.sub x hx y h
  · exact hW s (I.sub x hx s hs) y h
theorem FI.fold {W : Nm → List Nm} {names : List Nm} (hW : ∀ s ∈ names, ∀ z ∈ W s, z ∈ names) : ∀ (xs : List Nm) {f : Nm → List Nm}, (∀ x ∈ xs, x ∈ names) → FI names f → FI names (xs.foldl (nStep W) f)
  | [], _, _, I => I
  | x :: xs, _, h, I => FI.fold hW xs (fun y hy => h y (.tail _ hy)) (I.step hW (h x (.head _)))
theorem FI.turns {W : Nm → List Nm} {names : List Nm} (hW : ∀ s ∈ names, ∀ z ∈ W s, z ∈ names) : ∀ t, FI names (turnF W names (fun x => addAll [] (W x)) t)
  | 0 => ⟨fun x _ => addAll_nodup List.nodup_nil, fun x hx y hy => (addAll_mem.mp hy).elim (fun h => nomatch h) (hW x hx y)⟩
  | t + 1 => by rw [turnF_succ]; exact FI.fold hW names (fun _ h => h) (FI.turns hW t)
theorem gI_none {i : Nat} : ∀ {l : List (Str × NameKind)}, (l.all fun p => decide (p.1.cps.toList.head? ≠ some 46)) = true → l.lookup (gI i) = none
  | [], _ => rfl
  | p :: l, h => by
    rw [List.all_cons, Bool.and_eq_true] at h
    rw [show p = (p.1, p.2) from rfl, List.lookup_cons]
    have : (gI i == p.1) = false := by
      rw [beq_eq_false_iff_ne]
      intro e
      have h1 := of_decide_eq_true h.1
      rw [← e] at h1
      exact h1 rfl
    rw [this]
    exact gI_none h.2
noncomputable abbrev WM := List (Nm × List Nm)
noncomputable def wantsD (wm : WM) : List (List Nat × PyData) := wm.map fun p => (p.1, .list (PL p.2))
theorem wantsD_keys (wm : WM) : (wantsD wm).map (·.1) = wm.map (·.1) := by unfold wantsD; rw [List.map_map]; rfl
theorem wantsD_look (wm : WM) (x : Nm) : (wantsD wm).lookup x = (wm.lookup x).map fun ws => .list (PL ws) := lookup_map (fun ws : List Nm => PyData.list (PL ws)) wm x
noncomputable def Wf (wm : WM) (x : Nm) : List Nm := (wm.lookup x).getD []
noncomputable def pairT : PyData → PyData
  | d => .tuple [d, .bool true]
noncomputable def inR (f : Nm → List Nm) : PyData → PyData
  | .str x => .bool (decide (x.cps.toList ∈ f x.cps.toList))
  | d => d
local macro_rules | `(tactic| walk_at "mC") => `(tactic| (with_reducible assumption))
section
variable {T : St} (G : GK T)
include G
theorem law_rings_spec {wm : WM} (hn : (wm.map (·.1)).Nodup) (hl : wm.length ≤ 100) (hw : ∀ p ∈ wm, p.2.length ≤ 100) (hW : ∀ s ∈ wm.map (·.1), ∀ z ∈ Wf wm s, z ∈ wm.map (·.1)) :
    Fun T 1 "_law_rings" [.d (dictD (wantsD wm))] (.bool ((wm.map (·.1)).any fun x => decide (x ∈ reachF (Wf wm) wm.length x))) := by
  have hnD : ((wantsD wm).map (·.1)).Nodup := by rw [wantsD_keys]; exact hn
  have hnl : (wm.map (·.1)).length = wm.length := List.length_map ..
  have hwl : (wantsD wm).length = wm.length := by simp [wantsD]
  have hlk : ∀ x ∈ wm.map (·.1), (wantsD wm).lookup x = some (.list (PL (Wf wm x))) ∧ (Wf wm x).length ≤ 100 := fun x hx => by
    obtain ⟨p, hp, rfl⟩ := List.mem_map.mp hx
    have := lookup_nodup hn (a := p.2) hp
    refine ⟨by rw [wantsD_look, this]; unfold Wf; rw [this]; rfl, by unfold Wf; rw [this]; exact hw p hp⟩
  have hitems : ((wantsD wm).map fun p => PyData.str (mkS p.1)) = PL (wm.map (·.1)) := by
    unfold wantsD PL; rw [List.map_map, List.map_map]; rfl
  generalize hnm : wm.map (·.1) = names at hn hW hlk hitems hnl
  refine Fun.defK G ["_law_wants"] ["_law_reach", "_law_name", "_law_turn", "_law_share", "_law_other"] (by k_is) (by k_is) (by k_is) (by walk_at "mBinds") (Prm.b Prm.nil) (by rfl) (by rfl) ⟨rfl, rfl, rfl⟩ (fun env he => ?_)
  walk_at "mDef"
  have hgI : ∀ i, env.kindOf (gI i) = none := fun i => by unfold Env.kindOf; rw [he]; exact gI_none (by decide +kernel)
  have one : ∀ (v1 v3 v4 v5 v6 : Slot) (q : Vl × Fl), (∀ v z, v1 ≠ some (v, .s z)) → (∀ v z, v3 ≠ some (v, .s z)) → (∀ v z, v4 ≠ some (v, .s z)) → (∀ v z, v5 ≠ some (v, .s z)) → (∀ v z, v6 ≠ some (v, .s z)) → ∀ y v z, (y, some (v, .s z)) ∈ ([("_law_wants", v1), ("_law_reach", some q), ("_law_name", v3), ("_law_turn", v4), ("_law_share", v5), ("_law_other", v6)] : Gm) → y = "_law_reach" := by
    intro v1 v3 v4 v5 v6 q h1 h3 h4 h5 h6 y v z h
    simp only [List.mem_cons, Prod.mk.injEq, List.not_mem_nil, or_false] at h
    rcases h with h | h | h | h | h | h
    · exact absurd h.2.symm (h1 v z)
    · exact h.1
    · exact absurd h.2.symm (h3 v z)
    · exact absurd h.2.symm (h4 v z)
    · exact absurd h.2.symm (h5 v z)
    · exact absurd h.2.symm (h6 v z)
  refine Ex.cons (Ex1.assignO (d := dictD []) EvF.dict0 rfl (by walk_at "mPut") (by walk_at "mLoc") (by walk_at "mR") (show Ex _ _ _ _ _ _ from ?_))
  refine Ex.deepen (x := "_law_reach") (by walk_at "mMem") (by walk_at "mPut") ?_
  refine Ex.cons (Ex1.forI (items := PL names) (fl := .b) (by rw [← hitems]; exact Itr.dict (Ev.name (by walk_at "mMem")) hnD (by intro _; walk_at "mR")) (by simp) (by walk_at "mLoc")
    (fun i Γ => Γ = ([("_law_wants", some (.d (dictD (wantsD wm)), .b)), ("_law_reach", some (.d (dictD (deepD (reachM (names.take i) fun x => addAll [] (Wf wm x)))), .s (0, none))), ("_law_name", none), ("_law_turn", none), ("_law_share", none), ("_law_other", none)] : Gm)) rfl (fun i d Γ hd hΓ => ?_) (fun Γ hΓ => ?_))
  · subst hΓ
    obtain ⟨x, hx, rfl⟩ : ∃ x, names[i]? = some x ∧ d = .str (mkS x) := get_map hd
    have hxm := List.mem_of_getElem? hx
    obtain ⟨hk1, hk2⟩ := hlk x hxm
    refine ⟨.c, _, .inr ⟨rfl, rfl⟩, by walk_at "mPut", ?_⟩
    have htk : reachM (names.take (i + 1)) (fun x => addAll [] (Wf wm x)) = reachM (names.take i) (fun x => addAll [] (Wf wm x)) ++ [(x, tD (addAll [] (Wf wm x)))] := by
      unfold reachM; rw [List.take_succ, hx, List.map_append]; rfl
    have hfp : fromP ((Wf wm x).map fun y => ((y, .bool true) : List Nat × PyData)) = tD (addAll [] (Wf wm x)) := fromP_t (Wf wm x) []
    refine Ex.cons (Ex1.setDeep (Γd := [("_law_wants", some (.d (dictD (wantsD wm)), .b)), ("_law_reach", none), ("_law_name", some (.d (.str (mkS x)), .c)), ("_law_turn", none), ("_law_share", none), ("_law_other", none)]) (k := x) (mi := tD (addAll [] (Wf wm x))) (fk := .c) (by walk_at "mMem") (one _ _ _ _ _ _ (by simp) (by simp) (by simp) (by simp) (by simp)) hgI (by walk_at "mPut") ?_ (tD_still _) (reachM_still _ _) (Ev.name (by walk_at "mMem")) (by rw [reachM_keys]; exact hn.sublist (List.take_sublist ..)) ?_ ?_ (by walk_at "mPut") (by walk_at "mR") (show Ex _ _ _ _ _ _ from ?_))
    · rw [← hfp]
      refine EvF.dictP (by walk_at "mKd") (by walk_at "mG") (by walk_at "mB") (EvF.cast (EvF.comp (Γv := []) (p := fun _ => true) (f := pairT) (items := PL (Wf wm x)) (fl := .b) (Itr.list (Ev.sub (Ev.name (by walk_at "mMem")) (Ev.name (by walk_at "mMem")) (Sub.dict hnD hk1) (by intro _ _; walk_at "mR")) (by intro _; walk_at "mR")) (okComp_ok he rfl rfl) (by intro q hq; cases hq) (okNames_ok rfl) (by rw [sizeLine_is, List.length_map]; omega) (fun _ _ _ _ => rfl) ?_) (congrArg PyData.list ?_)) (by walk_at "mR") (fun p hp => ?_) (by rw [List.length_map]; omega)
      · intro C cl d hd' _
        obtain ⟨y, _, rfl⟩ := List.mem_map.mp hd'
        show EvF _ _ _ [("_law_share", some (.d (.str (mkS y)), .c))] _ (.tuple [.str (mkS y), .bool true])
        exact EvF.tupleL (EvL.cons (Ev.name (.head _)) (EvL.cons (Ev.ofF EvF.kBool) EvL.nil (by walk_at "mR")) (by walk_at "mR")) (by rw [sizeLine_is]; simp)
      · rw [List.filter_eq_self.mpr (fun _ _ => rfl), List.map_map, List.map_map]; rfl
      · obtain ⟨y, _, rfl⟩ := List.mem_map.mp hp; rfl
    · refine lookup_none ?_
      rw [reachM_keys]
      intro hm
      obtain ⟨j, hj⟩ := List.getElem?_of_mem hm
      have hjl : j < i := by have := (List.getElem?_eq_some_iff.mp hj).1; rw [List.length_take] at this; omega
      rw [List.getElem?_take_of_lt hjl] at hj
      have := nodup_idx hn hj hx
      omega
    · rw [sizeLine_is]; unfold reachM; rw [List.length_map, List.length_take]; omega
    refine Ex.drop (x := "_law_name") (by walk_at "mPut") ?_
    refine Ex.nil ?_
    show _ = _
    rw [htk]
  subst hΓ
  rw [show (PL names).length = names.length by simp, List.take_length]
  refine (show Ex _ _ _ _ _ _ from ?_)
  show Ex _ _ _ [("_law_wants", _), ("_law_reach", some (.d (dictD (deepD (reachM names (turnF (Wf wm) names (fun x => addAll [] (Wf wm x)) 0)))), .s (0, none))), ("_law_name", none), ("_law_turn", none), ("_law_share", none), ("_law_other", none)] _ _
  refine Ex.cons (Ex1.forI (items := rangeD ((wantsD wm).length : Int).toNat) (fl := .c) (Itr.range (by walk_at "mKd") (by walk_at "mG") (by walk_at "mB") (Ev.ofF (EvF.callB (xs := [(.d (dictD (wantsD wm)), .b)]) (by walk_at "mKd") (by walk_at "mR") (by walk_at "mG") (by walk_at "mB") (.inl ⟨_, rfl⟩) (EvA.cons (Ev.name (by walk_at "mMem")) EvA.nil (by walk_at "mR")) (CallB.lenD hnD (by omega)))) (by omega) (by omega) (by walk_at "mR")) (by simp) (by walk_at "mLoc")
    (fun t Γ => Γ = ([("_law_wants", some (.d (dictD (wantsD wm)), .b)), ("_law_reach", some (.d (dictD (deepD (reachM names (turnF (Wf wm) names (fun x => addAll [] (Wf wm x)) t)))), .s (0, none))), ("_law_name", none), ("_law_turn", none), ("_law_share", none), ("_law_other", none)] : Gm)) rfl (fun t d Γ hd hΓ => ?_) (fun Γ hΓ => ?_))
  · subst hΓ
    obtain ⟨_, rfl⟩ := rangeD_get hd
    refine ⟨.c, _, .inl rfl, by walk_at "mPut", ?_⟩
    have I0 := FI.turns hW t
    have hT := turnF_succ (Wf wm) names (fun x => addAll [] (Wf wm x)) t
    generalize turnF (Wf wm) names (fun x => addAll [] (Wf wm x)) t = f0 at I0 hT ⊢
    refine Ex.cons (Ex1.forI (items := PL names) (fl := .b) (by rw [← hitems]; exact Itr.dict (Ev.name (by walk_at "mMem")) hnD (by intro _; walk_at "mR")) (by simp) (by walk_at "mLoc")
      (fun j Γ => Γ = ([("_law_wants", some (.d (dictD (wantsD wm)), .b)), ("_law_reach", some (.d (dictD (deepD (reachM names ((names.take j).foldl (nStep (Wf wm)) f0)))), .s (0, none))), ("_law_name", none), ("_law_turn", some (.d (.int (t : Int)), .c)), ("_law_share", none), ("_law_other", none)] : Gm)) rfl (fun j d Γ hd hΓ => ?_) (fun Γ hΓ => ?_))
    · subst hΓ
      obtain ⟨x, hx, rfl⟩ : ∃ x, names[j]? = some x ∧ d = .str (mkS x) := get_map hd
      have hxm := List.mem_of_getElem? hx
      refine ⟨.c, _, .inr ⟨rfl, rfl⟩, by walk_at "mPut", ?_⟩
      have hfs : (names.take (j + 1)).foldl (nStep (Wf wm)) f0 = nStep (Wf wm) ((names.take j).foldl (nStep (Wf wm)) f0) x := by rw [List.take_succ, hx]; simp
      have I := FI.fold hW (names.take j) (fun y hy => List.mem_of_mem_take hy) I0
      generalize (names.take j).foldl (nStep (Wf wm)) f0 = f at hfs I ⊢
      have hst : nStep (Wf wm) f x = upd f x ((f x).foldl (fun acc s => addAll acc (Wf wm s)) (f x)) := rfl
      have hndx := I.nd x hxm
      have hlenx : (f x).length ≤ names.length := nodup_sub hndx (I.sub x hxm)
      have hnR : ∀ g : Nm → List Nm, ((deepD (reachM names g)).map (·.1)).Nodup := fun g => by rw [deepD_keys, reachM_keys]; exact hn
      have hlR : ∀ g : Nm → List Nm, (deepD (reachM names g)).lookup x = some (dictD (tD (g x))) := fun g => by
        have h1 := reachM_look g hn hxm
        have h2 : (x, dictD (tD (g x))) ∈ deepD (reachM names g) := List.mem_map.mpr ⟨(x, tD (g x)), lookup_mem h1, rfl⟩
        exact lookup_nodup (hnR g) h2
      -- over the shares that are there now
      refine Ex.cons (Ex1.forI (items := PL (f x)) (fl := .c) (Itr.list (Ev.ofF (EvF.cast (EvF.callB (xs := [(.d (dictD (tD (f x))), .s (0, none))]) (by walk_at "mKd") (by walk_at "mR") (by walk_at "mG") (by walk_at "mB") (.inr ⟨_, rfl⟩) (EvA.cons (Ev.sub (Ev.name (by walk_at "mMem")) (Ev.name (by walk_at "mMem")) (Sub.dict (hnR f) (hlR f)) (by intro _ _; walk_at "mR")) EvA.nil (by walk_at "mR")) (CallB.listD (by rw [tD_keys]; exact hndx) (by rw [sizeLine_is]; unfold tD; rw [List.length_map]; omega))) (congrArg PyData.list (by rw [tD_keys])))) (by intro _; walk_at "mR")) (by simp) (by walk_at "mLoc")
        (fun a Γ => Γ = ([("_law_wants", some (.d (dictD (wantsD wm)), .b)), ("_law_reach", some (.d (dictD (deepD (reachM names (upd f x (((f x).take a).foldl (fun acc s => addAll acc (Wf wm s)) (f x)))))), .s (0, none))), ("_law_name", some (.d (.str (mkS x)), .c)), ("_law_turn", some (.d (.int (t : Int)), .c)), ("_law_share", none), ("_law_other", none)] : Gm)) (by rw [show ((f x).take 0).foldl (fun acc s => addAll acc (Wf wm s)) (f x) = f x by simp, upd_self]) (fun a d Γ hd hΓ => ?_) (fun Γ hΓ => ?_))
      · subst hΓ
        obtain ⟨s, hs, rfl⟩ : ∃ s, (f x)[a]? = some s ∧ d = .str (mkS s) := get_map hd
        have hsm := I.sub x hxm s (List.mem_of_getElem? hs)
        obtain ⟨hk1, hk2⟩ := hlk s hsm
        refine ⟨.c, _, .inl rfl, by walk_at "mPut", ?_⟩
        have hfa : ((f x).take (a + 1)).foldl (fun acc s => addAll acc (Wf wm s)) (f x) = addAll (((f x).take a).foldl (fun acc s => addAll acc (Wf wm s)) (f x)) (Wf wm s) := by rw [List.take_succ, hs]; simp
        have hnda : (((f x).take a).foldl (fun acc s => addAll acc (Wf wm s)) (f x)).Nodup := foldC_nodup hndx
        have hsua : ∀ y ∈ ((f x).take a).foldl (fun acc s => addAll acc (Wf wm s)) (f x), y ∈ names := fun y hy => by
          rcases foldC_mem.mp hy with h | ⟨q, hq, h⟩
          · exact I.sub x hxm y h
          · exact hW q (I.sub x hxm q (List.mem_of_mem_take hq)) y h
        generalize ((f x).take a).foldl (fun acc s => addAll acc (Wf wm s)) (f x) = ac at hfa hnda hsua ⊢
        refine Ex.cons (Ex1.forI (items := PL (Wf wm s)) (fl := .b) (Itr.list (Ev.sub (Ev.name (by walk_at "mMem")) (Ev.name (by walk_at "mMem")) (Sub.dict hnD hk1) (by intro _ _; walk_at "mR")) (by intro _; walk_at "mR")) (by simp) (by walk_at "mLoc")
          (fun b Γ => Γ = ([("_law_wants", some (.d (dictD (wantsD wm)), .b)), ("_law_reach", some (.d (dictD (deepD (reachM names (upd f x (addAll ac ((Wf wm s).take b)))))), .s (0, none))), ("_law_name", some (.d (.str (mkS x)), .c)), ("_law_turn", some (.d (.int (t : Int)), .c)), ("_law_share", some (.d (.str (mkS s)), .c)), ("_law_other", none)] : Gm)) (by rw [show addAll ac ((Wf wm s).take 0) = ac by simp [addAll]]) (fun b d Γ hd hΓ => ?_) (fun Γ hΓ => ?_))
        · subst hΓ
          obtain ⟨o, ho, rfl⟩ : ∃ o, (Wf wm s)[b]? = some o ∧ d = .str (mkS o) := get_map hd
          refine ⟨.c, _, .inr ⟨rfl, rfl⟩, by walk_at "mPut", ?_⟩
          have hfb : addAll ac ((Wf wm s).take (b + 1)) = addN (addAll ac ((Wf wm s).take b)) o := by unfold addAll; rw [List.take_succ, ho]; simp
          have hndb : (addAll ac ((Wf wm s).take b)).Nodup := addAll_nodup hnda
          have hsub : ∀ y ∈ addAll ac ((Wf wm s).take b), y ∈ names := fun y hy => by
            rcases addAll_mem.mp hy with h | h
            · exact hsua y h
            · exact hW s hsm y (List.mem_of_mem_take h)
          have hlb : (addAll ac ((Wf wm s).take b)).length ≤ names.length := nodup_sub hndb hsub
          generalize addAll ac ((Wf wm s).take b) = ab at hfb hndb hsub hlb ⊢
          refine Ex.cons (Ex1.setIn (m := reachM names (upd f x ab)) (k := x) (k2 := o) (mi := tD ab) (d := .bool true) (fk := .c) (fk2 := .c) (by walk_at "mMem") (one _ _ _ _ _ _ (by simp) (by simp) (by simp) (by simp) (by simp)) hgI EvF.kBool rfl (reachM_still _ _) (Ev.name (by walk_at "mMem")) (Ev.name (by walk_at "mMem")) (by rw [reachM_keys]; exact hn) (by rw [reachM_look _ hn hxm, upd_at]) (by rw [tD_keys]; exact hndb) (by rw [sizeLine_is]; unfold tD; rw [List.length_map]; omega) (by intro _ _; walk_at "mR") (by walk_at "mPut") (by walk_at "mR") (show Ex _ _ _ _ _ _ from ?_))
          refine Ex.drop (x := "_law_other") (by walk_at "mPut") ?_
          refine Ex.nil ?_
          show _ = _
          rw [setIn_reach, upd_at, upd_upd, hfb]
        subst hΓ
        rw [show (PL (Wf wm s)).length = (Wf wm s).length by simp, List.take_length]
        refine (show Ex _ _ _ _ _ _ from ?_)
        refine Ex.drop (x := "_law_share") (by walk_at "mPut") ?_
        refine Ex.nil ?_
        show _ = _
        rw [hfa]
      subst hΓ
      rw [show (PL (f x)).length = (f x).length by simp, List.take_length]
      refine (show Ex _ _ _ _ _ _ from ?_)
      refine Ex.drop (x := "_law_name") (by walk_at "mPut") ?_
      refine Ex.nil ?_
      show _ = _
      rw [hfs, hst]
    subst hΓ
    rw [show (PL names).length = names.length by simp, List.take_length]
    refine (show Ex _ _ _ _ _ _ from ?_)
    refine Ex.drop (x := "_law_turn") (by walk_at "mPut") ?_
    refine Ex.nil ?_
    show _ = _
    rw [hT]
  subst hΓ
  rw [rangeD_length, Int.toNat_natCast, hwl]
  refine (show Ex _ _ _ _ _ _ from ?_)
  have hfin : ∀ x ∈ names, turnF (Wf wm) names (fun x => addAll [] (Wf wm x)) wm.length x = reachF (Wf wm) wm.length x := fun x hx => turnF_is (Wf wm) hn hx wm.length
  have I := FI.turns hW wm.length
  generalize turnF (Wf wm) names (fun x => addAll [] (Wf wm x)) wm.length = f at hfin I ⊢
  have hnR : ((deepD (reachM names f)).map (·.1)).Nodup := by rw [deepD_keys, reachM_keys]; exact hn
  refine Ex.cons (Ex1.ret (d := .bool ((names.map fun x => decide (x ∈ f x)).any id)) (EvF.callB (xs := [(.d (.list ((names.map fun x => decide (x ∈ f x)).map .bool)), .c)]) (by walk_at "mKd") (by walk_at "mR") (by walk_at "mG") (by walk_at "mB") (.inl ⟨_, rfl⟩) (EvA.cons (Ev.ofF (EvF.cast (EvF.comp (Γv := [("_law_reach", some (.d (dictD (deepD (reachM names f))), .s (0, none)))]) (p := fun _ => true) (f := inR f) (items := PL names) (fl := .b) (by rw [← hitems]; exact Itr.dict (Ev.name (by walk_at "mMem")) hnD (by intro _; walk_at "mR")) (okComp_ok he rfl rfl) ?_ (okNames_ok rfl) (by rw [sizeLine_is, List.length_map]; omega) (fun _ _ _ _ => rfl) ?_) (congrArg PyData.list ?_))) EvA.nil (by walk_at "mR")) CallB.anyB) ?_)
  · intro q hq
    simp only [List.mem_cons, List.not_mem_nil, or_false] at hq
    subst hq; exact ⟨by walk_at "mMem", rfl⟩
  · intro C cl d hd' _
    obtain ⟨x, hx, rfl⟩ := List.mem_map.mp hd'
    show EvF _ _ _ [("_law_name", some (.d (.str (mkS x)), .c)), ("_law_reach", some (.d (dictD (deepD (reachM names f))), .s (0, none)))] _ (.bool (decide (x ∈ f x)))
    have hlR : (deepD (reachM names f)).lookup x = some (dictD (tD (f x))) := by
      have h1 := reachM_look f hn hx
      exact lookup_nodup hnR (List.mem_map.mpr ⟨(x, tD (f x)), lookup_mem h1, rfl⟩)
    rw [← tD_look]
    exact EvF.cmp (f₁ := .c) (f₂ := .s (0, none)) (v₁ := .d (.str (mkS x))) (v₂ := .d (dictD (tD (f x)))) (Ev.name (.head _)) (Ev.sub (Ev.name (.tail _ (.head _))) (Ev.name (.head _)) (Sub.dict hnR hlR) (by intro _ _; walk_at "mR")) (Cmp.inD (by rw [tD_keys]; exact I.nd x hx)) (by walk_at "mR")
  · rw [List.filter_eq_self.mpr (fun _ _ => rfl), List.map_map, List.map_map]
    exact List.map_congr_left fun x _ => rfl
  · show _ = _
    congr 1
    rw [List.any_map, Bool.eq_iff_iff, List.any_eq_true, List.any_eq_true]
    constructor
    · rintro ⟨x, hx, h⟩; exact ⟨x, hx, by simp only [Function.comp, id] at h; rw [hfin x hx] at h; exact h⟩
    · rintro ⟨x, hx, h⟩; exact ⟨x, hx, by simp only [Function.comp, id]; rw [hfin x hx]; exact h⟩
end
theorem CallB.strN {T : St} {n : Nat} {i : Int} {fl : Fl} (h0 : -10 ≤ i) (h1 : i < 10000) : CallB T n (.type "str") [(.d (.int i), fl)] (.str (mkS (decS i))) := ⟨fun {A reg s E Q vals} hA R W r h => by
  cases r with
  | cons r1 r2 =>
    cases r2
    obtain ⟨t, rfl⟩ := Rep.int_inv r1
    refine P.str_of_int ?_ (h _ _ (.tok _ _) (repF_str ..))
    by_cases hz : i.natAbs = 0
    · rw [hz]; decide
    · have : i.natAbs < 2 ^ 1920 := Nat.lt_trans (show i.natAbs < 10000 by omega) (by decide +kernel)
      exact (Nat.log2_lt hz).mpr this⟩
noncomputable def Sof (tab : Tab) (x : Nm) : List Stp := stepsOf ((tab.lookup x).getD [])
theorem Sof_row {tab : Tab} (hnd : (tab.map (·.1)).Nodup) {x : Nm} {ss : List Stp} (h : (x, ss) ∈ rowsOf tab) : Sof tab x = ss := by
  obtain ⟨q, hq, e⟩ := List.mem_map.mp h
  cases e
  unfold Sof
  rw [lookup_nodup hnd (a := q.2) hq]; rfl
theorem Sof_len {tab : Tab} {B : Nat} (h : ∀ x l, (x, l) ∈ tab → (stepsOf l).length ≤ B) (x : Nm) : (Sof tab x).length ≤ B := by
  unfold Sof
  cases e : tab.lookup x with
  | none => exact Nat.zero_le _
  | some l => exact h x l (lookup_mem e)
noncomputable def sN (k : Nat) : List Nat := [115] ++ decS (k : Int)
noncomputable def lineA (k : Nat) : List Nat := [97, 47, 64, 115] ++ decS ((k : Int) - 1)
noncomputable def fortyA (i : Nat) : Tab := (List.range i).map fun k => (sN k, lineA k)
noncomputable def endL (b : Bool) : List Nat := if b then [64, 115, 51, 57] else [47, 98]
noncomputable def fortyB (b : Bool) : Tab := (fortyA 40).map fun p => if p.1 = sN 0 then (p.1, endL b) else p
noncomputable def shB (tab : Tab) (x : List Nat) : Stp → Bool
  | .sh y => decide (y ∈ tab.map (·.1)) && decide ((tab.map (·.1)).idxOf y < (tab.map (·.1)).idxOf x)
  | _ => true
noncomputable def shI (tab : Tab) : Stp → Bool
  | .sh y => decide (y ∈ tab.map (·.1))
  | _ => true
noncomputable def isShB (y : Nm) : Stp → Bool
  | .sh z => decide (z = y)
  | _ => false
theorem isShB_ok {y : Nm} {ss : List Stp} (h : ss.any (isShB y) = true) : .sh y ∈ ss := by
  obtain ⟨s, hs, h⟩ := List.any_eq_true.mp h
  cases s with
  | sh z => have : z = y := of_decide_eq_true h; rw [← this]; exact hs
  | _ => cases h
theorem opt_any {α : Type} {o : Option α} {p : α → Bool} (h : o.any p = true) : ∃ a, o = some a ∧ p a = true := by
  cases o with
  | none => cases h
  | some a => exact ⟨a, rfl, h⟩
theorem fA_nd : ((fortyA 40).map (·.1)).Nodup := by decide +kernel
theorem fB_nd (b : Bool) : ((fortyB b).map (·.1)).Nodup := by cases b <;> decide +kernel
theorem fB_line (b : Bool) : ∀ x l, (x, l) ∈ fortyB b → okLine l ∧ l.length ≤ 10000 ∧ (stepsOf l).length ≤ 61 := fun x l h => by
  have hc : ((fortyB b).all fun p => (splitC 47 p.2).all (fun q => (stepOf q).isSome) && (decide (p.2.length ≤ 10000) && decide ((stepsOf p.2).length ≤ 61))) = true := by cases b <;> decide +kernel
  have := List.all_eq_true.mp hc _ h
  simp only [Bool.and_eq_true, decide_eq_true_eq, List.all_eq_true] at this
  exact ⟨this.1, this.2.1, this.2.2⟩
theorem fB_in (b : Bool) : ∀ x l y, (x, l) ∈ fortyB b → .sh y ∈ stepsOf l → y ∈ (fortyB b).map (·.1) := fun x l y h hy => by
  have hc : ((fortyB b).all fun p => (stepsOf p.2).all (shI (fortyB b))) = true := by cases b <;> decide +kernel
  exact of_decide_eq_true (List.all_eq_true.mp (List.all_eq_true.mp hc _ h) _ hy)
theorem fB_len (b : Bool) : (fortyB b).length = 40 := by cases b <;> decide +kernel
theorem forty_acy : Acy (refN (Sof (fortyB false)) 41) (fun x => ((fortyB false).map (·.1)).idxOf x) (rowsOf (fortyB false)) := by
  have hk := rowsOf_keys (fortyB false)
  refine acy_of (N := 40) (by rw [hk]; exact fB_nd false) (fun x ss h => Sof_row (fB_nd false) h) (fun x ss h y hy => ?_) (fun x hx => ?_)
  · obtain ⟨q, hq, e⟩ := List.mem_map.mp h
    cases e
    have hc : ((fortyB false).all fun p => (stepsOf p.2).all (shB (fortyB false) p.1)) = true := by decide +kernel
    have := List.all_eq_true.mp (List.all_eq_true.mp hc _ hq) _ hy
    unfold shB at this
    simp only [Bool.and_eq_true, decide_eq_true_eq] at this
    rw [hk]; exact this
  · rw [hk] at hx
    have := List.idxOf_lt_length_iff.mpr hx
    rw [List.length_map, fB_len] at this
    exact this
theorem forty_bad : Bad (fortyB true) CR := by
  refine ⟨fB_nd true, fun ⟨x, l, h, hn⟩ => absurd (fB_line true x l h).1 hn, fun _ ⟨x, l, y, h, hy, hn⟩ => absurd (fB_in true x l y h hy) hn, fun _ _ => ⟨rfl, fun rk hrk => ?_⟩⟩
  have hc : ((List.range 39).all fun k => ((fortyB true).lookup (sN (k + 1))).any fun l => (stepsOf l).any (isShB (sN k))) = true := by decide +kernel
  have h0 : (((fortyB true).lookup (sN 0)).any fun l => (stepsOf l).any (isShB (sN 39))) = true := by decide +kernel
  have step : ∀ k, k < 39 → rk (sN k) < rk (sN (k + 1)) := fun k hk => by
    have := List.all_eq_true.mp hc k (List.mem_range.mpr hk)
    obtain ⟨l, hl, h⟩ := opt_any this
    exact hrk _ l (lookup_mem hl) _ (isShB_ok h)
  have up : ∀ k, k ≤ 39 → rk (sN 0) + k ≤ rk (sN k) := fun k => by
    induction k with
    | zero => intro _; omega
    | succ k ih => intro hk; have := ih (by omega); have := step k (by omega); omega
  obtain ⟨l, hl, h⟩ := opt_any h0
  have h1 := hrk _ l (lookup_mem hl) _ (isShB_ok h)
  have h2 := up 39 (by omega)
  omega
theorem fortyA_succ (i : Nat) : fortyA (i + 1) = fortyA i ++ [(sN i, lineA i)] := by unfold fortyA; rw [List.range_succ, List.map_append]; rfl
theorem tabD_snoc (tab : Tab) (x l : List Nat) : tabD (tab ++ [(x, l)]) = tabD tab ++ [(x, .str (mkS l))] := by unfold tabD; rw [List.map_append]; rfl
theorem fortyA_look {i : Nat} (hi : i < 40) : (fortyA i).lookup (sN i) = none ∧ ((fortyA i).map (·.1)).Nodup := by
  have h : ((fortyA (i + 1)).map (·.1)).Nodup := by
    have e : (fortyA (i + 1)).map (·.1) = ((fortyA 40).map (·.1)).take (i + 1) := by
      unfold fortyA
      rw [List.map_map, List.map_map, ← List.map_take, List.take_range, Nat.min_eq_left (by omega)]
    rw [e]; exact fA_nd.sublist (List.take_sublist ..)
  rw [fortyA_succ, List.map_append] at h
  have h' := List.nodup_append.mp h
  refine ⟨lookup_none fun hm => h'.2.2 (sN i) hm (sN i) (by simp) rfl, h'.1⟩
theorem dec_small {k : Nat} (hk : k < 41) : (decS ((k : Int) - 1)).length ≤ 3 ∧ (decS (k : Int)).length ≤ 3 := by
  have hc : ((List.range 41).all fun k => decide ((decS ((k : Int) - 1)).length ≤ 3) && decide ((decS (k : Int)).length ≤ 3)) = true := by decide +kernel
  have := List.all_eq_true.mp hc k (List.mem_range.mpr hk)
  simpa using this
local macro_rules | `(tactic| walk_at "mC") => `(tactic| (with_reducible assumption))
section
variable {T : St} (G : GK T)
include G
theorem law_forty_spec {b : Bool} : Fun T 1 "_law_row_of_forty" [.d (.bool b)] (dictD (tabD (fortyB b))) := by
  refine Fun.defK G ["_law_ring"] ["_law_table", "_law_k"] (by k_is) (by k_is) (by k_is) (by walk_at "mBinds") (Prm.c rfl Prm.nil) (by rfl) (by rfl) ⟨rfl, rfl, rfl⟩ (fun env he => ?_)
  walk_at "mDef"
  have e0 : (Str.ofString "s0").cps.toList = sN 0 := by decide +kernel
  have e3 : (Str.ofString "s").cps.toList = [115] := by decide +kernel
  have e4 : (Str.ofString "a/@s").cps.toList = [97, 47, 64, 115] := by decide +kernel
  refine Ex.cons (Ex1.assignO (d := dictD []) EvF.dict0 rfl (by walk_at "mPut") (by walk_at "mLoc") (by walk_at "mR") (show Ex _ _ _ _ _ _ from ?_))
  refine Ex.cons (Ex1.forI (items := rangeD (Int.toNat 40)) (fl := .c) (by walk_at "mItr") (by simp) (by walk_at "mLoc")
    (fun i Γ => ∃ sl, Γ = ([("_law_ring", some (.d (.bool b), .c)), ("_law_table", some (.d (dictD (tabD (fortyA i))), .o)), ("_law_k", sl)] : Gm)) ⟨_, rfl⟩ (fun i d Γ hd hΓ => ?_) (fun Γ hΓ => ?_))
  · obtain ⟨sl, rfl⟩ := hΓ
    obtain ⟨hi, rfl⟩ := rangeD_get hd
    have hi' : i < 40 := hi
    refine ⟨.c, _, .inl rfl, by walk_at "mPut", ?_⟩
    obtain ⟨f1, f2⟩ := fortyA_look hi'
    obtain ⟨l1, l2⟩ := dec_small (k := i) (by omega)
    refine Ex.cons (Ex1.setNew (m := tabD (fortyA i)) (k := sN i) (d := .str (mkS (lineA i))) (fk := .c) (by walk_at "mMem") (Ev.ofF ?_) (Ev.ofF ?_) (by rw [tabD_keys]; exact f2) (by rw [tabD_look, f1]; rfl) (by rw [sizeLine_is]; unfold tabD fortyA; simp; omega) (by walk_at "mPut") (by walk_at "mR") (show Ex _ _ _ _ _ _ from ?_))
    · show EvF _ _ _ _ _ (.str (mkS ([97, 47, 64, 115] ++ decS ((i : Int) - 1))))
      rw [← e4]
      refine EvF.bin (f₁ := .c) (f₂ := .c) (Ev.ofF EvF.kS) (Ev.ofF (EvF.callB (xs := [(.d (.int ((i : Int) - 1)), .c)]) (by walk_at "mKd") (by walk_at "mR") (by walk_at "mG") (by walk_at "mB") (.inr ⟨_, rfl⟩) (EvA.cons (Ev.ofF (by walk_at "m")) EvA.nil (by walk_at "mR")) (CallB.strN (by omega) (by omega)))) (Bin.catS ?_)
      rw [sizeLine_is, e4]; simp only [List.length_cons, List.length_nil]; omega
    · show EvF _ _ _ _ _ (.str (mkS ([115] ++ decS (i : Int))))
      rw [← e3]
      refine EvF.bin (f₁ := .c) (f₂ := .c) (Ev.ofF EvF.kS) (Ev.ofF (EvF.callB (xs := [(.d (.int (i : Int)), .c)]) (by walk_at "mKd") (by walk_at "mR") (by walk_at "mG") (by walk_at "mB") (.inr ⟨_, rfl⟩) (EvA.cons (Ev.name (by walk_at "mMem")) EvA.nil (by walk_at "mR")) (CallB.strN (by omega) (by omega)))) (Bin.catS ?_)
      rw [sizeLine_is, e3]; simp only [List.length_cons, List.length_nil]; omega
    exact Ex.nil ⟨_, by rw [fortyA_succ, tabD_snoc]⟩
  obtain ⟨sl, rfl⟩ := hΓ
  rw [rangeD_length, show Int.toNat 40 = 40 from rfl]
  refine (show Ex _ _ _ _ _ _ from ?_)
  have hset : setM (tabD (fortyA 40)) (sN 0) (.str (mkS (endL b))) = tabD (fortyB b) := by
    have hs : ((tabD (fortyA 40)).lookup (sN 0)).isSome = true := lookup_some (by rw [tabD_keys]; decide +kernel)
    unfold setM fortyB
    rw [if_pos hs]
    unfold tabD
    rw [List.map_map, List.map_map]
    refine List.map_congr_left fun p _ => ?_
    simp only [Function.comp]
    split <;> rfl
  have hit : [PyData.str (mkS (Str.ofString "/b").cps.toList), .str (mkS (Str.ofString "@s39").cps.toList)][Int.toNat (if b then 1 else 0)]? = some (.str (mkS (endL b))) := by
    rw [show (Str.ofString "/b").cps.toList = [47, 98] by decide +kernel, show (Str.ofString "@s39").cps.toList = [64, 115, 51, 57] by decide +kernel]
    cases b <;> rfl
  refine Ex.cons (Ex1.setAny (m := tabD (fortyA 40)) (k := sN 0) (d := .str (mkS (endL b))) (fk := .c) (by walk_at "mMem") (Ev.ofF (Ev.still (Ev.sub (Ev.ofF (EvF.listL (EvL.cons (Ev.ofF EvF.kS) (EvL.cons (Ev.ofF EvF.kS) EvL.nil (by walk_at "mR")) (by walk_at "mR")) (by rw [sizeLine_is]; simp))) (Ev.ofF (EvF.callB (xs := [(.d (.bool b), .c)]) (by walk_at "mKd") (by walk_at "mR") (by walk_at "mG") (by walk_at "mB") (.inr ⟨_, rfl⟩) (EvA.cons (Ev.name (by walk_at "mMem")) EvA.nil (by walk_at "mR")) CallB.intB)) (Sub.list (by cases b <;> decide) (by cases b <;> decide) hit) (by intro _ _; walk_at "mR")) rfl)) (Ev.ofF (EvF.cast EvF.kS (by rw [e0]))) (by rw [tabD_keys]; exact fA_nd) (by rw [sizeLine_is]; unfold tabD fortyA; simp) (by rw [hset]; walk_at "mPut") (by walk_at "mR") (show Ex _ _ _ _ _ _ from ?_))
  exact Ex.cons (Ex1.retO (by walk_at "mMem") rfl)
end
section
variable {names : List Nm} {c : Nat → Int}
noncomputable def tabN (names : List Nm) (c : Nat → Int) (i : Nat) : Tab := (List.range i).map fun k => (names.getD k [], poLine names (c k))
noncomputable def rowsN (names : List Nm) (c : Nat → Int) (i : Nat) : List Row := (List.range i).map fun k => (names.getD k [], poAll names (c k))
noncomputable def shOf : List Stp → List Nm
  | [] => []
  | .sh y :: ss => y :: shOf ss
  | _ :: ss => shOf ss
noncomputable def wantsN (names : List Nm) (c : Nat → Int) (i : Nat) : WM := (List.range i).map fun k => (names.getD k [], shOf (poAll names (c k)))
noncomputable def oddsN (c : Nat → Int) (i : Nat) : List Nm := (List.range i).map fun k => oddTo (c k) (poN (c k))
theorem shOf_mem : ∀ {ss : List Stp} {y : Nm}, y ∈ shOf ss ↔ .sh y ∈ ss
  | [], y => by simp [shOf]
  | s :: ss, y => by
    cases s with
    | sh z => simp only [shOf, List.mem_cons, shOf_mem (ss := ss), Stp.sh.injEq]
    | _ => simp [shOf, shOf_mem (ss := ss)]
theorem shOf_len : ∀ ss : List Stp, (shOf ss).length ≤ ss.length
  | [] => Nat.le_refl _
  | s :: ss => by
    have := shOf_len ss
    cases s <;> simp [shOf] <;> omega
theorem range_take (names : List Nm) {i : Nat} (h : i ≤ names.length) : (List.range i).map (fun k => names.getD k []) = names.take i := by
  induction i with
  | zero => rfl
  | succ i ih =>
    rw [List.range_succ, List.map_append, ih (by omega), List.take_succ]
    simp [List.getD, show i < names.length by omega]
theorem tabN_keys {i : Nat} (h : i ≤ names.length) : (tabN names c i).map (·.1) = names.take i := by unfold tabN; rw [List.map_map]; exact range_take names h
theorem rowsN_keys {i : Nat} (h : i ≤ names.length) : (rowsN names c i).map (·.1) = names.take i := by unfold rowsN; rw [List.map_map]; exact range_take names h
theorem wantsN_keys {i : Nat} (h : i ≤ names.length) : (wantsN names c i).map (·.1) = names.take i := by unfold wantsN; rw [List.map_map]; exact range_take names h
theorem tabN_mem {i : Nat} {x l : Nm} (h : (x, l) ∈ tabN names c i) : ∃ k, k < i ∧ x = names.getD k [] ∧ l = poLine names (c k) := by
  obtain ⟨k, hk, e⟩ := List.mem_map.mp h
  cases e
  exact ⟨k, List.mem_range.mp hk, rfl, rfl⟩
variable (hne : names ≠ []) (hg : ∀ x ∈ names, Gn x) (hn : names.Nodup)
include hne hg hn
theorem all_keys : (tabN names c names.length).map (·.1) = names := by rw [tabN_keys (Nat.le_refl _), List.take_length]
theorem out_len : ∀ x l, (x, l) ∈ tabN names c names.length → l.length ≤ 10000 ∧ (okLine l → (stepsOf l).length ≤ 61) := fun x l h => by
  obtain ⟨k, _, _, rfl⟩ := tabN_mem h
  exact ⟨(po_ok hne hg (c k)).len, (po_ok hne hg (c k)).n61⟩
theorem out_esc (hE : ∃ k, k < names.length ∧ oddTo (c k) (poN (c k)) = tE) : Bad (tabN names c names.length) CB := by
  obtain ⟨k, hk, h⟩ := hE
  have hm : (names.getD k [], poLine names (c k)) ∈ tabN names c names.length := List.mem_map.mpr ⟨k, List.mem_range.mpr hk, rfl⟩
  have hno : ¬ ∀ x l, (x, l) ∈ tabN names c names.length → okLine l := fun q => (po_ok hne hg (c k)).esc h (q _ _ hm)
  exact ⟨by rw [all_keys hne hg hn]; exact hn, fun _ => rfl, fun q => absurd q hno, fun q => absurd q hno⟩
theorem out_ok (hE : ∀ k, k < names.length → oddTo (c k) (poN (c k)) ≠ tE) : ∀ x l, (x, l) ∈ tabN names c names.length → okLine l := fun x l h => by
  obtain ⟨k, hk, _, rfl⟩ := tabN_mem h
  exact (po_ok hne hg (c k)).ok (hE k hk)
theorem out_sh (hE : ∀ k, k < names.length → oddTo (c k) (poN (c k)) ≠ tE) (hS : ∃ k, k < names.length ∧ oddTo (c k) (poN (c k)) = tS) : Bad (tabN names c names.length) CN := by
  obtain ⟨k, hk, h⟩ := hS
  have hm : (names.getD k [], poLine names (c k)) ∈ tabN names c names.length := List.mem_map.mpr ⟨k, List.mem_range.mpr hk, rfl⟩
  obtain ⟨y, hy1, hy2⟩ := (po_ok hne hg (c k)).sh h
  refine ⟨by rw [all_keys hne hg hn]; exact hn, fun ⟨x, l, hx, hno⟩ => absurd (out_ok hne hg hn hE x l hx) hno, fun _ _ => rfl, fun _ q => ?_⟩
  have := q _ _ y hm hy1
  rw [all_keys hne hg hn] at this
  exact absurd this hy2
theorem out_steps (hM : ∀ k, k < names.length → oddTo (c k) (poN (c k)) = tM) : rowsOf (tabN names c names.length) = rowsN names c names.length := by
  unfold rowsOf tabN rowsN
  rw [List.map_map]
  refine List.map_congr_left fun k hk => ?_
  simp only [Function.comp]
  rw [(po_ok hne hg (c k)).made (hM k (List.mem_range.mp hk))]
theorem out_wants {k : Nat} (hk : k < names.length) : Wf (wantsN names c names.length) (names.getD k []) = shOf (poAll names (c k)) := by
  unfold Wf
  have h1 : (names.getD k [], shOf (poAll names (c k))) ∈ wantsN names c names.length := List.mem_map.mpr ⟨k, List.mem_range.mpr hk, rfl⟩
  rw [lookup_nodup (by rw [wantsN_keys (Nat.le_refl _), List.take_length]; exact hn) h1]
  rfl
theorem out_W : ∀ s ∈ names, ∀ z ∈ Wf (wantsN names c names.length) s, z ∈ names := fun s hs z hz => by
  obtain ⟨k, hk⟩ := List.getElem?_of_mem hs
  have hkl := (List.getElem?_eq_some_iff.mp hk).1
  have e : names.getD k [] = s := by simp [List.getD, hk]
  rw [← e, out_wants hne hg hn hkl] at hz
  exact (po_ok hne hg (c k)).inn z (shOf_mem.mp hz)
theorem out_share (hM : ∀ k, k < names.length → oddTo (c k) (poN (c k)) = tM) {x l y : Nm} (h : (x, l) ∈ tabN names c names.length) (hy : .sh y ∈ stepsOf l) : x ∈ names ∧ y ∈ Wf (wantsN names c names.length) x ∧ y ∈ names := by
  obtain ⟨k, hk, rfl, rfl⟩ := tabN_mem h
  rw [(po_ok hne hg (c k)).made (hM k hk)] at hy
  refine ⟨by simp [List.getD, hk], ?_, (po_ok hne hg (c k)).inn y hy⟩
  rw [out_wants hne hg hn hk]
  exact shOf_mem.mpr hy
theorem out_ring (hM : ∀ k, k < names.length → oddTo (c k) (poN (c k)) = tM) (hr : ∃ x ∈ names, x ∈ reachF (Wf (wantsN names c names.length)) names.length x) : Bad (tabN names c names.length) CR := by
  have hE : ∀ k, k < names.length → oddTo (c k) (poN (c k)) ≠ tE := fun k hk h => by rw [hM k hk] at h; cases h
  refine ⟨by rw [all_keys hne hg hn]; exact hn, fun ⟨x, l, hx, hno⟩ => absurd (out_ok hne hg hn hE x l hx) hno, fun _ ⟨x, l, y, hx, hy, hno⟩ => ?_, fun _ _ => ⟨rfl, fun rk hrk => ?_⟩⟩
  · rw [all_keys hne hg hn] at hno
    exact absurd (out_share hne hg hn hM hx hy).2.2 hno
  · obtain ⟨x, hx, hr⟩ := hr
    refine ring_no (rk := rk) (out_W hne hg hn) (fun s hs z hz => ?_) hx names.length hr
    obtain ⟨k, hk⟩ := List.getElem?_of_mem hs
    have hkl := (List.getElem?_eq_some_iff.mp hk).1
    have e : names.getD k [] = s := by simp [List.getD, hk]
    rw [← e, out_wants hne hg hn hkl] at hz
    rw [← e]
    refine hrk _ (poLine names (c k)) (List.mem_map.mpr ⟨k, List.mem_range.mpr hkl, rfl⟩) z ?_
    rw [(po_ok hne hg (c k)).made (hM k hkl)]
    exact shOf_mem.mp hz
theorem gn_a : Gn [97] ∧ Gn [46, 46, 46] := by
  have s97 : IsSgn 97 := ⟨64, by decide, by decide⟩
  exact ⟨⟨by simp, by simp, fun c hc => by simp at hc; subst hc; exact s97⟩, ⟨by simp, by simp, fun c hc => by simp at hc; subst hc; exact sgn46⟩⟩
theorem po_nm (cc : Int) {y : Nm} (h : .nm y ∈ poAll names cc) : Gn y := by
  rcases List.mem_append.mp h with h | h
  · unfold rootOf at h
    split at h <;> simp at h
  · obtain ⟨k, _, hk⟩ := List.mem_flatMap.mp h
    unfold poSteps at hk
    split at hk
    · simp at hk
    split at hk
    · cases hk
    split at hk
    · cases hk
    · have : kindP cc k % 4 = 0 ∨ kindP cc k % 4 = 1 ∨ kindP cc k % 4 = 2 ∨ kindP cc k % 4 = 3 := by omega
      rcases this with e | e | e | e <;> rw [e] at hk <;> simp [plainS] at hk
      · rw [hk]; exact (gn_a hne hg hn).1
      · rw [hk]; exact (gn_a hne hg hn).2
theorem out_made (hl : names.length ≤ 40) (hM : ∀ k, k < names.length → oddTo (c k) (poN (c k)) = tM) (hr : ∀ x ∈ names, x ∉ reachF (Wf (wantsN names c names.length)) names.length x) :
    ∃ ref rk, Acy ref rk (rowsOf (tabN names c names.length)) ∧ (∀ x ∈ (tabN names c names.length).map (·.1), (ref x).length ≤ 10000) ∧ (∀ x ∈ (tabN names c names.length).map (·.1), ∀ y ∈ ref x, Asc y) ∧ ∀ x l, (x, l) ∈ tabN names c names.length → okLine l ∧ l.length ≤ 10000 ∧ (stepsOf l).length ≤ 61 := by
  have hE : ∀ k, k < names.length → oddTo (c k) (poN (c k)) ≠ tE := fun k hk h => by rw [hM k hk] at h; cases h
  have hline : ∀ x l, (x, l) ∈ tabN names c names.length → okLine l ∧ l.length ≤ 10000 ∧ (stepsOf l).length ≤ 61 := fun x l h => ⟨out_ok hne hg hn hE x l h, (out_len hne hg hn x l h).1, (out_len hne hg hn x l h).2 (out_ok hne hg hn hE x l h)⟩
  have hnd : ((tabN names c names.length).map (·.1)).Nodup := by rw [all_keys hne hg hn]; exact hn
  have hk := rowsOf_keys (tabN names c names.length)
  have hrank := rank_of (out_W hne hg hn (c := c)) hr
  have hS61 : ∀ x, (Sof (tabN names c names.length) x).length ≤ 61 := Sof_len fun x l h => (hline x l h).2.2
  refine ⟨refN (Sof (tabN names c names.length)) 42, fun x => (reachF (Wf (wantsN names c names.length)) names.length x).length, ?_, fun x _ => ?_, fun x hx y hy => ?_, hline⟩
  · refine acy_of (N := 41) (by rw [hk]; exact hnd) (fun x ss h => Sof_row hnd h) (fun x ss h y hy => ?_) (fun x hx => ?_)
    · obtain ⟨q, hq, e⟩ := List.mem_map.mp h
      cases e
      obtain ⟨h1, h2, h3⟩ := out_share hne hg hn hM (x := q.1) (l := q.2) hq hy
      rw [hk, all_keys hne hg hn]
      exact ⟨h3, hrank q.1 h1 y h2⟩
    · rw [hk, all_keys hne hg hn] at hx
      have hsub : ∀ z ∈ reachF (Wf (wantsN names c names.length)) names.length x, z ∈ names := closeN_ind (P := fun z => z ∈ names) (fun s hs z hz => out_W hne hg hn s hs z hz) names.length fun z hz => by
        rcases addAll_mem.mp hz with h | h
        · cases h
        · exact out_W hne hg hn x hx z h
      have := nodup_sub (reach_nodup (W := Wf (wantsN names c names.length)) names.length x) hsub
      omega
  · have := refN_len hS61 42 x
    omega
  · have key : ∀ (k : Nat) (x : Nm), ∀ y ∈ refN (Sof (tabN names c names.length)) k x, Gn y := fun k => by
      induction k with
      | zero => intro x y hy; cases hy
      | succ k ih =>
        intro x
        refine fold_gd _ [] (fun y _ => ih y) (fun y hy => ?_) (by simp)
        unfold Sof at hy
        cases e : (tabN names c names.length).lookup x with
        | none => rw [e] at hy; cases hy
        | some l =>
          rw [e] at hy
          obtain ⟨j, hj, _, rfl⟩ := tabN_mem (lookup_mem e)
          have hy' : .nm y ∈ stepsOf (poLine names (c j)) := hy
          rw [(po_ok hne hg (c j)).made (hM j hj)] at hy'
          exact po_nm hne hg hn (c j) hy'
    exact (key 42 x y hy).asc
end
noncomputable def nmF (ns : List Int) (i : Nat) : List Nm := (List.range i).foldl (fun acc k => addN acc (nameBy (ns.getD (1 + k) 0))) []
theorem nmF_succ (ns : List Int) (i : Nat) : nmF ns (i + 1) = addN (nmF ns i) (nameBy (ns.getD (1 + i) 0)) := by unfold nmF; rw [List.range_succ, List.foldl_append]; rfl
theorem nmF_ok (ns : List Int) : ∀ i, (nmF ns i).Nodup ∧ (∀ x ∈ nmF ns i, Gn x) ∧ (nmF ns i).length ≤ i
  | 0 => ⟨List.nodup_nil, by simp [nmF], by simp [nmF]⟩
  | i + 1 => by
    obtain ⟨h1, h2, h3⟩ := nmF_ok ns i
    rw [nmF_succ]
    refine ⟨addN_nodup h1, fun x hx => ?_, ?_⟩
    · rcases addN_mem.mp hx with h | h
      · exact h2 x h
      · rw [h]; exact nameBy_gd _
    · unfold addN
      split
      · omega
      · rw [List.length_append, List.length_singleton]; omega
theorem nmF_ne (ns : List Int) {i : Nat} (hi : 1 ≤ i) : nmF ns i ≠ [] := by
  obtain ⟨j, rfl⟩ : ∃ j, i = j + 1 := ⟨i - 1, by omega⟩
  rw [nmF_succ]
  intro e
  have : nameBy (ns.getD (1 + j) 0) ∈ addN (nmF ns j) (nameBy (ns.getD (1 + j) 0)) := addN_mem.mpr (.inr rfl)
  rw [e] at this; cases this
theorem any_PL (acc : List Nm) (x : Nm) : ((PL acc).any fun y => PyData.eqv y (.str (mkS x))) = decide (x ∈ acc) := by
  rw [Bool.eq_iff_iff, List.any_eq_true]
  constructor
  · rintro ⟨d, hd, h⟩
    obtain ⟨y, hy, rfl⟩ := List.mem_map.mp hd
    have h' : (mkS y == mkS x) = true := h
    rw [beq_mkS] at h'
    rw [← of_decide_eq_true h']; exact decide_eq_true hy
  · intro h
    refine ⟨.str (mkS x), List.mem_map.mpr ⟨x, of_decide_eq_true h, rfl⟩, ?_⟩
    show (mkS x == mkS x) = true
    simp
noncomputable def isK (k : List Nat) : PyData → Bool
  | .tuple (.str x :: _) => decide (x = mkS k)
  | _ => false
noncomputable def sndD : PyData → PyData
  | .tuple [_, x] => x
  | d => d
theorem isK_sh (y : Nm) : isK kSh (stD (.sh y)) = true := by show decide (mkS kSh = mkS kSh) = true; simp
theorem isK_nm (y : Nm) : isK kSh (stD (.nm y)) = false := by show decide (mkS kNm = mkS kSh) = false; decide +kernel
theorem sh_filter : ∀ ss : List Stp, (((ss.map stD).filter (isK kSh)).map sndD) = PL (shOf ss)
  | [] => rfl
  | s :: ss => by
    have ih := sh_filter ss
    cases s with
    | sh y =>
      rw [List.map_cons, List.filter_cons_of_pos (isK_sh y), List.map_cons, ih]; rfl
    | nm y =>
      rw [List.map_cons, List.filter_cons_of_neg (by rw [isK_nm]; decide), ih]; rfl
    | up => rw [List.map_cons, List.filter_cons_of_neg (by decide +kernel), ih]; rfl
    | root => rw [List.map_cons, List.filter_cons_of_neg (by decide +kernel), ih]; rfl
theorem tdue_b : tDue CB = (Str.ofString "escape value").cps.toList := by decide +kernel
theorem tdue_n : tDue CN = (Str.ofString "share value").cps.toList := by decide +kernel
theorem tdue_r : tDue CR = (Str.ofString "ring value").cps.toList := by decide +kernel
theorem odd_asc (c : Int) (n : Nat) : Asc (oddTo c n) := by
  rcases odd_cases c n with ⟨h, _⟩ | ⟨h, _⟩ | ⟨h, _⟩ <;> rw [h] <;> intro x hx <;> simp [tE, tS, tM] at hx <;> omega
noncomputable def cN (ns : List Int) (k : Nat) : Int := ns.getD (7 + k) 0
theorem tabN_succ (names : List Nm) (c : Nat → Int) (i : Nat) : tabD (tabN names c (i + 1)) = tabD (tabN names c i) ++ [(names.getD i [], .str (mkS (poLine names (c i))))] := by unfold tabD tabN; rw [List.range_succ, List.map_append, List.map_append]; rfl
theorem rowsN_succ (names : List Nm) (c : Nat → Int) (i : Nat) : rowsD (rowsN names c (i + 1)) = rowsD (rowsN names c i) ++ [(names.getD i [], .list ((poAll names (c i)).map stD))] := by unfold rowsD rowsN; rw [List.range_succ, List.map_append, List.map_append]; rfl
theorem wantsN_succ (names : List Nm) (c : Nat → Int) (i : Nat) : wantsD (wantsN names c (i + 1)) = wantsD (wantsN names c i) ++ [(names.getD i [], .list (PL (shOf (poAll names (c i)))))] := by unfold wantsD wantsN; rw [List.range_succ, List.map_append, List.map_append]; rfl
theorem oddsN_succ (c : Nat → Int) (i : Nat) : PL (oddsN c (i + 1)) = PL (oddsN c i) ++ [.str (mkS (oddTo (c i) (poN (c i))))] := by unfold oddsN; rw [List.range_succ, List.map_append]; exact List.map_append ..
theorem not_in_take {names : List Nm} (hn : names.Nodup) {i : Nat} (hi : i < names.length) : names.getD i [] ∉ names.take i := fun hm => by
  obtain ⟨j, hj⟩ := List.getElem?_of_mem hm
  have hjl : j < i := by have := (List.getElem?_eq_some_iff.mp hj).1; rw [List.length_take] at this; omega
  rw [List.getElem?_take_of_lt hjl] at hj
  have h2 : names[i]? = some (names.getD i []) := by simp [List.getD, hi]
  have := nodup_idx hn hj h2
  omega
local macro_rules | `(tactic| walk_at "mC") => `(tactic| (with_reducible assumption))
section
variable {T : St} (G : GK T)
include G
theorem kind_test {n : Nat} {env : Env} {s : Stp} {p₁ p₂ p₃ p₄ p₅ : Pos} {k1 k2 : Nat} : IsT T n env [("_law_step", some (.d (stD s), .c))] (.Compare (.Subscript (.Name "_law_step" p₁) (.Constant (.int 0) k1 p₂) p₃) [.Eq] [.Constant (.str "share") k2 p₄] p₅) (isK kSh (stD s)) := by
  have key : ∀ (k : List Nat) (its : List PyData), stD s = .tuple its → its[Int.toNat 0]? = some (.str (mkS k)) → IsT T n env [("_law_step", some (.d (stD s), .c))] (.Compare (.Subscript (.Name "_law_step" p₁) (.Constant (.int 0) k1 p₂) p₃) [.Eq] [.Constant (.str "share") k2 p₄] p₅) (decide (k = (Str.ofString "share").cps.toList)) := fun k its h1 h2 =>
    IsT.cmp (f₁ := .c) (f₂ := .c) (v₁ := .d (.str (mkS k))) (v₂ := .d (.str (mkS (Str.ofString "share").cps.toList))) (Ev.sub (v := .d (.tuple its)) (Ev.name (by rw [← h1]; exact .head _)) (Ev.ofF EvF.kInt) (Sub.tuple (by omega) (by omega) h2) (by intro _ _; walk_at "mR")) (Ev.ofF EvF.kS) Cmp.eqL (by walk_at "mR")
  cases s with
  | sh y => have := key kSh _ rfl rfl; rw [show isK kSh (stD (.sh y)) = decide (kSh = (Str.ofString "share").cps.toList) by rw [isK_sh]; decide +kernel]; exact this
  | nm y => have := key kNm _ rfl rfl; rw [show isK kSh (stD (.nm y)) = decide (kNm = (Str.ofString "share").cps.toList) by rw [isK_nm]; decide +kernel]; exact this
  | up => have := key kUp _ rfl rfl; rw [show isK kSh (stD .up) = decide (kUp = (Str.ofString "share").cps.toList) by decide +kernel]; exact this
  | root => have := key kRoot _ rfl rfl; rw [show isK kSh (stD .root) = decide (kRoot = (Str.ofString "share").cps.toList) by decide +kernel]; exact this
end
local macro_rules | `(tactic| walk_at "mC") => `(tactic| exact law_of_spec (by assumption) (by assumption) (by omega))
local macro_rules | `(tactic| walk_at "mC") => `(tactic| exact law_name_by_spec (by assumption))
section
variable {T : St} (G : GK T)
include G
theorem law_spec {ns : List Int} (hns : ns.length ≤ 63) : FunT T 7 "law" [.d (.list (ns.map .int))] (.bool true) := by
  have hsg : T.mg "_law_said" = some (.ref 194) := G.g _ _ (by k_is)
  refine FunT.defK G ["_law_script"] ["_law_first", "_law_names", "_law_k", "_law_name", "_law_table", "_law_wants", "_law_rows", "_law_odds", "_law_made", "_law_due"] (by k_is) (by k_is) (by k_is) (by walk_at "mBinds") (by walk_at "mPrm") (by rfl) (by rfl) ⟨rfl, rfl, rfl⟩ (fun env he => ?_)
  walk_at "mDef"
  refine ExX.cons1 (Ex1.assign (d := .int (ns.getD (Int.toNat 0) 0)) (by walk_at "m") (by walk_at "mPut") (by walk_at "mLoc") (by walk_at "mR") (show ExX _ _ _ _ _ _ _ from ?_))
  generalize ns.getD (Int.toNat 0) 0 = first
  refine ExX.cons (ExX1.ite (b := first % 9 == 1) (by walk_at "m") (fun hb => ?_) (fun hb => ?_))
  · -- the row of forty
    have hf := law_forty_spec G (b := (first / 9 % 2 == 1))
    have hsaid : ∃ x, (CallsS T 6 194 [.d (dictD (tabD (fortyB (first / 9 % 2 == 1))))] (mkS x) ∧ ∃ fd, FnAt T 194 fd) ∧ [PyData.str (mkS (Str.ofString "made").cps.toList), .str (mkS (Str.ofString "ring value").cps.toList)][Int.toNat (first / 9 % 2)]? = some (.str (mkS x)) := by
      by_cases h2 : first / 9 % 2 = 1
      · have e : (first / 9 % 2 == 1) = true := by simpa using h2
        rw [e, h2]
        exact ⟨tDue CR, said_bad G forty_bad (.inr (.inr rfl)) (fun x l h => ⟨(fB_line true x l h).2.1, fun _ => (fB_line true x l h).2.2⟩) (by rw [fB_len]; omega), by rw [tdue_r]; rfl⟩
      · have e : (first / 9 % 2 == 1) = false := by simpa using h2
        have h0 : first / 9 % 2 = 0 := by omega
        rw [e, h0]
        refine ⟨tMade, said_ok G forty_acy (fun x l h => ⟨(fB_line false x l h).1, (fB_line false x l h).2.1, by have := (fB_line false x l h).2.2; omega⟩) (fun x _ => ?_) (by rw [fB_len]; omega), rfl⟩
        have := refN_len (S := Sof (fortyB false)) (Sof_len fun x l h => (fB_line false x l h).2.2) 41 x
        omega
    obtain ⟨x, ⟨hc, fd, hfn⟩, hit⟩ := hsaid
    exact ExX.cons (ExX1.retS (xs := [(.d (dictD (tabD (fortyB (first / 9 % 2 == 1)))), .c)]) (x := x) (y := x) (fl := .c) (by walk_at "mKd") (by walk_at "mR") hsg hfn (EvA.cons (Ev.ofF (EvF.fn (xs := [(.d (.bool (first / 9 % 2 == 1)), .c)]) (by walk_at "mKd") (by walk_at "mR") (EvA.cons (Ev.ofF (by walk_at "m")) EvA.nil (by walk_at "mR")) hf (by omega))) EvA.nil (by walk_at "mR")) hc (by omega) (Ev.sub (Ev.ofF (EvF.listL (EvL.cons (Ev.ofF EvF.kS) (EvL.cons (Ev.ofF EvF.kS) EvL.nil (by walk_at "mR")) (by walk_at "mR")) (by rw [sizeLine_is]; simp))) (Ev.ofF (d := .int (first / 9 % 2)) (by walk_at "m")) (Sub.list (by omega) (by omega) hit) (by intro _ _; walk_at "mR")) (by walk_at "mR") (by show PyData.bool _ = _; simp))
  refine ExX.nil (show ExX _ _ _ _ _ _ _ from ?_)
  refine ExX.cons1 (Ex1.assignO (d := .list []) (EvF.listL EvL.nil (by decide)) rfl (by walk_at "mPut") (by walk_at "mLoc") (by walk_at "mR") (show ExX _ _ _ _ _ _ _ from ?_))
  refine ExX.cons1 (Ex1.forI (items := rangeD (1 + first / 9 % 6).toNat) (fl := .c) (by walk_at "mItr") (by simp) (by walk_at "mLoc")
    (fun i Γ => ∃ t1 t2, Γ = ([("_law_script", some (.d (.list (ns.map .int)), .b)), ("_law_first", some (.d (.int first), .c)), ("_law_names", some (.d (.list (PL (nmF ns i))), .o)), ("_law_k", t1), ("_law_name", t2), ("_law_table", none), ("_law_wants", none), ("_law_rows", none), ("_law_odds", none), ("_law_made", none), ("_law_due", none)] : Gm)) ⟨_, _, rfl⟩ (fun i d Γ hd hΓ => ?_) (fun Γ hΓ => ?_))
  · obtain ⟨t1, t2, rfl⟩ := hΓ
    obtain ⟨hi, rfl⟩ := rangeD_get hd
    refine ⟨.c, _, .inl rfl, by walk_at "mPut", ?_⟩
    have hs := nmF_succ ns i
    obtain ⟨n1, n2, n3⟩ := nmF_ok ns i
    have hgd : ns.getD (Int.toNat (1 + (i : Int))) 0 = ns.getD (1 + i) 0 := by rw [show Int.toNat (1 + (i : Int)) = 1 + i by omega]
    refine Ex.cons (Ex1.assign (d := .str (mkS (nameBy (ns.getD (Int.toNat (1 + (i : Int))) 0)))) (by walk_at "m") (by walk_at "mPut") (by walk_at "mLoc") (by walk_at "mR") (show Ex _ _ _ _ _ _ from ?_))
    rw [hgd]
    have hgx := nameBy_gd (ns.getD (1 + i) 0)
    generalize nameBy (ns.getD (1 + i) 0) = x at hs hgx ⊢
    generalize nmF ns i = acc at hs n1 n2 n3 ⊢
    refine Ex.cons (Ex1.ite (b := !((PL acc).any fun y => PyData.eqv y (.str (mkS x)))) (IsT.cmp (f₁ := .c) (f₂ := .o) (Ev.name (by walk_at "mMem")) (Ev.name (by walk_at "mMem")) (Cmp.ninData (canLay_PL fun y hy => (n2 y hy).asc) (strOk_asc hgx.asc) (by simp [PyData.depth])) (by walk_at "mR")) (fun h => ?_) (fun h => ?_))
    · rw [any_PL] at h
      have hx : x ∉ acc := by simpa using h
      have hadd : addN acc x = acc ++ [x] := if_neg hx
      refine Ex.cons (Ex1.append (d := .str (mkS x)) (by walk_at "mMem") (Ev.name (by walk_at "mMem")) (by walk_at "mPut") (by rw [sizeLine_is, List.length_map]; omega) (by walk_at "mR") (by walk_at "mR") (by walk_at "mR") (by walk_at "mR") (show Ex _ _ _ _ _ _ from ?_))
      refine Ex.nil (show Ex _ _ _ _ _ _ from Ex.nil ⟨some (.d (.int (i : Int)), .c), some (.d (.str (mkS x)), .c), ?_⟩)
      rw [hs, hadd, show PL (acc ++ [x]) = PL acc ++ [.str (mkS x)] from List.map_append ..]
    · rw [any_PL] at h
      have hx : x ∈ acc := by simpa using h
      have hadd : addN acc x = acc := if_pos hx
      refine Ex.nil (show Ex _ _ _ _ _ _ from Ex.nil ⟨some (.d (.int (i : Int)), .c), some (.d (.str (mkS x)), .c), ?_⟩)
      rw [hs, hadd]
  obtain ⟨t1, t2, rfl⟩ := hΓ
  rw [rangeD_length]
  refine (show ExX _ _ _ _ _ _ _ from ?_)
  refine ExX.freeze (x := "_law_names") (by walk_at "mMem") (by walk_at "mPut") ?_
  obtain ⟨hn, hg, hnl⟩ := nmF_ok ns (1 + first / 9 % 6).toNat
  have hne := nmF_ne ns (i := (1 + first / 9 % 6).toNat) (by omega)
  have hlen : (nmF ns (1 + first / 9 % 6).toNat).length ≤ 6 := by omega
  generalize nmF ns (1 + first / 9 % 6).toNat = names at hn hg hne hlen ⊢
  have Ln : (PL names).length = names.length := by simp
  refine ExX.cons1 (Ex1.assignO (d := dictD []) EvF.dict0 rfl (by walk_at "mPut") (by walk_at "mLoc") (by walk_at "mR") (show ExX _ _ _ _ _ _ _ from ?_))
  refine ExX.cons1 (Ex1.assignO (d := dictD []) EvF.dict0 rfl (by walk_at "mPut") (by walk_at "mLoc") (by walk_at "mR") (show ExX _ _ _ _ _ _ _ from ?_))
  refine ExX.cons1 (Ex1.assignO (d := dictD []) EvF.dict0 rfl (by walk_at "mPut") (by walk_at "mLoc") (by walk_at "mR") (show ExX _ _ _ _ _ _ _ from ?_))
  refine ExX.cons1 (Ex1.assignO (d := .list []) (EvF.listL EvL.nil (by decide)) rfl (by walk_at "mPut") (by walk_at "mLoc") (by walk_at "mR") (show ExX _ _ _ _ _ _ _ from ?_))
  refine ExX.cons1 (Ex1.forI (items := rangeD ((PL names).length : Int).toNat) (fl := .c) (by walk_at "mItr") (by simp) (by walk_at "mLoc")
    (fun i Γ => ∃ t1 t2 t3, Γ = ([("_law_script", some (.d (.list (ns.map .int)), .b)), ("_law_first", some (.d (.int first), .c)), ("_law_names", some (.d (.list (PL names)), .c)), ("_law_k", t1), ("_law_name", t2), ("_law_table", some (.d (dictD (tabD (tabN names (cN ns) i))), .o)), ("_law_wants", some (.d (dictD (wantsD (wantsN names (cN ns) i))), .o)), ("_law_rows", some (.d (dictD (rowsD (rowsN names (cN ns) i))), .o)), ("_law_odds", some (.d (.list (PL (oddsN (cN ns) i))), .o)), ("_law_made", t3), ("_law_due", none)] : Gm)) ⟨_, _, _, rfl⟩ (fun i d Γ hd hΓ => ?_) (fun Γ hΓ => ?_))
  · obtain ⟨t1, t2, t3, rfl⟩ := hΓ
    obtain ⟨hi, rfl⟩ := rangeD_get hd
    rw [Int.toNat_natCast, Ln] at hi
    refine ⟨.c, _, .inl rfl, by walk_at "mPut", ?_⟩
    have s1 := tabN_succ names (cN ns) i
    have s2' := rowsN_succ names (cN ns) i
    have s3' := wantsN_succ names (cN ns) i
    have s4' := oddsN_succ (cN ns) i
    have hnt := not_in_take hn hi
    have k1 : ((tabD (tabN names (cN ns) i)).map (·.1)) = names.take i := by rw [tabD_keys, tabN_keys (by omega)]
    have k2 : ((rowsD (rowsN names (cN ns) i)).map (·.1)) = names.take i := by rw [rowsD_keys, rowsN_keys (by omega)]
    have k3 : ((wantsD (wantsN names (cN ns) i)).map (·.1)) = names.take i := by rw [wantsD_keys, wantsN_keys (by omega)]
    have hnt' : (names.take i).Nodup := hn.sublist (List.take_sublist ..)
    have hit : (PL names)[Int.toNat (i : Int)]? = some (.str (mkS (names.getD i []))) := by rw [List.getElem?_map]; simp [List.getD, hi]
    have hpo := law_path_of_spec G (names := names) (c := cN ns i) hne hg (by omega)
    have hcell : ns.getD (Int.toNat (7 + (i : Int))) 0 = cN ns i := by unfold cN; rw [show Int.toNat (7 + (i : Int)) = 7 + i by omega]
    have lt1 : (tabD (tabN names (cN ns) i)).length = i := by unfold tabD tabN; simp
    have lt2 : (rowsD (rowsN names (cN ns) i)).length = i := by unfold rowsD rowsN; simp
    have lt3 : (wantsD (wantsN names (cN ns) i)).length = i := by unfold wantsD wantsN; simp
    have lt4 : (PL (oddsN (cN ns) i)).length = i := by unfold oddsN; simp
    have lall : (poAll names (cN ns i)).length ≤ 10 := by
      have h1 := rootW_one (poLine names (cN ns i))
      have h2 := flat_le (f := poSteps names (cN ns i)) (fun k => (po_len hne hg (cN ns i) k).2.1) (poN (cN ns i))
      have hN : poN (cN ns i) ≤ 5 := by unfold poN; omega
      unfold poAll poFlat; rw [List.length_append]; omega
    refine Ex.cons (Ex1.assign (d := .tuple [.str (mkS (poLine names (cN ns i))), .list ((poAll names (cN ns i)).map stD), .str (mkS (oddTo (cN ns i) (poN (cN ns i))))]) (EvF.fn (xs := [(.d (.int (cN ns i)), .c), (.d (.list (PL names)), .c)]) (by walk_at "mKd") (by walk_at "mR") (EvA.cons (Ev.ofF (by rw [← hcell]; walk_at "m")) (EvA.cons (Ev.name (by walk_at "mMem")) EvA.nil (by walk_at "mR")) (by walk_at "mR")) hpo (by omega)) (by walk_at "mPut") (by walk_at "mLoc") (by walk_at "mR") (show Ex _ _ _ _ _ _ from ?_))
    clear hpo hcell
    generalize names.getD i [] = x at s1 s2' s3' hnt hit
    generalize poLine names (cN ns i) = line at s1 ⊢
    generalize poAll names (cN ns i) = ss at s2' s3' lall ⊢
    generalize oddTo (cN ns i) (poN (cN ns i)) = od at s4' ⊢
    have m0 : [PyData.str (mkS line), .list (ss.map stD), .str (mkS od)][Int.toNat 0]? = some (.str (mkS line)) := rfl
    have m1 : [PyData.str (mkS line), .list (ss.map stD), .str (mkS od)][Int.toNat 1]? = some (.list (ss.map stD)) := rfl
    have m2 : [PyData.str (mkS line), .list (ss.map stD), .str (mkS od)][Int.toNat 2]? = some (.str (mkS od)) := rfl
    refine Ex.cons (Ex1.setNew (m := tabD (tabN names (cN ns) i)) (k := x) (d := .str (mkS line)) (fk := .c) (by walk_at "mMem") (Ev.sub (Ev.name (by walk_at "mMem")) (Ev.ofF EvF.kInt) (Sub.tuple (by omega) (by omega) m0) (by intro _ _; walk_at "mR")) (Ev.sub (Ev.name (by walk_at "mMem")) (Ev.name (by walk_at "mMem")) (Sub.list (by omega) (by omega) hit) (by intro _ _; walk_at "mR")) (by rw [k1]; exact hnt') (lookup_none (by rw [k1]; exact hnt)) (by rw [sizeLine_is, lt1]; omega) (by walk_at "mPut") (by walk_at "mR") (show Ex _ _ _ _ _ _ from ?_))
    refine Ex.cons (Ex1.setNew (m := rowsD (rowsN names (cN ns) i)) (k := x) (d := .list (ss.map stD)) (fk := .c) (by walk_at "mMem") (Ev.sub (Ev.name (by walk_at "mMem")) (Ev.ofF EvF.kInt) (Sub.tuple (by omega) (by omega) m1) (by intro _ _; walk_at "mR")) (Ev.sub (Ev.name (by walk_at "mMem")) (Ev.name (by walk_at "mMem")) (Sub.list (by omega) (by omega) hit) (by intro _ _; walk_at "mR")) (by rw [k2]; exact hnt') (lookup_none (by rw [k2]; exact hnt)) (by rw [sizeLine_is, lt2]; omega) (by walk_at "mPut") (by walk_at "mR") (show Ex _ _ _ _ _ _ from ?_))
    refine Ex.cons (Ex1.setNew (m := wantsD (wantsN names (cN ns) i)) (k := x) (d := .list (PL (shOf ss))) (fk := .c) (by walk_at "mMem") (Ev.ofF (EvF.cast (EvF.comp (Γv := []) (p := isK kSh) (f := sndD) (items := ss.map stD) (fl := .c) (Itr.list (Ev.sub (Ev.name (by walk_at "mMem")) (Ev.ofF EvF.kInt) (Sub.tuple (by omega) (by omega) m1) (by intro _ _; walk_at "mR")) (by intro _; walk_at "mR")) (okComp_ok he rfl rfl) (by intro q hq; cases hq) (okNames_ok rfl) (by rw [sizeLine_is, List.length_map]; omega) ?_ ?_) (congrArg PyData.list (sh_filter ss)))) (Ev.sub (Ev.name (by walk_at "mMem")) (Ev.name (by walk_at "mMem")) (Sub.list (by omega) (by omega) hit) (by intro _ _; walk_at "mR")) (by rw [k3]; exact hnt') (lookup_none (by rw [k3]; exact hnt)) (by rw [sizeLine_is, lt3]; omega) (by walk_at "mPut") (by walk_at "mR") (show Ex _ _ _ _ _ _ from ?_))
    · intro C cl d hd'
      obtain ⟨s, _, rfl⟩ := List.mem_map.mp hd'
      show IsT _ _ _ [("_law_step", some (.d (stD s), itemFl .c (stD s)))] _ _
      rw [show itemFl .c (stD s) = .c by unfold itemFl; split <;> rfl]
      exact kind_test G
    · intro C cl d hd' hk'
      obtain ⟨s, _, rfl⟩ := List.mem_map.mp hd'
      show EvF _ _ _ [("_law_step", some (.d (stD s), itemFl .c (stD s)))] _ _
      rw [show itemFl .c (stD s) = .c by unfold itemFl; split <;> rfl]
      cases s with
      | root => exact absurd hk' (by decide +kernel)
      | up => exact absurd hk' (by decide +kernel)
      | nm y => rw [isK_nm] at hk'; cases hk'
      | sh y => exact Ev.still (Ev.sub (Ev.name List.mem_cons_self) (Ev.ofF EvF.kInt) (Sub.tuple (d := .str (mkS y)) (by omega) (by omega) rfl) (fun _ _ => rfl)) rfl
    refine Ex.cons (Ex1.append (d := .str (mkS od)) (by walk_at "mMem") (Ev.sub (Ev.name (by walk_at "mMem")) (Ev.ofF EvF.kInt) (Sub.tuple (by omega) (by omega) m2) (by intro _ _; walk_at "mR")) (by walk_at "mPut") (by rw [sizeLine_is, lt4]; omega) (by walk_at "mR") (by walk_at "mR") (by walk_at "mR") (by walk_at "mR") (show Ex _ _ _ _ _ _ from ?_))
    exact Ex.nil ⟨_, _, _, by rw [s1, s2', s3', s4']⟩
  obtain ⟨t1, t2, t3, rfl⟩ := hΓ
  rw [rangeD_length, Int.toNat_natCast, Ln]
  refine (show ExX _ _ _ _ _ _ _ from ?_)
  refine ExX.freeze (x := "_law_table") (by walk_at "mMem") (by walk_at "mPut") ?_
  refine ExX.freeze (x := "_law_wants") (by walk_at "mMem") (by walk_at "mPut") ?_
  refine ExX.freeze (x := "_law_rows") (by walk_at "mMem") (by walk_at "mPut") ?_
  refine ExX.freeze (x := "_law_odds") (by walk_at "mMem") (by walk_at "mPut") ?_
  refine ExX.cons1 (Ex1.assign (d := .str (mkS tM)) (by rw [← stM]; walk_at "m") (by walk_at "mPut") (by walk_at "mLoc") (by walk_at "mR") (show ExX _ _ _ _ _ _ _ from ?_))
  have hlenT : (tabN names (cN ns) names.length).length = names.length := by unfold tabN; simp
  have hlenO : (oddsN (cN ns) names.length).length = names.length := by unfold oddsN; simp
  have hwk : (wantsN names (cN ns) names.length).map (·.1) = names := by rw [wantsN_keys (Nat.le_refl _), List.take_length]
  have hwl : (wantsN names (cN ns) names.length).length = names.length := by unfold wantsN; simp
  have hbad := fun k (hk : k = CB ∨ k = CN ∨ k = CR) (hB : Bad (tabN names (cN ns) names.length) k) => said_bad G hB hk (out_len hne hg hn) (by omega)
  have hoasc : ∀ y ∈ oddsN (cN ns) names.length, Asc y := fun y hy => by
    obtain ⟨k, _, rfl⟩ := List.mem_map.mp hy
    exact odd_asc _ _
  have hmem : ∀ t, t ∈ oddsN (cN ns) names.length ↔ ∃ k, k < names.length ∧ oddTo (cN ns k) (poN (cN ns k)) = t := fun t => by
    unfold oddsN
    rw [List.mem_map]
    exact ⟨fun ⟨k, hk, e⟩ => ⟨k, List.mem_range.mp hk, e⟩, fun ⟨k, hk, e⟩ => ⟨k, List.mem_range.mpr hk, e⟩⟩
  have hin : ∀ (t : List Nat), Asc t → ∀ {Γ : Gm}, (("_law_odds" : Str), (some (Vl.d (.list (PL (oddsN (cN ns) names.length))), Fl.c) : Slot)) ∈ Γ → ∀ {e : PySem.Expr} {p₁ p₂ : Pos}, EvF T 6 env Γ e (.str (mkS t)) → IsT T 6 env Γ (.Compare e [.In] [.Name "_law_odds" p₁] p₂) (decide (t ∈ oddsN (cN ns) names.length)) := fun t hta {Γ} hmΓ {e p₁ p₂} hev => by
    rw [← any_PL]
    exact IsT.cmp (f₁ := .c) (f₂ := .c) (v₁ := .d (.str (mkS t))) (v₂ := .d (.list (PL (oddsN (cN ns) names.length)))) (Ev.ofF hev) (Ev.name hmΓ) (Cmp.inData (canLay_PL hoasc) (strOk_asc hta) (by simp [PyData.depth])) (by walk_at "mR")
  have hascE : Asc tE := fun x hx => by simp [tE] at hx; omega
  have hascS : Asc tS := fun x hx => by simp [tS] at hx; omega
  refine ExX.cons1 (Ex1.mono (Q := fun f Γ => f = .next ∧ ∃ D : List Nat, ((CallsS T 6 194 [.d (dictD (tabD (tabN names (cN ns) names.length)))] (mkS D) ∧ ∃ fd, FnAt T 194 fd) ∧ (D ≠ tM ∨ (D = tM ∧ Fun T 6 "_law_stand" [.d (dictD (tabD (tabN names (cN ns) names.length))), .d (dictD (rowsD (rowsN names (cN ns) names.length)))] (.bool true)))) ∧ Γ = ([("_law_script", some (.d (.list (ns.map .int)), .b)), ("_law_first", some (.d (.int first), .c)), ("_law_names", some (.d (.list (PL names)), .c)), ("_law_k", t1), ("_law_name", t2), ("_law_table", some (.d (dictD (tabD (tabN names (cN ns) names.length))), .c)), ("_law_wants", some (.d (dictD (wantsD (wantsN names (cN ns) names.length))), .c)), ("_law_rows", some (.d (dictD (rowsD (rowsN names (cN ns) names.length))), .c)), ("_law_odds", some (.d (.list (PL (oddsN (cN ns) names.length))), .c)), ("_law_made", t3), ("_law_due", some (.d (.str (mkS D)), .c))] : Gm)) (Ex1.ite (b := decide (tE ∈ oddsN (cN ns) names.length)) (hin tE hascE (by walk_at "mMem") (by rw [← stE]; walk_at "m")) (fun h1 => ?_) (fun h1 => ?_)) ?_)
  · have hE := (hmem tE).mp (of_decide_eq_true h1)
    refine Ex.cons (Ex1.assign (d := .str (mkS (tDue CB))) (by rw [tdue_b]; walk_at "m") (by walk_at "mPut") (by walk_at "mLoc") (by walk_at "mR") (show Ex _ _ _ _ _ _ from ?_))
    exact Ex.nil ⟨rfl, _, ⟨hbad CB (.inl rfl) (out_esc hne hg hn hE), .inl (by decide +kernel)⟩, rfl⟩
  · have hE : ∀ k, k < names.length → oddTo (cN ns k) (poN (cN ns k)) ≠ tE := fun k hk q => of_decide_eq_false h1 ((hmem tE).mpr ⟨k, hk, q⟩)
    refine Ex.cons (Ex1.ite (b := decide (tS ∈ oddsN (cN ns) names.length)) (hin tS hascS (by walk_at "mMem") (by rw [← stS]; walk_at "m")) (fun h2 => ?_) (fun h2 => ?_))
    · have hS := (hmem tS).mp (of_decide_eq_true h2)
      refine Ex.cons (Ex1.assign (d := .str (mkS (tDue CN))) (by rw [tdue_n]; walk_at "m") (by walk_at "mPut") (by walk_at "mLoc") (by walk_at "mR") (show Ex _ _ _ _ _ _ from ?_))
      exact Ex.nil (show Ex _ _ _ _ _ _ from Ex.nil ⟨rfl, _, ⟨hbad CN (.inr (.inl rfl)) (out_sh hne hg hn hE hS), .inl (by decide +kernel)⟩, rfl⟩)
    · have hM : ∀ k, k < names.length → oddTo (cN ns k) (poN (cN ns k)) = tM := fun k hk => by
        rcases odd_cases (cN ns k) (poN (cN ns k)) with ⟨q, _⟩ | ⟨q, _⟩ | ⟨q, _⟩
        · exact absurd q (hE k hk)
        · exact absurd ((hmem tS).mpr ⟨k, hk, q⟩) (of_decide_eq_false h2)
        · exact q
      have hrg := law_rings_spec G (wm := wantsN names (cN ns) names.length) (by rw [hwk]; exact hn) (by omega) (fun p hp => by
        obtain ⟨k, _, rfl⟩ := List.mem_map.mp hp
        have l1 := shOf_len (poAll names (cN ns k))
        have r1 := rootW_one (poLine names (cN ns k))
        have r2 := flat_le (f := poSteps names (cN ns k)) (fun j => (po_len hne hg (cN ns k) j).2.1) (poN (cN ns k))
        have hN : poN (cN ns k) ≤ 5 := by unfold poN; omega
        have l2 : (poAll names (cN ns k)).length ≤ 10 := by unfold poAll poFlat; rw [List.length_append]; omega
        show (shOf (poAll names (cN ns k))).length ≤ 100
        omega) (by rw [hwk]; exact out_W hne hg hn)
      rw [hwk, hwl] at hrg
      refine Ex.cons (Ex1.ite (b := names.any fun x => decide (x ∈ reachF (Wf (wantsN names (cN ns) names.length)) names.length x)) (IsT.bool (Ev.ofF (EvF.fn (xs := [(.d (dictD (wantsD (wantsN names (cN ns) names.length))), .c)]) (by walk_at "mKd") (by walk_at "mR") (EvA.cons (Ev.name (by walk_at "mMem")) EvA.nil (by walk_at "mR")) hrg (by omega))) (by intro _; walk_at "mR")) (fun h3 => ?_) (fun h3 => ?_))
      · have hr : ∃ x ∈ names, x ∈ reachF (Wf (wantsN names (cN ns) names.length)) names.length x := by
          obtain ⟨x, hx, q⟩ := List.any_eq_true.mp h3
          exact ⟨x, hx, of_decide_eq_true q⟩
        refine Ex.cons (Ex1.assign (d := .str (mkS (tDue CR))) (by rw [tdue_r]; walk_at "m") (by walk_at "mPut") (by walk_at "mLoc") (by walk_at "mR") (show Ex _ _ _ _ _ _ from ?_))
        exact Ex.nil (show Ex _ _ _ _ _ _ from Ex.nil (show Ex _ _ _ _ _ _ from Ex.nil ⟨rfl, _, ⟨hbad CR (.inr (.inr rfl)) (out_ring hne hg hn hM hr), .inl (by decide +kernel)⟩, rfl⟩))
      · have hr : ∀ x ∈ names, x ∉ reachF (Wf (wantsN names (cN ns) names.length)) names.length x := fun x hx q => by
          have : (names.any fun x => decide (x ∈ reachF (Wf (wantsN names (cN ns) names.length)) names.length x)) = true := List.any_eq_true.mpr ⟨x, hx, decide_eq_true q⟩
          rw [this] at h3; cases h3
        obtain ⟨ref, rk, A, q1, q2, q3⟩ := out_made hne hg hn (by omega) hM hr
        have hst := law_stand_spec G A q3 q1 q2 (by omega)
        rw [out_steps hne hg hn hM] at hst
        have hso := said_ok G A (fun x l h => ⟨(q3 x l h).1, (q3 x l h).2.1, by have := (q3 x l h).2.2; omega⟩) q1 (by omega)
        rw [show tMade = tM from stM] at hso
        exact Ex.nil (show Ex _ _ _ _ _ _ from Ex.nil (show Ex _ _ _ _ _ _ from Ex.nil ⟨rfl, _, ⟨hso, .inr ⟨rfl, hst⟩⟩, rfl⟩))
  rintro f Γ ⟨rfl, D, ⟨⟨hc, fd, hfn⟩, hD⟩, rfl⟩
  refine (show ExX _ _ _ _ _ _ _ from ?_)
  refine ExX.cons (ExX1.iteS (xs := [(.d (dictD (tabD (tabN names (cN ns) names.length))), .c)]) (x := D) (y := D) (fl := .c) (by walk_at "mKd") (by walk_at "mR") hsg hfn (EvA.cons (Ev.name (by walk_at "mMem")) EvA.nil (by walk_at "mR")) hc (by omega) (Ev.name (by walk_at "mMem")) (by walk_at "mR") rfl (ExX.nil (show ExX _ _ _ _ _ _ _ from ?_)))
  refine ExX.cons1 (Ex1.ret (d := .bool true) ?_ rfl)
  rcases hD with hD | ⟨rfl, hst⟩
  · exact EvF.cast (EvF.or (p := true) (q := true) (EvF.cast (d := .bool (!decide (D = (Str.ofString "made").cps.toList))) (by walk_at "m") (by rw [stM]; simp [hD])) (fun h => nomatch h)) rfl
  · refine EvF.cast (EvF.or (p := false) (q := true) (EvF.cast (d := .bool (!decide (tM = (Str.ofString "made").cps.toList))) (by walk_at "m") (by rw [stM]; simp)) (fun _ => EvF.bo1 (EvF.fn (xs := [(.d (dictD (tabD (tabN names (cN ns) names.length))), .c), (.d (dictD (rowsD (rowsN names (cN ns) names.length))), .c)]) (by walk_at "mKd") (by walk_at "mR") (EvA.cons (Ev.name (by walk_at "mMem")) (EvA.cons (Ev.name (by walk_at "mMem")) EvA.nil (by walk_at "mR")) (by walk_at "mR")) hst (by omega)))) rfl
end
set_option tactic.hygienic true in
theorem final_of (LS : ∀ (T : St) (ns : List Int), GdK T (hd.heap_1 T.w.params) → ns.length ≤ 63 → FunT T 7 "law" [.d (.list (ns.map .int))] (.bool true)) : PySem.Challenge.rw_uf060013_06.Holds := hd (by
  k_fill
  intro w s₀ s₁ mg mb G Y fa o pm cd doc dV kV ho hd hcd hD hmg hg args vals as hpre hlay hrd hwl hlo
  have KX := kIn_of Y
  refine Ground.open G ?_
  intro T B D TE TW
  wrow_args hpre hlay hrd hwl hlo
  x_fa T KX hmg
  clear hD hcd hd ho
  rename_i ns hs hlay hL2 hr hl2 as1 as2 a vs as3 hlist hall hwell hreads hints hraw hcond htrue
  have hmg' : mg "law" = some (.ref _) := hmg
  clear hmg
  have GG : GdK ⟨PySem.Challenge.rw_uf060013_06.row.prog, w, mg, mb, hd.heap_1 w.params, s₁.heap.objs.size⟩ (hd.heap_1 w.params) := ⟨rfl, fun x r e => by
    cases r with
    | none => exact mg_none_of (mg := mg) KX T.g e
    | some v => exact mg_of (mg := mg) KX T.g e, fun x hn => T.builtins x hn, ⟨_, _, T.free⟩⟩
  obtain ⟨a', fd, e1, e2, e3⟩ := LS ⟨PySem.Challenge.rw_uf060013_06.row.prog, w, mg, mb, hd.heap_1 w.params, s₁.heap.objs.size⟩ ns GG (by omega)
  have ea : mg "law" = some (.ref a') := e1
  rw [hmg'] at ea
  injection ea with ea
  injection ea with ea
  subst ea
  have hdok : Dok w s₁.heap as1 := by
    intro b hb
    cases hreads with
    | list ho hc hdat hrest =>
      have hnil : ∀ (vs : List Value) (xs : List Int) (bs : List Addr), ReadsAll s₁.heap vs (xs.map PyData.int) bs → bs = [] := by
        intro vs xs
        induction xs generalizing vs with
        | nil => intro bs h; cases h; rfl
        | cons x xs ih => intro bs h; cases h with | cons h1 h2 => cases h1; exact ih _ _ h2
      have := hnil _ _ _ hrest
      subst this
      rcases List.mem_cons.mp hb with rfl | hb
      · exact ⟨_, ho, fun es n q => by rw [hdat] at q; cases q⟩
      · cases hb
  refine e3.run ⟨rfl, by decide, by decide⟩ rfl (Nat.le_refl _) ⟨T.g, T.b, T.nolimit, fun b o e => KX b o e, fun b o e => Heap.lt_size (KX b o e)⟩ (.cons ⟨as1, hreads, fun _ _ => trivial, hdok⟩ .nil) (fun val s' k r => ?_)
  obtain rfl : val = .bool true := Rep.bool_inv r.rep
  obtain ⟨h', tk, rfl, hk⟩ := k
  refine GoodW.toG ⟨.inl ⟨_, .bool true, [], rfl, fun _ => rfl, .bool true, ?_, fun _ => ⟨.nil, fun _ h => nomatch h⟩⟩, fun b o e => ?_, rfl, hg⟩
  · refine postW_of (X := true) ?_ ?_ rfl
    · show WShape.has [] (.bool true) .bool = true
      first | rfl | simp [WShape.has]
    · show (WTm.eq .res (.lit (.bool true))).value [] _ = some (.bool true)
      simp [WTm.value, PySem.W.same]
  obtain ⟨sl, e1, e2⟩ := hk b o e
  have := e2 (.inr (.inl (Heap.lt_size e)))
  subst this
  exact e1)
end Mine

theorem PySem.Challenge.cw_uf060013_06_holds : PySem.Challenge.rw_uf060013_06.Holds :=
  Mine.final_of fun _ _ G h => Mine.law_spec G h
